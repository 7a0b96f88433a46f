/- What functions of the program compute, one by one (3). -/
import Derived.Test.YtlgbkpaihjnjpaaGreatCtbb
set_option linter.unusedVariables false
set_option linter.unusedSimpArgs false
set_option linter.unusedSectionVars false
set_option linter.constructorNameAsVariable false
set_option linter.defProp false
namespace Go.Proofs.YtlgbkpaihjnjpaaGreat.ctr
open Go.Vm Go.RowKit Go.Ranges
theorem RdE.f1 {s:St} {v:AV} {l:List R} (h:RdE s v 2 encR l) {i:Nat} {a b:Int} (hx:l[i]?=some (a,b)):ob (s.heap.get (sblk v)) (rd1C (soff v+i*2+1))=some (num b):=by
 obtain ⟨c,k,q1,q2⟩:=rd_sub (s:=s) (b:=sblk v) (o:=soff v+i*2) (n:=2) (h.at hx)
 obtain ⟨q3,q4⟩:=sub_some q2
 rw[q1]
 show nth c (soff v+i*2+1)=_
 rw[nth_eq]
 have:((c.drop (soff v+i*2)).take 2)[1]?=some (num b):=by rw[←q4]; rfl
 rw[List.getElem?_take,if_pos (by omega),List.getElem?_drop] at this
 simpa using this
structure OB where
 b:List Int
 buffer:Int
 acked:Int
 closed:Bool
def IsO (s:St) (p:Nat) (o:OB) (fp:List Nat):Prop:=∃ v fv,s.heap.get p=some (.cells [v,num o.buffer,num o.acked,.bool o.closed] .own)∧OwE s v 1 encB o.b fv∧p∉fv∧fp=p::fv∧p<s.next
theorem IsO.fr {s s':St} {p:Nat} {o:OB} {fp fp':List Nat} (hF:IsO s p o fp) (hf:Fr s s' fp') (hd:∀ b∈fp,b∉fp'):IsO s' p o fp:=by
 obtain ⟨v,fv,h1,h2,h3,rfl,h5⟩:=hF
 exact ⟨v,fv,(hf.2 p h5 (hd p (by simp))).trans h1,h2.fr hf fun b hb=>hd b (by simp[hb]),h3,rfl,Nat.lt_of_lt_of_le h5 hf.1⟩
theorem IsO.lt {s:St} {p:Nat} {o:OB} {fp:List Nat} (hF:IsO s p o fp):Lt s fp:=by
 obtain ⟨v,fv,h1,h2,h3,rfl,h5⟩:=hF
 intro b hb
 rcases List.mem_cons.1 hb with rfl | hb
 ·exact h5
 ·exact h2.lt b hb
def OB.places (o:OB):Int:=(o.b.length:Int)+(if o.closed then 1 else 0)
def OB.open_ (o:OB) (limit:Int):Int:=if (o.b.length:Int)≤limit then o.places else max 0 limit
def OB.room (o:OB) (n:Int):Int:=if o.closed then 0 else max 0 (min (min n (o.buffer-((o.b.length:Int)-o.acked))) (4096-(o.b.length:Int)))
def OB.write (o:OB) (l:List Int):OB:={ o with b:=o.b++l.take (o.room l.length).toNat }
def OB.ackOk (o:OB) (n:Int):Bool:=decide (0≤n)&&decide (n≤o.places)
def OB.ack (o:OB) (n:Int):OB:=if o.ackOk n then { o with acked:=max o.acked n } else o
def pieceM (len:Int) (closed:Bool) (from_ to chunk:Int):Int:=if closed∧from_=len then min to (from_+1) else if closed∧min to (from_+chunk)=len∧min to (from_+chunk)<to then min to (from_+chunk)+1 else min to (from_+chunk)
section
variable {bd : Bd} {h : VF} {fu : Nat}
theorem o_new (n:Nat) (s:St) (k:Int):OutOk (callF bd (tab h).get fu (n+1) 24 [num k] s) (fun x s'=>∃ p,Is x (.ptr p 0)∧s.next≤p∧Fr s s' []∧IsO s' p ⟨[],min (max k 1) 400,0,false⟩ [p]):=by
 refine call_code (t24 h) rfl ?_
 simp (disch:=omega) only [vm0,vm1,vm2,vm3,vm4,vm5,vm6,vm7,vmF,vmT,evo,wr,wrC,frame,Nat.reduceAdd,Nat.reduceMul,Nat.reduceSub,beq_self_eq_true,List.cons_append,List.nil_append,beq_dec,vmI,vc24]
 exact ⟨s.next,rfl,Nat.le_refl _,.new,.nils,[],get_new_eq rfl,.nil encB_w (by omega),by simp,rfl,by rw[next_new]; omega⟩
theorem o_closed (n:Nat) (s:St) (p:Nat) (o:OB) (fp:List Nat) (hF:IsO s p o fp):OutOk (callF bd (tab h).get fu (n+1) 62 [.ptr p 0] s) (fun x s'=>Is x (.bool o.closed)∧Is s' s):=by
 refine call_code (t62 h) rfl ?_
 obtain ⟨v,fv,h1,h2,h3,rfl,h5⟩:=hF
 simp (disch:=omega) only [vm0,vm1,vm2,vm3,vm4,vm5,vm6,vm7,vmF,vmT,evo,wr,wrC,frame,Nat.reduceAdd,Nat.reduceMul,Nat.reduceSub,beq_self_eq_true,List.cons_append,List.nil_append,beq_dec,vmI,vc62,h1]
 exact ⟨rfl,rfl⟩
theorem o_len (n:Nat) (s:St) (p:Nat) (o:OB) (fp:List Nat) (hF:IsO s p o fp):OutOk (callF bd (tab h).get fu (n+1) 60 [.ptr p 0] s) (fun x s'=>Is x (num (o.b.length:Int))∧Is s' s):=by
 refine call_code (t60 h) rfl ?_
 obtain ⟨v,fv,h1,h2,h3,rfl,h5⟩:=hF
 simp (disch:=omega) only [vm0,vm1,vm2,vm3,vm4,vm5,vm6,vm7,vmF,vmT,evo,wr,wrC,frame,Nat.reduceAdd,Nat.reduceMul,Nat.reduceSub,beq_self_eq_true,List.cons_append,List.nil_append,beq_dec,vmI,vc60,h1,h2.rd.lenV]
 exact ⟨rfl,rfl⟩
theorem o_acked (n:Nat) (s:St) (p:Nat) (o:OB) (fp:List Nat) (hF:IsO s p o fp):OutOk (callF bd (tab h).get fu (n+1) 63 [.ptr p 0] s) (fun x s'=>Is x (num o.acked)∧Is s' s):=by
 refine call_code (t63 h) rfl ?_
 obtain ⟨v,fv,h1,h2,h3,rfl,h5⟩:=hF
 simp (disch:=omega) only [vm0,vm1,vm2,vm3,vm4,vm5,vm6,vm7,vmF,vmT,evo,wr,wrC,frame,Nat.reduceAdd,Nat.reduceMul,Nat.reduceSub,beq_self_eq_true,List.cons_append,List.nil_append,beq_dec,vmI,vc63,h1]
 exact ⟨rfl,rfl⟩
theorem o_places (n:Nat) (s:St) (p:Nat) (o:OB) (fp:List Nat) (hF:IsO s p o fp) (hl:o.b.length<1000000):OutOk (callF bd (tab h).get fu (n+1) 89 [.ptr p 0] s) (fun x s'=>Is x (num o.places)∧Is s' s):=by
 refine call_code (t89 h) rfl ?_
 obtain ⟨v,fv,h1,h2,h3,rfl,h5⟩:=hF
 cases hc:o.closed
 ·simp (disch:=omega) only [vm0,vm1,vm2,vm3,vm4,vm5,vm6,vm7,vmF,vmT,evo,wr,wrC,frame,Nat.reduceAdd,Nat.reduceMul,Nat.reduceSub,beq_self_eq_true,List.cons_append,List.nil_append,beq_dec,vmI,vc89,h1,hc,h2.rd.lenV]
  exact ⟨by show num _=num _; simp[OB.places,hc],rfl⟩
 ·simp (disch:=omega) only [vm0,vm1,vm2,vm3,vm4,vm5,vm6,vm7,vmF,vmT,evo,wr,wrC,frame,Nat.reduceAdd,Nat.reduceMul,Nat.reduceSub,beq_self_eq_true,List.cons_append,List.nil_append,beq_dec,vmI,vc89,h1,hc,h2.rd.lenV]
  exact ⟨by show num _=num _; simp[OB.places,hc],rfl⟩
theorem o_open (n:Nat) (s:St) (p:Nat) (o:OB) (fp:List Nat) (limit:Int) (hF:IsO s p o fp) (hl:o.b.length<1000000):OutOk (callF bd (tab h).get fu (n+2) 123 [.ptr p 0,num limit] s) (fun x s'=>Is x (num (o.open_ limit))∧Is s' s):=by
 refine call_code (t123 h) rfl ?_
 have hF0:=hF
 obtain ⟨v,fv,h1,h2,h3,rfl,h5⟩:=hF
 by_cases hc:(o.b.length:Int)≤limit
 ·simp (disch:=omega) only [vm0,vm1,vm2,vm3,vm4,vm5,vm6,vm7,vmF,vmT,evo,wr,wrC,frame,Nat.reduceAdd,Nat.reduceMul,Nat.reduceSub,beq_self_eq_true,List.cons_append,List.nil_append,beq_dec,vmI,vc123,h1,h2.rd.lenV]
  refine call_ok rfl rfl (o_places n s p o _ hF0 hl) ?_
  rintro x s ⟨rfl,rfl⟩
  simp (disch:=omega) only [vm0,vm1,vm2,vm3,vm4,vm5,vm6,vm7,vmF,vmT,evo,wr,wrC,frame,Nat.reduceAdd,Nat.reduceMul,Nat.reduceSub,beq_self_eq_true,List.cons_append,List.nil_append,beq_dec,vmI]
  exact ⟨by show num _=num _; rw[OB.open_,if_pos hc],rfl⟩
 ·simp (disch:=omega) only [vm0,vm1,vm2,vm3,vm4,vm5,vm6,vm7,vmF,vmT,evo,wr,wrC,frame,Nat.reduceAdd,Nat.reduceMul,Nat.reduceSub,beq_self_eq_true,List.cons_append,List.nil_append,beq_dec,vmI,vc123,h1,h2.rd.lenV]
  exact ⟨by show num _=num _; rw[OB.open_,if_neg hc],rfl⟩
theorem o_close (n:Nat) (s:St) (p:Nat) (o:OB) (fp:List Nat) (hF:IsO s p o fp):OutOk (callF bd (tab h).get fu (n+1) 53 [.ptr p 0] s) (fun x s'=>Is x (.bool (!o.closed))∧IsO s' p { o with closed:=true } fp∧Fr s s' fp∧Is s'.next s.next):=by
 refine call_code (t53 h) rfl ?_
 obtain ⟨v,fv,h1,h2,h3,rfl,h5⟩:=hF
 simp (disch:=omega) only [vm0,vm1,vm2,vm3,vm4,vm5,vm6,vm7,vmF,vmT,evo,wr,wrC,frame,Nat.reduceAdd,Nat.reduceMul,Nat.reduceSub,beq_self_eq_true,List.cons_append,List.nil_append,beq_dec,vmI,vc53,h1]
 exact ⟨rfl,⟨v,fv,get_put_eq rfl,h2.fr (fp':=[p]) (.put (.inl (by simp))) (by rintro b hb hm; simp at hm; subst hm; exact h3 hb),h3,rfl,by rw[next_put]; exact h5⟩,.put (.inl (by simp)),rfl⟩
theorem o_ack (n:Nat) (s:St) (p:Nat) (o:OB) (fp:List Nat) (k:Int) (hF:IsO s p o fp) (hl:o.b.length<1000000):OutOk (callF bd (tab h).get fu (n+2) 52 [.ptr p 0,num k] s) (fun x s'=>Is x (.bool (o.ackOk k))∧IsO s' p (o.ack k) fp∧Fr s s' fp∧Is s'.next s.next):=by
 refine call_code (t52 h) rfl ?_
 have hF0:=hF
 obtain ⟨v,fv,h1,h2,h3,rfl,h5⟩:=hF
 by_cases hk:k<0
 ·have hn:o.ackOk k=false:=by simp[OB.ackOk]; omega
  simp (disch:=omega) only [vm0,vm1,vm2,vm3,vm4,vm5,vm6,vm7,vmF,vmT,evo,wr,wrC,frame,Nat.reduceAdd,Nat.reduceMul,Nat.reduceSub,beq_self_eq_true,List.cons_append,List.nil_append,beq_dec,vmI,vc52]
  exact ⟨by rw[hn]; rfl,by rw[OB.ack,hn]; exact hF0,.refl,rfl⟩
 ·simp (disch:=omega) only [vm0,vm1,vm2,vm3,vm4,vm5,vm6,vm7,vmF,vmT,evo,wr,wrC,frame,Nat.reduceAdd,Nat.reduceMul,Nat.reduceSub,beq_self_eq_true,List.cons_append,List.nil_append,beq_dec,vmI,vc52]
  refine call_ok rfl rfl (o_places n s p o _ hF0 hl) ?_
  rintro x s ⟨rfl,rfl⟩
  by_cases hp:o.places<k
  ·have hn:o.ackOk k=false:=by simp[OB.ackOk]; omega
   simp (disch:=omega) only [vm0,vm1,vm2,vm3,vm4,vm5,vm6,vm7,vmF,vmT,evo,wr,wrC,frame,Nat.reduceAdd,Nat.reduceMul,Nat.reduceSub,beq_self_eq_true,List.cons_append,List.nil_append,beq_dec,vmI]
   exact ⟨by rw[hn]; rfl,by rw[OB.ack,hn]; exact hF0,.refl,rfl⟩
  ·have hn:o.ackOk k=true:=by simp[OB.ackOk]; omega
   simp (disch:=omega) only [vm0,vm1,vm2,vm3,vm4,vm5,vm6,vm7,vmF,vmT,evo,wr,wrC,frame,Nat.reduceAdd,Nat.reduceMul,Nat.reduceSub,beq_self_eq_true,List.cons_append,List.nil_append,beq_dec,vmI,h1]
   exact ⟨by rw[hn]; rfl,by rw[OB.ack,hn]; exact ⟨v,fv,get_put_eq rfl,h2.fr (fp':=[p]) (.put (.inl (by simp))) (by rintro b hb hm; simp at hm; subst hm; exact h3 hb),h3,rfl,by rw[next_put]; exact h5⟩,.put (.inl (by simp)),rfl⟩
theorem o_piece (n:Nat) (s:St) (p:Nat) (o:OB) (fp:List Nat) (from_ to chunk:Int) (hF:IsO s p o fp) (hl:o.b.length<1000000) (hf:-1000000000≤from_∧from_≤10000000000000) (ht:-1000000000≤to∧to≤10000000000000) (hc:-1000000000≤chunk∧chunk≤1000000000) :
  OutOk (callF bd (tab h).get fu (n+2) 122 [.ptr p 0,num from_,num to,num chunk] s) (fun x s'=>Is x (num (pieceM o.b.length o.closed from_ to chunk))∧Is s' s):=by
 refine call_code (t122 h) rfl ?_
 obtain ⟨m,hm⟩ : ∃ m,min to (from_+chunk)=m:=⟨_,rfl⟩
 cases hcl:o.closed
 ·simp (disch:=omega) only [vm0,vm1,vm2,vm3,vm4,vm5,vm6,vm7,vmF,vmT,evo,wr,wrC,frame,Nat.reduceAdd,Nat.reduceMul,Nat.reduceSub,beq_self_eq_true,List.cons_append,List.nil_append,beq_dec,vmI,vc122,hm]
  refine call_ok rfl rfl (o_closed n s p o fp hF) ?_
  rintro x s ⟨rfl,rfl⟩
  simp (disch:=omega) only [vm0,vm1,vm2,vm3,vm4,vm5,vm6,vm7,vmF,vmT,evo,wr,wrC,frame,Nat.reduceAdd,Nat.reduceMul,Nat.reduceSub,beq_self_eq_true,List.cons_append,List.nil_append,beq_dec,vmI,hcl]
  refine call_ok rfl rfl (o_closed n s p o fp hF) ?_
  rintro x s ⟨rfl,rfl⟩
  simp (disch:=omega) only [vm0,vm1,vm2,vm3,vm4,vm5,vm6,vm7,vmF,vmT,evo,wr,wrC,frame,Nat.reduceAdd,Nat.reduceMul,Nat.reduceSub,beq_self_eq_true,List.cons_append,List.nil_append,beq_dec,vmI,hcl]
  exact ⟨by show num _=num _; simp[pieceM,hm],rfl⟩
 ·by_cases h1:m=(o.b.length:Int)
  ·by_cases h2:m<to
   ·simp (disch:=omega) only [vm0,vm1,vm2,vm3,vm4,vm5,vm6,vm7,vmF,vmT,evo,wr,wrC,frame,Nat.reduceAdd,Nat.reduceMul,Nat.reduceSub,beq_self_eq_true,List.cons_append,List.nil_append,beq_dec,vmI,vc122,hm]
    refine call_ok rfl rfl (o_closed n s p o fp hF) ?_
    rintro x s ⟨rfl,rfl⟩
    simp (disch:=omega) only [vm0,vm1,vm2,vm3,vm4,vm5,vm6,vm7,vmF,vmT,evo,wr,wrC,frame,Nat.reduceAdd,Nat.reduceMul,Nat.reduceSub,beq_self_eq_true,List.cons_append,List.nil_append,beq_dec,vmI,hcl]
    refine call_ok rfl rfl (o_len n s p o fp hF) ?_
    rintro x s ⟨rfl,rfl⟩
    simp (disch:=omega) only [vm0,vm1,vm2,vm3,vm4,vm5,vm6,vm7,vmF,vmT,evo,wr,wrC,frame,Nat.reduceAdd,Nat.reduceMul,Nat.reduceSub,beq_self_eq_true,List.cons_append,List.nil_append,beq_dec,vmI]
    refine call_ok rfl rfl (o_closed n s p o fp hF) ?_
    rintro x s ⟨rfl,rfl⟩
    simp (disch:=omega) only [vm0,vm1,vm2,vm3,vm4,vm5,vm6,vm7,vmF,vmT,evo,wr,wrC,frame,Nat.reduceAdd,Nat.reduceMul,Nat.reduceSub,beq_self_eq_true,List.cons_append,List.nil_append,beq_dec,vmI,hcl]
    refine call_ok rfl rfl (o_len n s p o fp hF) ?_
    rintro x s ⟨rfl,rfl⟩
    by_cases h3:from_=(o.b.length:Int)
    ·simp (disch:=omega) only [vm0,vm1,vm2,vm3,vm4,vm5,vm6,vm7,vmF,vmT,evo,wr,wrC,frame,Nat.reduceAdd,Nat.reduceMul,Nat.reduceSub,beq_self_eq_true,List.cons_append,List.nil_append,beq_dec,vmI]
     exact ⟨by show num _=num _; rw[pieceM,if_pos ⟨rfl,h3⟩],rfl⟩
    ·simp (disch:=omega) only [vm0,vm1,vm2,vm3,vm4,vm5,vm6,vm7,vmF,vmT,evo,wr,wrC,frame,Nat.reduceAdd,Nat.reduceMul,Nat.reduceSub,beq_self_eq_true,List.cons_append,List.nil_append,beq_dec,vmI]
     exact ⟨by show num _=num _; rw[pieceM,if_neg (by omega),hm,if_pos ⟨rfl,h1,h2⟩],rfl⟩
   ·simp (disch:=omega) only [vm0,vm1,vm2,vm3,vm4,vm5,vm6,vm7,vmF,vmT,evo,wr,wrC,frame,Nat.reduceAdd,Nat.reduceMul,Nat.reduceSub,beq_self_eq_true,List.cons_append,List.nil_append,beq_dec,vmI,vc122,hm]
    refine call_ok rfl rfl (o_closed n s p o fp hF) ?_
    rintro x s ⟨rfl,rfl⟩
    simp (disch:=omega) only [vm0,vm1,vm2,vm3,vm4,vm5,vm6,vm7,vmF,vmT,evo,wr,wrC,frame,Nat.reduceAdd,Nat.reduceMul,Nat.reduceSub,beq_self_eq_true,List.cons_append,List.nil_append,beq_dec,vmI,hcl]
    refine call_ok rfl rfl (o_len n s p o fp hF) ?_
    rintro x s ⟨rfl,rfl⟩
    simp (disch:=omega) only [vm0,vm1,vm2,vm3,vm4,vm5,vm6,vm7,vmF,vmT,evo,wr,wrC,frame,Nat.reduceAdd,Nat.reduceMul,Nat.reduceSub,beq_self_eq_true,List.cons_append,List.nil_append,beq_dec,vmI]
    refine call_ok rfl rfl (o_closed n s p o fp hF) ?_
    rintro x s ⟨rfl,rfl⟩
    simp (disch:=omega) only [vm0,vm1,vm2,vm3,vm4,vm5,vm6,vm7,vmF,vmT,evo,wr,wrC,frame,Nat.reduceAdd,Nat.reduceMul,Nat.reduceSub,beq_self_eq_true,List.cons_append,List.nil_append,beq_dec,vmI,hcl]
    refine call_ok rfl rfl (o_len n s p o fp hF) ?_
    rintro x s ⟨rfl,rfl⟩
    by_cases h3:from_=(o.b.length:Int)
    ·simp (disch:=omega) only [vm0,vm1,vm2,vm3,vm4,vm5,vm6,vm7,vmF,vmT,evo,wr,wrC,frame,Nat.reduceAdd,Nat.reduceMul,Nat.reduceSub,beq_self_eq_true,List.cons_append,List.nil_append,beq_dec,vmI]
     exact ⟨by show num _=num _; rw[pieceM,if_pos ⟨rfl,h3⟩],rfl⟩
    ·simp (disch:=omega) only [vm0,vm1,vm2,vm3,vm4,vm5,vm6,vm7,vmF,vmT,evo,wr,wrC,frame,Nat.reduceAdd,Nat.reduceMul,Nat.reduceSub,beq_self_eq_true,List.cons_append,List.nil_append,beq_dec,vmI]
     exact ⟨by show num _=num _; rw[pieceM,if_neg (by omega),hm,if_neg (by omega)],rfl⟩
  ·simp (disch:=omega) only [vm0,vm1,vm2,vm3,vm4,vm5,vm6,vm7,vmF,vmT,evo,wr,wrC,frame,Nat.reduceAdd,Nat.reduceMul,Nat.reduceSub,beq_self_eq_true,List.cons_append,List.nil_append,beq_dec,vmI,vc122,hm]
   refine call_ok rfl rfl (o_closed n s p o fp hF) ?_
   rintro x s ⟨rfl,rfl⟩
   simp (disch:=omega) only [vm0,vm1,vm2,vm3,vm4,vm5,vm6,vm7,vmF,vmT,evo,wr,wrC,frame,Nat.reduceAdd,Nat.reduceMul,Nat.reduceSub,beq_self_eq_true,List.cons_append,List.nil_append,beq_dec,vmI,hcl]
   refine call_ok rfl rfl (o_len n s p o fp hF) ?_
   rintro x s ⟨rfl,rfl⟩
   simp (disch:=omega) only [vm0,vm1,vm2,vm3,vm4,vm5,vm6,vm7,vmF,vmT,evo,wr,wrC,frame,Nat.reduceAdd,Nat.reduceMul,Nat.reduceSub,beq_self_eq_true,List.cons_append,List.nil_append,beq_dec,vmI]
   refine call_ok rfl rfl (o_closed n s p o fp hF) ?_
   rintro x s ⟨rfl,rfl⟩
   simp (disch:=omega) only [vm0,vm1,vm2,vm3,vm4,vm5,vm6,vm7,vmF,vmT,evo,wr,wrC,frame,Nat.reduceAdd,Nat.reduceMul,Nat.reduceSub,beq_self_eq_true,List.cons_append,List.nil_append,beq_dec,vmI,hcl]
   refine call_ok rfl rfl (o_len n s p o fp hF) ?_
   rintro x s ⟨rfl,rfl⟩
   by_cases h3:from_=(o.b.length:Int)
   ·simp (disch:=omega) only [vm0,vm1,vm2,vm3,vm4,vm5,vm6,vm7,vmF,vmT,evo,wr,wrC,frame,Nat.reduceAdd,Nat.reduceMul,Nat.reduceSub,beq_self_eq_true,List.cons_append,List.nil_append,beq_dec,vmI]
    exact ⟨by show num _=num _; rw[pieceM,if_pos ⟨rfl,h3⟩],rfl⟩
   ·simp (disch:=omega) only [vm0,vm1,vm2,vm3,vm4,vm5,vm6,vm7,vmF,vmT,evo,wr,wrC,frame,Nat.reduceAdd,Nat.reduceMul,Nat.reduceSub,beq_self_eq_true,List.cons_append,List.nil_append,beq_dec,vmI]
    exact ⟨by show num _=num _; rw[pieceM,if_neg (by omega),hm,if_neg (by omega)],rfl⟩
theorem o_write (n:Nat) (s:St) (p:Nat) (o:OB) (fp:List Nat) (v:AV) (l:List Int) (hF:IsO s p o fp) (hv:RdE s v 1 encB l) (hl:o.b.length<100000) (hl2:(l.length:Int)<4611686018427387904) (hb:-1000000000≤o.buffer∧o.buffer≤1000000000) (ha:-1000000000≤o.acked∧o.acked≤1000000000) (hfu:10<fu) :
  OutOk (callF bd (tab h).get fu (n+3) 29 [.ptr p 0,v] s) (fun x s'=>∃ fp',Is x (num (o.room l.length))∧IsO s' p (o.write l) fp'∧Fr s s' fp∧Nw s fp fp'):=by
 refine call_code (t29 h) rfl ?_
 have hF0:=hF
 obtain ⟨u,fv,h1,h2,h3,rfl,h5⟩:=hF
 cases hc:o.closed
 ·simp (disch:=omega) only [vm0,vm1,vm2,vm3,vm4,vm5,vm6,vm7,vmF,vmT,evo,wr,wrC,frame,Nat.reduceAdd,Nat.reduceMul,Nat.reduceSub,beq_self_eq_true,List.cons_append,List.nil_append,beq_dec,vmI,vc29,h1,hc]
  have e1:=hv.lenV
  have e2:=h2.rd.lenV
  simp (disch:=omega) only [vm0,vm1,vm2,vm3,vm4,vm5,vm6,vm7,vmF,vmT,evo,wr,wrC,frame,Nat.reduceAdd,Nat.reduceMul,Nat.reduceSub,beq_self_eq_true,List.cons_append,List.nil_append,beq_dec,vmI,h1,e1,e2]
  obtain ⟨m,hm⟩ : ∃ m,min (min (l.length:Int) (o.buffer-((o.b.length:Int)-o.acked))) (4096-(o.b.length:Int))=m:=⟨_,rfl⟩
  have hroom:o.room l.length=max 0 m:=by rw[OB.room,hc,hm]; simp
  obtain ⟨w,g1,r1⟩:=hv.sliH (b:=max 0 m) (by omega) (by omega)
  rw[hm,hroom]
  simp (disch:=omega) only [vm0,vm1,vm2,vm3,vm4,vm5,vm6,vm7,vmF,vmT,evo,wr,wrC,frame,Nat.reduceAdd,Nat.reduceMul,Nat.reduceSub,beq_self_eq_true,List.cons_append,List.nil_append,beq_dec,vmI,h1,g1,h2.rd.cells,r1.cells]
  have hfa:Fr s ((St.mk s.heap (s.next+1)).put s.next (some (.cells [u,w] .own))) []:=(by (repeat' (first | exact Fr.refl | assumption | apply Fr.new' | apply Fr.mk' | apply Fr.put')) <;> (first | omega | (left; simp; done) | (right; simp only[next_put,next_new,next_mk]; omega) | (simp only[next_put,next_new,next_mk]; omega)))
  have hU:RdE ((St.mk s.heap (s.next+1)).put s.next (some (.cells [u,w] .own))) (.sl s.next 0 2 2 true 1) 1 encU [u,w]:=by
   refine ⟨⟨⟨rfl,Nat.le_refl _⟩,rfl,?_⟩,fun _=>rfl,by omega,by show s.next<_; rw[next_put]; show s.next<s.next+1; omega⟩
   show ob (((St.mk s.heap (s.next+1)).put s.next (some (.cells [u,w] .own))).heap.get s.next) (rdC 0 (2*1))=_
   rw[get_put_eq rfl]; rfl
  have hcl:o.b.length+(l.take (max 0 m).toNat).length<140737488355232:=by
   have h1:=List.length_take_le (max 0 m).toNat l
   have h2:(max 0 m).toNat≤4096:=by omega
   omega
  refine call_ok rfl rfl (concatB (n+0) _ s.next true u w o.b (l.take (max 0 m).toNat) hU (h2.rd.fr0 hfa) (r1.fr0 hfa) hcl hfu) ?_
  rintro y s2 ⟨f2,q1,q2,q3⟩
  have hfr:=hfa.trans q2 (fp2:=[]) (by simp) (by simp)
  have hp2:=(hfr.get h5 (by simp)).trans h1
  simp (disch:=omega) only [vm0,vm1,vm2,vm3,vm4,vm5,vm6,vm7,vmF,vmT,evo,wr,wrC,frame,Nat.reduceAdd,Nat.reduceMul,Nat.reduceSub,beq_self_eq_true,List.cons_append,List.nil_append,beq_dec,vmI,hp2,q1.cells]
  have hn2:Nw s [] f2:=q3.le (by rw[next_put]; show s.next≤s.next+1; omega)
  have hpf:p∉f2:=fun hm=>by have:=hn2 p hm; simp at this; omega
  refine ⟨p::f2,rfl,⟨y,f2,?_,?_,hpf,rfl,by rw[next_put]; exact Nat.lt_of_lt_of_le h5 hfr.1⟩,.put' (.inl (by simp)) (hfr.mono (by simp)),?_⟩
  ·rw[get_put_eq rfl]; rfl
  ·rw[OB.write,hroom]
   exact q1.fr (fp':=[p]) (.put (.inl (by simp))) (by rintro b hb hm; simp at hm; subst hm; exact hpf hb)
  ·intro b hb
   rcases List.mem_cons.1 hb with rfl | hb
   ·exact .inl (by simp)
   ·right; have:=hn2 b hb; simpa using this
 ·have hroom:∀ k,o.room k=0:=fun k=>by rw[OB.room,hc]; simp
  simp (disch:=omega) only [vm0,vm1,vm2,vm3,vm4,vm5,vm6,vm7,vmF,vmT,evo,wr,wrC,frame,Nat.reduceAdd,Nat.reduceMul,Nat.reduceSub,beq_self_eq_true,List.cons_append,List.nil_append,beq_dec,vmI,vc29,h1,hc]
  refine ⟨p::fv,by rw[hroom]; rfl,?_,.refl,.refl⟩
  rw[OB.write,hroom]
  simpa using hF0
def IsP (s:St) (p:Nat) (l:List R) (sent:Int) (fp:List Nat):Prop:=∃ q fq,s.heap.get p=some (.cells [.ptr q 0,num sent] .own)∧IsS s q l fq∧p∉fq∧fp=p::fq∧p<s.next
theorem IsP.fr {s s':St} {p:Nat} {l:List R} {t:Int} {fp fp':List Nat} (hF:IsP s p l t fp) (hf:Fr s s' fp') (hd:∀ b∈fp,b∉fp'):IsP s' p l t fp:=by
 obtain ⟨q,fq,h1,h2,h3,rfl,h5⟩:=hF
 exact ⟨q,fq,(hf.2 p h5 (hd p (by simp))).trans h1,h2.fr hf fun b hb=>hd b (by simp[hb]),h3,rfl,Nat.lt_of_lt_of_le h5 hf.1⟩
theorem IsP.lt {s:St} {p:Nat} {l:List R} {t:Int} {fp:List Nat} (hF:IsP s p l t fp):Lt s fp:=by
 obtain ⟨q,fq,h1,h2,h3,rfl,h5⟩:=hF
 intro b hb
 rcases List.mem_cons.1 hb with rfl | hb
 ·exact h5
 ·exact h2.lt b hb
theorem p_missing (n:Nat) (s:St) (p:Nat) (l:List R) (t:Int) (fp:List Nat) (hF:IsP s p l t fp) (hl:l.length<1000000):OutOk (callF bd (tab h).get fu (n+3) 65 [.ptr p 0] s) (fun x s'=>∃ fp',OwE s' x 2 encR l fp'∧Fr s s' []∧Nw s [] fp'):=by
 refine call_code (t65 h) rfl ?_
 obtain ⟨q,fq,h1,h2,h3,rfl,h5⟩:=hF
 simp (disch:=omega) only [vm0,vm1,vm2,vm3,vm4,vm5,vm6,vm7,vmF,vmT,evo,wr,wrC,frame,Nat.reduceAdd,Nat.reduceMul,Nat.reduceSub,beq_self_eq_true,List.cons_append,List.nil_append,beq_dec,vmI,vc65,h1]
 refine call_ok rfl rfl (s_all n s q l fq h2 hl) ?_
 rintro x s' ⟨f,q1,q2,q3⟩
 simp (disch:=omega) only [vm0,vm1,vm2,vm3,vm4,vm5,vm6,vm7,vmF,vmT,evo,wr,wrC,frame,Nat.reduceAdd,Nat.reduceMul,Nat.reduceSub,beq_self_eq_true,List.cons_append,List.nil_append,beq_dec,vmI]
 exact ⟨f,q1,q2,q3⟩
def addC (f t:Int) (l:List R):List R:=if max 0 f<min t far then Ranges.addR (max 0 f) (min t far) l else l
def cutC (f t:Int) (l:List R):List R:=if max 0 f<min t far then cutR (max 0 f) (min t far) l else l
theorem addC_wf {f t:Int} {l:List R} (hw:WFr 0 l):WFr 0 (addC f t l):=by
 unfold addC
 split
 ·exact addR_wf hw (by omega) (by assumption) (by omega)
 ·exact hw
theorem cutC_wf {f t:Int} {l:List R} (hw:WFr 0 l):WFr 0 (cutC f t l):=by
 unfold cutC
 split
 ·exact cutR_wf hw (by assumption)
 ·exact hw
theorem IsP.set {s s':St} {p q:Nat} {l l':List R} {t:Int} {fq fq':List Nat} (h1:s.heap.get p=some (.cells [.ptr q 0,num t] .own)) (h3:p∉fq) (h5:p<s.next) (hS:IsS s' q l' fq') (hf:Fr s s' fq) (hn:Nw s fq fq'):IsP s' p l' t (p::fq')∧Fr s s' (p::fq)∧Nw s (p::fq) (p::fq') :=
 ⟨⟨q,fq',(hf.get h5 h3).trans h1,hS,hn.not h3 h5,rfl,Nat.lt_of_lt_of_le h5 hf.1⟩,hf.mono (fun b hb _=>by simp[hb]),hn.cons (Nat.le_refl _)⟩
theorem p_lost (hs:SortOk h) (n:Nat) (s:St) (p:Nat) (l:List R) (t:Int) (fp:List Nat) (a b:Int) (hF:IsP s p l t fp) (hw:WFr 0 l) (hlen:l.length<fu) (hl:l.length<100000):OutOk (callF bd (tab h).get fu (n+3) 84 [.ptr p 0,num a,num b] s) (fun x s'=>∃ fp',IsP s' p (addC a b l) t fp'∧Fr s s' fp∧Nw s fp fp'):=by
 refine call_code (t84 h) rfl ?_
 obtain ⟨q,fq,h1,h2,h3,rfl,h5⟩:=hF
 simp (disch:=omega) only [vm0,vm1,vm2,vm3,vm4,vm5,vm6,vm7,vmF,vmT,evo,wr,wrC,frame,Nat.reduceAdd,Nat.reduceMul,Nat.reduceSub,beq_self_eq_true,List.cons_append,List.nil_append,beq_dec,vmI,vc84,h1]
 refine call_ok rfl rfl (s_add hs n s q l fq a b h2 hw hlen hl) ?_
 rintro x s' ⟨f,q1,q2,q3⟩
 simp (disch:=omega) only [vm0,vm1,vm2,vm3,vm4,vm5,vm6,vm7,vmF,vmT,evo,wr,wrC,frame,Nat.reduceAdd,Nat.reduceMul,Nat.reduceSub,beq_self_eq_true,List.cons_append,List.nil_append,beq_dec,vmI]
 obtain ⟨r1,r2,r3⟩:=IsP.set (l:=l) h1 h3 h5 q1 q2 q3
 exact ⟨_,r1,r2,r3⟩
end
structure NX where
 l:List R
 t:Int
 a:Int
 b:Int
 ok:Bool
def clampC (c:Int):Int:=min (max c 1) 64
def nextP (o:OB) (limit chunk:Int) (l:List R) (t:Int):NX :=
 if cutC 0 o.acked l=[] then
  if o.open_ limit≤t then ⟨[],t,0,0,false⟩ else ⟨[],pieceM o.b.length o.closed t (o.open_ limit) (clampC chunk),t,pieceM o.b.length o.closed t (o.open_ limit) (clampC chunk),true⟩
 else
  ⟨cutC ((cutC 0 o.acked l).headD (0,0)).1 (pieceM o.b.length o.closed ((cutC 0 o.acked l).headD (0,0)).1 ((cutC 0 o.acked l).headD (0,0)).2 (clampC chunk)) (cutC 0 o.acked l),t,((cutC 0 o.acked l).headD (0,0)).1,pieceM o.b.length o.closed ((cutC 0 o.acked l).headD (0,0)).1 ((cutC 0 o.acked l).headD (0,0)).2 (clampC chunk),true⟩
theorem cutC_len {f t:Int} (l:List R):(cutC f t l).length≤2*l.length:=by
 unfold cutC
 split
 ·exact cutR_len l
 ·omega
theorem OB.places_bd {o:OB}:0≤o.places∧o.places≤(o.b.length:Int)+1:=by
 unfold OB.places
 split <;> omega
theorem OB.open_bd {o:OB} {limit:Int}:0≤o.open_ limit∧o.open_ limit≤(o.b.length:Int)+1:=by
 have:=o.places_bd
 unfold OB.open_
 split <;> omega
section
variable {bd : Bd} {h : VF} {fu : Nat}
theorem p_next (n:Nat) (s:St) (p q:Nat) (l:List R) (t:Int) (o:OB) (fp fo:List Nat) (limit chunk:Int) (hF:IsP s p l t fp) (hO:IsO s q o fo) (hd:∀ b∈fo,b∉fp) (hw:WFr 0 l) (hlen:2*l.length<fu) (hfu:10<fu) (hl:l.length<40000) (hb:o.b.length<1000000) (hL:-1000000000≤limit∧limit≤1000000000) (ht:0≤t∧t≤1000000000) :
  OutOk (callF bd (tab h).get fu (n+3) 80 [.ptr p 0,.ptr q 0,num limit,num chunk] s) (fun x s'=>∃ fp',Is x (.tup [num (nextP o limit chunk l t).a,num (nextP o limit chunk l t).b,.bool (nextP o limit chunk l t).ok])∧IsP s' p (nextP o limit chunk l t).l (nextP o limit chunk l t).t fp'∧Fr s s' fp∧Nw s fp fp'):=by
 refine call_code (t80 h) rfl ?_
 obtain ⟨u,fq,h1,h2,h3,rfl,h5⟩:=hF
 obtain ⟨m,hm⟩ : ∃ m,min (max chunk 1) 64=m:=⟨_,rfl⟩
 have hcm:clampC chunk=m:=hm
 simp (disch:=omega) only [vm0,vm1,vm2,vm3,vm4,vm5,vm6,vm7,vmF,vmT,evo,wr,wrC,frame,Nat.reduceAdd,Nat.reduceMul,Nat.reduceSub,beq_self_eq_true,List.cons_append,List.nil_append,beq_dec,vmI,vc80,h1,hm]
 refine call_ok rfl rfl (o_acked (n+1) s q o fo hO) ?_
 rintro x s ⟨rfl,rfl⟩
 simp (disch:=omega) only [vm0,vm1,vm2,vm3,vm4,vm5,vm6,vm7,vmF,vmT,evo,wr,wrC,frame,Nat.reduceAdd,Nat.reduceMul,Nat.reduceSub,beq_self_eq_true,List.cons_append,List.nil_append,beq_dec,vmI]
 refine call_ok rfl rfl (s_cut n s u l fq 0 o.acked h2 hw (by omega) hfu (by omega)) ?_
 rintro x s1 ⟨f1,q1,q2,q3⟩
 obtain ⟨l1,hl1⟩ : ∃ l1,cutC 0 o.acked l=l1:=⟨_,rfl⟩
 have hq1:IsS s1 u l1 f1:=by rw[←hl1]; exact q1
 have hw1:WFr 0 l1:=by rw[←hl1]; exact cutC_wf hw
 have hlen1:l1.length≤2*l.length:=by rw[←hl1]; exact cutC_len l
 have g1:=(q2.get h5 h3).trans h1
 have g5:p<s1.next:=Nat.lt_of_lt_of_le h5 q2.1
 have g3:p∉f1:=q3.not h3 h5
 simp (disch:=omega) only [vm0,vm1,vm2,vm3,vm4,vm5,vm6,vm7,vmF,vmT,evo,wr,wrC,frame,Nat.reduceAdd,Nat.reduceMul,Nat.reduceSub,beq_self_eq_true,List.cons_append,List.nil_append,beq_dec,vmI,h1,g1]
 refine call_ok rfl rfl (s_first (n+1) s1 u l1 f1 hq1) ?_
 rintro x s2 ⟨rfl,q4⟩
 have hq2:IsS s2 u l1 f1:=hq1.fr q4 (by simp)
 have hs2:Fr s s2 fq:=q2.trans q4 (fun b hb _=>hb) (by simp)
 have g1':=(hs2.get h5 h3).trans h1
 cases l1 with
 | nil =>
  simp only[List.headD_nil,List.isEmpty_nil,Bool.not_true,encR]
  simp (disch:=omega) only [vm0,vm1,vm2,vm3,vm4,vm5,vm6,vm7,vmF,vmT,evo,wr,wrC,frame,Nat.reduceAdd,Nat.reduceMul,Nat.reduceSub,beq_self_eq_true,List.cons_append,List.nil_append,beq_dec,vmI]
  obtain ⟨s3,e3⟩ : ∃ s3,(s2.new (.cells [.int .i64 (.c 0),.int .i64 (.c 0)] .own)).put s2.next (some (.cells [num 0,num 0] .own))=s3:=⟨_,rfl⟩
  have f3:Fr s2 s3 []:=by rw[←e3]; exact (by (repeat' (first | exact Fr.refl | assumption | apply Fr.new' | apply Fr.mk' | apply Fr.put')) <;> (first | omega | (left; simp; done) | (right; simp only[next_put,next_new,next_mk]; omega) | (simp only[next_put,next_new,next_mk]; omega)))
  have c3:s3.heap.get s2.next=some (.cells [num 0,num 0] .own):=by rw[←e3]; exact get_put_eq rfl
  have n3:s3.next=s2.next+1:=by rw[←e3,next_put,next_new]
  rw[e3]
  have hs3:Fr s s3 fq:=hs2.trans f3 (fun b hb _=>hb) (by simp)
  have hq3:IsS s3 u _ f1:=hq2.fr f3 (by simp)
  have g3':=(hs3.get h5 h3).trans h1
  have hO3:IsO s3 q o fo:=hO.fr hs3 (fun b hb hm=>hd b hb (by simp[hm]))
  simp (disch:=omega) only [vm0,vm1,vm2,vm3,vm4,vm5,vm6,vm7,vmF,vmT,evo,wr,wrC,frame,Nat.reduceAdd,Nat.reduceMul,Nat.reduceSub,beq_self_eq_true,List.cons_append,List.nil_append,beq_dec,vmI,g3']
  refine call_ok rfl rfl (o_open n s3 q o fo limit hO3 hb) ?_
  rintro x s3 ⟨rfl,rfl⟩
  obtain ⟨z,hz⟩ : ∃ z,o.open_ limit=z:=⟨_,rfl⟩
  have hzb:=o.open_bd (limit:=limit)
  rw[hz] at hzb
  rw[hz]
  by_cases hc:z≤t
  ·simp (disch:=omega) only [vm0,vm1,vm2,vm3,vm4,vm5,vm6,vm7,vmF,vmT,evo,wr,wrC,frame,Nat.reduceAdd,Nat.reduceMul,Nat.reduceSub,beq_self_eq_true,List.cons_append,List.nil_append,beq_dec,vmI]
   have hN:nextP o limit chunk l t=⟨[],t,0,0,false⟩:=by unfold nextP; rw[hl1,hz,if_pos rfl,if_pos hc]
   rw[hN]
   obtain ⟨r1,r2,r3⟩:=IsP.set (l:=l) h1 h3 h5 hq3 hs3 q3
   exact ⟨p::f1,rfl,r1,r2,r3⟩
  ·simp (disch:=omega) only [vm0,vm1,vm2,vm3,vm4,vm5,vm6,vm7,vmF,vmT,evo,wr,wrC,frame,Nat.reduceAdd,Nat.reduceMul,Nat.reduceSub,beq_self_eq_true,List.cons_append,List.nil_append,beq_dec,vmI,g3']
   refine call_ok rfl rfl (o_open n s3 q o fo limit hO3 hb) ?_
   rintro x s3 ⟨rfl,rfl⟩
   rw[hz]
   simp (disch:=omega) only [vm0,vm1,vm2,vm3,vm4,vm5,vm6,vm7,vmF,vmT,evo,wr,wrC,frame,Nat.reduceAdd,Nat.reduceMul,Nat.reduceSub,beq_self_eq_true,List.cons_append,List.nil_append,beq_dec,vmI]
   refine call_ok rfl rfl (o_piece n s3 q o fo t z m hO3 hb (by omega) (by omega) (by omega)) ?_
   rintro x s3 ⟨rfl,rfl⟩
   simp (disch:=omega) only [vm0,vm1,vm2,vm3,vm4,vm5,vm6,vm7,vmF,vmT,evo,wr,wrC,frame,Nat.reduceAdd,Nat.reduceMul,Nat.reduceSub,beq_self_eq_true,List.cons_append,List.nil_append,beq_dec,vmI,g3']
   have hN:nextP o limit chunk l t=⟨[],pieceM o.b.length o.closed t z m,t,pieceM o.b.length o.closed t z m,true⟩:=by unfold nextP; rw[hl1,hz,hcm,if_pos rfl,if_neg hc]
   rw[hN]
   refine ⟨p::f1,rfl,⟨u,f1,get_put_eq rfl,hq3.fr (fp':=[p]) (.put (.inl (by simp))) (by rintro b hb hm; simp at hm; subst hm; exact g3 hb),g3,rfl,by rw[next_put]; exact Nat.lt_of_lt_of_le h5 hs3.1⟩,.put' (.inl (by simp)) (hs3.mono (fun b hb _=>by simp[hb])),q3.cons (Nat.le_refl _)⟩
 | cons r l1 =>
  obtain ⟨a,b⟩:=r
  simp only[List.headD_cons,List.isEmpty_cons,Bool.not_false,encR]
  simp (disch:=omega) only [vm0,vm1,vm2,vm3,vm4,vm5,vm6,vm7,vmF,vmT,evo,wr,wrC,frame,Nat.reduceAdd,Nat.reduceMul,Nat.reduceSub,beq_self_eq_true,List.cons_append,List.nil_append,beq_dec,vmI]
  obtain ⟨s3,e3⟩ : ∃ s3,(s2.new (.cells [.int .i64 (.c 0),.int .i64 (.c 0)] .own)).put s2.next (some (.cells [num a,num b] .own))=s3:=⟨_,rfl⟩
  have f3:Fr s2 s3 []:=by rw[←e3]; exact (by (repeat' (first | exact Fr.refl | assumption | apply Fr.new' | apply Fr.mk' | apply Fr.put')) <;> (first | omega | (left; simp; done) | (right; simp only[next_put,next_new,next_mk]; omega) | (simp only[next_put,next_new,next_mk]; omega)))
  have c3:s3.heap.get s2.next=some (.cells [num a,num b] .own):=by rw[←e3]; exact get_put_eq rfl
  have n3:s3.next=s2.next+1:=by rw[←e3,next_put,next_new]
  rw[e3]
  have hs3:Fr s s3 fq:=hs2.trans f3 (fun b hb _=>hb) (by simp)
  have hq3:IsS s3 u _ f1:=hq2.fr f3 (by simp)
  have g3':=(hs3.get h5 h3).trans h1
  have hO3:IsO s3 q o fo:=hO.fr hs3 (fun b hb hm=>hd b hb (by simp[hm]))
  have hlb:=hw1.lb (a,b) (by simp)
  simp only[far] at hlb
  refine call_ok rfl rfl (o_piece n s3 q o fo a b m hO3 hb (by omega) (by omega) (by omega)) ?_
  rintro x s3 ⟨rfl,rfl⟩
  simp (disch:=omega) only [vm0,vm1,vm2,vm3,vm4,vm5,vm6,vm7,vmF,vmT,evo,wr,wrC,frame,Nat.reduceAdd,Nat.reduceMul,Nat.reduceSub,beq_self_eq_true,List.cons_append,List.nil_append,beq_dec,vmI,g3',c3]
  obtain ⟨z,hz⟩ : ∃ z,pieceM o.b.length o.closed a b m=z:=⟨_,rfl⟩
  rw[hz]
  simp only[List.length_cons] at hlen1
  refine call_ok rfl rfl (s_cut n s3 u ((a,b)::l1) f1 a z hq3 hw1 (by simp only[List.length_cons]; omega) hfu (by simp only[List.length_cons]; omega)) ?_
  rintro x s4 ⟨f4,q5,q6,q7⟩
  have hf4:Nw s fq f4:=fun b hb=>(q7 b hb).elim (fun h=>q3 b h) (fun h => .inr (Nat.le_trans hs3.1 h))
  have hs4:Fr s s4 fq:=hs3.trans q6 (fun b hb _=>hb) (fun b hb hlt=>(q3 b hb).resolve_right (by omega))
  have hc4:=(q6.get (show s2.next<s3.next by omega) (fun hm=>by have:=hq1.lt _ hm; have:=q4.1; omega)).trans c3
  simp (disch:=omega) only [vm0,vm1,vm2,vm3,vm4,vm5,vm6,vm7,vmF,vmT,evo,wr,wrC,frame,Nat.reduceAdd,Nat.reduceMul,Nat.reduceSub,beq_self_eq_true,List.cons_append,List.nil_append,beq_dec,vmI,g3',c3,hc4]
  obtain ⟨r1,r2,r3⟩:=IsP.set (l:=l) (l':=cutC a z ((a,b)::l1)) h1 h3 h5 q5 hs4 hf4
  have hN:nextP o limit chunk l t=⟨cutC a z ((a,b)::l1),t,a,z,true⟩:=by unfold nextP; rw[hl1,hcm,if_neg (by simp)]; simp only[List.headD_cons,hz]
  rw[hN]
  exact ⟨_,rfl,r1,r2,r3⟩
end
def oP (p:Nat) (l:List R) (t:Int):Obj:=⟨fun s fp=>IsP s p l t fp,IsP.fr,IsP.lt⟩
def oO (p:Nat) (o:OB):Obj:=⟨fun s fp=>IsO s p o fp,IsO.fr,IsO.lt⟩
structure IB where
 b:List Int
 l:List R
 w:Int
 tk:Int
 e:Int
 kn:Bool
def IsI (s:St) (p:Nat) (i:IB) (fp:List Nat):Prop:=∃ v fv q fq,s.heap.get p=some (.cells [v,.ptr q 0,num i.w,num i.tk,num i.e,.bool i.kn] .own)∧OwE s v 1 encB i.b fv∧IsS s q i.l fq∧p∉fv∧p∉fq∧(∀ b∈fv,b∉fq)∧fp=p::(fv++fq)∧p<s.next
theorem IsI.fr {s s':St} {p:Nat} {i:IB} {fp fp':List Nat} (hF:IsI s p i fp) (hf:Fr s s' fp') (hd:∀ b∈fp,b∉fp'):IsI s' p i fp:=by
 obtain ⟨v,fv,q,fq,h1,h2,h3,h4,h5,h6,rfl,h7⟩:=hF
 exact ⟨v,fv,q,fq,(hf.2 p h7 (hd p (by simp))).trans h1,h2.fr hf fun b hb=>hd b (by simp[hb]),h3.fr hf fun b hb=>hd b (by simp[hb]),h4,h5,h6,rfl,Nat.lt_of_lt_of_le h7 hf.1⟩
theorem IsI.lt {s:St} {p:Nat} {i:IB} {fp:List Nat} (hF:IsI s p i fp):Lt s fp:=by
 obtain ⟨v,fv,q,fq,h1,h2,h3,h4,h5,h6,rfl,h7⟩:=hF
 intro b hb
 simp only[List.mem_cons,List.mem_append] at hb
 rcases hb with rfl | hb | hb
 ·exact h7
 ·exact h2.lt b hb
 ·exact h3.lt b hb
def oI (p:Nat) (i:IB):Obj:=⟨fun s fp=>IsI s p i fp,IsI.fr,IsI.lt⟩
def IB.limit (i:IB):Int:=i.tk+i.w
def IB.may (i:IB) (at_:Int):Bool:=decide (0≤at_)&&decide (at_<i.limit)&&(!i.kn||decide (at_<i.e))&&!hasR at_ (at_+1) i.l
def lastR (l:List R):Int:=(l.getLastD (0,0)).2
def IB.ready (i:IB):Int:=frontR i.l-i.tk
def IB.seen (i:IB):Int:=if i.kn=true∧frontR i.l=i.e then i.e+1 else frontR i.l
def IB.done (i:IB):Bool:=i.kn&&decide (i.tk=i.e)
structure IB.Ok (i:IB):Prop where
 wf:WFr 0 i.l
 w:0≤i.w∧i.w≤1000
 tk:0≤i.tk∧i.tk≤1000000
 e:0≤i.e∧i.e≤1000000
 l:i.l.length<2400
 b:i.b.length<5000
section
variable {bd : Bd} {h : VF} {fu : Nat}
theorem i_limit (n:Nat) (s:St) (p:Nat) (i:IB) (fp:List Nat) (hF:IsI s p i fp) (hi:i.Ok):OutOk (callF bd (tab h).get fu (n+1) 50 [.ptr p 0] s) (fun x s'=>Is x (num i.limit)∧Is s' s):=by
 refine call_code (t50 h) rfl ?_
 obtain ⟨v,fv,q,fq,h1,h2,h3,h4,h5,h6,rfl,h7⟩:=hF
 obtain ⟨i1,i2,i3,i4,i5,i6⟩:=hi
 simp (disch:=omega) only [vm0,vm1,vm2,vm3,vm4,vm5,vm6,vm7,vmF,vmT,evo,wr,wrC,frame,Nat.reduceAdd,Nat.reduceMul,Nat.reduceSub,beq_self_eq_true,List.cons_append,List.nil_append,beq_dec,vmI,vc50,h1]
 exact ⟨rfl,rfl⟩
theorem i_taken (n:Nat) (s:St) (p:Nat) (i:IB) (fp:List Nat) (hF:IsI s p i fp):OutOk (callF bd (tab h).get fu (n+1) 66 [.ptr p 0] s) (fun x s'=>Is x (num i.tk)∧Is s' s):=by
 refine call_code (t66 h) rfl ?_
 obtain ⟨v,fv,q,fq,h1,h2,h3,h4,h5,h6,rfl,h7⟩:=hF
 simp (disch:=omega) only [vm0,vm1,vm2,vm3,vm4,vm5,vm6,vm7,vmF,vmT,evo,wr,wrC,frame,Nat.reduceAdd,Nat.reduceMul,Nat.reduceSub,beq_self_eq_true,List.cons_append,List.nil_append,beq_dec,vmI,vc66,h1]
 exact ⟨rfl,rfl⟩
theorem i_front (n:Nat) (s:St) (p:Nat) (i:IB) (fp:List Nat) (hF:IsI s p i fp):OutOk (callF bd (tab h).get fu (n+3) 100 [.ptr p 0] s) (fun x s'=>Is x (num (frontR i.l))∧Fr s s' []):=by
 refine call_code (t100 h) rfl ?_
 obtain ⟨v,fv,q,fq,h1,h2,h3,h4,h5,h6,rfl,h7⟩:=hF
 simp (disch:=omega) only [vm0,vm1,vm2,vm3,vm4,vm5,vm6,vm7,vmF,vmT,evo,wr,wrC,frame,Nat.reduceAdd,Nat.reduceMul,Nat.reduceSub,beq_self_eq_true,List.cons_append,List.nil_append,beq_dec,vmI,vc100,h1]
 refine call_ok rfl rfl (s_front n s q i.l fq h3) ?_
 rintro x s1 ⟨rfl,hf⟩
 simp (disch:=omega) only [vm0,vm1,vm2,vm3,vm4,vm5,vm6,vm7,vmF,vmT,evo,wr,wrC,frame,Nat.reduceAdd,Nat.reduceMul,Nat.reduceSub,beq_self_eq_true,List.cons_append,List.nil_append,beq_dec,vmI]
 exact ⟨rfl,hf⟩
theorem i_ready (n:Nat) (s:St) (p:Nat) (i:IB) (fp:List Nat) (hF:IsI s p i fp) (hi:i.Ok) (hfr:0≤frontR i.l∧frontR i.l≤far):OutOk (callF bd (tab h).get fu (n+4) 67 [.ptr p 0] s) (fun x s'=>Is x (num i.ready)∧Fr s s' []):=by
 refine call_code (t67 h) rfl ?_
 have hF0:=hF
 obtain ⟨v,fv,q,fq,h1,h2,h3,h4,h5,h6,rfl,h7⟩:=hF
 obtain ⟨i1,i2,i3,i4,i5,i6⟩:=hi
 simp only[far] at hfr
 simp (disch:=omega) only [vm0,vm1,vm2,vm3,vm4,vm5,vm6,vm7,vmF,vmT,evo,wr,wrC,frame,Nat.reduceAdd,Nat.reduceMul,Nat.reduceSub,beq_self_eq_true,List.cons_append,List.nil_append,beq_dec,vmI,vc67]
 refine call_ok rfl rfl (i_front n s p i _ hF0) ?_
 rintro x s1 ⟨rfl,hf⟩
 have h1':=(hf.get h7 (by simp)).trans h1
 simp (disch:=omega) only [vm0,vm1,vm2,vm3,vm4,vm5,vm6,vm7,vmF,vmT,evo,wr,wrC,frame,Nat.reduceAdd,Nat.reduceMul,Nat.reduceSub,beq_self_eq_true,List.cons_append,List.nil_append,beq_dec,vmI,h1,h1']
 exact ⟨rfl,hf⟩
theorem i_done (n:Nat) (s:St) (p:Nat) (i:IB) (fp:List Nat) (hF:IsI s p i fp):OutOk (callF bd (tab h).get fu (n+1) 68 [.ptr p 0] s) (fun x s'=>Is x (.bool i.done)∧Is s' s):=by
 refine call_code (t68 h) rfl ?_
 obtain ⟨v,fv,q,fq,h1,h2,h3,h4,h5,h6,rfl,h7⟩:=hF
 cases hk:i.kn
 ·simp (disch:=omega) only [vm0,vm1,vm2,vm3,vm4,vm5,vm6,vm7,vmF,vmT,evo,wr,wrC,frame,Nat.reduceAdd,Nat.reduceMul,Nat.reduceSub,beq_self_eq_true,List.cons_append,List.nil_append,beq_dec,vmI,vc68,vmU,h1,hk]
  exact ⟨by show AV.bool _=AV.bool _; simp[IB.done,hk],rfl⟩
 ·simp (disch:=omega) only [vm0,vm1,vm2,vm3,vm4,vm5,vm6,vm7,vmF,vmT,evo,wr,wrC,frame,Nat.reduceAdd,Nat.reduceMul,Nat.reduceSub,beq_self_eq_true,List.cons_append,List.nil_append,beq_dec,vmI,vc68,vmU,h1,hk]
  exact ⟨by show AV.bool _=AV.bool _; simp[IB.done,hk],rfl⟩
theorem i_seen (n:Nat) (s:St) (p:Nat) (i:IB) (fp:List Nat) (hF:IsI s p i fp) (hi:i.Ok):OutOk (callF bd (tab h).get fu (n+4) 49 [.ptr p 0] s) (fun x s'=>Is x (num i.seen)∧Fr s s' []):=by
 refine call_code (t49 h) rfl ?_
 have hF0:=hF
 obtain ⟨v,fv,q,fq,h1,h2,h3,h4,h5,h6,rfl,h7⟩:=hF
 obtain ⟨i1,i2,i3,i4,i5,i6⟩:=hi
 cases hk:i.kn
 ·simp (disch:=omega) only [vm0,vm1,vm2,vm3,vm4,vm5,vm6,vm7,vmF,vmT,evo,wr,wrC,frame,Nat.reduceAdd,Nat.reduceMul,Nat.reduceSub,beq_self_eq_true,List.cons_append,List.nil_append,beq_dec,vmI,vc49,vmU,h1,hk]
  refine call_ok rfl rfl (i_front n s p i _ hF0) ?_
  rintro x s1 ⟨rfl,hf⟩
  simp (disch:=omega) only [vm0,vm1,vm2,vm3,vm4,vm5,vm6,vm7,vmF,vmT,evo,wr,wrC,frame,Nat.reduceAdd,Nat.reduceMul,Nat.reduceSub,beq_self_eq_true,List.cons_append,List.nil_append,beq_dec,vmI]
  exact ⟨by show num _=num _; simp[IB.seen,hk],hf⟩
 ·by_cases hq:frontR i.l=i.e
  ·simp (disch:=omega) only [vm0,vm1,vm2,vm3,vm4,vm5,vm6,vm7,vmF,vmT,evo,wr,wrC,frame,Nat.reduceAdd,Nat.reduceMul,Nat.reduceSub,beq_self_eq_true,List.cons_append,List.nil_append,beq_dec,vmI,vc49,h1,hk]
   refine call_ok rfl rfl (i_front n s p i _ hF0) ?_
   rintro x s1 ⟨rfl,hf⟩
   have h1':=(hf.get h7 (by simp)).trans h1
   simp (disch:=omega) only [vm0,vm1,vm2,vm3,vm4,vm5,vm6,vm7,vmF,vmT,evo,wr,wrC,frame,Nat.reduceAdd,Nat.reduceMul,Nat.reduceSub,beq_self_eq_true,List.cons_append,List.nil_append,beq_dec,vmI,h1,h1',hk]
   exact ⟨by show num _=num _; simp[IB.seen,hk,hq],hf⟩
  ·simp (disch:=omega) only [vm0,vm1,vm2,vm3,vm4,vm5,vm6,vm7,vmF,vmT,evo,wr,wrC,frame,Nat.reduceAdd,Nat.reduceMul,Nat.reduceSub,beq_self_eq_true,List.cons_append,List.nil_append,beq_dec,vmI,vc49,h1,hk]
   refine call_ok rfl rfl (i_front n s p i _ hF0) ?_
   rintro x s1 ⟨rfl,hf⟩
   have h1':=(hf.get h7 (by simp)).trans h1
   simp (disch:=omega) only [vm0,vm1,vm2,vm3,vm4,vm5,vm6,vm7,vmF,vmT,evo,wr,wrC,frame,Nat.reduceAdd,Nat.reduceMul,Nat.reduceSub,beq_self_eq_true,List.cons_append,List.nil_append,beq_dec,vmI,h1,h1',hk]
   refine call_ok rfl rfl (i_front n s1 p i _ (hF0.fr hf (by simp))) ?_
   rintro x s2 ⟨rfl,hf2⟩
   simp (disch:=omega) only [vm0,vm1,vm2,vm3,vm4,vm5,vm6,vm7,vmF,vmT,evo,wr,wrC,frame,Nat.reduceAdd,Nat.reduceMul,Nat.reduceSub,beq_self_eq_true,List.cons_append,List.nil_append,beq_dec,vmI]
   exact ⟨by show num _=num _; simp[IB.seen,hk,hq],hf.trans hf2 (fp2:=[]) (by simp) (by simp)⟩
end
theorem Fr.seq {s s1 s2:St} {fp fp1:List Nat} (h1:Fr s s1 fp) (n1:Nw s fp fp1) (h2:Fr s1 s2 fp1):Fr s s2 fp:=h1.trans h2 (fun b hb _=>hb) (fun b hb hlt=>(n1 b hb).resolve_right (by omega))
theorem Nw.seq {s s1:St} {fp fp1 fp2:List Nat} (h1:Fr s s1 fp) (n1:Nw s fp fp1) (n2:Nw s1 fp1 fp2):Nw s fp fp2:=fun b hb=>(n2 b hb).elim (fun h=>n1 b h) (fun h => .inr (Nat.le_trans h1.1 h))
def setB (b:List Int) (k:Nat) (c:Int):List Int:=(b++List.replicate (k+1-b.length) 0).set k c
def addP (f t:Int) (l:List R):List R:=if max 0 f<min t far then Ranges.addR (max 0 f) (min t far) l else l
def IB.put1 (i:IB) (at_:Int) (c:Int):IB:={ i with b:=setB i.b at_.toNat c,l:=addP at_ (at_+1) i.l }
theorem IsI.setB {s s':St} {p:Nat} {i:IB} {v v':AV} {q:Nat} {fv fv' fq:List Nat} {b':List Int} (h1:s.heap.get p=some (.cells [v,.ptr q 0,num i.w,num i.tk,num i.e,.bool i.kn] .own)) (h3:IsS s q i.l fq) (h4:p∉fv) (h5:p∉fq) (h6:∀ b∈fv,b∉fq) (h7:p<s.next) (k1:OwE s' v' 1 encB b' fv') (k2:Fr s s' fv) (k3:Nw s fv fv') :
  IsI (s'.put p (some (.cells [v',.ptr q 0,num i.w,num i.tk,num i.e,.bool i.kn] .own))) p { i with b:=b' } (p::(fv'++fq))∧Fr s (s'.put p (some (.cells [v',.ptr q 0,num i.w,num i.tk,num i.e,.bool i.kn] .own))) (p::(fv++fq))∧Nw s (p::(fv++fq)) (p::(fv'++fq)):=by
 have h4':p∉fv':=k3.not h4 h7
 have hdq:∀ b∈fq,b∉fv:=fun b hb hm=>h6 b hm hb
 refine ⟨⟨v',fv',q,fq,get_put_eq rfl,k1.fr (fp':=[p]) (.put (.inl (by simp))) (by rintro b hb hm; simp at hm; subst hm; exact h4' hb),(h3.fr k2 hdq).fr (fp':=[p]) (.put (.inl (by simp))) (by rintro b hb hm; simp at hm; subst hm; exact h5 hb),h4',h5,?_,rfl,by rw[next_put]; exact Nat.lt_of_lt_of_le h7 k2.1⟩,?_,?_⟩
 ·intro b hb hm
  rcases k3 b hb with h | h
  ·exact h6 b h hm
  ·have:=h3.lt b hm; omega
 ·exact .put' (.inl (by simp)) (k2.mono fun b hb _=>by simp[hb])
 ·refine Nw.cons (s':=s) ?_ (Nat.le_refl _)
  intro b hb
  rcases List.mem_append.1 hb with hb | hb
  ·rcases k3 b hb with h | h
   ·exact .inl (by simp[h])
   ·exact .inr h
  ·exact .inl (by simp[hb])
section
variable {bd : Bd} {h : VF} {fu : Nat}
theorem i_new (n:Nat) (s:St) (w:Int):OutOk (callF bd (tab h).get fu (n+2) 26 [num w] s) (fun x s'=>∃ p fp,Is x (.ptr p 0)∧IsI s' p ⟨[],[],min (max w 1) 400,0,0,false⟩ fp∧Fr s s' []∧Nw s [] fp):=by
 refine call_code (t26 h) rfl ?_
 obtain ⟨m,hm⟩ : ∃ m,min (max w 1) 400=m:=⟨_,rfl⟩
 rw[hm]
 simp (disch:=omega) only [vm0,vm1,vm2,vm3,vm4,vm5,vm6,vm7,vmF,vmT,evo,wr,wrC,frame,Nat.reduceAdd,Nat.reduceMul,Nat.reduceSub,beq_self_eq_true,List.cons_append,List.nil_append,beq_dec,vmI,vc26,hm]
 refine call_ok rfl rfl (s_new n s) ?_
 rintro x s1 ⟨q,rfl,hq,hf1,hS⟩
 simp (disch:=omega) only [vm0,vm1,vm2,vm3,vm4,vm5,vm6,vm7,vmF,vmT,evo,wr,wrC,frame,Nat.reduceAdd,Nat.reduceMul,Nat.reduceSub,beq_self_eq_true,List.cons_append,List.nil_append,beq_dec,vmI,hm]
 have hql:=hS.lt q (by simp)
 have hfa:Fr s1 (s1.new (.cells [.nils,.ptr q 0,num m,num 0,num 0,.bool false] .own)) [] := .new
 refine ⟨s1.next,[s1.next,q],rfl,⟨.nils,[],q,[q],get_new_eq rfl,.nil encB_w (by omega),hS.fr (fp':=[]) .new (by simp),by simp,by simp; omega,by simp,rfl,by rw[next_new]; omega⟩,hf1.trans hfa (fp2:=[]) (by simp) (by simp),?_⟩
 intro b hb
 have:=hf1.1
 simp at hb
 rcases hb with rfl | rfl <;> right <;> omega
theorem i_last (n:Nat) (s:St) (p:Nat) (i:IB) (fp:List Nat) (hF:IsI s p i fp) (hl:i.l.length<1000000):OutOk (callF bd (tab h).get fu (n+3) 99 [.ptr p 0] s) (fun x s'=>Is x (num (lastR i.l))∧Fr s s' []):=by
 refine call_code (t99 h) rfl ?_
 obtain ⟨v,fv,q,fq,h1,h2,h3,h4,h5,h6,rfl,h7⟩:=hF
 simp (disch:=omega) only [vm0,vm1,vm2,vm3,vm4,vm5,vm6,vm7,vmF,vmT,evo,wr,wrC,frame,Nat.reduceAdd,Nat.reduceMul,Nat.reduceSub,beq_self_eq_true,List.cons_append,List.nil_append,beq_dec,vmI,vc99,h1]
 refine call_ok rfl rfl (s_all n s q i.l fq h3 hl) ?_
 rintro x s1 ⟨f1,q1,q2,q3⟩
 have e1:=q1.rd.lenV
 by_cases h0:i.l.length=0
 ·have hz:(i.l.length:Int)=0:=by omega
  rw[hz] at e1
  simp (disch:=omega) only [vm0,vm1,vm2,vm3,vm4,vm5,vm6,vm7,vmF,vmT,evo,wr,wrC,frame,Nat.reduceAdd,Nat.reduceMul,Nat.reduceSub,beq_self_eq_true,List.cons_append,List.nil_append,beq_dec,vmI,e1]
  have hn:i.l=[]:=List.eq_nil_of_length_eq_zero h0
  exact ⟨by rw[hn]; rfl,q2⟩
 ·obtain ⟨⟨a,b⟩,hx⟩ : ∃ r,i.l[i.l.length-1]?=some r:=⟨_,List.getElem?_eq_getElem (by omega)⟩
  have y1:=q1.rd.ia hx
  have y2:=RdE.f1 q1.rd hx
  have y3:=q1.rd.blk' hx
  have hcast:((i.l.length-1:Nat):Int)=(i.l.length:Int)-1:=by omega
  rw[hcast] at y1
  simp (disch:=omega) only [vm0,vm1,vm2,vm3,vm4,vm5,vm6,vm7,vmF,vmT,evo,wr,wrC,frame,Nat.reduceAdd,Nat.reduceMul,Nat.reduceSub,beq_self_eq_true,List.cons_append,List.nil_append,beq_dec,vmI,e1,y1,y2]
  refine ⟨?_,q2⟩
  show num _=num _
  rw[lastR,List.getLastD_eq_getLast?,List.getLast?_eq_getElem?,hx]; rfl
theorem i_may (n:Nat) (s:St) (p:Nat) (i:IB) (fp:List Nat) (at_:Int) (hF:IsI s p i fp) (hi:i.Ok) (hfu:9000<fu) (ha:-1000000000000000≤at_∧at_≤1000000000000000):OutOk (callF bd (tab h).get fu (n+5) 97 [.ptr p 0,num at_] s) (fun x s'=>Is x (.bool (i.may at_))∧Fr s s' []):=by
 refine call_code (t97 h) rfl ?_
 have hF0:=hF
 obtain ⟨v,fv,q,fq,h1,h2,h3,h4,h5,h6,rfl,h7⟩:=hF
 have hi0:=hi
 obtain ⟨i1,i2,i3,i4,i5,i6⟩:=hi
 by_cases c1:0≤at_
 ·simp (disch:=omega) only [vm0,vm1,vm2,vm3,vm4,vm5,vm6,vm7,vmF,vmT,evo,wr,wrC,frame,Nat.reduceAdd,Nat.reduceMul,Nat.reduceSub,beq_self_eq_true,List.cons_append,List.nil_append,beq_dec,vmI,vc97]
  refine call_ok rfl rfl (i_limit (n+3) s p i _ hF0 hi0) ?_
  rintro x s ⟨rfl,rfl⟩
  by_cases c2:at_<i.limit
  ·cases hk:i.kn
   ·simp (disch:=omega) only [vm0,vm1,vm2,vm3,vm4,vm5,vm6,vm7,vmF,vmT,evo,wr,wrC,frame,Nat.reduceAdd,Nat.reduceMul,Nat.reduceSub,beq_self_eq_true,List.cons_append,List.nil_append,beq_dec,vmI,h1,hk]
    refine call_ok rfl rfl (s_has n s q i.l fq at_ (at_+1) h3 (by omega) (by omega)) ?_
    rintro x s1 ⟨rfl,hf⟩
    simp (disch:=omega) only [vm0,vm1,vm2,vm3,vm4,vm5,vm6,vm7,vmF,vmT,evo,wr,wrC,frame,Nat.reduceAdd,Nat.reduceMul,Nat.reduceSub,beq_self_eq_true,List.cons_append,List.nil_append,beq_dec,vmI]
    exact ⟨by show AV.bool _=AV.bool _; simp[IB.may,c1,c2,hk],hf⟩
   ·by_cases c3:at_<i.e
    ·simp (disch:=omega) only [vm0,vm1,vm2,vm3,vm4,vm5,vm6,vm7,vmF,vmT,evo,wr,wrC,frame,Nat.reduceAdd,Nat.reduceMul,Nat.reduceSub,beq_self_eq_true,List.cons_append,List.nil_append,beq_dec,vmI,h1,hk]
     refine call_ok rfl rfl (s_has n s q i.l fq at_ (at_+1) h3 (by omega) (by omega)) ?_
     rintro x s1 ⟨rfl,hf⟩
     simp (disch:=omega) only [vm0,vm1,vm2,vm3,vm4,vm5,vm6,vm7,vmF,vmT,evo,wr,wrC,frame,Nat.reduceAdd,Nat.reduceMul,Nat.reduceSub,beq_self_eq_true,List.cons_append,List.nil_append,beq_dec,vmI]
     exact ⟨by show AV.bool _=AV.bool _; simp[IB.may,c1,c2,hk,c3],hf⟩
    ·simp (disch:=omega) only [vm0,vm1,vm2,vm3,vm4,vm5,vm6,vm7,vmF,vmT,evo,wr,wrC,frame,Nat.reduceAdd,Nat.reduceMul,Nat.reduceSub,beq_self_eq_true,List.cons_append,List.nil_append,beq_dec,vmI,h1,hk]
     exact ⟨by show AV.bool _=AV.bool _; simp[IB.may,c1,c2,hk,c3],.refl⟩
  ·simp (disch:=omega) only [vm0,vm1,vm2,vm3,vm4,vm5,vm6,vm7,vmF,vmT,evo,wr,wrC,frame,Nat.reduceAdd,Nat.reduceMul,Nat.reduceSub,beq_self_eq_true,List.cons_append,List.nil_append,beq_dec,vmI]
   exact ⟨by show AV.bool _=AV.bool _; simp[IB.may,c1,c2],.refl⟩
 ·simp (disch:=omega) only [vm0,vm1,vm2,vm3,vm4,vm5,vm6,vm7,vmF,vmT,evo,wr,wrC,frame,Nat.reduceAdd,Nat.reduceMul,Nat.reduceSub,beq_self_eq_true,List.cons_append,List.nil_append,beq_dec,vmI,vc97]
  exact ⟨by show AV.bool _=AV.bool _; simp[IB.may,c1],.refl⟩
set_option maxHeartbeats 400000 in
theorem i_put1 (hs:SortOk h) (n:Nat) (s:St) (p:Nat) (i:IB) (fp:List Nat) (k:Nat) (c:Int) (hF:IsI s p i fp) (hi:i.Ok) (hk:k<5000) (hfu:9000<fu):OutOk (callF bd (tab h).get fu (n+3) 98 [.ptr p 0,num (k:Int),byt c] s) (fun x s'=>∃ fp',IsI s' p (i.put1 k c) fp'∧Fr s s' fp∧Nw s fp fp'):=by
 refine call_code (t98 h) rfl ?_
 obtain ⟨i1,i2,i3,i4,i5,i6⟩:=hi
 simp (disch:=omega) only [vm0,vm1,vm2,vm3,vm4,vm5,vm6,vm7,vmF,vmT,evo,wr,wrC,frame,Nat.reduceAdd,Nat.reduceMul,Nat.reduceSub,beq_self_eq_true,List.cons_append,List.nil_append,beq_dec,vmI,vc98]
 refine x_loop (fun m F s'=>∃ j:Nat,∃ x3 fp',m=(k+1-i.b.length)-j∧j≤k+1-i.b.length∧F=[some (.ptr p 0),some (num (k:Int)),some (byt c),x3]∧IsI s' p { i with b:=i.b++List.replicate j 0 } fp'∧Fr s s' fp∧Nw s fp fp') (k+1-i.b.length) (by omega) ?_ ?_
 ·exact ⟨0,_,fp,by omega,by omega,rfl,by simpa using hF,.refl,.refl⟩
 ·rintro m F s1 ⟨j,x3,fp1,rfl,hj,rfl,hF1,hf1,hn1⟩ hm
  obtain ⟨v,fv,q,fq,h1,h2,h3,h4,h5,h6,rfl,h7⟩:=hF1
  have e1:=h2.rd.lenV
  simp only[List.length_append,List.length_replicate] at e1
  by_cases hlt:i.b.length+j≤k
  ·simp (disch:=omega) only [vm0,vm1,vm2,vm3,vm4,vm5,vm6,vm7,vmF,vmT,evo,wr,wrC,frame,Nat.reduceAdd,Nat.reduceMul,Nat.reduceSub,beq_self_eq_true,List.cons_append,List.nil_append,beq_dec,vmI,h1,e1]
   have hfa:Fr s1 (s1.new (.cells [.int .u8 (.c 0)] .own)) [] := .new
   refine op_app1 h2 (by (repeat' (first | exact Fr.refl | assumption | apply Fr.new' | apply Fr.mk' | apply Fr.put')) <;> (first | omega | (left; simp; done) | (right; simp only[next_put,next_new,next_mk]; omega) | (simp only[next_put,next_new,next_mk]; omega))) (x:=0) rfl (by simp; omega) ?_
   intro v' s2 fv' q1 q2 q3
   have h1':=(q2.get h7 h4).trans h1
   simp (disch:=omega) only [vm0,vm1,vm2,vm3,vm4,vm5,vm6,vm7,vmF,vmT,evo,wr,wrC,frame,Nat.reduceAdd,Nat.reduceMul,Nat.reduceSub,beq_self_eq_true,List.cons_append,List.nil_append,beq_dec,vmI,h1',q1.cells]
   obtain ⟨r1,r2,r3⟩:=IsI.setB h1 h3 h4 h5 h6 h7 q1 q2 q3
   refine ⟨k+1-i.b.length-(j+1),by omega,j+1,_,_,rfl,by omega,rfl,?_,Fr.seq hf1 hn1 r2,Nw.seq hf1 hn1 r3⟩
   have ha:i.b++List.replicate (j+1) 0=i.b++List.replicate j 0++[0]:=by rw[List.replicate_succ',List.append_assoc]
   rw[ha]
   exact r1
  ·have hjk:j=k+1-i.b.length:=by omega
   obtain ⟨b1,hb1⟩ : ∃ b1,i.b++List.replicate j 0=b1:=⟨_,rfl⟩
   rw[hb1] at h2
   have hbl:k<b1.length:=by rw[←hb1]; simp; omega
   obtain ⟨x,hx⟩ : ∃ x,b1[k]?=some x:=⟨_,List.getElem?_eq_getElem hbl⟩
   have e2:=h2.rd.ia hx
   obtain ⟨s2,f2,w1,w2,w3,w4,w5⟩:=h2.set hx (j:=0) (y:=byt c) (x':=c) (by omega) rfl
   rw[Nat.add_zero] at w1
   have h1':=(w3.get h7 h4).trans h1
   have h3':IsS s2 q i.l fq:=h3.fr w3 (fun b hb hm=>h6 b hm hb)
   simp only[byt] at w1
   simp (disch:=omega) only [vm0,vm1,vm2,vm3,vm4,vm5,vm6,vm7,vmF,vmT,evo,frame,Nat.reduceAdd,Nat.reduceMul,Nat.reduceSub,beq_self_eq_true,List.cons_append,List.nil_append,beq_dec,h1,e1,e2,w1]
   simp (disch:=omega) only [vm0,vm1,vm2,vm3,vm4,vm5,vm6,vm7,vmF,vmT,evo,frame,Nat.reduceAdd,Nat.reduceMul,Nat.reduceSub,beq_self_eq_true,List.cons_append,List.nil_append,beq_dec,h1',wr64]
   have hX:=s_add hs (bd:=bd) (fu:=fu) n s2 q i.l fq (k:Int) ((k:Int)+1) h3' i1 (by omega) (by omega)
   generalize hz:(k:Int)+1=z at hX ⊢
   generalize hy:(k:Int)=y at hX ⊢
   refine call_ok rfl rfl hX ?_
   subst hz hy
   rintro x s3 ⟨fq',r1,r2,r3⟩
   simp (disch:=omega) only [vm0,vm1,vm2,vm3,vm4,vm5,vm6,vm7,vmF,vmT,evo,wr,wrC,frame,Nat.reduceAdd,Nat.reduceMul,Nat.reduceSub,beq_self_eq_true,List.cons_append,List.nil_append,beq_dec,vmI]
   have hput:setB i.b k c=b1.set k c:=by unfold setB; rw[←hb1,hjk]
   have hfq:∀ b∈f2,b∉fq':=fun b hb hm=>by
    rcases r3 b hm with h | h
    ·exact h6 b (w5 b hb) h
    ·have:=w2.lt b hb; omega
   have hpe:i.put1 k c=⟨b1.set k c,addP k (k+1) i.l,i.w,i.tk,i.e,i.kn⟩:=by unfold IB.put1; rw[Int.toNat_natCast,hput]
   rw[hpe]
   have r1':IsS s3 q (addP k (k+1) i.l) fq':=r1
   have w2':OwE s3 v 1 encB (b1.set k c) f2:=w2.fr r2 (fun b hb=>h6 b (w5 b hb))
   have hp3:=(r2.get (Nat.lt_of_lt_of_le h7 w3.1) h5).trans h1'
   generalize addP (k:Int) ((k:Int)+1) i.l=L at *
   generalize b1.set k c=B at *
   have hF3:IsI s3 p ⟨B,L,i.w,i.tk,i.e,i.kn⟩ (p::(f2++fq')):=⟨v,f2,q,fq',hp3,w2',r1',fun hm=>h4 (w5 p hm),r3.not h5 (Nat.lt_of_lt_of_le h7 w3.1),hfq,rfl,Nat.lt_of_lt_of_le (Nat.lt_of_lt_of_le h7 w3.1) r2.1⟩
   have g1:Fr s1 s3 (p::(fv++fq)):=(w3.mono (fp':=p::(fv++fq)) (fun b hb _=>by simp[hb])).trans r2 (fun b hb _=>hb) (fun b hb _=>by simp[hb])
   have g2:Nw s1 (p::(fv++fq)) (p::(f2++fq')):=by
    refine Nw.cons (s':=s1) ?_ (Nat.le_refl _)
    intro b hb
    rcases List.mem_append.1 hb with hb | hb
    ·exact .inl (by simp[w5 b hb])
    ·rcases r3 b hb with h | h
     ·exact .inl (by simp[h])
     ·exact .inr (by omega)
   exact ⟨_,hF3,Fr.seq hf1 hn1 g1,Nw.seq hf1 hn1 g2⟩
end
def mem (l:List R) (p:Int):Prop:=∃ r∈l,r.1≤p∧p<r.2
theorem mem_nil {p:Int}:¬mem [] p:=by rintro ⟨r,h,_⟩; simp at h
theorem mem_cons {r:R} {l:List R} {p:Int}:mem (r::l) p↔(r.1≤p∧p<r.2)∨mem l p:=by
 simp[mem]
theorem mem_addR:∀ {l:List R} {f t p b:Int},WFr b l→f<t→(mem (Ranges.addR f t l) p↔mem l p∨(f≤p∧p<t))
 | [],f,t,p,b,_,_=>by simp[Ranges.addR,mem]
 | r::l,f,t,p,b,hw,h=>by
  obtain ⟨h1,h2,h3,h4⟩:=hw
  unfold Ranges.addR
  split
  ·rw[mem_cons,mem_addR h4 h,mem_cons]; grind
  ·split
   ·rw[mem_cons,mem_cons]; grind
   ·rw[mem_addR h4 (by omega),mem_cons]
    constructor
    ·rintro (h | ⟨h5,h6⟩)
     ·exact .inl (.inr h)
     ·by_cases c1:f≤p∧p<t
      ·exact .inr c1
      ·exact .inl (.inl (by omega))
    ·rintro ((h | h) | h)
     ·exact .inr (by omega)
     ·exact .inl h
     ·exact .inr (by omega)
theorem addP_eq {f:Int} {l:List R} (h0:0≤f) (h2:f<1000000):addP f (f+1) l=Ranges.addR f (f+1) l:=by
 have hf:far=1099511627776:=rfl
 unfold addP
 rw[show max 0 f=f by omega,show min (f+1) far=f+1 by omega,if_pos (by omega)]
theorem mem_addP {f p:Int} {l:List R} (hw:WFr 0 l) (h0:0≤f) (h2:f<1000000):mem (addP f (f+1) l) p↔mem l p∨p=f:=by
 rw[addP_eq h0 h2,mem_addR hw (by omega)]
 constructor
 ·rintro (h | h)
  ·exact .inl h
  ·exact .inr (by omega)
 ·rintro (h | h)
  ·exact .inl h
  ·exact .inr (by omega)
theorem addP_wf {f:Int} {l:List R} (hw:WFr 0 l) (h0:0≤f) (h2:f<1000000):WFr 0 (addP f (f+1) l):=by
 have hf:far=1099511627776:=rfl
 rw[addP_eq h0 h2]
 exact addR_wf hw h0 (by omega) (by omega)
theorem mem_lb {l:List R} {b p:Int} (hw:WFr b l) (h:mem l p):b≤p:=by
 obtain ⟨r,h1,h2,h3⟩:=h
 have:=hw.lb r h1
 omega
theorem front_cons (r:R) (l:List R):frontR (r::l)=if r.1=0 then r.2 else 0:=by
 unfold frontR
 by_cases h:r.1=0 <;> simp[h]
theorem front_bd {l:List R} (hw:WFr 0 l):0≤frontR l∧frontR l≤far:=by
 cases l with
 | nil=>simp[frontR,far]
 | cons r l =>
  obtain ⟨h1,h2,h3,h4⟩:=hw
  rw[front_cons]
  by_cases h:r.1=0
  ·rw[if_pos h]; omega
  ·rw[if_neg h]; simp[far]
theorem front_mem {l:List R} (hw:WFr 0 l) {p:Int} (h0:0≤p) (h:p<frontR l):mem l p:=by
 cases l with
 | nil=>simp[frontR] at h; omega
 | cons r l =>
  rw[front_cons] at h
  by_cases hc:r.1=0
  ·rw[if_pos hc] at h
   exact mem_cons.2 (.inl (by omega))
  ·rw[if_neg hc] at h; omega
theorem front_not {l:List R} (hw:WFr 0 l):¬mem l (frontR l):=by
 cases l with
 | nil=>exact mem_nil
 | cons r l =>
  obtain ⟨h1,h2,h3,h4⟩:=hw
  rw[front_cons,mem_cons]
  by_cases hc:r.1=0
  ·rw[if_pos hc]
   rintro (h | h)
   ·omega
   ·have:=mem_lb h4 h; omega
  ·rw[if_neg hc]
   rintro (h | h)
   ·omega
   ·have:=mem_lb h4 h
    omega
theorem front_mono {l l':List R} (hw:WFr 0 l) (hw':WFr 0 l') (h:∀ p,mem l p→mem l' p):frontR l≤frontR l':=by
 by_cases hc:frontR l≤frontR l'
 ·exact hc
 ·exact absurd (h _ (front_mem hw (front_bd hw').1 (by omega))) (front_not hw')
theorem wf_len:∀ {l:List R} {b M:Int},WFr b l→(∀ r∈l,r.2≤M)→b≤M+2→(2*l.length:Int)≤M+2-b
 | [],b,M,_,_,h=>by simp; omega
 | r::l,b,M,hw,hm,h=>by
  obtain ⟨h1,h2,h3,h4⟩:=hw
  have:=hm r (by simp)
  have:=wf_len h4 (fun r hr=>hm r (by simp[hr])) (by omega)
  simp only[List.length_cons]
  omega
theorem addR_le:∀ {l:List R} {f t M:Int},(∀ r∈l,r.2≤M)→t≤M→∀ r∈Ranges.addR f t l,r.2≤M
 | [],f,t,M,_,ht=>by intro r hr; simp[Ranges.addR] at hr; subst hr; exact ht
 | r::l,f,t,M,h,ht=>by
  unfold Ranges.addR
  intro x hx
  split at hx
  ·rcases List.mem_cons.1 hx with rfl | hx
   ·exact h _ (by simp)
   ·exact addR_le (fun r hr=>h r (by simp[hr])) ht x hx
  ·split at hx
   ·rcases List.mem_cons.1 hx with rfl | hx
    ·exact ht
    ·exact h x hx
   ·have:=h r (by simp)
    exact addR_le (fun r hr=>h r (by simp[hr])) (by omega) x hx
structure IB.Good (i:IB):Prop where
 wf:WFr 0 i.l
 w:0≤i.w∧i.w≤400
 tk:0≤i.tk∧i.tk≤frontR i.l
 lim:i.tk+i.w≤4600
 e:0≤i.e∧i.e≤4096
 rb:∀ r∈i.l,r.2≤(i.b.length:Int)
 bl:(i.b.length:Int)≤i.tk+i.w
theorem IB.Good.ok {i:IB} (h:i.Good):i.Ok:=by
 obtain ⟨h1,h2,h3,h4,h5,h6,h7⟩:=h
 have:=wf_len h1 h6 (by omega)
 exact ⟨h1,by omega,by omega,by omega,by omega,by omega⟩
theorem IB.Good.front {i:IB} (h:i.Good):frontR i.l≤(i.b.length:Int):=by
 obtain ⟨h1,h2,h3,h4,h5,h6,h7⟩:=h
 cases hl:i.l with
 | nil=>simp[frontR]
 | cons r l =>
  rw[front_cons]
  have:=h6 r (by rw[hl]; simp)
  split <;> omega
theorem setB_len (b:List Int) (k:Nat) (c:Int):(setB b k c).length=max b.length (k+1):=by
 unfold setB
 simp
 omega
theorem IB.may_lt {i:IB} {at_:Int} (h:i.may at_=true):0≤at_∧at_<i.limit:=by
 simp only[IB.may,Bool.and_eq_true,decide_eq_true_eq] at h
 exact ⟨h.1.1.1,h.1.1.2⟩
theorem IB.Good.put1 {i:IB} {at_ c:Int} (h:i.Good) (hm:i.may at_=true):(i.put1 at_ c).Good:=by
 have hlt:=IB.may_lt hm
 obtain ⟨h1,h2,h3,h4,h5,h6,h7⟩:=h
 unfold IB.limit at hlt
 have hbl:((setB i.b at_.toNat c).length:Int)=max (i.b.length:Int) (at_+1):=by rw[setB_len]; omega
 refine ⟨addP_wf h1 hlt.1 (by omega),h2,⟨h3.1,?_⟩,h4,h5,?_,?_⟩
 ·exact Int.le_trans h3.2 (front_mono h1 (addP_wf h1 hlt.1 (by omega)) fun p hp=>(mem_addP h1 hlt.1 (by omega)).2 (.inl hp))
 ·show ∀ r∈addP at_ (at_+1) i.l,r.2≤((setB i.b at_.toNat c).length:Int)
  rw[addP_eq hlt.1 (by omega)]
  exact addR_le (fun r hr=>by have:=h6 r hr; omega) (by omega)
 ·show ((setB i.b at_.toNat c).length:Int)≤i.tk+i.w
  omega
def fd (q:IB×Int×Int) (c:Int):IB×Int×Int:=if q.1.may q.2.2=true then (q.1.put1 q.2.2 c,q.2.1+1,q.2.2+1) else (q.1,q.2.1,q.2.2+1)
def feed (i:IB) (from_:Int) (l:List Int):IB×Int×Int:=l.foldl fd (i,0,from_)
theorem feed_take {i:IB} {from_:Int} {l:List Int} {k:Nat} {x:Int} (hx:l[k]?=some x):feed i from_ (l.take (k+1))=fd (feed i from_ (l.take k)) x:=by
 unfold feed
 rw[List.take_add_one,hx,List.foldl_append]; rfl
theorem feed_good {i:IB} (h:i.Good) (from_:Int) (l:List Int):(feed i from_ l).1.Good∧(feed i from_ l).2.2=from_+l.length∧0≤(feed i from_ l).2.1∧(feed i from_ l).2.1≤l.length∧(feed i from_ l).1.tk=i.tk∧(feed i from_ l).1.w=i.w∧(feed i from_ l).1.e=i.e∧(feed i from_ l).1.kn=i.kn:=by
 suffices key:∀ (l:List Int) (q:IB×Int×Int),q.1.Good→0≤q.2.1→(l.foldl fd q).1.Good∧(l.foldl fd q).2.2=q.2.2+l.length∧0≤(l.foldl fd q).2.1∧(l.foldl fd q).2.1≤q.2.1+l.length∧(l.foldl fd q).1.tk=q.1.tk∧(l.foldl fd q).1.w=q.1.w∧(l.foldl fd q).1.e=q.1.e∧(l.foldl fd q).1.kn=q.1.kn by
  have:=key l (i,0,from_) h (Int.le_refl _)
  simpa [feed] using this
 intro l
 induction l with
 | nil=>intro q h h0; simp[h,h0]
 | cons c l ih =>
  intro q h h0
  rw[List.foldl_cons]
  by_cases hm:q.1.may q.2.2=true
  ·have e:fd q c=(q.1.put1 q.2.2 c,q.2.1+1,q.2.2+1):=if_pos hm
   obtain ⟨a1,a2,a3,a4,a5,a6,a7,a8⟩:=ih (fd q c) (by rw[e]; exact h.put1 hm) (by rw[e]; show 0≤q.2.1+1; omega)
   rw[e] at a1 a2 a3 a4 a5 a6 a7 a8 ⊢
   refine ⟨a1,?_,a3,?_,a5,a6,a7,a8⟩
   ·rw[a2]; simp only[List.length_cons]; omega
   ·simp only[List.length_cons] at *; omega
  ·have e:fd q c=(q.1,q.2.1,q.2.2+1):=if_neg hm
   obtain ⟨a1,a2,a3,a4,a5,a6,a7,a8⟩:=ih (fd q c) (by rw[e]; exact h) (by rw[e]; exact h0)
   rw[e] at a1 a2 a3 a4 a5 a6 a7 a8 ⊢
   refine ⟨a1,?_,a3,?_,a5,a6,a7,a8⟩
   ·rw[a2]; simp only[List.length_cons]; omega
   ·simp only[List.length_cons] at *; omega
def putE (i:IB) (from_ end_:Int) (fin:Bool):IB:=if fin=true∧i.kn=false∧from_≤4096∧0≤end_∧end_≤4096∧lastR i.l≤end_ then { i with e:=end_,kn:=true } else i
def IB.put (i:IB) (from_:Int) (l:List Int) (fin:Bool):IB:=putE (feed i from_ l).1 from_ (from_+l.length) fin
def IB.new_ (i:IB) (from_:Int) (l:List Int):Int:=(feed i from_ l).2.1
theorem IB.Good.put {i:IB} (h:i.Good) (from_:Int) (l:List Int) (fin:Bool):(i.put from_ l fin).Good:=by
 have hg:=(feed_good h from_ l).1
 unfold IB.put putE
 split
 ·rename_i hc
  obtain ⟨h1,h2,h3,h4,h5,h6,h7⟩:=hg
  exact ⟨h1,h2,h3,h4,⟨hc.2.2.2.1,hc.2.2.2.2.1⟩,h6,h7⟩
 ·exact hg
section
variable {bd : Bd} {h : VF} {fu : Nat}
set_option maxHeartbeats 400000 in
theorem i_put (hs:SortOk h) (n:Nat) (s:St) (p:Nat) (i:IB) (fp:List Nat) (from_:Int) (v:AV) (l:List Int) (fin:Bool) (hF:IsI s p i fp) (hi:i.Good) (hf:-10000000000000≤from_∧from_≤10000000000000) (hv:RdE s v 1 encB l) (ho:vout fp v) (hl:l.length<5000) (hfu:9000<fu) :
  OutOk (callF bd (tab h).get fu (n+6) 48 [.ptr p 0,num from_,v,.bool fin] s) (fun x s'=>∃ fp',Is x (num (i.new_ from_ l))∧IsI s' p (i.put from_ l fin) fp'∧Fr s s' fp∧Nw s fp fp'):=by
 refine call_code (t48 h) rfl ?_
 simp (disch:=omega) only [vm0,vm1,vm2,vm3,vm4,vm5,vm6,vm7,vmF,vmT,evo,wr,wrC,frame,Nat.reduceAdd,Nat.reduceMul,Nat.reduceSub,beq_self_eq_true,List.cons_append,List.nil_append,beq_dec,vmI,vc48,hv.lenV]
 refine x_loop (fun m F s'=>∃ j:Nat,∃ z x6 x9 x11 x12 fp',m=l.length-j∧j≤l.length∧z=(j:Int)∧F=[some (.ptr p 0),some (num from_),some v,some (.bool fin),some (num z),none,x6,some (num (feed i from_ (l.take j)).2.1),some (num (l.length:Int)),x9,some v,x11,x12,none,some (num 0)]∧IsI s' p (feed i from_ (l.take j)).1 fp'∧Fr s s' fp∧Nw s fp fp') l.length (by omega) ?_ ?_
 ·exact ⟨0,_,_,_,_,_,fp,by omega,by omega,rfl,rfl,hF,.refl,.refl⟩
 ·rintro m F s1 ⟨j,_,x6,x9,x11,x12,fp1,rfl,hj,rfl,rfl,hF1,hf1,hn1⟩ hm
  obtain ⟨g1,g2,g3,g4,g5,g6,g7,g8⟩:=feed_good hi from_ (l.take j)
  rw[List.length_take,Nat.min_eq_left hj] at g2 g4
  have hv1:=hv.fr hf1 ho
  by_cases hlt:j<l.length
  ·obtain ⟨c,hx⟩ : ∃ c,l[j]?=some c:=⟨_,List.getElem?_eq_getElem hlt⟩
   have hft:=feed_take (i:=i) (from_:=from_) hx
   obtain ⟨⟨i1,n1,a1⟩,hq⟩ : ∃ q,feed i from_ (l.take j)=q:=⟨_,rfl⟩
   rw[hq] at hF1 g1 g2 g3 g4 g5 g6 g7 g8 hft
   rw[hq]
   dsimp only at hF1 g1 g2 g3 g4 g5 g6 g7 g8
   have e1:=hv1.ia hx
   have e2:ob (s1.heap.get (sblk v)) (rd1C (soff v+j*1))=some (byt c):=rd_1 (hv1.at hx)
   have e3:=hv1.blk' hx
   simp (disch:=omega) only [vm0,vm1,vm2,vm3,vm4,vm5,vm6,vm7,vmF,vmT,evo,wr,wrC,frame,Nat.reduceAdd,Nat.reduceMul,Nat.reduceSub,beq_self_eq_true,List.cons_append,List.nil_append,beq_dec,vmI,e1,e2]
   refine call_ok rfl rfl (i_limit (n+4) s1 p i1 fp1 hF1 g1.ok) ?_
   rintro x s1 ⟨rfl,rfl⟩
   by_cases c1:i1.limit<from_
   ·have hmay:i1.may a1=false:=by
     rcases Bool.eq_false_or_eq_true (i1.may a1) with hh | hh
     ·have:=IB.may_lt hh; omega
     ·exact hh
    have hfd:fd (i1,n1,a1) c=(i1,n1,a1+1):=if_neg (by simp[hmay])
    rw[hfd] at hft
    simp (disch:=omega) only [vm0,vm1,vm2,vm3,vm4,vm5,vm6,vm7,vmF,vmT,evo,wr,wrC,frame,Nat.reduceAdd,Nat.reduceMul,Nat.reduceSub,beq_self_eq_true,List.cons_append,List.nil_append,beq_dec,vmI]
    exact ⟨l.length-(j+1),by omega,j+1,(j:Int)+1,_,_,_,_,fp1,rfl,by omega,by omega,by rw[hft],by rw[hft]; exact hF1,hf1,hn1⟩
   ·have hba:-10000000000000≤a1∧a1≤100000000000000:=by omega
    have hsum:from_+(j:Int)=a1:=by omega
    simp (disch:=omega) only [vm0,vm1,vm2,vm3,vm4,vm5,vm6,vm7,vmF,vmT,evo,wr,wrC,frame,Nat.reduceAdd,Nat.reduceMul,Nat.reduceSub,beq_self_eq_true,List.cons_append,List.nil_append,beq_dec,vmI,hsum]
    refine call_ok rfl rfl (i_may n s1 p i1 fp1 a1 hF1 g1.ok (by omega) (by omega)) ?_
    rintro x s2 ⟨rfl,hf2⟩
    have hF2:=hF1.fr hf2 (by simp)
    have hf12:=Fr.seq hf1 hn1 (hf2.mono (fp':=fp1) (by simp))
    rcases Bool.eq_false_or_eq_true (i1.may a1) with hmay | hmay
    ·have hfd:fd (i1,n1,a1) c=(i1.put1 a1 c,n1+1,a1+1):=if_pos hmay
     rw[hfd] at hft
     have hml:=IB.may_lt hmay
     have hok:=g1.ok
     have hlm:=g1.lim
     unfold IB.limit at hml
     obtain ⟨k,hk⟩ : ∃ k:Nat,a1=(k:Int):=⟨a1.toNat,by omega⟩
     have hX:=i_put1 hs (bd:=bd) (fu:=fu) (n+2) s2 p i1 fp1 k c hF2 hok (by omega) hfu
     rw[←hk] at hX
     rw[hmay]
     simp (disch:=omega) only [vm0,vm1,vm2,vm3,vm4,vm5,vm6,vm7,vmF,vmT,evo,wr,wrC,frame,Nat.reduceAdd,Nat.reduceMul,Nat.reduceSub,beq_self_eq_true,List.cons_append,List.nil_append,beq_dec,vmI,hsum]
     refine call_ok rfl rfl hX ?_
     rintro x s3 ⟨fp3,q1,q2,q3⟩
     simp (disch:=omega) only [vm0,vm1,vm2,vm3,vm4,vm5,vm6,vm7,vmF,vmT,evo,wr,wrC,frame,Nat.reduceAdd,Nat.reduceMul,Nat.reduceSub,beq_self_eq_true,List.cons_append,List.nil_append,beq_dec,vmI]
     exact ⟨l.length-(j+1),by omega,j+1,(j:Int)+1,_,_,_,_,fp3,rfl,by omega,by omega,by rw[hft],by rw[hft]; exact q1,Fr.seq hf12 hn1 q2,Nw.seq hf12 hn1 q3⟩
    ·have hfd:fd (i1,n1,a1) c=(i1,n1,a1+1):=if_neg (by simp[hmay])
     rw[hfd] at hft
     rw[hmay]
     simp (disch:=omega) only [vm0,vm1,vm2,vm3,vm4,vm5,vm6,vm7,vmF,vmT,evo,wr,wrC,frame,Nat.reduceAdd,Nat.reduceMul,Nat.reduceSub,beq_self_eq_true,List.cons_append,List.nil_append,beq_dec,vmI]
     exact ⟨l.length-(j+1),by omega,j+1,(j:Int)+1,_,_,_,_,fp1,rfl,by omega,by omega,by rw[hft],by rw[hft]; exact hF2,hf12,hn1⟩
  ·have htk:l.take j=l:=List.take_of_length_le (by omega)
   rw[htk] at hF1 g1 g2 g3 g4 g5 g6 g7 g8 ⊢
   obtain ⟨⟨i1,n1,a1⟩,hq⟩ : ∃ q,feed i from_ l=q:=⟨_,rfl⟩
   have hN:i.new_ from_ l=n1:=by unfold IB.new_; rw[hq]
   have hP:i.put from_ l fin=putE i1 from_ (from_+l.length) fin:=by unfold IB.put; rw[hq]
   rw[hN,hP]
   rw[hq] at hF1 g1 g2 g3 g4 g5 g6 g7 g8 ⊢
   dsimp only at hF1 g1 g2 g3 g4 g5 g6 g7 g8 ⊢
   obtain ⟨z,hz⟩ : ∃ z,from_+(l.length:Int)=z:=⟨_,rfl⟩
   have hno:¬(fin=true∧i1.kn=false∧from_≤4096∧0≤z∧z≤4096∧lastR i1.l≤z)→putE i1 from_ z fin=i1:=fun hc=>if_neg hc
   rw[hz]
   have hF0:=hF1
   obtain ⟨u,fv,q,fq,k1,k2,k3,k4,k5,k6,rfl,k7⟩:=hF1
   cases fin
   ·rw[hno (by simp)]
    simp (disch:=omega) only [vm0,vm1,vm2,vm3,vm4,vm5,vm6,vm7,vmF,vmT,evo,wr,wrC,frame,Nat.reduceAdd,Nat.reduceMul,Nat.reduceSub,beq_self_eq_true,List.cons_append,List.nil_append,beq_dec,vmI,hv1.lenV,hz]
    exact ⟨_,rfl,hF0,hf1,hn1⟩
   ·cases hk:i1.kn
    ·by_cases c1:from_≤4096
     ·by_cases c2:0≤z
      ·by_cases c3:z≤4096
       ·simp (disch:=omega) only [vm0,vm1,vm2,vm3,vm4,vm5,vm6,vm7,vmF,vmT,evo,wr,wrC,frame,Nat.reduceAdd,Nat.reduceMul,Nat.reduceSub,beq_self_eq_true,List.cons_append,List.nil_append,beq_dec,vmI,hv1.lenV,hz,k1,hk]
        refine call_ok rfl rfl (i_last (n+2) s1 p i1 _ hF0 (by have:=g1.ok.l; omega)) ?_
        rintro x s2 ⟨rfl,hf2⟩
        have hF2:=hF0.fr hf2 (by simp)
        have hf12:=Fr.seq hf1 hn1 (hf2.mono (fp':=p::(fv++fq)) (by simp))
        have k1':=(hf2.get k7 (by simp)).trans k1
        by_cases c4:lastR i1.l≤z
        ·have hyes:putE i1 from_ z true={ i1 with e:=z,kn:=true }:=if_pos ⟨rfl,hk,c1,c2,c3,c4⟩
         rw[hyes]
         simp (disch:=omega) only [vm0,vm1,vm2,vm3,vm4,vm5,vm6,vm7,vmF,vmT,evo,wr,wrC,frame,Nat.reduceAdd,Nat.reduceMul,Nat.reduceSub,beq_self_eq_true,List.cons_append,List.nil_append,beq_dec,vmI,k1',hk]
         refine ⟨p::(fv++fq),rfl,⟨u,fv,q,fq,get_put_eq rfl,(k2.fr0 hf2).fr (fp':=[p]) (.put' (.inl (by simp)) (.put (.inl (by simp)))) (by rintro b hb hm; simp at hm; subst hm; exact k4 hb),(k3.fr hf2 (by simp)).fr (fp':=[p]) (.put' (.inl (by simp)) (.put (.inl (by simp)))) (by rintro b hb hm; simp at hm; subst hm; exact k5 hb),k4,k5,k6,rfl,by rw[next_put,next_put]; exact Nat.lt_of_lt_of_le k7 hf2.1⟩,Fr.seq hf12 hn1 (.put' (.inl (by simp)) (.put (.inl (by simp)))),hn1⟩
        ·rw[hno (by simp[c4])]
         simp (disch:=omega) only [vm0,vm1,vm2,vm3,vm4,vm5,vm6,vm7,vmF,vmT,evo,wr,wrC,frame,Nat.reduceAdd,Nat.reduceMul,Nat.reduceSub,beq_self_eq_true,List.cons_append,List.nil_append,beq_dec,vmI,k1',hk]
         exact ⟨_,rfl,hF2,hf12,hn1⟩
       ·rw[hno (by simp[c3])]
        simp (disch:=omega) only [vm0,vm1,vm2,vm3,vm4,vm5,vm6,vm7,vmF,vmT,evo,wr,wrC,frame,Nat.reduceAdd,Nat.reduceMul,Nat.reduceSub,beq_self_eq_true,List.cons_append,List.nil_append,beq_dec,vmI,hv1.lenV,hz,k1,hk]
        exact ⟨_,rfl,hF0,hf1,hn1⟩
      ·rw[hno (by simp[c2])]
       simp (disch:=omega) only [vm0,vm1,vm2,vm3,vm4,vm5,vm6,vm7,vmF,vmT,evo,wr,wrC,frame,Nat.reduceAdd,Nat.reduceMul,Nat.reduceSub,beq_self_eq_true,List.cons_append,List.nil_append,beq_dec,vmI,hv1.lenV,hz,k1,hk]
       exact ⟨_,rfl,hF0,hf1,hn1⟩
     ·rw[hno (by simp[c1])]
      simp (disch:=omega) only [vm0,vm1,vm2,vm3,vm4,vm5,vm6,vm7,vmF,vmT,evo,wr,wrC,frame,Nat.reduceAdd,Nat.reduceMul,Nat.reduceSub,beq_self_eq_true,List.cons_append,List.nil_append,beq_dec,vmI,hv1.lenV,hz,k1,hk]
      exact ⟨_,rfl,hF0,hf1,hn1⟩
    ·rw[hno (by simp[hk])]
     simp (disch:=omega) only [vm0,vm1,vm2,vm3,vm4,vm5,vm6,vm7,vmF,vmT,evo,wr,wrC,frame,Nat.reduceAdd,Nat.reduceMul,Nat.reduceSub,beq_self_eq_true,List.cons_append,List.nil_append,beq_dec,vmI,hv1.lenV,hz,k1,hk]
     exact ⟨_,rfl,hF0,hf1,hn1⟩
end
theorem Sep.hdw {s0 s:St} {P:Obj} {Ps:List Obj} (h:Sep s0 s (P::Ps)):∃ f,P.P s f∧∀ (P' Q:Obj) {s':St} {g:List Nat},P'.P s' f→Q.P s' g→Fr s s' f→Nw s [] g→Sep s0 s' (Q::P'::Ps):=by
 obtain ⟨fp,⟨f,g1,h1,h2,h3,rfl⟩,h4,h5⟩:=h
 refine ⟨f,h1,fun P' Q s' g k1 k2 k3 k4=>?_⟩
 have hd:∀ b∈g1,b∉f:=fun b hb hm=>h3 b hm hb
 refine ⟨g++(f++g1),⟨g,f++g1,k2,⟨f,g1,k1,h2.fr k3 hd,h3,rfl⟩,?_,rfl⟩,?_,h5.nn k3 fun b hb=>h4 b (by simp[hb])⟩
 ·intro b hb hm
  have hge:s.next≤b:=by rcases k4 b hb with hh | hh; (· simp at hh); (· exact hh)
  rcases List.mem_append.1 hm with hm | hm
  ·have:=P.lt h1 b hm; omega
  ·have:=h2.lt b hm; omega
 ·intro b hb
  rcases List.mem_append.1 hb with hb | hb
  ·rcases k4 b hb with hh | hh
   ·simp at hh
   ·exact .inr (Nat.le_trans h5.1 hh)
  ·exact h4 b (by simp only[List.mem_append] at *; exact hb)
def IB.n_ (i:IB) (k:Int):Int:=min (max 0 k) i.ready
def IB.read (i:IB) (k:Int):IB:={ i with tk:=i.tk+i.n_ k }
def IB.out (i:IB) (k:Int):List Int:=(i.b.take (i.tk+i.n_ k).toNat).drop i.tk.toNat
theorem IB.Good.n_bd {i:IB} (h:i.Good) (k:Int):0≤i.n_ k∧i.tk+i.n_ k≤(i.b.length:Int)∧i.tk+i.n_ k≤frontR i.l:=by
 have h1:=h.front
 obtain ⟨_,_,h3,_,_,_,_⟩:=h
 unfold IB.n_ IB.ready
 omega
section
variable {bd : Bd} {h : VF} {fu : Nat}
theorem i_read (n:Nat) (s:St) (p:Nat) (i:IB) (fp:List Nat) (k:Int) (hF:IsI s p i fp) (hi:i.Good):OutOk (callF bd (tab h).get fu (n+5) 34 [.ptr p 0,num k] s) (fun x s'=>∃ fo,OwE s' x 1 encB (i.out k) fo∧IsI s' p (i.read k) fp∧Fr s s' fp∧Nw s [] fo):=by
 refine call_code (t34 h) rfl ?_
 have hfr:=front_bd hi.wf
 have hbd:=hi.n_bd k
 have hfr2:=hi.front
 obtain ⟨m,hm⟩ : ∃ m,i.n_ k=m:=⟨_,rfl⟩
 have hm0:min (max 0 k) i.ready=m:=hm
 unfold IB.out IB.read
 rw[hm] at hbd ⊢
 simp (disch:=omega) only [vm0,vm1,vm2,vm3,vm4,vm5,vm6,vm7,vmF,vmT,evo,wr,wrC,frame,Nat.reduceAdd,Nat.reduceMul,Nat.reduceSub,beq_self_eq_true,List.cons_append,List.nil_append,beq_dec,vmI,vc34]
 refine call_ok rfl rfl (i_ready n s p i fp hF hi.ok hfr) ?_
 rintro x s1 ⟨rfl,hf1⟩
 have hF1:=hF.fr hf1 (by simp)
 obtain ⟨v,fv,q,fq,h1,h2,h3,h4,h5,h6,rfl,h7⟩:=hF1
 obtain ⟨i1,i2,i3,i4,i5,i6,i7⟩:=hi
 obtain ⟨w,g1,r1⟩:=h2.rd.sli' (a:=i.tk) (b:=i.tk+m) (by omega) (by omega) (by omega)
 have hol:((i.b.take (i.tk+m).toNat).drop i.tk.toNat).length≤4600:=by simp; omega
 simp (disch:=omega) only [vm0,vm1,vm2,vm3,vm4,vm5,vm6,vm7,vmF,vmT,evo,wr,wrC,frame,Nat.reduceAdd,Nat.reduceMul,Nat.reduceSub,beq_self_eq_true,List.cons_append,List.nil_append,beq_dec,vmI,hm0,h1,g1,r1.lenOf,r1.cellsOf]
 refine op_app (.nil encB_w (by omega)) (by (repeat' (first | exact Fr.refl | assumption | apply Fr.new' | apply Fr.mk' | apply Fr.put')) <;> (first | omega | (left; simp; done) | (right; simp only[next_put,next_new,next_mk]; omega) | (simp only[next_put,next_new,next_mk]; omega))) (new:=(i.b.take (i.tk+m).toNat).drop i.tk.toNat) rfl rfl (by simp only[List.length_nil]; omega) ?_
 intro v' s2 fo k1 k2 k3
 have h1':=(k2.get h7 (by simp)).trans h1
 simp (disch:=omega) only [vm0,vm1,vm2,vm3,vm4,vm5,vm6,vm7,vmF,vmT,evo,wr,wrC,frame,Nat.reduceAdd,Nat.reduceMul,Nat.reduceSub,beq_self_eq_true,List.cons_append,List.nil_append,beq_dec,vmI,h1',hm0]
 have hpf:p∉fo:=fun hm=>by have:=k3 p hm; simp at this; omega
 refine ⟨fo,by simpa using k1.fr (fp':=[p]) (.put (.inl (by simp))) (by rintro b hb hm; simp at hm; subst hm; exact hpf hb),⟨v,fv,q,fq,get_put_eq rfl,(h2.fr0 k2).fr (fp':=[p]) (.put (.inl (by simp))) (by rintro b hb hm; simp at hm; subst hm; exact h4 hb),(h3.fr k2 (by simp)).fr (fp':=[p]) (.put (.inl (by simp))) (by rintro b hb hm; simp at hm; subst hm; exact h5 hb),h4,h5,h6,rfl,by rw[next_put]; exact Nat.lt_of_lt_of_le h7 k2.1⟩,.put' (.inl (by simp)) ((hf1.trans k2 (fp2:=[]) (by simp) (by simp)).mono (by simp)),fun b hb=>?_⟩
 rcases k3 b hb with hh | hh
 ·simp at hh
 ·exact .inr (Nat.le_trans hf1.1 hh)
theorem IB.Good.read {i:IB} (h:i.Good) (k:Int) (hl:i.tk+i.n_ k+i.w≤4600):(i.read k).Good:=by
 have hb:=h.n_bd k
 obtain ⟨i1,i2,i3,i4,i5,i6,i7⟩:=h
 exact ⟨i1,i2,⟨by show 0≤i.tk+i.n_ k; omega,by show i.tk+i.n_ k≤frontR i.l; omega⟩,hl,i5,i6,by show (i.b.length:Int)≤i.tk+i.n_ k+i.w; omega⟩
theorem e_read (n:Nat) {s0:St} (s:St) (p:Nat) (i:IB) (Ps:List Obj) (k:Int) (hS:Sep s0 s (oI p i::Ps)) (hi:i.Good):OutOk (callF bd (tab h).get fu (n+5) 34 [.ptr p 0,num k] s) (fun x s'=>RdE s' x 1 encB (i.out k)∧Sep s0 s' (oW x 1 encB (i.out k)::oI p (i.read k)::Ps)):=by
 obtain ⟨f,k1,up⟩:=hS.hdw
 exact (i_read n s p i f k k1 hi).mono fun x s' ⟨fo,r1,r2,r3,r4⟩=>⟨r1.rd,up (oI _ _) (oW x 1 encB _) r2 r1 r3 r4⟩
theorem e_limit (n:Nat) {s0:St} (s:St) (p:Nat) (i:IB) (Ps:List Obj) (hS:Sep s0 s (oI p i::Ps)) (hi:i.Good):OutOk (callF bd (tab h).get fu (n+1) 50 [.ptr p 0] s) (fun x s'=>Is x (num i.limit)∧Is s' s):=by
 obtain ⟨f,k1,up⟩:=hS.hd
 exact i_limit n s p i f k1 hi.ok
theorem e_taken (n:Nat) {s0:St} (s:St) (p:Nat) (i:IB) (Ps:List Obj) (hS:Sep s0 s (oI p i::Ps)):OutOk (callF bd (tab h).get fu (n+1) 66 [.ptr p 0] s) (fun x s'=>Is x (num i.tk)∧Is s' s):=by
 obtain ⟨f,k1,up⟩:=hS.hd
 exact i_taken n s p i f k1
theorem e_done (n:Nat) {s0:St} (s:St) (p:Nat) (i:IB) (Ps:List Obj) (hS:Sep s0 s (oI p i::Ps)):OutOk (callF bd (tab h).get fu (n+1) 68 [.ptr p 0] s) (fun x s'=>Is x (.bool i.done)∧Is s' s):=by
 obtain ⟨f,k1,up⟩:=hS.hd
 exact i_done n s p i f k1
theorem e_ready (n:Nat) {s0:St} (s:St) (p:Nat) (i:IB) (Ps:List Obj) (hS:Sep s0 s (oI p i::Ps)) (hi:i.Good):OutOk (callF bd (tab h).get fu (n+4) 67 [.ptr p 0] s) (fun x s'=>Is x (num i.ready)∧Sep s0 s' (oI p i::Ps)):=by
 obtain ⟨f,k1,up⟩:=hS.hd
 exact (i_ready n s p i f k1 hi.ok (front_bd hi.wf)).mono fun x s' ⟨r1,r2⟩=>⟨r1,hS.fr r2⟩
theorem e_seen (n:Nat) {s0:St} (s:St) (p:Nat) (i:IB) (Ps:List Obj) (hS:Sep s0 s (oI p i::Ps)) (hi:i.Good):OutOk (callF bd (tab h).get fu (n+4) 49 [.ptr p 0] s) (fun x s'=>Is x (num i.seen)∧Sep s0 s' (oI p i::Ps)):=by
 obtain ⟨f,k1,up⟩:=hS.hd
 exact (i_seen n s p i f k1 hi.ok).mono fun x s' ⟨r1,r2⟩=>⟨r1,hS.fr r2⟩
theorem new_good {w:Int}:(⟨[],[],min (max w 1) 400,0,0,false⟩ : IB).Good:=⟨trivial,by show 0≤min (max w 1) 400∧min (max w 1) 400≤400; omega,⟨Int.le_refl _,by show (0:Int)≤frontR []; simp[frontR]⟩,by show 0+min (max w 1) 400≤4600; omega,⟨Int.le_refl _,by show (0:Int)≤4096; omega⟩,by simp,by show ((0:Nat):Int)≤0+min (max w 1) 400; omega⟩
end
end Go.Proofs.YtlgbkpaihjnjpaaGreat.ctr
namespace Go.Proofs.YtlgbkpaihjnjpaaGreat.ctr
open Go Go.Vm Go.RowKit
section
variable {bd : Bd} {h : VF} {fu : Nat}
theorem cvs_b {L F:LF} {s:St} {x:Od} {v:AV} {l:List Int} (h1:ev L F x=some v) (hv:RdE s v 1 encB l) (h8:∀ x∈l,In8 x):fCvs L F s x=some (.str (l.map .c)):=by
 have hb:∀ l:List Int,(∀ x∈l,In8 x)→bytesOf (l.flatMap encB)=some (l.map .c):=by
  intro l
  induction l with
  | nil=>intro _; rfl
  | cons c l ih =>
   intro h8
   have hc:=h8 c (by simp)
   show cnd (decide (IntKind.u8 = .u8)&&(decide (0≤c)&&decide (c≤255))) (ob (bytesOf (l.flatMap encB)) fun l=>some (AI.c c::l)) none=_
   rw[ih fun x hx=>h8 x (by simp[hx]),dec_t hc.1,dec_t hc.2]; rfl
 unfold fCvs
 rw[h1]
 have hs:=hv.rd.sl
 have ha:=hv.rd.all
 have hl:=hv.rd.len
 cases v with
 | sl b o len lo ex z =>
  obtain ⟨rfl,_⟩:=hs
  have ha':rd s b o (len*1)=some (l.flatMap encB):=ha
  show ob (rd s b o len) (fun cs=>ob (bytesOf cs) fun l=>some (AV.str l))=_
  rw[Nat.mul_one] at ha'
  rw[ha']
  show ob (bytesOf (l.flatMap encB)) _=_
  rw[hb l h8]; rfl
 | nils =>
  have:l=[]:=by
   have:=flat_len encB_w l
   rw[hl] at this; simp[slen] at this
   exact List.eq_nil_of_length_eq_zero (by omega)
  subst this; rfl
 | emp =>
  have:l=[]:=by
   have:=flat_len encB_w l
   rw[hl] at this; simp[slen] at this
   exact List.eq_nil_of_length_eq_zero (by omega)
  subst this; rfl
 | _=>exact hs.elim
theorem eqE_s {bd:Bd}:∀ {l m:List Int},eqE bd .s (.str (l.map .c)) (.str (m.map .c))=some (decide (l=m))
 | [],[]=>rfl
 | [],_::_=>rfl
 | _::_,[]=>rfl
 | x::l,y::m=>by
  have ih:=eqE_s (bd:=bd) (l:=l) (m:=m)
  show ob (eqI bd .u8 (.c x) (.c y)) (fun b=>cnd b (eqAIs bd (l.map .c) (m.map .c)) (some false))=_
  have e:eqI bd .u8 (.c x) (.c y)=some (decide (x=y)):=rfl
  rw[e]
  by_cases hxy:x=y
  ·subst hxy
   rw[dec_t rfl]
   show eqAIs bd (l.map .c) (m.map .c)=_
   have ih':eqAIs bd (l.map .c) (m.map .c)=some (decide (l=m)):=ih
   rw[ih']; simp
  ·rw[dec_f hxy]
   show some false=_
   rw[dec_f (fun h=>hxy (by cases h; rfl))]
theorem v_equal (n:Nat) (s:St) (v w:AV) (l m:List Int) (hv:RdE s v 1 encB l) (hw:RdE s w 1 encB m) (h8:∀ x∈l,In8 x) (h9:∀ x∈m,In8 x) :
  OutOk (callF bd (tab h).get fu (n+1) 105 [v,w] s) (fun y s'=>Is y (.bool (decide (l=m)))∧Is s' s):=by
 refine call_code (t105 h) rfl ?_
 simp (disch:=omega) only [vm0,vm1,vm2,vm3,vm4,vm5,vm6,vm7,vmF,vmT,evo,wr,wrC,frame,Nat.reduceAdd,Nat.reduceMul,Nat.reduceSub,beq_self_eq_true,List.cons_append,List.nil_append,beq_dec,vmI,vc105]
 rw[cvs_b (x := .w 0) rfl hv h8]
 simp (disch:=omega) only [vm0,vm1,vm2,vm3,vm4,vm5,vm6,vm7,vmF,vmT,evo,wr,wrC,frame,Nat.reduceAdd,Nat.reduceMul,Nat.reduceSub,beq_self_eq_true,List.cons_append,List.nil_append,beq_dec,vmI]
 rw[cvs_b (x := .w 1) rfl hw h9]
 simp (disch:=omega) only [vm0,vm1,vm2,vm3,vm4,vm5,vm6,vm7,vmF,vmT,evo,wr,wrC,frame,Nat.reduceAdd,Nat.reduceMul,Nat.reduceSub,beq_self_eq_true,List.cons_append,List.nil_append,beq_dec,vmI,eqE_s]
 exact ⟨rfl,rfl⟩
theorem cloneB (n:Nat) (s:St) (v:AV) (l:List Int) (hv:RdE s v 1 encB l) (hf:l.length≤140737488351232) :
  OutOk (callF bd (tab h).get fu (n+1) 107 [v] s) (fun x s'=>∃ fp,OwE s' x 1 encB l fp∧Fr s s' []∧Nw s [] fp) :=
 (clone_lim (t107 h) (by omega) n s v l hv (by rw[lim_1]; omega)).mono fun x s' ⟨fp,h1,h2,h3,_⟩=>⟨fp,h1,h2,h3⟩
end
end Go.Proofs.YtlgbkpaihjnjpaaGreat.ctr
namespace Go.Proofs.YtlgbkpaihjnjpaaGreat.ctr
open Go.Vm Go.RowKit Go.Ranges
section
variable {bd : Bd} {h : VF} {fu : Nat}
theorem d_write (n:Nat) {s0:St} (s:St) (p:Nat) (o:OB) (v:AV) (l:List Int) (Ps:List Obj) (hS:Sep s0 s (oO p o::Ps)) (hv:RdE s v 1 encB l) (hl:o.b.length<100000) (hl2:(l.length:Int)<4611686018427387904) (hb:-1000000000≤o.buffer∧o.buffer≤1000000000) (ha:-1000000000≤o.acked∧o.acked≤1000000000) (hfu:10<fu) :
  OutOk (callF bd (tab h).get fu (n+3) 29 [.ptr p 0,v] s) (fun x s'=>Is x (num (o.room l.length))∧Sep s0 s' (oO p (o.write l)::Ps)):=by
 obtain ⟨f,k1,up⟩:=hS.hd
 exact (o_write n s p o f v l k1 hv hl hl2 hb ha hfu).mono fun x s' ⟨f',r1,r2,r3,r4⟩=>⟨r1,up (oO p _) r2 r3 r4⟩
theorem d_close (n:Nat) {s0:St} (s:St) (p:Nat) (o:OB) (Ps:List Obj) (hS:Sep s0 s (oO p o::Ps)):OutOk (callF bd (tab h).get fu (n+1) 53 [.ptr p 0] s) (fun x s'=>Is x (.bool (!o.closed))∧Sep s0 s' (oO p { o with closed:=true }::Ps)):=by
 obtain ⟨f,k1,up⟩:=hS.hd
 exact (o_close n s p o f k1).mono fun x s' ⟨r1,r2,r3,r4⟩=>⟨r1,up (oO p _) r2 r3 (fun b hb => .inl hb)⟩
theorem d_ack (n:Nat) {s0:St} (s:St) (p:Nat) (o:OB) (k:Int) (Ps:List Obj) (hS:Sep s0 s (oO p o::Ps)) (hl:o.b.length<1000000):OutOk (callF bd (tab h).get fu (n+2) 52 [.ptr p 0,num k] s) (fun x s'=>Is x (.bool (o.ackOk k))∧Sep s0 s' (oO p (o.ack k)::Ps)):=by
 obtain ⟨f,k1,up⟩:=hS.hd
 exact (o_ack n s p o f k k1 hl).mono fun x s' ⟨r1,r2,r3,r4⟩=>⟨r1,up (oO p _) r2 r3 (fun b hb => .inl hb)⟩
theorem d_acked (n:Nat) {s0:St} (s:St) (p:Nat) (o:OB) (Ps:List Obj) (hS:Sep s0 s (oO p o::Ps)):OutOk (callF bd (tab h).get fu (n+1) 63 [.ptr p 0] s) (fun x s'=>Is x (num o.acked)∧Is s' s):=by
 obtain ⟨f,k1,up⟩:=hS.hd
 exact o_acked n s p o f k1
theorem d_len (n:Nat) {s0:St} (s:St) (p:Nat) (o:OB) (Ps:List Obj) (hS:Sep s0 s (oO p o::Ps)):OutOk (callF bd (tab h).get fu (n+1) 60 [.ptr p 0] s) (fun x s'=>Is x (num (o.b.length:Int))∧Is s' s):=by
 obtain ⟨f,k1,up⟩:=hS.hd
 exact o_len n s p o f k1
theorem d_places (n:Nat) {s0:St} (s:St) (p:Nat) (o:OB) (Ps:List Obj) (hS:Sep s0 s (oO p o::Ps)) (hl:o.b.length<1000000):OutOk (callF bd (tab h).get fu (n+1) 89 [.ptr p 0] s) (fun x s'=>Is x (num o.places)∧Is s' s):=by
 obtain ⟨f,k1,up⟩:=hS.hd
 exact o_places n s p o f k1 hl
theorem d_piece (n:Nat) {s0:St} (s:St) (p:Nat) (o:OB) (Ps:List Obj) (a b:Int) (hS:Sep s0 s (oO p o::Ps)) (hl:o.b.length<100000) (h0:0≤a) (h1:a≤b) (h2:b≤o.places) :
  OutOk (callF bd (tab h).get fu (n+2) 126 [.ptr p 0,num a,num b] s) (fun x s'=>∃ u,Is x (.tup [u,.bool (decide (a≤(o.b.length:Int))&&decide ((o.b.length:Int)<b))])∧Sep s0 s' (oW u 1 encB ((o.b.take (min b (o.b.length:Int)).toNat).drop (min a (o.b.length:Int)).toNat)::oO p o::Ps)):=by
 have hpl:=o.places_bd
 refine call_code (t126 h) rfl ?_
 simp (disch:=omega) only [vm0,vm1,vm2,vm3,vm4,vm5,vm6,vm7,vmF,vmT,evo,wr,wrC,frame,Nat.reduceAdd,Nat.reduceMul,Nat.reduceSub,beq_self_eq_true,List.cons_append,List.nil_append,beq_dec,vmI,vc126]
 refine call_ok rfl rfl (d_places n s p o Ps hS (by omega)) ?_
 rintro x s ⟨rfl,rfl⟩
 obtain ⟨f,⟨v,fv,q1,q2,q3,rfl,q5⟩,up⟩:=hS.hd
 have e1:=q2.rd.lenV
 obtain ⟨A,hA⟩ : ∃ A,min a (o.b.length:Int)=A:=⟨_,rfl⟩
 obtain ⟨B,hB⟩ : ∃ B,min b (o.b.length:Int)=B:=⟨_,rfl⟩
 obtain ⟨w,g1,g2⟩:=q2.rd.sli' (a:=A) (b:=B) (by omega) (by omega) (by omega)
 rw[hA,hB]
 simp (disch:=omega) only [vm0,vm1,vm2,vm3,vm4,vm5,vm6,vm7,vmF,vmT,evo,wr,wrC,frame,Nat.reduceAdd,Nat.reduceMul,Nat.reduceSub,beq_self_eq_true,List.cons_append,List.nil_append,beq_dec,vmI,q1,e1,hA,hB,g1]
 refine call_ok rfl rfl (cloneB n s w _ g2 (by simp; omega)) ?_
 rintro x s' ⟨fp',k1,k2,k3⟩
 by_cases c1:a≤(o.b.length:Int)
 ·by_cases c2:(o.b.length:Int)<b
  ·simp (disch:=omega) only [vm0,vm1,vm2,vm3,vm4,vm5,vm6,vm7,vmF,vmT,evo,wr,wrC,frame,Nat.reduceAdd,Nat.reduceMul,Nat.reduceSub,beq_self_eq_true,List.cons_append,List.nil_append,beq_dec,vmI]
   exact ⟨x,rfl,hS.push (P:=oW x 1 encB _) k1 k2 k3⟩
  ·simp (disch:=omega) only [vm0,vm1,vm2,vm3,vm4,vm5,vm6,vm7,vmF,vmT,evo,wr,wrC,frame,Nat.reduceAdd,Nat.reduceMul,Nat.reduceSub,beq_self_eq_true,List.cons_append,List.nil_append,beq_dec,vmI]
   exact ⟨x,rfl,hS.push (P:=oW x 1 encB _) k1 k2 k3⟩
 ·simp (disch:=omega) only [vm0,vm1,vm2,vm3,vm4,vm5,vm6,vm7,vmF,vmT,evo,wr,wrC,frame,Nat.reduceAdd,Nat.reduceMul,Nat.reduceSub,beq_self_eq_true,List.cons_append,List.nil_append,beq_dec,vmI]
  exact ⟨x,rfl,hS.push (P:=oW x 1 encB _) k1 k2 k3⟩
end
end Go.Proofs.YtlgbkpaihjnjpaaGreat.ctr
