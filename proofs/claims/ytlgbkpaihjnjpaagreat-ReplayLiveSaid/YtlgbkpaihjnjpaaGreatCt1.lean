/- Rules for a few steps more; an element of a slice is written. -/
import Derived.Test.YtlgbkpaihjnjpaaGreatCt0
set_option linter.unusedVariables false
set_option linter.unusedSimpArgs false
set_option linter.unusedSectionVars false
set_option linter.constructorNameAsVariable false
set_option linter.defProp false
namespace Go.Vm
noncomputable def mmV (bd:Bd) (mx:Bool) (l:List AV):Option AV:=List.casesOn l none fun x r=>x.onInt (fun k a=>mms bd mx k a r) none
theorem f_mm' {bd:Bd} {L F:LF} {mx:Bool} {xs:List Od}:fMM bd L F mx xs=ob (evs L F xs) (mmV bd mx):=rfl
theorem mmV_c {bd:Bd} {mx:Bool} {k:IntKind} {a:Int} {r:List AV}:mmV bd mx (.int k (.c a)::r)=mms bd mx k (.c a) r:=rfl
def vmI:=And.intro @f_mm' <| And.intro @mmV_c <| @wr64
def vmF:=And.intro @fPick.eq_1 <| And.intro @fBox.eq_1 <| And.intro @fBuild.eq_1 <| And.intro @fBsl.eq_1 <| And.intro @fLd.eq_1 <| And.intro @fLda.eq_1 <| And.intro @fSt.eq_1 <| And.intro @fNilc.eq_1 <| And.intro @fBin.eq_1 <| And.intro @fEq.eq_1 <| And.intro @fUn.eq_1 <| And.intro @fMkf.eq_1 <| And.intro @fFa.eq_1 <| And.intro @fFld.eq_1 <| And.intro @fFlda.eq_1 <| And.intro @fExt.eq_1 <| @fApp.eq_1
def vmT:=And.intro @Bool.not_true <| And.intro @Bool.not_false <| And.intro @Bool.and_true <| And.intro @Bool.true_and <| And.intro @Bool.and_self <| And.intro @Nat.add_zero <| And.intro @Nat.zero_add <| And.intro @Nat.sub_zero <| @Int.toNat_natCast
theorem OwE.set {α:Type} {s:St} {v:AV} {sz:Nat} {enc:α→List AV} {l:List α} {fp:List Nat} (h:OwE s v sz enc l fp) {i j:Nat} {x x':α} {y:AV} (hx:l[i]?=some x) (hj:j<sz) (he:(enc x).set j y=enc x') :
  ∃ s' fp',wr s (sblk v) (soff v+i*sz+j) [y]=some s'∧OwE s' v sz enc (l.set i x') fp'∧Fr s s' fp∧s'.next=s.next∧(∀ b∈fp',b∈fp):=by
 have hw:=h.wid
 have hi:i<l.length:=(List.getElem?_eq_some_iff.1 hx).1
 rcases h.ow with ⟨_,h0,_⟩ | ⟨b,len,lo,ex,k,J,rfl,h2,h3,h4,h5⟩
 ·have:=flat_len hw l
  rw[h0] at this
  rcases Nat.mul_eq_zero.1 this.symm with h | h
  ·omega
  ·have:=h.symm; have hp:=‹OwE s v sz enc l fp›.pos; omega
 ·have hlen:len=l.length:=h.len
  have hb:i*sz+j<(l.flatMap enc).length:=by
   rw[h3,hlen]
   calc i*sz+j<i*sz+sz:=by omega
    _=(i+1)*sz:=by rw[Nat.succ_mul]
    _≤l.length*sz:=Nat.mul_le_mul_right _ hi
  obtain ⟨s',w1,w2,w3,w4⟩:=wr_in (i:=0+i*sz+j) h4 h5 (ys:=[y]) (by simp only[List.length_append,List.length_cons,List.length_nil]; omega)
  have hbf:b∈fp:=by rcases h5 with ⟨_,rfl⟩ | ⟨m,_,_,rfl⟩ <;> simp
  have hsp:l.flatMap enc=(l.take i).flatMap enc++(enc x++(l.drop (i+1)).flatMap enc):=by
   have:l=l.take i++(x::l.drop (i+1)):=by
    rw[←List.getElem?_eq_some_iff.1 hx |>.2,←List.drop_eq_getElem_cons hi,List.take_append_drop]
   conv=>lhs; rw[this]
   simp[List.flatMap_append,List.flatMap_cons]
  have hti:((l.take i).flatMap enc).length=i*sz:=by rw[flat_len hw,List.length_take,Nat.min_eq_left (by omega)]
  have hnew:(l.flatMap enc++J).take (0+i*sz+j)++[y]++(l.flatMap enc++J).drop (0+i*sz+j+1)=(l.set i x').flatMap enc++J:=by
   have h1:(l.flatMap enc++J).take (0+i*sz+j)++[y]++(l.flatMap enc++J).drop (0+i*sz+j+1)=(l.flatMap enc++J).set (i*sz+j) y:=by
    rw[Nat.zero_add,List.set_eq_take_append_cons_drop,if_pos (by simp only[List.length_append]; omega)]
    simp
   rw[h1,List.set_append_left _ _ hb,hsp,List.set_append_right _ _ (by rw[hti]; omega),hti,List.set_append_left _ _ (by rw[hw]; omega),show i*sz+j-i*sz=j by omega,he]
   rw[List.set_eq_take_append_cons_drop,if_pos hi,List.flatMap_append,List.flatMap_cons]
   try simp
  rw[List.length_cons,List.length_nil,hnew] at w3
  refine ⟨s',[b],w1,⟨.inr ⟨b,len,lo,ex,.own,J,rfl,h2,?_,w3,.inl ⟨rfl,rfl⟩⟩,hw,h.pos,fun z hz=>?_⟩,w4,w2,fun z hz=>?_⟩
  ·rw[flat_len hw,List.length_set,hlen]
  ·simp at hz; subst hz; rw[w2]; exact h.lt z hbf
  ·simp at hz; subst hz; exact hbf
end Go.Vm
