/- What functions of the program compute, one by one (4). -/
import Derived.Test.YtlgbkpaihjnjpaaGreatCtcc
set_option linter.unusedVariables false
set_option linter.unusedSimpArgs false
set_option linter.unusedSectionVars false
set_option linter.constructorNameAsVariable false
set_option linter.defProp false
namespace Go.Proofs.YtlgbkpaihjnjpaaGreat.ctr
open Go Go.Vm Go.RowKit
structure PkV where
 k:Int
 pt:Int
 nr:Int
 of_:Int
 fr:Int
 d:List Int
 fin:Bool
 se:Int
 li:Int
 deriving DecidableEq
def PkV.cs (p:PkV) (u:AV):List AV:=[num p.k,num p.pt,num p.nr,num p.of_,num p.fr,u,.bool p.fin,num p.se,num p.li]
noncomputable def cvV (s:St) (x:AV):Option AV:=x.onSlice (some (.str [])) (fun b o len _ _ _=>ob (rd s b o len) fun cs=>ob (bytesOf cs) fun l=>some (.str l)) (some (.str [])) none
theorem f_cvs {L F:LF} {s:St} {x:Od}:fCvs L F s x=ob (ev L F x) (cvV s):=rfl
theorem cvV_is {s:St} {v:AV} {l:List Int} (hv:RdE s v 1 encB l) (h8:∀ x∈l,In8 x):cvV s v=some (.str (l.map .c)):=by
 have:=cvs_b (L:=[some v]) (F:=[]) (x := .t 0) (v:=v) rfl hv h8
 exact this
theorem bq1:(true==false)=false:=rfl
theorem bq2:(false==true)=false:=rfl
section
variable {bd : Bd} {h : VF} {fu : Nat}
set_option maxHeartbeats 1000000 in
theorem p_same (n:Nat) (s:St) (a b:PkV) (u w:AV) (hu:RdE s u 1 encB a.d) (hw:RdE s w 1 encB b.d) (h8:∀ x∈a.d,In8 x) (h9:∀ x∈b.d,In8 x) :
  OutOk (callF bd (tab h).get fu (n+2) 106 [.agg (a.cs u),.agg (b.cs w)] s) (fun x s'=>Is x (.bool (decide (a=b)))∧Fr s s' []):=by
 refine call_code (t106 h) rfl ?_
 obtain ⟨k,pt,nr,of_,fr,d,fin,se,li⟩:=a
 obtain ⟨k',pt',nr',of_',fr',d',fin',se',li'⟩:=b
 dsimp only[PkV.cs] at *
 have hfa:Fr s ((s.new (.cells [num k,num pt,num nr,num of_,num fr,u,.bool fin,num se,num li] .own)).new (.cells [num k',num pt',num nr',num of_',num fr',w,.bool fin',num se',num li'] .own)) []:=by exact (by (repeat' (first | exact Fr.refl | assumption | apply Fr.new' | apply Fr.mk' | apply Fr.put')) <;> (first | omega | (left; simp; done) | (right; simp only[next_put,next_new,next_mk]; omega) | (simp only[next_put,next_new,next_mk]; omega)))
 have g1:((s.new (.cells [num k,num pt,num nr,num of_,num fr,u,.bool fin,num se,num li] .own)).new (.cells [num k',num pt',num nr',num of_',num fr',w,.bool fin',num se',num li'] .own)).heap.get s.next=some (.cells [num k,num pt,num nr,num of_,num fr,u,.bool fin,num se,num li] .own):=by
  rw[get_new_ne (by rw[next_new]; omega)]; exact get_new_eq rfl
 have g2:((s.new (.cells [num k,num pt,num nr,num of_,num fr,u,.bool fin,num se,num li] .own)).new (.cells [num k',num pt',num nr',num of_',num fr',w,.bool fin',num se',num li'] .own)).heap.get (s.next+1)=some (.cells [num k',num pt',num nr',num of_',num fr',w,.bool fin',num se',num li'] .own):=get_new_eq (by simp only[next_new])
 have hu2:=hu.fr0 hfa
 have hw2:=hw.fr0 hfa
 have c1:=cvV_is hu2 h8
 have c2:=cvV_is hw2 h9
 by_cases qk:k=k'
 case neg =>
  simp (disch:=omega) only [vm0,vm1,vm2,vm3,vm4,vm5,vm6,vm7,vmF,vmT,evo,wr,wrC,frame,Nat.reduceAdd,Nat.reduceMul,Nat.reduceSub,beq_self_eq_true,List.cons_append,List.nil_append,beq_dec,vmI,vc106,g1,g2,f_cvs,c1,c2,eqE_s,bq1,bq2]
  exact ⟨by rw[decide_eq_false (by intro e; injection e; contradiction)]; rfl,hfa⟩
 subst qk
 by_cases qpt:pt=pt'
 case neg =>
  simp (disch:=omega) only [vm0,vm1,vm2,vm3,vm4,vm5,vm6,vm7,vmF,vmT,evo,wr,wrC,frame,Nat.reduceAdd,Nat.reduceMul,Nat.reduceSub,beq_self_eq_true,List.cons_append,List.nil_append,beq_dec,vmI,vc106,g1,g2,f_cvs,c1,c2,eqE_s,bq1,bq2]
  exact ⟨by rw[decide_eq_false (by intro e; injection e; contradiction)]; rfl,hfa⟩
 subst qpt
 by_cases qnr:nr=nr'
 case neg =>
  simp (disch:=omega) only [vm0,vm1,vm2,vm3,vm4,vm5,vm6,vm7,vmF,vmT,evo,wr,wrC,frame,Nat.reduceAdd,Nat.reduceMul,Nat.reduceSub,beq_self_eq_true,List.cons_append,List.nil_append,beq_dec,vmI,vc106,g1,g2,f_cvs,c1,c2,eqE_s,bq1,bq2]
  exact ⟨by rw[decide_eq_false (by intro e; injection e; contradiction)]; rfl,hfa⟩
 subst qnr
 by_cases qof_:of_=of_'
 case neg =>
  simp (disch:=omega) only [vm0,vm1,vm2,vm3,vm4,vm5,vm6,vm7,vmF,vmT,evo,wr,wrC,frame,Nat.reduceAdd,Nat.reduceMul,Nat.reduceSub,beq_self_eq_true,List.cons_append,List.nil_append,beq_dec,vmI,vc106,g1,g2,f_cvs,c1,c2,eqE_s,bq1,bq2]
  exact ⟨by rw[decide_eq_false (by intro e; injection e; contradiction)]; rfl,hfa⟩
 subst qof_
 by_cases qfr:fr=fr'
 case neg =>
  simp (disch:=omega) only [vm0,vm1,vm2,vm3,vm4,vm5,vm6,vm7,vmF,vmT,evo,wr,wrC,frame,Nat.reduceAdd,Nat.reduceMul,Nat.reduceSub,beq_self_eq_true,List.cons_append,List.nil_append,beq_dec,vmI,vc106,g1,g2,f_cvs,c1,c2,eqE_s,bq1,bq2]
  exact ⟨by rw[decide_eq_false (by intro e; injection e; contradiction)]; rfl,hfa⟩
 subst qfr
 simp (disch:=omega) only [vm0,vm1,vm2,vm3,vm4,vm5,vm6,vm7,vmF,vmT,evo,wr,wrC,frame,Nat.reduceAdd,Nat.reduceMul,Nat.reduceSub,beq_self_eq_true,List.cons_append,List.nil_append,beq_dec,vmI,vc106,g1,g2]
 refine call_ok rfl rfl (v_equal n _ u w d d' hu2 hw2 h8 h9) ?_
 rintro y s2 ⟨rfl,rfl⟩
 by_cases qd:d=d'
 case neg =>
  have hdd:decide (d=d')=false:=decide_eq_false qd
  simp (disch:=omega) only [vm0,vm1,vm2,vm3,vm4,vm5,vm6,vm7,vmF,vmT,evo,wr,wrC,frame,Nat.reduceAdd,Nat.reduceMul,Nat.reduceSub,beq_self_eq_true,List.cons_append,List.nil_append,beq_dec,vmI,g1,g2,hdd,bq1,bq2]
  exact ⟨by rw[decide_eq_false (by intro e; injection e; contradiction)]; rfl,hfa⟩
 subst qd
 have hdd:decide (d=d)=true:=by simp
 by_cases qfin:fin=fin'
 case neg =>
  have hff:(fin==fin')=false:=by simpa using qfin
  simp (disch:=omega) only [vm0,vm1,vm2,vm3,vm4,vm5,vm6,vm7,vmF,vmT,evo,wr,wrC,frame,Nat.reduceAdd,Nat.reduceMul,Nat.reduceSub,beq_self_eq_true,List.cons_append,List.nil_append,beq_dec,vmI,g1,g2,hdd,hff,bq1,bq2]
  exact ⟨by rw[decide_eq_false (by intro e; injection e; contradiction)]; rfl,hfa⟩
 subst qfin
 by_cases qse:se=se'
 case neg =>
  simp (disch:=omega) only [vm0,vm1,vm2,vm3,vm4,vm5,vm6,vm7,vmF,vmT,evo,wr,wrC,frame,Nat.reduceAdd,Nat.reduceMul,Nat.reduceSub,beq_self_eq_true,List.cons_append,List.nil_append,beq_dec,vmI,g1,g2,hdd,bq1,bq2]
  exact ⟨by rw[decide_eq_false (by intro e; injection e; contradiction)]; rfl,hfa⟩
 subst qse
 by_cases qli:li=li'
 case neg =>
  simp (disch:=omega) only [vm0,vm1,vm2,vm3,vm4,vm5,vm6,vm7,vmF,vmT,evo,wr,wrC,frame,Nat.reduceAdd,Nat.reduceMul,Nat.reduceSub,beq_self_eq_true,List.cons_append,List.nil_append,beq_dec,vmI,g1,g2,hdd,bq1,bq2]
  exact ⟨by rw[decide_eq_false (by intro e; injection e; contradiction)]; rfl,hfa⟩
 subst qli
 simp (disch:=omega) only [vm0,vm1,vm2,vm3,vm4,vm5,vm6,vm7,vmF,vmT,evo,wr,wrC,frame,Nat.reduceAdd,Nat.reduceMul,Nat.reduceSub,beq_self_eq_true,List.cons_append,List.nil_append,beq_dec,vmI,g1,g2,hdd,bq1,bq2]
 exact ⟨rfl,hfa⟩
end
structure EvV where
 k:Int
 n:Int
 d:List Int
 p:PkV
 deriving DecidableEq
def EvV.cs (e:EvV) (u w:AV):List AV:=[num e.k,num e.n,u,num e.p.k,num e.p.pt,num e.p.nr,num e.p.of_,num e.p.fr,w,.bool e.p.fin,num e.p.se,num e.p.li]
def pk0:PkV:=⟨0,0,0,0,0,[],false,0,0⟩
def PkV.right (p:PkV):Bool :=
 decide (1≤p.k∧p.k≤4∧0≤p.pt∧p.pt≤2∧0≤p.nr∧p.nr≤65535) &&
 (if p.k=2∨p.k=4 then decide (0≤p.of_∧p.of_≤65535) else decide (p.of_=0)) &&
 (if p.k=3 then decide (0≤p.fr∧p.fr≤4096∧p.d.length≤64∧p.fr+p.d.length≤4096) else (decide (p.fr=0)&&decide (p.d=[])&&!p.fin)) &&
 (if p.k=4 then decide (0≤p.se∧p.se≤4097∧0≤p.li∧p.li≤4496) else decide (p.se=0∧p.li=0))
section
variable {bd : Bd} {h : VF} {fu : Nat}
theorem e_same (n:Nat) (s:St) (a b:EvV) (u v u' v':AV) (hu:RdE s u 1 encB a.d) (hv:RdE s v 1 encB a.p.d) (hu':RdE s u' 1 encB b.d) (hv':RdE s v' 1 encB b.p.d) (h8:∀ x∈a.d,In8 x) (h8p:∀ x∈a.p.d,In8 x) (h9:∀ x∈b.d,In8 x) (h9p:∀ x∈b.p.d,In8 x) :
  OutOk (callF bd (tab h).get fu (n+3) 57 [.agg (a.cs u v),.agg (b.cs u' v')] s) (fun x s'=>Is x (.bool (decide (a=b)))∧Fr s s' []):=by
 refine call_code (t57 h) rfl ?_
 obtain ⟨k,m,d,p⟩:=a
 obtain ⟨k',m',d',p'⟩:=b
 dsimp only[EvV.cs] at *
 have hfa:Fr s ((s.new (.cells [num k,num m,u,num p.k,num p.pt,num p.nr,num p.of_,num p.fr,v,.bool p.fin,num p.se,num p.li] .own)).new (.cells [num k',num m',u',num p'.k,num p'.pt,num p'.nr,num p'.of_,num p'.fr,v',.bool p'.fin,num p'.se,num p'.li] .own)) []:=by exact (by (repeat' (first | exact Fr.refl | assumption | apply Fr.new' | apply Fr.mk' | apply Fr.put')) <;> (first | omega | (left; simp; done) | (right; simp only[next_put,next_new,next_mk]; omega) | (simp only[next_put,next_new,next_mk]; omega)))
 have g1:((s.new (.cells [num k,num m,u,num p.k,num p.pt,num p.nr,num p.of_,num p.fr,v,.bool p.fin,num p.se,num p.li] .own)).new (.cells [num k',num m',u',num p'.k,num p'.pt,num p'.nr,num p'.of_,num p'.fr,v',.bool p'.fin,num p'.se,num p'.li] .own)).heap.get s.next=some (.cells [num k,num m,u,num p.k,num p.pt,num p.nr,num p.of_,num p.fr,v,.bool p.fin,num p.se,num p.li] .own):=by
  rw[get_new_ne (by rw[next_new]; omega)]; exact get_new_eq rfl
 have g2:((s.new (.cells [num k,num m,u,num p.k,num p.pt,num p.nr,num p.of_,num p.fr,v,.bool p.fin,num p.se,num p.li] .own)).new (.cells [num k',num m',u',num p'.k,num p'.pt,num p'.nr,num p'.of_,num p'.fr,v',.bool p'.fin,num p'.se,num p'.li] .own)).heap.get (s.next+1)=some (.cells [num k',num m',u',num p'.k,num p'.pt,num p'.nr,num p'.of_,num p'.fr,v',.bool p'.fin,num p'.se,num p'.li] .own):=get_new_eq (by simp only[next_new])
 have hu2:=hu.fr0 hfa
 have hw2:=hu'.fr0 hfa
 have c1:=cvV_is hu2 h8
 have c2:=cvV_is hw2 h9
 by_cases qk:k=k'
 case neg =>
  simp (disch:=omega) only [vm0,vm1,vm2,vm3,vm4,vm5,vm6,vm7,vmF,vmT,evo,wr,wrC,frame,Nat.reduceAdd,Nat.reduceMul,Nat.reduceSub,beq_self_eq_true,List.cons_append,List.nil_append,beq_dec,vmI,vc57,g1,g2]
  exact ⟨by rw[decide_eq_false (by intro e; injection e; contradiction)]; rfl,hfa⟩
 subst qk
 by_cases qm:m=m'
 case neg =>
  simp (disch:=omega) only [vm0,vm1,vm2,vm3,vm4,vm5,vm6,vm7,vmF,vmT,evo,wr,wrC,frame,Nat.reduceAdd,Nat.reduceMul,Nat.reduceSub,beq_self_eq_true,List.cons_append,List.nil_append,beq_dec,vmI,vc57,g1,g2]
  exact ⟨by rw[decide_eq_false (by intro e; injection e; contradiction)]; rfl,hfa⟩
 subst qm
 simp (disch:=omega) only [vm0,vm1,vm2,vm3,vm4,vm5,vm6,vm7,vmF,vmT,evo,wr,wrC,frame,Nat.reduceAdd,Nat.reduceMul,Nat.reduceSub,beq_self_eq_true,List.cons_append,List.nil_append,beq_dec,vmI,vc57,g1,g2]
 refine call_ok rfl rfl (v_equal (n+1) _ u u' d d' hu2 hw2 h8 h9) ?_
 rintro y s2 ⟨rfl,rfl⟩
 by_cases qd:d=d'
 case neg =>
  have hdd:decide (d=d')=false:=decide_eq_false qd
  simp (disch:=omega) only [vm0,vm1,vm2,vm3,vm4,vm5,vm6,vm7,vmF,vmT,evo,wr,wrC,frame,Nat.reduceAdd,Nat.reduceMul,Nat.reduceSub,beq_self_eq_true,List.cons_append,List.nil_append,beq_dec,vmI,g1,g2,hdd]
  exact ⟨by rw[decide_eq_false (by intro e; injection e; contradiction)]; rfl,hfa⟩
 subst qd
 have hdd:decide (d=d)=true:=by simp
 simp (disch:=omega) only [vm0,vm1,vm2,vm3,vm4,vm5,vm6,vm7,vmF,vmT,evo,wr,wrC,frame,Nat.reduceAdd,Nat.reduceMul,Nat.reduceSub,beq_self_eq_true,List.cons_append,List.nil_append,beq_dec,vmI,g1,g2,hdd]
 refine call_ok rfl rfl (p_same n _ p p' v v' (hv.fr0 hfa) (hv'.fr0 hfa) h8p h9p) ?_
 rintro y s3 ⟨rfl,hf3⟩
 simp (disch:=omega) only [vm0,vm1,vm2,vm3,vm4,vm5,vm6,vm7,vmF,vmT,evo,wr,wrC,frame,Nat.reduceAdd,Nat.reduceMul,Nat.reduceSub,beq_self_eq_true,List.cons_append,List.nil_append,beq_dec,vmI]
 refine ⟨?_,hfa.trans hf3 (fp2:=[]) (by simp) (by simp)⟩
 by_cases qp:p=p'
 ·subst qp; rw[decide_eq_true rfl,decide_eq_true rfl]; rfl
 ·rw[decide_eq_false qp,decide_eq_false (by intro e; injection e; contradiction)]; rfl
end
theorem rw_7 {α:Type} {x0 x1 x2 x3 x4 x5 x6:α}:List.reverse [x0,x1,x2,x3,x4,x5,x6]=[x6,x5,x4,x3,x2,x1,x0]:=rfl
theorem rw_8 {α:Type} {x0 x1 x2 x3 x4 x5 x6 x7:α}:List.reverse [x0,x1,x2,x3,x4,x5,x6,x7]=[x7,x6,x5,x4,x3,x2,x1,x0]:=rfl
def PkV.bare (p:PkV):PkV:=if p.k=2 then ⟨p.k,p.pt,p.nr,p.of_,0,[],false,0,0⟩ else if p.k=3 then ⟨p.k,p.pt,p.nr,0,p.fr,p.d,p.fin,0,0⟩ else if p.k=4 then ⟨p.k,p.pt,p.nr,p.of_,0,[],false,p.se,p.li⟩ else ⟨p.k,p.pt,p.nr,0,0,[],false,0,0⟩
def PkV.fields (p:PkV):Bool:=if p.k=2 then decide (0≤p.of_∧p.of_≤65535) else if p.k=3 then decide (0≤p.fr∧p.fr≤4096∧(p.d.length:Int)≤64∧(p.d.length:Int)≤4096-p.fr) else if p.k=4 then decide (0≤p.of_∧p.of_≤65535∧0≤p.se∧p.se≤4097∧0≤p.li∧p.li≤4496) else decide (p.k=1)
section
variable {bd : Bd} {h : VF} {fu : Nat}
theorem p_bare (n:Nat) (s:St) (p:PkV) (u:AV) (hu:isSl 1 u):OutOk (callF bd (tab h).get fu (n+1) 133 [.agg (p.cs u)] s) (fun x s'=>∃ u',Is x (.agg (p.bare.cs u'))∧Fr s s' []∧(u' = .nils∧p.bare.d=[]∨u'=u∧p.bare.d=p.d)):=by
 refine call_code (t133 h) rfl ?_
 obtain ⟨k,pt,nr,of_,fr,d,fin,se,li⟩:=p
 dsimp only[PkV.cs] at *
 have huc:u.cells=some [u]:=by cases u <;> first | rfl | exact hu.elim
 have hsm:=sm_v hu
 have hfa:Fr s ((s.new (.cells [num k,num pt,num nr,num of_,num fr,u,.bool fin,num se,num li] .own)).new (.cells [num 0,num 0,num 0,num 0,num 0,.nils,.bool false,num 0,num 0] .own)) []:=by exact (by (repeat' (first | exact Fr.refl | assumption | apply Fr.new' | apply Fr.mk' | apply Fr.put')) <;> (first | omega | (left; simp; done) | (right; simp only[next_put,next_new,next_mk]; omega) | (simp only[next_put,next_new,next_mk]; omega)))
 have g1:((s.new (.cells [num k,num pt,num nr,num of_,num fr,u,.bool fin,num se,num li] .own)).new (.cells [num 0,num 0,num 0,num 0,num 0,.nils,.bool false,num 0,num 0] .own)).heap.get s.next=some (.cells [num k,num pt,num nr,num of_,num fr,u,.bool fin,num se,num li] .own):=by
  rw[get_new_ne (by rw[next_new]; omega)]; exact get_new_eq rfl
 have g2:((s.new (.cells [num k,num pt,num nr,num of_,num fr,u,.bool fin,num se,num li] .own)).new (.cells [num 0,num 0,num 0,num 0,num 0,.nils,.bool false,num 0,num 0] .own)).heap.get (s.next+1)=some (.cells [num 0,num 0,num 0,num 0,num 0,.nils,.bool false,num 0,num 0] .own):=get_new_eq (by simp only[next_new])
 have hfb:Fr s (((s.new (.cells [num k,num pt,num nr,num of_,num fr,u,.bool fin,num se,num li] .own)).new (.cells [num 0,num 0,num 0,num 0,num 0,.nils,.bool false,num 0,num 0] .own)).new (.cells [num 0,num 0,num 0,num 0,num 0,.nils,.bool false,num 0,num 0] .own)) []:=by exact (by (repeat' (first | exact Fr.refl | assumption | apply Fr.new' | apply Fr.mk' | apply Fr.put')) <;> (first | omega | (left; simp; done) | (right; simp only[next_put,next_new,next_mk]; omega) | (simp only[next_put,next_new,next_mk]; omega)))
 have g3:(((s.new (.cells [num k,num pt,num nr,num of_,num fr,u,.bool fin,num se,num li] .own)).new (.cells [num 0,num 0,num 0,num 0,num 0,.nils,.bool false,num 0,num 0] .own)).new (.cells [num 0,num 0,num 0,num 0,num 0,.nils,.bool false,num 0,num 0] .own)).heap.get s.next=some (.cells [num k,num pt,num nr,num of_,num fr,u,.bool fin,num se,num li] .own):=by
  rw[get_new_ne (by rw[next_new,next_new]; omega)]; exact g1
 have g4:(((s.new (.cells [num k,num pt,num nr,num of_,num fr,u,.bool fin,num se,num li] .own)).new (.cells [num 0,num 0,num 0,num 0,num 0,.nils,.bool false,num 0,num 0] .own)).new (.cells [num 0,num 0,num 0,num 0,num 0,.nils,.bool false,num 0,num 0] .own)).heap.get (s.next+1)=some (.cells [num 0,num 0,num 0,num 0,num 0,.nils,.bool false,num 0,num 0] .own):=by
  rw[get_new_ne (by rw[next_new,next_new]; omega)]; exact g2
 have g5:(((s.new (.cells [num k,num pt,num nr,num of_,num fr,u,.bool fin,num se,num li] .own)).new (.cells [num 0,num 0,num 0,num 0,num 0,.nils,.bool false,num 0,num 0] .own)).new (.cells [num 0,num 0,num 0,num 0,num 0,.nils,.bool false,num 0,num 0] .own)).heap.get (s.next+1+1)=some (.cells [num 0,num 0,num 0,num 0,num 0,.nils,.bool false,num 0,num 0] .own):=get_new_eq (by simp only[next_new])
 by_cases h2:k=2
 ·subst h2
  simp (disch:=omega) only [vm0,vm1,vm2,vm3,vm4,vm5,vm6,vm7,vmF,vmT,evo,wr,wrC,frame,Nat.reduceAdd,Nat.reduceMul,Nat.reduceSub,beq_self_eq_true,List.cons_append,List.nil_append,beq_dec,vmI,vc133,g1,g2,g3,g4,g5,huc,hsm]
  exact ⟨.nils,rfl,(by exact (show Fr s _ [] from by (repeat' (first | exact hfb | apply Fr.put')) <;> (right; omega))),.inl ⟨rfl,rfl⟩⟩
 by_cases h3:k=3
 ·subst h3
  simp (disch:=omega) only [vm0,vm1,vm2,vm3,vm4,vm5,vm6,vm7,vmF,vmT,evo,wr,wrC,frame,Nat.reduceAdd,Nat.reduceMul,Nat.reduceSub,beq_self_eq_true,List.cons_append,List.nil_append,beq_dec,vmI,vc133,g1,g2,g3,g4,g5,huc,hsm]
  exact ⟨u,rfl,(by exact (show Fr s _ [] from by (repeat' (first | exact hfb | apply Fr.put')) <;> (right; omega))),.inr ⟨rfl,rfl⟩⟩
 by_cases h4:k=4
 ·subst h4
  simp (disch:=omega) only [vm0,vm1,vm2,vm3,vm4,vm5,vm6,vm7,vmF,vmT,evo,wr,wrC,frame,Nat.reduceAdd,Nat.reduceMul,Nat.reduceSub,beq_self_eq_true,List.cons_append,List.nil_append,beq_dec,vmI,vc133,g1,g2,g3,g4,g5,huc,hsm]
  exact ⟨.nils,rfl,(by exact (show Fr s _ [] from by (repeat' (first | exact hfb | apply Fr.put')) <;> (right; omega))),.inl ⟨rfl,rfl⟩⟩
 simp (disch:=omega) only [vm0,vm1,vm2,vm3,vm4,vm5,vm6,vm7,vmF,vmT,evo,wr,wrC,frame,Nat.reduceAdd,Nat.reduceMul,Nat.reduceSub,beq_self_eq_true,List.cons_append,List.nil_append,beq_dec,vmI,vc133,g1,g2,g3,g4,g5,huc,hsm]
 have hb:PkV.bare ⟨k,pt,nr,of_,fr,d,fin,se,li⟩=⟨k,pt,nr,0,0,[],false,0,0⟩:=by unfold PkV.bare; dsimp only; rw[if_neg h2,if_neg h3,if_neg h4]
 rw[hb]
 exact ⟨.nils,rfl,(by exact (show Fr s _ [] from by (repeat' (first | exact hfb | apply Fr.put')) <;> (right; omega))),.inl ⟨rfl,rfl⟩⟩
theorem upto (n:Nat) (s:St) (x b:Int):OutOk (callF bd (tab h).get fu (n+1) 132 [num x,num b] s) (fun y s'=>Is y (.bool (decide (0≤x∧x≤b)))∧Is s' s):=by
 refine call_code (t132 h) rfl ?_
 by_cases h1:0≤x
 ·by_cases h2:x≤b
  ·rw[decide_eq_true (show 0≤x∧x≤b from ⟨h1,h2⟩)]
   simp (disch:=omega) only [vm0,vm1,vm2,vm3,vm4,vm5,vm6,vm7,vmF,vmT,evo,wr,wrC,frame,Nat.reduceAdd,Nat.reduceMul,Nat.reduceSub,beq_self_eq_true,List.cons_append,List.nil_append,beq_dec,vmI,vc132]
   exact ⟨rfl,rfl⟩
  ·rw[decide_eq_false (show ¬(0≤x∧x≤b) from fun h=>h2 h.2)]
   simp (disch:=omega) only [vm0,vm1,vm2,vm3,vm4,vm5,vm6,vm7,vmF,vmT,evo,wr,wrC,frame,Nat.reduceAdd,Nat.reduceMul,Nat.reduceSub,beq_self_eq_true,List.cons_append,List.nil_append,beq_dec,vmI,vc132]
   exact ⟨rfl,rfl⟩
 ·rw[decide_eq_false (show ¬(0≤x∧x≤b) from fun h=>h1 h.1)]
  simp (disch:=omega) only [vm0,vm1,vm2,vm3,vm4,vm5,vm6,vm7,vmF,vmT,evo,wr,wrC,frame,Nat.reduceAdd,Nat.reduceMul,Nat.reduceSub,beq_self_eq_true,List.cons_append,List.nil_append,beq_dec,vmI,vc132]
  exact ⟨rfl,rfl⟩
theorem p_fields (n:Nat) (s:St) (p:PkV) (u:AV) (hu:RdE s u 1 encB p.d) (hl:p.d.length≤1000000):OutOk (callF bd (tab h).get fu (n+2) 131 [.agg (p.cs u)] s) (fun y s'=>Is y (.bool p.fields)∧Fr s s' []):=by
 refine call_code (t131 h) rfl ?_
 obtain ⟨k,pt,nr,of_,fr,d,fin,se,li⟩:=p
 dsimp only[PkV.cs] at *
 have hf:Fr s (s.new (.cells [num k,num pt,num nr,num of_,num fr,u,.bool fin,num se,num li] .own)) [] := .new
 have g1:(s.new (.cells [num k,num pt,num nr,num of_,num fr,u,.bool fin,num se,num li] .own)).heap.get s.next=some (.cells [num k,num pt,num nr,num of_,num fr,u,.bool fin,num se,num li] .own):=get_new_eq rfl
 have e:=hu.lenV
 by_cases h2:k=2
 ·subst h2
  simp (disch:=omega) only [vm0,vm1,vm2,vm3,vm4,vm5,vm6,vm7,vmF,vmT,evo,wr,wrC,frame,Nat.reduceAdd,Nat.reduceMul,Nat.reduceSub,beq_self_eq_true,List.cons_append,List.nil_append,beq_dec,vmI,vc131,g1]
  refine call_ok rfl rfl (upto n _ of_ 65535) ?_
  rintro y s2 ⟨rfl,rfl⟩
  simp (disch:=omega) only [vm0,vm1,vm2,vm3,vm4,vm5,vm6,vm7,vmF,vmT,evo,wr,wrC,frame,Nat.reduceAdd,Nat.reduceMul,Nat.reduceSub,beq_self_eq_true,List.cons_append,List.nil_append,beq_dec,vmI]
  exact ⟨rfl,hf⟩
 by_cases h3:k=3
 ·subst h3
  simp (disch:=omega) only [vm0,vm1,vm2,vm3,vm4,vm5,vm6,vm7,vmF,vmT,evo,wr,wrC,frame,Nat.reduceAdd,Nat.reduceMul,Nat.reduceSub,beq_self_eq_true,List.cons_append,List.nil_append,beq_dec,vmI,vc131,g1]
  generalize s.new (.cells [num 3,num pt,num nr,num of_,num fr,u,.bool fin,num se,num li] .own)=s1 at *
  refine call_ok rfl rfl (upto n _ fr 4096) ?_
  rintro y s2 ⟨rfl,rfl⟩
  have hd:∀ b,(0≤fr∧fr≤4096∧(d.length:Int)≤64∧(d.length:Int)≤4096-fr↔b=true)→PkV.fields ⟨3,pt,nr,of_,fr,d,fin,se,li⟩=b:=by
   intro b hb
   unfold PkV.fields
   dsimp only
   rw[if_neg (by decide),if_pos rfl]
   cases b
   ·exact decide_eq_false (fun h=>by simpa using hb.1 h)
   ·exact decide_eq_true (hb.2 rfl)
  by_cases c1:0≤fr∧fr≤4096
  case neg =>
   rw[decide_eq_false c1,hd false (by simp; omega)]
   simp (disch:=omega) only [vm0,vm1,vm2,vm3,vm4,vm5,vm6,vm7,vmF,vmT,evo,wr,wrC,frame,Nat.reduceAdd,Nat.reduceMul,Nat.reduceSub,beq_self_eq_true,List.cons_append,List.nil_append,beq_dec,vmI,g1,e,vmU]
   exact ⟨rfl,hf⟩
  rw[decide_eq_true c1]
  by_cases c2:(d.length:Int)≤64
  case neg =>
   rw[hd false (by simp; omega)]
   simp (disch:=omega) only [vm0,vm1,vm2,vm3,vm4,vm5,vm6,vm7,vmF,vmT,evo,wr,wrC,frame,Nat.reduceAdd,Nat.reduceMul,Nat.reduceSub,beq_self_eq_true,List.cons_append,List.nil_append,beq_dec,vmI,g1,e,vmU]
   exact ⟨rfl,hf⟩
  by_cases c3:(d.length:Int)≤4096-fr
  case neg =>
   rw[hd false (by simp; omega)]
   simp (disch:=omega) only [vm0,vm1,vm2,vm3,vm4,vm5,vm6,vm7,vmF,vmT,evo,wr,wrC,frame,Nat.reduceAdd,Nat.reduceMul,Nat.reduceSub,beq_self_eq_true,List.cons_append,List.nil_append,beq_dec,vmI,g1,e,vmU]
   exact ⟨rfl,hf⟩
  rw[hd true (by simp; omega)]
  simp (disch:=omega) only [vm0,vm1,vm2,vm3,vm4,vm5,vm6,vm7,vmF,vmT,evo,wr,wrC,frame,Nat.reduceAdd,Nat.reduceMul,Nat.reduceSub,beq_self_eq_true,List.cons_append,List.nil_append,beq_dec,vmI,g1,e,vmU]
  exact ⟨rfl,hf⟩
 by_cases h4:k=4
 ·subst h4
  simp (disch:=omega) only [vm0,vm1,vm2,vm3,vm4,vm5,vm6,vm7,vmF,vmT,evo,wr,wrC,frame,Nat.reduceAdd,Nat.reduceMul,Nat.reduceSub,beq_self_eq_true,List.cons_append,List.nil_append,beq_dec,vmI,vc131,g1]
  generalize s.new (.cells [num 4,num pt,num nr,num of_,num fr,u,.bool fin,num se,num li] .own)=s1 at *
  refine call_ok rfl rfl (upto n _ of_ 65535) ?_
  rintro y s2 ⟨rfl,rfl⟩
  have hd:∀ b,(0≤of_∧of_≤65535∧0≤se∧se≤4097∧0≤li∧li≤4496↔b=true)→PkV.fields ⟨4,pt,nr,of_,fr,d,fin,se,li⟩=b:=by
   intro b hb
   unfold PkV.fields
   dsimp only
   rw[if_neg (by decide),if_neg (by decide),if_pos rfl]
   cases b
   ·exact decide_eq_false (fun h=>by simpa using hb.1 h)
   ·exact decide_eq_true (hb.2 rfl)
  by_cases c1:0≤of_∧of_≤65535
  case neg =>
   rw[decide_eq_false c1,hd false (by simp; omega)]
   simp (disch:=omega) only [vm0,vm1,vm2,vm3,vm4,vm5,vm6,vm7,vmF,vmT,evo,wr,wrC,frame,Nat.reduceAdd,Nat.reduceMul,Nat.reduceSub,beq_self_eq_true,List.cons_append,List.nil_append,beq_dec,vmI,g1,e,vmU]
   exact ⟨rfl,hf⟩
  rw[decide_eq_true c1]
  simp (disch:=omega) only [vm0,vm1,vm2,vm3,vm4,vm5,vm6,vm7,vmF,vmT,evo,wr,wrC,frame,Nat.reduceAdd,Nat.reduceMul,Nat.reduceSub,beq_self_eq_true,List.cons_append,List.nil_append,beq_dec,vmI,g1]
  refine call_ok rfl rfl (upto n _ se 4097) ?_
  rintro y s2 ⟨rfl,rfl⟩
  by_cases c2:0≤se∧se≤4097
  case neg =>
   rw[decide_eq_false c2,hd false (by simp; omega)]
   simp (disch:=omega) only [vm0,vm1,vm2,vm3,vm4,vm5,vm6,vm7,vmF,vmT,evo,wr,wrC,frame,Nat.reduceAdd,Nat.reduceMul,Nat.reduceSub,beq_self_eq_true,List.cons_append,List.nil_append,beq_dec,vmI,g1,e,vmU]
   exact ⟨rfl,hf⟩
  rw[decide_eq_true c2]
  simp (disch:=omega) only [vm0,vm1,vm2,vm3,vm4,vm5,vm6,vm7,vmF,vmT,evo,wr,wrC,frame,Nat.reduceAdd,Nat.reduceMul,Nat.reduceSub,beq_self_eq_true,List.cons_append,List.nil_append,beq_dec,vmI,g1]
  refine call_ok rfl rfl (upto n _ li 4496) ?_
  rintro y s2 ⟨rfl,rfl⟩
  by_cases c3:0≤li∧li≤4496
  case neg =>
   rw[decide_eq_false c3,hd false (by simp; omega)]
   simp (disch:=omega) only [vm0,vm1,vm2,vm3,vm4,vm5,vm6,vm7,vmF,vmT,evo,wr,wrC,frame,Nat.reduceAdd,Nat.reduceMul,Nat.reduceSub,beq_self_eq_true,List.cons_append,List.nil_append,beq_dec,vmI,g1,e,vmU]
   exact ⟨rfl,hf⟩
  rw[decide_eq_true c3,hd true (by simp; omega)]
  simp (disch:=omega) only [vm0,vm1,vm2,vm3,vm4,vm5,vm6,vm7,vmF,vmT,evo,wr,wrC,frame,Nat.reduceAdd,Nat.reduceMul,Nat.reduceSub,beq_self_eq_true,List.cons_append,List.nil_append,beq_dec,vmI,g1]
  exact ⟨rfl,hf⟩
 have hx:PkV.fields ⟨k,pt,nr,of_,fr,d,fin,se,li⟩=decide (k=1):=by unfold PkV.fields; dsimp only; rw[if_neg h2,if_neg h3,if_neg h4]
 rw[hx]
 by_cases h1:k=1
 ·rw[decide_eq_true h1]
  simp (disch:=omega) only [vm0,vm1,vm2,vm3,vm4,vm5,vm6,vm7,vmF,vmT,evo,wr,wrC,frame,Nat.reduceAdd,Nat.reduceMul,Nat.reduceSub,beq_self_eq_true,List.cons_append,List.nil_append,beq_dec,vmI,vc131,g1]
  exact ⟨rfl,hf⟩
 ·rw[decide_eq_false h1]
  simp (disch:=omega) only [vm0,vm1,vm2,vm3,vm4,vm5,vm6,vm7,vmF,vmT,evo,wr,wrC,frame,Nat.reduceAdd,Nat.reduceMul,Nat.reduceSub,beq_self_eq_true,List.cons_append,List.nil_append,beq_dec,vmI,vc131,g1]
  exact ⟨rfl,hf⟩
theorem right_eq (p:PkV):(p.fields&&decide (0≤p.pt∧p.pt≤2)&&decide (0≤p.nr∧p.nr≤65535)&&decide (p=p.bare))=p.right:=by
 obtain ⟨k,pt,nr,of_,fr,d,fin,se,li⟩:=p
 rw[Bool.eq_iff_iff]
 by_cases h2:k=2
 ·subst h2
  by_cases hd:d=[]
  ·subst hd
   cases fin
   ·simp[PkV.fields,PkV.bare,PkV.right]
    try omega
   ·simp[PkV.fields,PkV.bare,PkV.right]
    try omega
  ·simp[PkV.fields,PkV.bare,PkV.right,hd]
   try omega
 by_cases h4:k=4
 ·subst h4
  by_cases hd:d=[]
  ·subst hd
   cases fin
   ·simp[PkV.fields,PkV.bare,PkV.right]
    try omega
   ·simp[PkV.fields,PkV.bare,PkV.right]
    try omega
  ·simp[PkV.fields,PkV.bare,PkV.right,hd]
   try omega
 by_cases h3:k=3
 ·subst h3
  simp[PkV.fields,PkV.bare,PkV.right]
  omega
 by_cases hd:d=[]
 ·subst hd
  cases fin
  ·simp[PkV.fields,PkV.bare,PkV.right,h2,h3,h4]
   try omega
  ·simp[PkV.fields,PkV.bare,PkV.right,h2,h3,h4]
   try omega
 ·simp[PkV.fields,PkV.bare,PkV.right,hd,h2,h3,h4]
  try omega
end
theorem sv_sl {sz:Nat} {v:AV} (h:isSl sz v):sameV v v=true:=by
 cases v with
 | nils=>rfl
 | emp=>rfl
 | sl b o l lo ex z=>simp[sameV]
 | _=>exact h.elim
section
variable {k : Nat} {s : St} {ss : List St} {fs : List Fs} {ps : List Pend} {Q : Option AV → Nat → St → List St → List Fs → List Pend → Prop}
theorem du_lda (n:Nat) (x:Od):DOk (drwU (.lda n x) k s ss fs ps) Q=Q (some (.tup [])) k s ss fs ps:=rfl
end
theorem sv_b {a b:Bool}:sameV (.bool a) (.bool b)=(a==b):=rfl
theorem bare_in {p:PkV} (h8:∀ x∈p.d,In8 x):∀ x∈p.bare.d,In8 x:=by
 unfold PkV.bare
 split
 ·simp
 ·split
  ·exact h8
  ·split <;> simp
section
variable {bd : Bd} {h : VF} {fu : Nat}
theorem p_check (n:Nat) (s:St) (p:PkV) (u:AV) (hu:RdE s u 1 encB p.d) (hl:p.d.length≤1000000) (h8:∀ x∈p.d,In8 x):OutOk (callF bd (tab h).get fu (n+3) 93 [.agg (p.cs u)] s) (fun y s'=>Is y (num (if p.right then 0 else 1))∧Fr s s' []):=by
 refine call_code (t93 h) rfl ?_
 have hf:Fr s (s.new (.cells (p.cs u) .own)) [] := .new
 have g1:(s.new (.cells (p.cs u) .own)).heap.get s.next=some (.cells (p.cs u) .own):=get_new_eq rfl
 have hlt:s.next<(s.new (.cells (p.cs u) .own)).next:=by rw[next_new]; omega
 have huc:u.cells=some [u]:=by
  have:=hu.rd.sl
  cases u <;> first | rfl | exact this.elim
 have hsv:=sv_sl hu.rd.sl
 have hsm:=sm_v hu.rd.sl
 have heq:=right_eq p
 have hbi:=bare_in h8
 have hpf:=p_fields (bd:=bd) (h:=h) (fu:=fu) n (s.new (.cells (p.cs u) .own)) p u (hu.fr0 hf) hl
 dsimp only[PkV.cs] at hf g1 hlt hpf ⊢
 simp (disch:=omega) only [vm0,vm1,vm2,vm3,vm4,vm5,vm6,vm7,vmF,vmT,evo,wr,wrC,frame,Nat.reduceAdd,Nat.reduceMul,Nat.reduceSub,beq_self_eq_true,List.cons_append,List.nil_append,beq_dec,vmI,vc93]
 generalize s.new (.cells [num p.k,num p.pt,num p.nr,num p.of_,num p.fr,u,.bool p.fin,num p.se,num p.li] .own)=s1 at *
 refine call_ok rfl rfl hpf ?_
 rintro y s2 ⟨rfl,hf2⟩
 have g2:=(hf2.get hlt (by simp)).trans g1
 have hff:=hf.trans hf2 (fp2:=[]) (by simp) (by simp)
 have no:p.right=false→(num (if p.right=true then 0 else 1):AV)=num 1:=fun h=>by rw[h]; rfl
 cases c1:p.fields
 ·rw[no (by rw[←heq,c1]; rfl)]
  simp (disch:=omega) only [vm0,vm1,vm2,vm3,vm4,vm5,vm6,vm7,vmF,vmT,evo,wr,wrC,frame,Nat.reduceAdd,Nat.reduceMul,Nat.reduceSub,beq_self_eq_true,List.cons_append,List.nil_append,beq_dec,vmI,g1,g2,vmU,du_lda,sv_b]
  exact ⟨rfl,hff⟩
 simp (disch:=omega) only [vm0,vm1,vm2,vm3,vm4,vm5,vm6,vm7,vmF,vmT,evo,wr,wrC,frame,Nat.reduceAdd,Nat.reduceMul,Nat.reduceSub,beq_self_eq_true,List.cons_append,List.nil_append,beq_dec,vmI,g1,g2]
 refine call_ok rfl rfl (upto (n+1) s2 p.pt 2) ?_
 rintro y s2 ⟨rfl,rfl⟩
 cases c2:decide (0≤p.pt∧p.pt≤2)
 ·rw[no (by rw[←heq,c1,c2]; rfl)]
  simp (disch:=omega) only [vm0,vm1,vm2,vm3,vm4,vm5,vm6,vm7,vmF,vmT,evo,wr,wrC,frame,Nat.reduceAdd,Nat.reduceMul,Nat.reduceSub,beq_self_eq_true,List.cons_append,List.nil_append,beq_dec,vmI,g1,g2,vmU,du_lda,sv_b]
  exact ⟨rfl,hff⟩
 simp (disch:=omega) only [vm0,vm1,vm2,vm3,vm4,vm5,vm6,vm7,vmF,vmT,evo,wr,wrC,frame,Nat.reduceAdd,Nat.reduceMul,Nat.reduceSub,beq_self_eq_true,List.cons_append,List.nil_append,beq_dec,vmI,g1,g2]
 refine call_ok rfl rfl (upto (n+1) s2 p.nr 65535) ?_
 rintro y s2 ⟨rfl,rfl⟩
 cases c3:decide (0≤p.nr∧p.nr≤65535)
 ·rw[no (by rw[←heq,c1,c2,c3]; rfl)]
  simp (disch:=omega) only [vm0,vm1,vm2,vm3,vm4,vm5,vm6,vm7,vmF,vmT,evo,wr,wrC,frame,Nat.reduceAdd,Nat.reduceMul,Nat.reduceSub,beq_self_eq_true,List.cons_append,List.nil_append,beq_dec,vmI,g1,g2,vmU,du_lda,sv_b]
  exact ⟨rfl,hff⟩
 simp (disch:=omega) only [vm0,vm1,vm2,vm3,vm4,vm5,vm6,vm7,vmF,vmT,evo,wr,wrC,frame,Nat.reduceAdd,Nat.reduceMul,Nat.reduceSub,beq_self_eq_true,List.cons_append,List.nil_append,beq_dec,vmI,g1,g2,hsv,hsm]
 have hu2:=hu.fr0 hff
 refine call_ok rfl rfl (p_bare (n+1) s2 p u hu.rd.sl) ?_
 rintro y s3 ⟨u',rfl,hf3,hu'⟩
 have g3:=(hf3.get (Nat.lt_of_lt_of_le hlt hf2.1) (by simp)).trans g2
 have hr':RdE s3 u' 1 encB p.bare.d:=by
  rcases hu' with ⟨rfl,hd⟩ | ⟨rfl,hd⟩
  ·rw[hd]; exact (OwE.nil encB_w (by omega)).rd
  ·rw[hd]; exact hu2.fr0 hf3
 simp (disch:=omega) only [vm0,vm1,vm2,vm3,vm4,vm5,vm6,vm7,vmF,vmT,evo,wr,wrC,frame,Nat.reduceAdd,Nat.reduceMul,Nat.reduceSub,beq_self_eq_true,List.cons_append,List.nil_append,beq_dec,vmI,g1,g2,g3,hsv,hsm]
 refine call_ok rfl rfl (p_same n s3 p p.bare u u' (hu2.fr0 hf3) hr' h8 hbi) ?_
 rintro y s4 ⟨rfl,hf4⟩
 have g4:=(hf4.get (Nat.lt_of_lt_of_le (Nat.lt_of_lt_of_le hlt hf2.1) hf3.1) (by simp)).trans g3
 have hfe:=(hff.trans hf3 (fp2:=[]) (by simp) (by simp)).trans hf4 (fp2:=[]) (by simp) (by simp)
 cases c4:decide (p=p.bare)
 ·rw[no (by rw[←heq,c1,c2,c3,c4]; rfl)]
  simp (disch:=omega) only [vm0,vm1,vm2,vm3,vm4,vm5,vm6,vm7,vmF,vmT,evo,wr,wrC,frame,Nat.reduceAdd,Nat.reduceMul,Nat.reduceSub,beq_self_eq_true,List.cons_append,List.nil_append,beq_dec,vmI,g1,g2,g3,g4,hsv,hsm,vmU,du_lda,sv_b]
  exact ⟨rfl,hfe⟩
 ·have hr:p.right=true:=by rw[←heq,c1,c2,c3,c4]; rfl
  rw[hr,if_pos rfl]
  simp (disch:=omega) only [vm0,vm1,vm2,vm3,vm4,vm5,vm6,vm7,vmF,vmT,evo,wr,wrC,frame,Nat.reduceAdd,Nat.reduceMul,Nat.reduceSub,beq_self_eq_true,List.cons_append,List.nil_append,beq_dec,vmI,g1,g2,g3,g4,hsv,hsm,vmU,du_lda,sv_b]
  exact ⟨rfl,hfe⟩
end
def oT (b:Nat):Obj:=⟨fun s fp=>b<s.next∧fp=[b],fun {s s' fp fp'} h hf _=>⟨Nat.lt_of_lt_of_le h.1 hf.1,h.2⟩,fun {s fp} h=>by intro z hz; rw[h.2] at hz; simp at hz; subst hz; exact h.1⟩
section
variable {bd : Bd} {h : VF} {fu : Nat}
theorem flat_le (ls:List (List Int)):∀ i,(ls.take i).flatten.length≤ls.flatten.length:=by
 intro i
 have:ls.flatten=(ls.take i).flatten++(ls.drop i).flatten:=by rw[←List.flatten_append,List.take_append_drop]
 rw[this,List.length_append]; omega
end
theorem flatU (us:List AV):us.flatMap encU=us:=by induction us with | nil=>rfl | cons a l ih=>show a::l.flatMap encU=_; rw[ih]
theorem rdU_of {s:St} {b n:Nat} {us:List AV} (hg:s.heap.get b=some (.cells us .own)) (hb:b<s.next) (hn:us.length=n):RdE s (.sl b 0 n n true 1) 1 encU us:=by
 subst hn
 refine ⟨⟨⟨rfl,Nat.le_refl _⟩,by rw[flatU]; simp[slen],?_⟩,fun _=>rfl,by omega,hb⟩
 show ob (s.heap.get b) (rdC 0 (us.length*1))=_
 rw[hg,flatU]
 show sub us 0 (us.length*1)=_
 rw[sub_of (by omega)]; simp
theorem cells1 {sz:Nat} {v:AV} (h:isSl sz v):v.cells=some [v]:=by cases v <;> first | rfl | exact h.elim
theorem Sep.out1 {s0 s:St} {P:Obj} (h:Sep s0 s [P]):∃ f,P.P s f∧Fr s0 s []∧Nw s0 [] f:=by
 obtain ⟨fp,⟨f,g,h1,h2,h3,rfl⟩,h5,h6⟩:=h
 exact ⟨f,h1,h6,fun b hb=>h5 b (by simp[hb])⟩
structure EvR where
 e:EvV
 u:AV
 w:AV
def EvR.enc (x:EvR):List AV:=x.e.cs x.u x.w
theorem EvR.wid:∀ x:EvR,x.enc.length=12:=fun _=>rfl
structure EvR.ok (s:St) (x:EvR):Prop where
 u:RdE s x.u 1 encB x.e.d
 w:RdE s x.w 1 encB x.e.p.d
 h8:∀ y∈x.e.d,In8 y
 h9:∀ y∈x.e.p.d,In8 y
 hl:x.e.d.length≤1000000
 hpl:x.e.p.d.length≤1000000
theorem EvR.ok.fr0 {s s':St} {x:EvR} (h:x.ok s) (f:Fr s s' []):x.ok s':=⟨h.u.fr0 f,h.w.fr0 f,h.h8,h.h9,h.hl,h.hpl⟩
def evsOk (s:St) (l:List EvR):Prop:=∀ x∈l,x.ok s
theorem Sep.newC {s0 s:St} {Ps:List Obj} (h:Sep s0 s Ps) (c:List AV):Sep s0 (s.new (.cells c .own)) (oC s.next c::Ps) :=
 h.push (P:=oC s.next c) (f:=[s.next]) ⟨get_new_eq rfl,by rw[next_new]; omega,rfl⟩ .new (by intro z hz; simp at hz; right; omega)
theorem Sep.putC {s0 s:St} {b:Nat} {c:List AV} {Ps:List Obj} (h:Sep s0 s (oC b c::Ps)) (c':List AV):Sep s0 (s.put b (some (.cells c' .own))) (oC b c'::Ps):=by
 obtain ⟨f,⟨h1,h2,rfl⟩,up⟩:=h.hd
 exact up (oC b c') (f':=[b]) ⟨get_put_eq rfl,by rw[next_put]; exact h2,rfl⟩ (.put (.inl (by simp))) (fun z hz => .inl hz)
def z9:List AV:=[num 0,num 0,num 0,num 0,num 0,.nils,.bool false,num 0,num 0]
structure PkV.In (p:PkV):Prop where
 k:In64 p.k
 pt:In64 p.pt
 nr:In64 p.nr
 of_:In64 p.of_
 fr:In64 p.fr
 se:In64 p.se
 li:In64 p.li
 d:∀ x∈p.d,In8 x
section
variable {bd : Bd} {h : VF} {fu : Nat}
theorem wth (n:Nat) (s:St) (v m:Int) (hv:In64 v) (hm:1≤m) (hm2:m≤9223372036854775807) :
  OutOk (callF bd (tab h).get fu (n+1) 5 [num v,num m] s) (fun x s'=>∃ r,Is x (num r)∧(0≤r∧r<m)∧Is s' s) :=
 (withinP n s v m hv hm hm2).mono fun y s' ⟨q1,q2⟩=>⟨_,q1,⟨Int.emod_nonneg _ (by omega),Int.emod_lt_of_pos _ (by omega)⟩,q2⟩
theorem cutP (n:Nat) (s:St) (p:PkV) (u:AV) (hu:RdE s u 1 encB p.d) :
  OutOk (callF bd (tab h).get fu (n+3) 44 [.agg (p.cs u)] s) (fun x s'=>∃ u',Is x (.agg (PkV.cs ⟨p.k,p.pt,p.nr,p.of_,p.fr,p.d.take 80,p.fin,p.se,p.li⟩ u'))∧Sep s s' [oW u' 1 encB (p.d.take 80)]):=by
 refine call_code (t44 h) rfl ?_
 have hS:=((Sep.nil (s:=s)).newC (p.cs u)).newC z9
 have hu1:=hu.fr0 hS.frm
 obtain ⟨_,⟨g1,_,_⟩,_⟩:=Sep.hd (((hS.re ((List.perm_middle (l₁:=[_])).trans (.cons _ (.refl _))))))
 dsimp only[PkV.cs,z9,next_new] at *
 simp (disch:=omega) only [vm0,vm1,vm2,vm3,vm4,vm5,vm6,vm7,vmF,vmT,evo,wr,wrC,frame,Nat.reduceAdd,Nat.reduceMul,Nat.reduceSub,beq_self_eq_true,List.cons_append,List.nil_append,beq_dec,vmI,vc44,g1]
 refine call_ok rfl rfl (cutB n _ u p.d 80 (by omega) (by omega) hu1) ?_
 rintro y s2 ⟨f,a1,a2,a3⟩
 have hS2:=hS.push (P:=oW y 1 encB (p.d.take 80)) a1 a2 a3
 have g2:=Sep.getC (((hS2.re ((List.perm_middle (l₁:=[_,_])).trans (.cons _ (.refl _))))))
 have hS3:=Sep.putC (((hS2.re ((List.perm_middle (l₁:=[_,_])).trans (.cons _ (.refl _)))))) [num p.k,num p.pt,num p.nr,num p.of_,num p.fr,y,.bool p.fin,num p.se,num p.li]
 have g3:=hS3.getC
 have g4:=Sep.getC (((hS3.re ((List.perm_middle (l₁:=[_,_])).trans (.cons _ (.refl _))))))
 have hS4:=Sep.putC (((hS3.re ((List.perm_middle (l₁:=[_,_])).trans (.cons _ (.refl _)))))) [num p.k,num p.pt,num p.nr,num p.of_,num p.fr,y,.bool p.fin,num p.se,num p.li]
 have g5:=hS4.getC
 have hyc:=cells1 a1.rd.rd.sl
 simp (disch:=omega) only [vm0,vm1,vm2,vm3,vm4,vm5,vm6,vm7,vmF,vmT,evo,wr,wrC,frame,Nat.reduceAdd,Nat.reduceMul,Nat.reduceSub,beq_self_eq_true,List.cons_append,List.nil_append,beq_dec,vmI,g2,g3,g4,g5,hyc]
 exact ⟨y,rfl,((hS4.re (.refl _)).drop.drop)⟩
end
structure PS (s0 s:St) (p:PkV) (u:AV) (q:PkV) (v:AV) (b2 b3 b7:Nat):Prop where
 sep:Sep s0 s [oW v 1 encB q.d,oC b3 (q.cs v),oC b2 (p.cs u),oC b7 z9]
 len:q.d.length≤80
 in8:∀ x∈q.d,In8 x
section
variable {bd : Bd} {h : VF} {fu : Nat}
set_option maxHeartbeats 4000000 in
theorem pk_sw0 (n:Nat) (s0 s:St) (p:PkV) (u:AV) (q:PkV) (v:AV) (b2 b3 b7:Nat) (hp:p.In) (hu:RdE s0 u 1 encB p.d) (hS:PS s0 s p u q v b2 b3 b7) (w0 w1 x5 x8 x9 x10 x11 x12 x13 x14 x15 x16 x17 x18 x19 x20 x21:Option AV) :
  RsOk (exec bd (callF bd (tab h).get fu (n+3)) fu vc13_0 [w0,w1,some (.ptr b2 0),some (.ptr b3 0),some (.fn 5 [] []),x5,some (num q.k),some (.ptr b7 0),x8,x9,x10,x11,x12,x13,x14,x15,x16,x17,x18,x19,x20,x21] s) (fun e F' s'=>Is e .normal∧∃ q' v' y8 y9 y10,F'=[w0,w1,some (.ptr b2 0),some (.ptr b3 0),some (.fn 5 [] []),x5,some (num q.k),some (.ptr b7 0),y8,y9,y10,x11,x12,x13,x14,x15,x16,x17,x18,x19,x20,x21]∧PS s0 s' p u q' v' b2 b3 b7):=by
 obtain ⟨hS,hql,hq8⟩:=hS
 have hu1:=hu.fr0 hS.frm
 have g2:=Sep.getC (((hS.re ((List.perm_middle (l₁:=[_,_])).trans (.cons _ (.refl _))))))
 have g3:=Sep.getC (((hS.re ((List.perm_middle (l₁:=[_])).trans (.cons _ (.refl _))))))
 have hS1:=((hS.re ((List.perm_middle (l₁:=[_])).trans (.cons _ (.refl _)))))
 have hsv:=sv_sl hu.rd.sl
 have hsm:=sm_v hu.rd.sl
 obtain ⟨k,pt,nr,of_,fr,d,fin,se,li⟩:=q
 dsimp only[PkV.cs] at *
 rcases (show k=2∨k=3∨k=4∨(k≠2∧k≠3∧k≠4) by omega) with rfl | rfl | rfl | hk
 ·simp (disch:=omega) only [vm0,vm1,vm2,vm3,vm4,vm5,vm6,vm7,vmF,vmT,evo,wr,wrC,frame,Nat.reduceAdd,Nat.reduceMul,Nat.reduceSub,beq_self_eq_true,List.cons_append,List.nil_append,beq_dec,vmI,vc13_0,g2,g3]
  refine call_ok rfl rfl (wth (n+2) s p.of_ 300 hp.of_ (by omega) (by omega)) ?_
  rintro y s2 ⟨r,rfl,hr,rfl⟩
  have hS2:=hS1.putC [num 2,num pt,num nr,num r,num fr,v,.bool fin,num se,num li]
  simp (disch:=omega) only [vm0,vm1,vm2,vm3,vm4,vm5,vm6,vm7,vmF,vmT,evo,wr,wrC,frame,Nat.reduceAdd,Nat.reduceMul,Nat.reduceSub,beq_self_eq_true,List.cons_append,List.nil_append,beq_dec,vmI,g2,g3]
  exact ⟨rfl,⟨2,pt,nr,r,fr,d,fin,se,li⟩,v,_,_,_,rfl,((hS2.re ((List.perm_middle (l₁:=[_])).trans (.cons _ (.refl _))))),hql,hq8⟩
 ·simp (disch:=omega) only [vm0,vm1,vm2,vm3,vm4,vm5,vm6,vm7,vmF,vmT,evo,wr,wrC,frame,Nat.reduceAdd,Nat.reduceMul,Nat.reduceSub,beq_self_eq_true,List.cons_append,List.nil_append,beq_dec,vmI,vc13_0,g2,g3]
  refine call_ok rfl rfl (wth (n+2) s p.fr 200 hp.fr (by omega) (by omega)) ?_
  rintro y s2 ⟨r,rfl,hr,rfl⟩
  simp (disch:=omega) only [vm0,vm1,vm2,vm3,vm4,vm5,vm6,vm7,vmF,vmT,evo,wr,wrC,frame,Nat.reduceAdd,Nat.reduceMul,Nat.reduceSub,beq_self_eq_true,List.cons_append,List.nil_append,beq_dec,vmI,g2,g3,hsv,hsm]
  refine call_ok rfl rfl (cutB (n+1) s2 u p.d 20 (by omega) (by omega) hu1) ?_
  rintro y s3 ⟨f,a1,a2,a3⟩
  have hS2:=hS1.push (P:=oW y 1 encB (p.d.take 20)) a1 a2 a3
  have g4:=Sep.getC (((hS2.re ((List.perm_middle (l₁:=[_,_,_])).trans (.cons _ (.refl _))))))
  have g5:=Sep.getC (((hS2.re ((List.perm_middle (l₁:=[_])).trans (.cons _ (.refl _))))))
  have hS3:=Sep.putC (((hS2.re ((List.perm_middle (l₁:=[_])).trans (.cons _ (.refl _)))))) [num 3,num pt,num nr,num of_,num r,v,.bool fin,num se,num li]
  have g6:=hS3.getC
  have hS4:=hS3.putC [num 3,num pt,num nr,num of_,num r,y,.bool fin,num se,num li]
  have g7:=hS4.getC
  have hS5:=hS4.putC [num 3,num pt,num nr,num of_,num r,y,.bool p.fin,num se,num li]
  have i3:=Sep.getC (((hS3.re ((List.perm_middle (l₁:=[_,_,_])).trans (.cons _ (.refl _))))))
  have i4:=Sep.getC (((hS4.re ((List.perm_middle (l₁:=[_,_,_])).trans (.cons _ (.refl _))))))
  have i5:=Sep.getC (((hS5.re ((List.perm_middle (l₁:=[_,_,_])).trans (.cons _ (.refl _))))))
  have hyc:=cells1 a1.rd.rd.sl
  simp (disch:=omega) only [vm0,vm1,vm2,vm3,vm4,vm5,vm6,vm7,vmF,vmT,evo,wr,wrC,frame,Nat.reduceAdd,Nat.reduceMul,Nat.reduceSub,beq_self_eq_true,List.cons_append,List.nil_append,beq_dec,vmI,g2,g3,g4,g5,g6,g7,i3,i4,i5,hsv,hsm,hyc,sv_b]
  exact ⟨rfl,⟨3,pt,nr,of_,r,p.d.take 20,p.fin,se,li⟩,y,_,_,_,rfl,((hS5.re ((List.perm_middle (l₁:=[_,_])).trans (.cons _ ((List.perm_middle (l₁:=[_])).trans (.cons _ (.refl _)))))).drop),by have:=List.length_take_le 20 p.d; show (p.d.take 20).length≤80; omega,fun x hx=>hp.d x (List.mem_of_mem_take hx)⟩
 ·simp (disch:=omega) only [vm0,vm1,vm2,vm3,vm4,vm5,vm6,vm7,vmF,vmT,evo,wr,wrC,frame,Nat.reduceAdd,Nat.reduceMul,Nat.reduceSub,beq_self_eq_true,List.cons_append,List.nil_append,beq_dec,vmI,vc13_0,g2,g3]
  refine call_ok rfl rfl (wth (n+2) s p.of_ 300 hp.of_ (by omega) (by omega)) ?_
  rintro y s2 ⟨r,rfl,hr,rfl⟩
  simp (disch:=omega) only [vm0,vm1,vm2,vm3,vm4,vm5,vm6,vm7,vmF,vmT,evo,wr,wrC,frame,Nat.reduceAdd,Nat.reduceMul,Nat.reduceSub,beq_self_eq_true,List.cons_append,List.nil_append,beq_dec,vmI,g2,g3,hsv,hsm]
  refine call_ok rfl rfl (wth (n+2) s2 p.se 300 hp.se (by omega) (by omega)) ?_
  rintro y s3 ⟨r2,rfl,hr2,rfl⟩
  simp (disch:=omega) only [vm0,vm1,vm2,vm3,vm4,vm5,vm6,vm7,vmF,vmT,evo,wr,wrC,frame,Nat.reduceAdd,Nat.reduceMul,Nat.reduceSub,beq_self_eq_true,List.cons_append,List.nil_append,beq_dec,vmI,g2,g3,hsv,hsm]
  refine call_ok rfl rfl (wth (n+2) s3 p.li 400 hp.li (by omega) (by omega)) ?_
  rintro y s4 ⟨r3,rfl,hr3,rfl⟩
  have hS3:=hS1.putC [num 4,num pt,num nr,num r,num fr,v,.bool fin,num se,num li]
  have g6:=hS3.getC
  have hS4:=hS3.putC [num 4,num pt,num nr,num r,num fr,v,.bool fin,num r2,num li]
  have g7:=hS4.getC
  have hS5:=hS4.putC [num 4,num pt,num nr,num r,num fr,v,.bool fin,num r2,num r3]
  have i3:=Sep.getC (((hS3.re ((List.perm_middle (l₁:=[_,_])).trans (.cons _ (.refl _))))))
  have i4:=Sep.getC (((hS4.re ((List.perm_middle (l₁:=[_,_])).trans (.cons _ (.refl _))))))
  have i5:=Sep.getC (((hS5.re ((List.perm_middle (l₁:=[_,_])).trans (.cons _ (.refl _))))))
  simp (disch:=omega) only [vm0,vm1,vm2,vm3,vm4,vm5,vm6,vm7,vmF,vmT,evo,wr,wrC,frame,Nat.reduceAdd,Nat.reduceMul,Nat.reduceSub,beq_self_eq_true,List.cons_append,List.nil_append,beq_dec,vmI,g2,g3,g6,g7,i3,i4,i5,hsv,hsm,rw_7,rw_8]
  exact ⟨rfl,⟨4,pt,nr,r,fr,d,fin,r2,r3⟩,v,_,_,_,rfl,((hS5.re ((List.perm_middle (l₁:=[_])).trans (.cons _ (.refl _))))),hql,hq8⟩
 ·simp (disch:=omega) only [vm0,vm1,vm2,vm3,vm4,vm5,vm6,vm7,vmF,vmT,evo,wr,wrC,frame,Nat.reduceAdd,Nat.reduceMul,Nat.reduceSub,beq_self_eq_true,List.cons_append,List.nil_append,beq_dec,vmI,vc13_0,g2,g3]
  exact ⟨rfl,⟨k,pt,nr,of_,fr,d,fin,se,li⟩,v,_,_,_,rfl,hS,hql,hq8⟩
set_option maxHeartbeats 8000000 in
theorem pk_sw1 (n:Nat) (s0 s:St) (p:PkV) (u:AV) (q:PkV) (v:AV) (b2 b3 b7:Nat) (hp:p.In) (hu:RdE s0 u 1 encB p.d) (hS:PS s0 s p u q v b2 b3 b7) (z:Int) (w0 w1 x6 x8 x9 x10 x11 x12 x13 x14 x15 x16 x17 x18 x19 x20 x21:Option AV) :
  RsOk (exec bd (callF bd (tab h).get fu (n+4)) fu vc13_1 [w0,w1,some (.ptr b2 0),some (.ptr b3 0),some (.fn 5 [] []),some (num z),x6,some (.ptr b7 0),x8,x9,x10,x11,x12,x13,x14,x15,x16,x17,x18,x19,x20,x21] s) (fun e F' s'=>∃ (q':PkV) (v':AV),∃ y11 y12 y13 y14 y15 y16 y17 y18 y19 y20 y21,F'=[w0,w1,some (.ptr b2 0),some (.ptr b3 0),some (.fn 5 [] []),some (num z),x6,some (.ptr b7 0),x8,x9,x10,y11,y12,y13,y14,y15,y16,y17,y18,y19,y20,y21]∧q'.d.length≤80∧(∀ x∈q'.d,In8 x)∧(Is e .normal∧Sep s0 s' [oW v' 1 encB q'.d,oC b3 (q'.cs v'),oC b2 (p.cs u),oC b7 z9]∨Is e .ret∧Sep s0 s' [oW v' 1 encB q'.d,oC b7 (q'.cs v')])):=by
 obtain ⟨hS,hql,hq8⟩:=hS
 have hu1:=hu.fr0 hS.frm
 have g2:=Sep.getC (((hS.re ((List.perm_middle (l₁:=[_,_])).trans (.cons _ (.refl _))))))
 have g3:=Sep.getC (((hS.re ((List.perm_middle (l₁:=[_])).trans (.cons _ (.refl _))))))
 have g7:=Sep.getC (((hS.re ((List.perm_middle (l₁:=[_,_,_])).trans (.cons _ (.refl _))))))
 have hS1:=((hS.re ((List.perm_middle (l₁:=[_])).trans (.cons _ (.refl _)))))
 have hsv:=sv_sl hu.rd.sl
 have hsm:=sm_v hu.rd.sl
 have hcp:=cutP (bd:=bd) (h:=h) (fu:=fu) (n+1) s p u hu1
 obtain ⟨k,pt,nr,of_,fr,d,fin,se,li⟩:=q
 dsimp only[PkV.cs,z9] at *
 rcases (show z=29∨z=30∨z=31∨z=32∨z=33∨z=34∨z=35∨z=36∨z=37∨z=38∨z=39∨(z<29∨39<z) by omega) with rfl | rfl | rfl | rfl | rfl | rfl | rfl | rfl | rfl | rfl | rfl | hz
 ·simp (disch:=omega) only [vm0,vm1,vm2,vm3,vm4,vm5,vm6,vm7,vmF,vmT,evo,wr,wrC,frame,Nat.reduceAdd,Nat.reduceMul,Nat.reduceSub,beq_self_eq_true,List.cons_append,List.nil_append,beq_dec,vmI,vc13_1,g2,g3,g7]
  refine call_ok rfl rfl hcp ?_
  rintro y s2 ⟨u',rfl,hSx⟩
  obtain ⟨f,a1,a2,a3⟩:=hSx.out1
  have hS2:=hS.push (P:=oW u' 1 encB (p.d.take 80)) a1 a2 a3
  have g4:=Sep.getC (((hS2.re ((List.perm_middle (l₁:=[_,_,_,_])).trans (.cons _ (.refl _))))))
  have hS3:=Sep.putC (((hS2.re ((List.perm_middle (l₁:=[_,_,_,_])).trans (.cons _ (.refl _)))))) [num p.k,num p.pt,num p.nr,num p.of_,num p.fr,u',.bool p.fin,num p.se,num p.li]
  simp (disch:=omega) only [vm0,vm1,vm2,vm3,vm4,vm5,vm6,vm7,vmF,vmT,evo,wr,wrC,frame,Nat.reduceAdd,Nat.reduceMul,Nat.reduceSub,beq_self_eq_true,List.cons_append,List.nil_append,beq_dec,vmI,g2,g3,g4,g7]
  exact ⟨⟨p.k,p.pt,p.nr,p.of_,p.fr,p.d.take 80,p.fin,p.se,p.li⟩,u',_,_,_,_,_,_,_,_,_,_,_,rfl,by have:=List.length_take_le 80 p.d; exact this,fun x hx=>hp.d x (List.mem_of_mem_take hx),.inr ⟨rfl,((hS3.re ((List.perm_middle (l₁:=[_,_])).trans (.cons _ ((List.perm_middle (l₁:=[_,_])).trans (.cons _ ((List.perm_middle (l₁:=[_,_])).trans (.cons _ ((List.perm_middle (l₁:=[_])).trans (.cons _ (.refl _)))))))))).drop.drop.drop)⟩⟩
 ·have hS2:=hS1.putC [num p.k,num pt,num nr,num of_,num fr,v,.bool fin,num se,num li]
  simp (disch:=omega) only [vm0,vm1,vm2,vm3,vm4,vm5,vm6,vm7,vmF,vmT,evo,wr,wrC,frame,Nat.reduceAdd,Nat.reduceMul,Nat.reduceSub,beq_self_eq_true,List.cons_append,List.nil_append,beq_dec,vmI,vc13_1,g2,g3,g7]
  exact ⟨⟨p.k,pt,nr,of_,fr,d,fin,se,li⟩,v,_,_,_,_,_,_,_,_,_,_,_,rfl,hql,hq8,.inl ⟨rfl,((hS2.re ((List.perm_middle (l₁:=[_])).trans (.cons _ (.refl _)))))⟩⟩
 ·have hS2:=hS1.putC [num k,num p.pt,num nr,num of_,num fr,v,.bool fin,num se,num li]
  simp (disch:=omega) only [vm0,vm1,vm2,vm3,vm4,vm5,vm6,vm7,vmF,vmT,evo,wr,wrC,frame,Nat.reduceAdd,Nat.reduceMul,Nat.reduceSub,beq_self_eq_true,List.cons_append,List.nil_append,beq_dec,vmI,vc13_1,g2,g3,g7]
  exact ⟨⟨k,p.pt,nr,of_,fr,d,fin,se,li⟩,v,_,_,_,_,_,_,_,_,_,_,_,rfl,hql,hq8,.inl ⟨rfl,((hS2.re ((List.perm_middle (l₁:=[_])).trans (.cons _ (.refl _)))))⟩⟩
 ·have hS2:=hS1.putC [num k,num pt,num p.nr,num of_,num fr,v,.bool fin,num se,num li]
  simp (disch:=omega) only [vm0,vm1,vm2,vm3,vm4,vm5,vm6,vm7,vmF,vmT,evo,wr,wrC,frame,Nat.reduceAdd,Nat.reduceMul,Nat.reduceSub,beq_self_eq_true,List.cons_append,List.nil_append,beq_dec,vmI,vc13_1,g2,g3,g7]
  exact ⟨⟨k,pt,p.nr,of_,fr,d,fin,se,li⟩,v,_,_,_,_,_,_,_,_,_,_,_,rfl,hql,hq8,.inl ⟨rfl,((hS2.re ((List.perm_middle (l₁:=[_])).trans (.cons _ (.refl _)))))⟩⟩
 ·have hS2:=hS1.putC [num k,num pt,num nr,num p.of_,num fr,v,.bool fin,num se,num li]
  simp (disch:=omega) only [vm0,vm1,vm2,vm3,vm4,vm5,vm6,vm7,vmF,vmT,evo,wr,wrC,frame,Nat.reduceAdd,Nat.reduceMul,Nat.reduceSub,beq_self_eq_true,List.cons_append,List.nil_append,beq_dec,vmI,vc13_1,g2,g3,g7]
  exact ⟨⟨k,pt,nr,p.of_,fr,d,fin,se,li⟩,v,_,_,_,_,_,_,_,_,_,_,_,rfl,hql,hq8,.inl ⟨rfl,((hS2.re ((List.perm_middle (l₁:=[_])).trans (.cons _ (.refl _)))))⟩⟩
 ·have hS2:=hS1.putC [num k,num pt,num nr,num of_,num p.fr,v,.bool fin,num se,num li]
  simp (disch:=omega) only [vm0,vm1,vm2,vm3,vm4,vm5,vm6,vm7,vmF,vmT,evo,wr,wrC,frame,Nat.reduceAdd,Nat.reduceMul,Nat.reduceSub,beq_self_eq_true,List.cons_append,List.nil_append,beq_dec,vmI,vc13_1,g2,g3,g7]
  exact ⟨⟨k,pt,nr,of_,p.fr,d,fin,se,li⟩,v,_,_,_,_,_,_,_,_,_,_,_,rfl,hql,hq8,.inl ⟨rfl,((hS2.re ((List.perm_middle (l₁:=[_])).trans (.cons _ (.refl _)))))⟩⟩
 ·simp (disch:=omega) only [vm0,vm1,vm2,vm3,vm4,vm5,vm6,vm7,vmF,vmT,evo,wr,wrC,frame,Nat.reduceAdd,Nat.reduceMul,Nat.reduceSub,beq_self_eq_true,List.cons_append,List.nil_append,beq_dec,vmI,vc13_1,g2,g3,g7]
  refine call_ok rfl rfl (cutB (n+2) s u p.d 70 (by omega) (by omega) hu1) ?_
  rintro y s3 ⟨f,a1,a2,a3⟩
  have hS2:=hS1.push (P:=oW y 1 encB (p.d.take 70)) a1 a2 a3
  have g4:=Sep.getC (((hS2.re ((List.perm_middle (l₁:=[_])).trans (.cons _ (.refl _))))))
  have hS3:=Sep.putC (((hS2.re ((List.perm_middle (l₁:=[_])).trans (.cons _ (.refl _)))))) [num k,num pt,num nr,num of_,num fr,y,.bool fin,num se,num li]
  have hyc:=cells1 a1.rd.rd.sl
  simp (disch:=omega) only [vm0,vm1,vm2,vm3,vm4,vm5,vm6,vm7,vmF,vmT,evo,wr,wrC,frame,Nat.reduceAdd,Nat.reduceMul,Nat.reduceSub,beq_self_eq_true,List.cons_append,List.nil_append,beq_dec,vmI,g2,g3,g4,hyc]
  exact ⟨⟨k,pt,nr,of_,fr,p.d.take 70,fin,se,li⟩,y,_,_,_,_,_,_,_,_,_,_,_,rfl,by have:=List.length_take_le 70 p.d; show (p.d.take 70).length≤80; omega,fun x hx=>hp.d x (List.mem_of_mem_take hx),.inl ⟨rfl,((hS3.re ((List.perm_middle (l₁:=[_,_])).trans (.cons _ ((List.perm_middle (l₁:=[_])).trans (.cons _ (.refl _)))))).drop)⟩⟩
 ·have hS2:=hS1.putC [num k,num pt,num nr,num of_,num fr,v,.bool true,num se,num li]
  simp (disch:=omega) only [vm0,vm1,vm2,vm3,vm4,vm5,vm6,vm7,vmF,vmT,evo,wr,wrC,frame,Nat.reduceAdd,Nat.reduceMul,Nat.reduceSub,beq_self_eq_true,List.cons_append,List.nil_append,beq_dec,vmI,vc13_1,g2,g3,g7]
  exact ⟨⟨k,pt,nr,of_,fr,d,true,se,li⟩,v,_,_,_,_,_,_,_,_,_,_,_,rfl,hql,hq8,.inl ⟨rfl,((hS2.re ((List.perm_middle (l₁:=[_])).trans (.cons _ (.refl _)))))⟩⟩
 ·have hS2:=hS1.putC [num k,num pt,num nr,num of_,num fr,v,.bool fin,num p.se,num li]
  simp (disch:=omega) only [vm0,vm1,vm2,vm3,vm4,vm5,vm6,vm7,vmF,vmT,evo,wr,wrC,frame,Nat.reduceAdd,Nat.reduceMul,Nat.reduceSub,beq_self_eq_true,List.cons_append,List.nil_append,beq_dec,vmI,vc13_1,g2,g3,g7]
  exact ⟨⟨k,pt,nr,of_,fr,d,fin,p.se,li⟩,v,_,_,_,_,_,_,_,_,_,_,_,rfl,hql,hq8,.inl ⟨rfl,((hS2.re ((List.perm_middle (l₁:=[_])).trans (.cons _ (.refl _)))))⟩⟩
 ·have hS2:=hS1.putC [num k,num pt,num nr,num of_,num fr,v,.bool fin,num se,num p.li]
  simp (disch:=omega) only [vm0,vm1,vm2,vm3,vm4,vm5,vm6,vm7,vmF,vmT,evo,wr,wrC,frame,Nat.reduceAdd,Nat.reduceMul,Nat.reduceSub,beq_self_eq_true,List.cons_append,List.nil_append,beq_dec,vmI,vc13_1,g2,g3,g7]
  exact ⟨⟨k,pt,nr,of_,fr,d,fin,se,p.li⟩,v,_,_,_,_,_,_,_,_,_,_,_,rfl,hql,hq8,.inl ⟨rfl,((hS2.re ((List.perm_middle (l₁:=[_])).trans (.cons _ (.refl _)))))⟩⟩
 ·simp (disch:=omega) only [vm0,vm1,vm2,vm3,vm4,vm5,vm6,vm7,vmF,vmT,evo,wr,wrC,frame,Nat.reduceAdd,Nat.reduceMul,Nat.reduceSub,beq_self_eq_true,List.cons_append,List.nil_append,beq_dec,vmI,vc13_1,g2,g3,g7]
  refine call_ok rfl rfl (wth (n+3) s p.fr 4098 hp.fr (by omega) (by omega)) ?_
  rintro y s2 ⟨r,rfl,hr,rfl⟩
  simp (disch:=omega) only [vm0,vm1,vm2,vm3,vm4,vm5,vm6,vm7,vmF,vmT,evo,wr,wrC,frame,Nat.reduceAdd,Nat.reduceMul,Nat.reduceSub,beq_self_eq_true,List.cons_append,List.nil_append,beq_dec,vmI,g2,g3,hsv,hsm]
  refine call_ok rfl rfl (wth (n+3) s2 p.nr 65537 hp.nr (by omega) (by omega)) ?_
  rintro y s3 ⟨r2,rfl,hr2,rfl⟩
  have hS3:=hS1.putC [num k,num pt,num nr,num of_,num r,v,.bool fin,num se,num li]
  have g6:=hS3.getC
  have hS4:=hS3.putC [num k,num pt,num r2,num of_,num r,v,.bool fin,num se,num li]
  have i3:=Sep.getC (((hS3.re ((List.perm_middle (l₁:=[_,_])).trans (.cons _ (.refl _))))))
  have i4:=Sep.getC (((hS4.re ((List.perm_middle (l₁:=[_,_])).trans (.cons _ (.refl _))))))
  simp (disch:=omega) only [vm0,vm1,vm2,vm3,vm4,vm5,vm6,vm7,vmF,vmT,evo,wr,wrC,frame,Nat.reduceAdd,Nat.reduceMul,Nat.reduceSub,beq_self_eq_true,List.cons_append,List.nil_append,beq_dec,vmI,g2,g3,g6,i3,i4,hsv,hsm,rw_7,rw_8]
  exact ⟨⟨k,pt,r2,of_,r,d,fin,se,li⟩,v,_,_,_,_,_,_,_,_,_,_,_,rfl,hql,hq8,.inl ⟨rfl,((hS4.re ((List.perm_middle (l₁:=[_])).trans (.cons _ (.refl _)))))⟩⟩
 ·simp (disch:=omega) only [vm0,vm1,vm2,vm3,vm4,vm5,vm6,vm7,vmF,vmT,evo,wr,wrC,frame,Nat.reduceAdd,Nat.reduceMul,Nat.reduceSub,beq_self_eq_true,List.cons_append,List.nil_append,beq_dec,vmI,vc13_1,g2,g3,g7]
  exact ⟨⟨k,pt,nr,of_,fr,d,fin,se,li⟩,v,_,_,_,_,_,_,_,_,_,_,_,rfl,hql,hq8,.inl ⟨rfl,hS⟩⟩
end
theorem Sep.fillC {s0 s:St} {b:Nat} {Ps:List Obj} (h:Sep s0 s (oT b::Ps)) (cs:List AV):Sep s0 (s.put b (some (.cells cs .own))) (oC b cs::Ps):=by
 obtain ⟨f,⟨h1,rfl⟩,up⟩:=h.hd
 exact up (oC b cs) (f':=[b]) ⟨get_put_eq rfl,by rw[next_put]; exact h1,rfl⟩ (.put (.inl (by simp))) (fun z hz => .inl hz)
theorem Sep.rsv {s0 s:St} {Ps:List Obj} (h:Sep s0 s Ps):Sep s0 ⟨s.heap,s.next+1⟩ (oT s.next::Ps) :=
 h.push (P:=oT s.next) (f:=[s.next]) ⟨Nat.lt_succ_self _,rfl⟩ ⟨Nat.le_succ _,fun _ _ _=>rfl⟩ (by intro z hz; simp at hz; right; omega)
section
variable {bd : Bd} {h : VF} {fu : Nat}
set_option maxHeartbeats 4000000 in
theorem playP (n:Nat) (s:St) (p:PkV) (u:AV) (how:Int) (hp:p.In) (hh:In64 how) (hu:RdE s u 1 encB p.d) :
  OutOk (callF bd (tab h).get fu (n+5) 13 [.agg (p.cs u),num how] s) (fun x s'=>∃ (q:PkV) (v:AV),Is x (.agg (q.cs v))∧q.d.length≤80∧(∀ x∈q.d,In8 x)∧Sep s s' [oW v 1 encB q.d]):=by
 refine call_code (t13 h) rfl ?_
 have hS:=(((Sep.nil (s:=s)).newC (p.cs u)).newC z9).rsv
 have g1:=Sep.getC (((hS.re ((List.perm_middle (l₁:=[_,_])).trans (.cons _ (.refl _))))))
 dsimp only[PkV.cs,z9,next_new] at *
 simp (disch:=omega) only [vm0,vm1,vm2,vm3,vm4,vm5,vm6,vm7,vmF,vmT,evo,wr,wrC,frame,Nat.reduceAdd,Nat.reduceMul,Nat.reduceSub,beq_self_eq_true,List.cons_append,List.nil_append,beq_dec,vmI,vc13,g1]
 generalize (⟨((s.new (.cells [num p.k,num p.pt,num p.nr,num p.of_,num p.fr,u,.bool p.fin,num p.se,num p.li] .own)).new (.cells [num 0,num 0,num 0,num 0,num 0,.nils,.bool false,num 0,num 0] .own)).heap,s.next+1+1+1⟩ : St)=s1 at *
 refine call_ok rfl rfl (wth (n+3) s1 p.k 4 hp.k (by omega) (by omega)) ?_
 rintro y s2 ⟨r,rfl,hr,rfl⟩
 have g2:=Sep.getC (((hS.re ((List.perm_middle (l₁:=[_,_])).trans (.cons _ (.refl _))))))
 simp (disch:=omega) only [vm0,vm1,vm2,vm3,vm4,vm5,vm6,vm7,vmF,vmT,evo,wr,wrC,frame,Nat.reduceAdd,Nat.reduceMul,Nat.reduceSub,beq_self_eq_true,List.cons_append,List.nil_append,beq_dec,vmI,g2]
 refine call_ok rfl rfl (wth (n+3) s2 p.pt 3 hp.pt (by omega) (by omega)) ?_
 rintro y s3 ⟨r2,rfl,hr2,rfl⟩
 simp (disch:=omega) only [vm0,vm1,vm2,vm3,vm4,vm5,vm6,vm7,vmF,vmT,evo,wr,wrC,frame,Nat.reduceAdd,Nat.reduceMul,Nat.reduceSub,beq_self_eq_true,List.cons_append,List.nil_append,beq_dec,vmI,g2]
 refine call_ok rfl rfl (wth (n+3) s3 p.nr 300 hp.nr (by omega) (by omega)) ?_
 rintro y s4 ⟨r3,rfl,hr3,rfl⟩
 have hS1:=hS.fillC [num 0,num 0,num 0,num 0,num 0,.nils,.bool false,num 0,num 0]
 have g3:=hS1.getC
 have hS2:=hS1.putC [num (1+r),num r2,num r3,num 0,num 0,.nils,.bool false,num 0,num 0]
 have g4:=hS2.getC
 have g5:=Sep.getC (((hS2.re ((List.perm_middle (l₁:=[_,_])).trans (.cons _ (.refl _))))))
 simp (disch:=omega) only [vm0,vm1,vm2,vm3,vm4,vm5,vm6,vm7,vmF,vmT,evo,wr,wrC,frame,Nat.reduceAdd,Nat.reduceMul,Nat.reduceSub,beq_self_eq_true,List.cons_append,List.nil_append,beq_dec,vmI,g2,g3,g4,g5,fNew]
 have hS3:=hS2.push (P:=oW .nils 1 encB []) (f:=[]) (.nil encB_w (by omega)) .refl (by simp[Nw])
 have hPS:PS s _ p u ⟨1+r,r2,r3,0,0,[],false,0,0⟩ .nils s.next (s.next+2) (s.next+1):=⟨((hS3.re (.cons _ (.cons _ ((List.perm_middle (l₁:=[_])).trans (.cons _ (.refl _))))))),by simp,by simp⟩
 clear hS hS1 hS2 hS3 g2 g3 g4 g5
 refine RsOk.mono (pk_sw0 (n+1) s _ p u ⟨1+r,r2,r3,0,0,[],false,0,0⟩ .nils s.next (s.next+2) (s.next+1) hp hu hPS _ _ _ _ _ _ _ _ _ _ _ _ _ _ _ _ _) ?_
 rintro e F s5 ⟨rfl,q,v,y8,y9,y10,rfl,hq⟩
 simp (disch:=omega) only [vm0,vm1,vm2,vm3,vm4,vm5,vm6,vm7,vmF,vmT,evo,wr,wrC,frame,Nat.reduceAdd,Nat.reduceMul,Nat.reduceSub,beq_self_eq_true,List.cons_append,List.nil_append,beq_dec,vmI,vc13_2]
 refine call_ok rfl rfl (wth (n+3) s5 how 40 hh (by omega) (by omega)) ?_
 rintro y s6 ⟨z,rfl,hz,rfl⟩
 simp (disch:=omega) only [vm0,vm1,vm2,vm3,vm4,vm5,vm6,vm7,vmF,vmT,evo,wr,wrC,frame,Nat.reduceAdd,Nat.reduceMul,Nat.reduceSub,beq_self_eq_true,List.cons_append,List.nil_append,beq_dec,vmI]
 refine RsOk.mono (pk_sw1 n s s6 p u q v s.next (s.next+2) (s.next+1) hp hu hq _ _ _ _ _ _ _ _ _ _ _ _ _ _ _ _ _ _) ?_
 rintro e F s7 ⟨q',v',y11,y12,y13,y14,y15,y16,y17,y18,y19,y20,y21,rfl,hl',h8',⟨rfl,hT⟩ | ⟨rfl,hT⟩⟩
 ·have g6:=Sep.getC (((hT.re ((List.perm_middle (l₁:=[_])).trans (.cons _ (.refl _))))))
  have g7:=Sep.getC (((hT.re ((List.perm_middle (l₁:=[_,_,_])).trans (.cons _ (.refl _))))))
  have hT2:=Sep.putC (((hT.re ((List.perm_middle (l₁:=[_,_,_])).trans (.cons _ (.refl _)))))) (q'.cs v')
  have g8:=hT2.getC
  dsimp only[PkV.cs,z9] at *
  simp (disch:=omega) only [vm0,vm1,vm2,vm3,vm4,vm5,vm6,vm7,vmF,vmT,evo,wr,wrC,frame,Nat.reduceAdd,Nat.reduceMul,Nat.reduceSub,beq_self_eq_true,List.cons_append,List.nil_append,beq_dec,vmI,g6,g7,g8]
  exact ⟨q',v',rfl,hl',h8',((hT2.re (.cons _ ((List.perm_middle (l₁:=[_])).trans (.cons _ ((List.perm_middle (l₁:=[_])).trans (.cons _ (.refl _))))))).drop.drop.drop)⟩
 ·have g6:=Sep.getC (((hT.re ((List.perm_middle (l₁:=[_])).trans (.cons _ (.refl _))))))
  dsimp only[PkV.cs] at *
  simp (disch:=omega) only [vm0,vm1,vm2,vm3,vm4,vm5,vm6,vm7,vmF,vmT,evo,wr,wrC,frame,Nat.reduceAdd,Nat.reduceMul,Nat.reduceSub,beq_self_eq_true,List.cons_append,List.nil_append,beq_dec,vmI,g6]
  exact ⟨q',v',rfl,hl',h8',((hT.re ((List.perm_middle (l₁:=[_])).trans (.cons _ (.refl _)))).drop)⟩
end
def z12:List AV:=[num 0,num 0,.nils,num 0,num 0,num 0,num 0,num 0,.nils,.bool false,num 0,num 0]
def Held (s:St) (fp:List Nat) (v:AV) (l:List Int):Prop:=∃ f,(∀ b∈f,b∈fp)∧OwE s v 1 encB l f
theorem Held.fr {s s':St} {fp fp':List Nat} {v:AV} {l:List Int} (h:Held s fp v l) (hf:Fr s s' fp') (hd:∀ b∈fp,b∉fp'):Held s' fp v l:=by
 obtain ⟨f,h1,h2⟩:=h
 exact ⟨f,h1,h2.fr hf fun b hb=>hd b (h1 b hb)⟩
theorem Held.mono {s:St} {fp fp':List Nat} {v:AV} {l:List Int} (h:Held s fp v l) (hs:∀ b∈fp,b∈fp'):Held s fp' v l:=by
 obtain ⟨f,h1,h2⟩:=h
 exact ⟨f,fun b hb=>hs b (h1 b hb),h2⟩
def oH (m:List EvR):Obj:=⟨fun s fp=>Lt s fp∧∀ x∈m,Held s fp x.u x.e.d∧Held s fp x.w x.e.p.d,
 fun h hf hd=>⟨h.1.mono hf.1,fun x hx=>⟨(h.2 x hx).1.fr hf hd,(h.2 x hx).2.fr hf hd⟩⟩,fun h=>h.1⟩
theorem Sep.held {s0 s:St} {e:EvV} {v w:AV} {m:List EvR} {Ps:List Obj} (h:Sep s0 s (oW v 1 encB e.d::oW w 1 encB e.p.d::oH m::Ps)):Sep s0 s (oH (m++[⟨e,v,w⟩])::Ps):=by
 obtain ⟨fp,⟨f,g,h1,⟨f2,g2,h2,⟨f3,g3,h3,h4,h5,rfl⟩,h6,rfl⟩,h7,rfl⟩,h8,h9⟩:=h
 refine ⟨(f++(f2++f3))++g3,⟨f++(f2++f3),g3,⟨?_,?_⟩,h4,?_,rfl⟩,fun b hb=>h8 b (by simp only[List.mem_append] at *; rcases hb with (h | h | h) | h <;> simp[h]),h9⟩
 ·intro b hb
  rcases List.mem_append.1 hb with hb | hb
  ·exact (show OwE s v 1 encB e.d f from h1).lt b hb
  ·rcases List.mem_append.1 hb with hb | hb
   ·exact (show OwE s w 1 encB e.p.d f2 from h2).lt b hb
   ·exact h3.1 b hb
 ·intro x hx
  rcases List.mem_append.1 hx with hx | hx
  ·exact ⟨(h3.2 x hx).1.mono fun b hb=>by simp[hb],(h3.2 x hx).2.mono fun b hb=>by simp[hb]⟩
  ·simp at hx; subst hx
   exact ⟨⟨f,fun b hb=>by simp[hb],h1⟩,⟨f2,fun b hb=>by simp[hb],h2⟩⟩
 ·intro b hb hm
  simp only[List.mem_append] at hb
  rcases hb with hb | hb | hb
  ·exact h7 b hb (by simp[hm])
  ·exact h6 b hb (by simp[hm])
  ·exact h5 b hb hm
theorem SepF.append {s:St}:∀ {Qs Ps:List Obj} {fq fp:List Nat},SepF s Qs fq→SepF s Ps fp→(∀ b∈fq,b∉fp)→SepF s (Qs++Ps) (fq++fp)
 | [],_,_,_,hq,hp,_=>by rw[show _=[] from hq]; exact hp
 | Q::Qs,Ps,_,fp,⟨f,g,h1,h2,h3,h4⟩,hp,hd=>by
  subst h4
  refine ⟨f,g++fp,h1,SepF.append h2 hp fun b hb=>hd b (by simp[hb]),fun b hb hm=>?_,by simp⟩
  rcases List.mem_append.1 hm with hm | hm
  ·exact h3 b hb hm
  ·exact hd b (by simp[hb]) hm
theorem Sep.app {s0 s1 s2:St} {Ps Qs:List Obj} (h:Sep s0 s1 Ps) (k:Sep s1 s2 Qs):Sep s0 s2 (Qs++Ps):=by
 obtain ⟨fp,h1,h2,h3⟩:=h
 obtain ⟨fq,k1,k2,k3⟩:=k
 refine ⟨fq++fp,SepF.append k1 (h1.fr k3 (by simp)) fun b hb hm=>?_,fun b hb=>?_,h3.trans k3 (fp2:=[]) (by simp) (by simp)⟩
 ·rcases k2 b hb with h | h
  ·simp at h
  ·have:=h1.lt b hm; omega
 ·rcases List.mem_append.1 hb with hb | hb
  ·rcases k2 b hb with h | h
   ·simp at h
   ·exact .inr (Nat.le_trans h3.1 h)
  ·exact h2 b hb
end Go.Proofs.YtlgbkpaihjnjpaaGreat.ctr
namespace Go.Proofs.YtlgbkpaihjnjpaaGreat.ctr
open Go Go.Vm Go.RowKit Go.ChangeShapes Go.WideShapes
def fkN (P:Program):Nat→TypeId→List Fk→Bool
 | 0,_,_=>false
 | n+1,e,ks=>P.cellsOf e==ks.length&&(match P.underlying e with
  | some (.struct fs)=>(List.range ks.length).all fun q=>(List.range fs.size).any fun j=>match fs[j]? with
   | some f=>Nat.ble f.offset q&&Nat.blt q (f.offset+P.cellsOf f.type)&&fkN P n f.type ((ks.drop f.offset).take (P.cellsOf f.type))
   | none=>false
  | _=>ks.length==1&&fkTy P (ks.getD 0 .i) e)
section
variable {H : Type} {enc : TypeId × Value → H} {P : Program} {w : World} {base : Nat} {held : Bool}
theorem trod_cells:∀ (n:Nat) {e:TypeId} {ks:List Fk} {fuel:Nat} {cs:List Value} {x:DataW H×List MemPlace},fkN P n e ks=true→DataW.trod enc P w base (fun _=>true) held fuel e cs=some x→cs.length=ks.length →
  ∀ q,q<ks.length→∃ v,cs[q]?=some v∧FkOk w (ks.getD q .i) v
 | 0,_,_,_,_,_,hk,_,_,_,_=>by cases hk
 | n+1,e,ks,fuel,cs,x,hk,h,hl,q,hq=>by
  unfold fkN at hk
  rw[Bool.and_eq_true] at hk
  obtain ⟨_,hk⟩:=hk
  split at hk
  ·rename_i fs hu
   rw[List.all_eq_true] at hk
   have h1:=hk q (List.mem_range.2 hq)
   rw[List.any_eq_true] at h1
   obtain ⟨j,hj,h2⟩:=h1
   obtain ⟨xs,k,_,_,_,hxl,hf⟩:=DataW.trod_struct hu h
   split at h2
   ·rename_i f hfj
    simp only[Bool.and_eq_true,Nat.ble_eq,Nat.blt_eq] at h2
    obtain ⟨⟨h3,h4⟩,h5⟩:=h2
    have g:=hf j f hfj
    have hlt:j<xs.length:=by rw[hxl]; exact List.mem_range.1 hj
    rw[List.getElem?_eq_getElem hlt] at g
    obtain ⟨v,hv,hkv⟩:=trod_cells n h5 g (by simp[hl]) (q-f.offset) (by simp; omega)
    refine ⟨v,?_,?_⟩
    ·rw[List.getElem?_take,if_pos (by omega),List.getElem?_drop] at hv
     rwa [show f.offset+(q-f.offset)=q from by omega] at hv
    ·have:((ks.drop f.offset).take (P.cellsOf f.type)).getD (q-f.offset) .i=ks.getD q .i:=by
      rw[List.getD,List.getD,List.getElem?_take,if_pos (by omega),List.getElem?_drop,show f.offset+(q-f.offset)=q from by omega]
     rwa [this] at hkv
   ·cases h2
  ·rename_i hu
   simp only[Bool.and_eq_true,beq_iff_eq] at hk
   have hq0:q=0:=by omega
   subst hq0
   match cs,hl.trans hk.1,h with
   | [y],_,h=>exact ⟨y,rfl,fk_open hk.2 h⟩
theorem fkN_len {n:Nat} {e:TypeId} {ks:List Fk} (hk:fkN P n e ks=true):P.cellsOf e=ks.length:=by
 cases n with
 | zero=>cases hk
 | succ n =>
  unfold fkN at hk
  rw[Bool.and_eq_true,beq_iff_eq] at hk
  exact hk.1
theorem open_rowN {t e:TypeId} {ks:List Fk} {fuel:Nat} {a:Option Addr} {len cap:Nat} {x:DataW H×List MemPlace} (ht:P.underlying t=some (.slice e)) (hk:fkN P 4 e ks=true) (hp:0<ks.length)
  (h:DataW.trod enc P w base (fun _=>true) held fuel t [.slice a len cap]=some x) :
  ∃ V,IsRowV w a len cap ks.length V∧∀ i,i<cap*ks.length→FkOk w (ks.getD (i%ks.length) .i) (V i):=by
 have ce:P.cellsOf e=ks.length:=fkN_len hk
 rcases Go.Deep.open_slice ht h with ⟨h0,_⟩ | ⟨b,l,c,m,n,D,Pl,h0,hb,hl,hm,hmm,rfl,hx⟩
 ·cases h0
  exact ⟨fun _ => .int .i64 0,.inl ⟨rfl,rfl,rfl⟩,fun i hi=>by simp at hi⟩
 ·cases h0
  obtain rfl:m=cap:=by simpa using hmm
  rw[ce] at hx
  have key:∀ q,q<m*ks.length→∃ v,w.cell? (b.add q)=some v∧FkOk w (ks.getD (q%ks.length) .i) v:=by
   intro q hq
   have hj:q%ks.length<ks.length:=Nat.mod_lt _ hp
   have hi:q / ks.length<m:=by rw[Nat.div_lt_iff_lt_mul hp]; exact hq
   have hqe:q / ks.length*ks.length+q%ks.length=q:=by rw[Nat.mul_comm]; exact Nat.div_add_mod q ks.length
   obtain ⟨cs',h1,h2⟩:=hx _ hi
   obtain ⟨_,hlen,hcell⟩:=World.cells?_some h1
   have e1:=hcell (q%ks.length) (by omega)
   rw[Go.Deep.add_add,hqe] at e1
   obtain ⟨v,hv,hkv⟩:=trod_cells 4 hk h2 (by omega) (q%ks.length) hj
   exact ⟨v,by rw[e1,hv],hkv⟩
  obtain ⟨V,hV⟩ : ∃ V:Nat→Value,∀ q,q<m*ks.length→w.cell? (b.add q)=some (V q)∧FkOk w (ks.getD (q%ks.length) .i) (V q):=by
   haveI:Inhabited Value:=⟨.bool false⟩
   exact Go.Deep.choose_lt key
  exact ⟨V,.inr ⟨_,rfl,hl,hm,fun i hi=>(hV i hi).1⟩,fun i hi=>(hV i hi).2⟩
end
end Go.Proofs.YtlgbkpaihjnjpaaGreat.ctr
namespace Go.Proofs.YtlgbkpaihjnjpaaGreat.ctr
open Go Go.Vm Go.RowKit Go.Ranges
def oL (Qs:List Obj):Obj:=⟨fun s fp=>SepF s Qs fp,SepF.fr,SepF.lt⟩
def oE {α:Type} (f:α→Obj):Obj:=⟨fun s fp=>∃ a,(f a).P s fp,fun ⟨a,h⟩ hf hd=>⟨a,(f a).fr h hf hd⟩,fun ⟨a,h⟩=>(f a).lt h⟩
theorem SepF.split {s:St}:∀ {Qs Ps:List Obj} {fp:List Nat},SepF s (Qs++Ps) fp→∃ fq fr,SepF s Qs fq∧SepF s Ps fr∧(∀ b∈fq,b∉fr)∧fp=fq++fr
 | [],_,fp,h=>⟨[],fp,rfl,h,by simp,rfl⟩
 | Q::Qs,Ps,fp,⟨f,g,h1,h2,h3,h4⟩=>by
  obtain ⟨fq,fr,k1,k2,k3,rfl⟩:=SepF.split h2
  subst h4
  exact ⟨f++fq,fr,⟨f,fq,h1,k1,fun b hb hm=>h3 b hb (by simp[hm]),rfl⟩,k2,fun b hb hm=>by
   rcases List.mem_append.1 hb with hb | hb
   ·exact h3 b hb (by simp[hm])
   ·exact k3 b hb hm,by rw[List.append_assoc]⟩
theorem Sep.openL {s0 s:St} {Qs Ps:List Obj} (h:Sep s0 s (oL Qs::Ps)):Sep s0 s (Qs++Ps):=by
 obtain ⟨fp,⟨f,g,h1,h2,h3,rfl⟩,h4,h5⟩:=h
 exact ⟨f++g,SepF.append h1 h2 h3,h4,h5⟩
theorem Sep.closeL {s0 s:St} {Qs Ps:List Obj} (h:Sep s0 s (Qs++Ps)):Sep s0 s (oL Qs::Ps):=by
 obtain ⟨fp,h1,h4,h5⟩:=h
 obtain ⟨fq,fr,k1,k2,k3,rfl⟩:=h1.split
 exact ⟨fq++fr,⟨fq,fr,k1,k2,k3,rfl⟩,h4,h5⟩
theorem Sep.openE {α:Type} {f:α→Obj} {s0 s:St} {Ps:List Obj} (h:Sep s0 s (oE f::Ps)):∃ a,Sep s0 s (f a::Ps):=by
 obtain ⟨fp,⟨g,r,⟨a,h1⟩,h2,h3,rfl⟩,h4,h5⟩:=h
 exact ⟨a,_,⟨g,r,h1,h2,h3,rfl⟩,h4,h5⟩
theorem Sep.closeE {α:Type} {f:α→Obj} {s0 s:St} {Ps:List Obj} (a:α) (h:Sep s0 s (f a::Ps)):Sep s0 s (oE f::Ps):=by
 obtain ⟨fp,⟨g,r,h1,h2,h3,rfl⟩,h4,h5⟩:=h
 exact ⟨_,⟨g,r,⟨a,h1⟩,h2,h3,rfl⟩,h4,h5⟩
def oT1 (p:Nat) (t:PT):Obj:=oE fun a:Nat×Nat×Nat=>oL [oC p (t.pc a.1 a.2.1 a.2.2),oC a.1 t.G.cs,oC a.2.1 t.W.cs,oF a.2.2 t.F]
theorem Sep.openT {s0 s:St} {p:Nat} {t:PT} {Ps:List Obj} (h:Sep s0 s (oT1 p t::Ps)):∃ g w f,Sep s0 s (oC p (t.pc g w f)::oC g t.G.cs::oC w t.W.cs::oF f t.F::Ps):=by
 obtain ⟨a,h1⟩:=Sep.openE h
 exact ⟨_,_,_,h1.openL⟩
theorem Sep.closeT {s0 s:St} {p g w f:Nat} {t:PT} {Ps:List Obj} (h:Sep s0 s (oC p (t.pc g w f)::oC g t.G.cs::oC w t.W.cs::oF f t.F::Ps)):Sep s0 s (oT1 p t::Ps) :=
 Sep.closeE (f:=fun a:Nat×Nat×Nat=>oL [oC p (t.pc a.1 a.2.1 a.2.2),oC a.1 t.G.cs,oC a.2.1 t.W.cs,oF a.2.2 t.F]) (g,w,f) (Sep.closeL (Qs:=[_,_,_,_]) h)
def oPS (ps:List Nat) (ts:List PT):Obj:=oL (List.zipWith oT1 ps ts)
theorem perm_idx {α:Type}:∀ {l:List α} {i:Nat} {x:α},l[i]?=some x→l.Perm (x::l.eraseIdx i)
 | [],_,_,h=>by simp at h
 | y::l,0,x,h=>by simp at h; subst h; simp
 | y::l,i+1,x,h=>by
  simp at h
  simp only[List.eraseIdx_cons_succ]
  exact ((perm_idx h).cons y).trans (List.Perm.swap _ _ _)
theorem zip_at {ps:List Nat} {ts:List PT} {i p:Nat} {t:PT} (hp:ps[i]?=some p) (ht:ts[i]?=some t):(List.zipWith oT1 ps ts)[i]?=some (oT1 p t):=by
 rw[List.getElem?_zipWith,hp,ht]
theorem zip_set:∀ {ps:List Nat} {ts:List PT} {i:Nat} {t:PT},(List.zipWith oT1 ps (ts.set i t)).eraseIdx i=(List.zipWith oT1 ps ts).eraseIdx i
 | [],_,_,_=>by simp
 | p::ps,[],i,t=>by simp
 | p::ps,u::ts,0,t=>by simp
 | p::ps,u::ts,i+1,t=>by simp[zip_set (ps:=ps) (ts:=ts) (i:=i) (t:=t)]
theorem Sep.focus {s0 s:St} {ps:List Nat} {ts:List PT} {i p:Nat} {t:PT} {Ps:List Obj} (h:Sep s0 s (oPS ps ts::Ps)) (hp:ps[i]?=some p) (ht:ts[i]?=some t) :
  ∃ R:Obj,Sep s0 s (oT1 p t::R::Ps)∧∀ {s':St} {t':PT} {Qs:List Obj},Sep s0 s' (oT1 p t'::R::Qs)→Sep s0 s' (oPS ps (ts.set i t')::Qs):=by
 refine ⟨oL ((List.zipWith oT1 ps ts).eraseIdx i),?_,fun {s' t' Qs} h'=>?_⟩
 ·have h1:=(Sep.openL h).perm ((perm_idx (zip_at hp ht)).append_right Ps)
  have h2:=h1.perm (List.perm_append_comm (l₁:=[oT1 p t]) (l₂:=(List.zipWith oT1 ps ts).eraseIdx i++Ps))
  rw[List.append_assoc] at h2
  have h3:=Sep.closeL h2
  exact (h3.perm (List.perm_append_comm (l₁:=_::Ps) (l₂:=[oT1 p t]))).perm (.refl _)
 ·have hi:i<ts.length:=(List.getElem?_eq_some_iff.1 ht).1
  have ht':(ts.set i t')[i]?=some t':=by simp[hi]
  have h1:=h'.swap.openL.perm (List.perm_middle (l₁:=(List.zipWith oT1 ps ts).eraseIdx i) (a:=oT1 p t') (l₂:=Qs))
  rw[←zip_set (t:=t')] at h1
  exact Sep.closeL (h1.perm ((perm_idx (zip_at hp ht')).append_right Qs).symm)
theorem Sep.up6 {s0 s:St} {A B C D E F G:Obj} {Ps:List Obj} (h:Sep s0 s (A::B::C::D::E::F::G::Ps)):Sep s0 s (G::A::B::C::D::E::F::Ps):=h.perm (List.perm_middle (l₁:=[A,B,C,D,E,F]) (a:=G) (l₂:=Ps))
theorem Sep.dn6 {s0 s:St} {A B C D E F G:Obj} {Ps:List Obj} (h:Sep s0 s (G::A::B::C::D::E::F::Ps)):Sep s0 s (A::B::C::D::E::F::G::Ps):=h.perm (List.perm_middle (l₁:=[A,B,C,D,E,F]) (a:=G) (l₂:=Ps)).symm
def PT.free (t:PT):Bool:=t.usable&&decide (t.sent≤65535)
section
variable {bd : Bd} {h : VF} {fu : Nat}
theorem m_more (n:Nat) {s0:St} (s:St) (p g w f:Nat) (t:PT) (Ps:List Obj) (hS:Sep s0 s (oC p (t.pc g w f)::Ps)):OutOk (callF bd (tab h).get fu (n+1) 134 [.ptr p 0] s) (fun x s'=>Is x (.bool (decide (t.sent≤65535)))∧Is s' s):=by
 refine call_code (t134 h) rfl ?_
 obtain ⟨up,jn,bh,sn,G,W,F⟩:=t
 dsimp only[PT.pc] at *
 have g1:=hS.getC
 by_cases hl:sn≤65535
 ·simp (disch:=omega) only [vm0,vm1,vm2,vm3,vm4,vm5,vm6,vm7,vmF,vmT,evo,wr,wrC,frame,Nat.reduceAdd,Nat.reduceMul,Nat.reduceSub,beq_self_eq_true,List.cons_append,List.nil_append,beq_dec,vmI,vc134,g1]
  exact ⟨rfl,rfl⟩
 ·simp (disch:=omega) only [vm0,vm1,vm2,vm3,vm4,vm5,vm6,vm7,vmF,vmT,evo,wr,wrC,frame,Nat.reduceAdd,Nat.reduceMul,Nat.reduceSub,beq_self_eq_true,List.cons_append,List.nil_append,beq_dec,vmI,vc134,g1]
  exact ⟨rfl,rfl⟩
theorem m_number (n:Nat) {s0:St} (s:St) (p:Nat) (t:PT) (Ps:List Obj) (hS:Sep s0 s (oT1 p t::Ps)) (hs0:0≤t.sent) (hs:t.sent≤65536):OutOk (callF bd (tab h).get fu (n+2) 95 [.ptr p 0] s) (fun x s'=>(t.sent≤65535→Is x (.tup [num t.sent,.bool true])∧Sep s0 s' (oT1 p { t with sent:=t.sent+1 }::Ps))∧(¬t.sent≤65535→Is x (.tup [num 0,.bool false])∧Is s' s)):=by
 refine call_code (t95 h) rfl ?_
 obtain ⟨g,w,f,hS⟩:=hS.openT
 have hm:=m_more (bd:=bd) (fu:=fu) (h:=h) n s p g w f t _ hS
 obtain ⟨up,jn,bh,sn,G,W,F⟩:=t
 dsimp only at hm hs hs0
 have g1:=hS.getC
 dsimp only[PT.pc] at g1
 by_cases hl:sn≤65535
 ·rw[decide_eq_true hl] at hm
  simp (disch:=omega) only [vm0,vm1,vm2,vm3,vm4,vm5,vm6,vm7,vmF,vmT,evo,wr,wrC,frame,Nat.reduceAdd,Nat.reduceMul,Nat.reduceSub,beq_self_eq_true,List.cons_append,List.nil_append,beq_dec,vmI,vc95]
  refine call_ok rfl rfl hm ?_
  rintro y s1 ⟨rfl,rfl⟩
  simp (disch:=omega) only [vm0,vm1,vm2,vm3,vm4,vm5,vm6,vm7,vmF,vmT,evo,wr,wrC,frame,Nat.reduceAdd,Nat.reduceMul,Nat.reduceSub,beq_self_eq_true,List.cons_append,List.nil_append,beq_dec,vmI,g1,Int.add_sub_cancel]
  exact ⟨fun _=>⟨rfl,Sep.closeT (t:=⟨up,jn,bh,sn+1,G,W,F⟩) (hS.setC _)⟩,fun h=>absurd hl h⟩
 ·rw[decide_eq_false hl] at hm
  simp (disch:=omega) only [vm0,vm1,vm2,vm3,vm4,vm5,vm6,vm7,vmF,vmT,evo,wr,wrC,frame,Nat.reduceAdd,Nat.reduceMul,Nat.reduceSub,beq_self_eq_true,List.cons_append,List.nil_append,beq_dec,vmI,vc95]
  refine call_ok rfl rfl hm ?_
  rintro y s1 ⟨rfl,rfl⟩
  simp (disch:=omega) only [vm0,vm1,vm2,vm3,vm4,vm5,vm6,vm7,vmF,vmT,evo,wr,wrC,frame,Nat.reduceAdd,Nat.reduceMul,Nat.reduceSub,beq_self_eq_true,List.cons_append,List.nil_append,beq_dec,vmI,g1]
  exact ⟨fun h=>absurd h hl,fun _=>⟨rfl,rfl⟩⟩
theorem m_usable (n:Nat) {s0:St} (s:St) (p:Nat) (t:PT) (Ps:List Obj) (hS:Sep s0 s (oT1 p t::Ps)):OutOk (callF bd (tab h).get fu (n+2) 119 [.ptr p 0] s) (fun x s'=>Is x (.bool t.free)∧Is s' s):=by
 refine call_code (t119 h) rfl ?_
 obtain ⟨g,w,f,hS⟩:=hS.openT
 have hm:=m_more (bd:=bd) (fu:=fu) (h:=h) n s p g w f t _ hS
 obtain ⟨up,jn,bh,sn,G,W,F⟩:=t
 have g1:=hS.getC
 dsimp only[PT.pc,PT.free,PT.usable] at *
 cases up
 ·simp (disch:=omega) only [vm0,vm1,vm2,vm3,vm4,vm5,vm6,vm7,vmF,vmT,evo,wr,wrC,frame,Nat.reduceAdd,Nat.reduceMul,Nat.reduceSub,beq_self_eq_true,List.cons_append,List.nil_append,beq_dec,vmI,vc119,vmU,g1]
  exact ⟨rfl,rfl⟩
 cases jn
 ·simp (disch:=omega) only [vm0,vm1,vm2,vm3,vm4,vm5,vm6,vm7,vmF,vmT,evo,wr,wrC,frame,Nat.reduceAdd,Nat.reduceMul,Nat.reduceSub,beq_self_eq_true,List.cons_append,List.nil_append,beq_dec,vmI,vc119,vmU,g1]
  exact ⟨rfl,rfl⟩
 simp (disch:=omega) only [vm0,vm1,vm2,vm3,vm4,vm5,vm6,vm7,vmF,vmT,evo,wr,wrC,frame,Nat.reduceAdd,Nat.reduceMul,Nat.reduceSub,beq_self_eq_true,List.cons_append,List.nil_append,beq_dec,vmI,vc119,vmU,g1]
 refine call_ok rfl rfl (d_flen n s f F _ (((hS.re ((List.perm_middle (l₁:=[_,_,_])).trans (.cons _ (.refl _))))))) ?_
 rintro y s1 ⟨rfl,rfl⟩
 simp (disch:=omega) only [vm0,vm1,vm2,vm3,vm4,vm5,vm6,vm7,vmF,vmT,evo,wr,wrC,frame,Nat.reduceAdd,Nat.reduceMul,Nat.reduceSub,beq_self_eq_true,List.cons_append,List.nil_append,beq_dec,vmI,vmU,g1]
 refine call_ok rfl rfl (c_room n s1 w W _ _ (((hS.re ((List.perm_middle (l₁:=[_,_])).trans (.cons _ (.refl _))))))) ?_
 rintro y s1 ⟨rfl,rfl⟩
 by_cases hk:(F.length:Int)<W.si
 ·by_cases hl:sn≤65535
  ·simp (disch:=omega) only [vm0,vm1,vm2,vm3,vm4,vm5,vm6,vm7,vmF,vmT,evo,wr,wrC,frame,Nat.reduceAdd,Nat.reduceMul,Nat.reduceSub,beq_self_eq_true,List.cons_append,List.nil_append,beq_dec,vmI,vmU,g1]
   refine call_ok rfl rfl hm ?_
   rintro y s1 ⟨rfl,rfl⟩
   simp (disch:=omega) only [vm0,vm1,vm2,vm3,vm4,vm5,vm6,vm7,vmF,vmT,evo,wr,wrC,frame,Nat.reduceAdd,Nat.reduceMul,Nat.reduceSub,beq_self_eq_true,List.cons_append,List.nil_append,beq_dec,vmI,vmU,g1]
   exact ⟨rfl,rfl⟩
  ·simp (disch:=omega) only [vm0,vm1,vm2,vm3,vm4,vm5,vm6,vm7,vmF,vmT,evo,wr,wrC,frame,Nat.reduceAdd,Nat.reduceMul,Nat.reduceSub,beq_self_eq_true,List.cons_append,List.nil_append,beq_dec,vmI,vmU,g1]
   refine call_ok rfl rfl hm ?_
   rintro y s1 ⟨rfl,rfl⟩
   simp (disch:=omega) only [vm0,vm1,vm2,vm3,vm4,vm5,vm6,vm7,vmF,vmT,evo,wr,wrC,frame,Nat.reduceAdd,Nat.reduceMul,Nat.reduceSub,beq_self_eq_true,List.cons_append,List.nil_append,beq_dec,vmI,vmU,g1]
   exact ⟨rfl,rfl⟩
 ·simp (disch:=omega) only [vm0,vm1,vm2,vm3,vm4,vm5,vm6,vm7,vmF,vmT,evo,wr,wrC,frame,Nat.reduceAdd,Nat.reduceMul,Nat.reduceSub,beq_self_eq_true,List.cons_append,List.nil_append,beq_dec,vmI,vmU,g1]
  exact ⟨rfl,rfl⟩
end
end Go.Proofs.YtlgbkpaihjnjpaaGreat.ctr
