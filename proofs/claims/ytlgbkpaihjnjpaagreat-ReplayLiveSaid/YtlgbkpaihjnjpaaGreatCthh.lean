/- What functions of the program compute, one by one (8). -/
import Derived.Test.YtlgbkpaihjnjpaaGreatCtgg
set_option linter.unusedVariables false
set_option linter.unusedSimpArgs false
set_option linter.unusedSectionVars false
set_option linter.constructorNameAsVariable false
set_option linter.defProp false
namespace Go.Proofs.YtlgbkpaihjnjpaaGreat.ctr
open Go Go.Vm Go.RowKit Go.Ranges
def EN.run (X:EN) (i:Nat):List EvV→Int×EN
 | []=>(-1,X)
 | e::l=>if i=X.log.length then
   (if (inpB e&&X.doB e)=true then (if (X.doE e).log[i]?=some e then (X.doE e).run (i+1) l else ((i:Int),X)) else ((i:Int),X))
  else if X.log[i]?=some e then X.run (i+1) l else ((i:Int),X)
theorem run_c (X:EN) (i:Nat) (e:EvV) (l:List EvV):X.run i (e::l)=if i=X.log.length then
   (if (inpB e&&X.doB e)=true then (if (X.doE e).log[i]?=some e then (X.doE e).run (i+1) l else ((i:Int),X)) else ((i:Int),X))
  else if X.log[i]?=some e then X.run (i+1) l else ((i:Int),X):=rfl
section
variable {bd : Bd} {h : VF} {fu : Nat}
set_option maxHeartbeats 8000000 in
theorem n_run (hs:SortOk h) (n:Nat) {s0:St} (s:St) (c:CF) (side:Int) (v:AV) (l:List EvR) (Ps:List Obj) (hS:Sep s0 s Ps) (hc:c.Vd) (hsd:side=0∨side=1) (hv:∀ s',Sep s0 s' Ps→RdE s' v 12 EvR.enc l) (hd:∀ x∈l,Hd Ps x.u x.e.d∧Hd Ps x.w x.e.p.d∧x.e.Ft) (hl:l.length≤400000) (hfu:1200000<fu) :
  OutOk (callF bd (tab h).get fu (n+10) 17 [.agg c.cs,num side,v] s) (fun x s'=>∃ y,Is x (.tup [y,num ((EN.new c side).run 0 (l.map EvR.e)).1]) ∧
   (((EN.new c side).run 0 (l.map EvR.e)).1 = -1→Sep s0 s' (oW y 1 encI ((EN.new c side).run 0 (l.map EvR.e)).2.state::Ps))∧(((EN.new c side).run 0 (l.map EvR.e)).1 ≠ -1→Is y .nils∧Sep s0 s' Ps)):=by
 refine call_code (t17 h) rfl ?_
 have hS1:=hS.newC c.cs
 have g1:=hS1.getC
 have hnew:=n_new (bd:=bd) (h:=h) (fu:=fu) (n+4) _ c side _ hS1 hc hsd (by omega)
 have hO:=EN.Ok.new hc side
 have hlg0:(EN.new c side).log=[]:=rfl
 generalize EN.new c side=X0 at *
 obtain ⟨pa,bu,wi,ch,mo,fi,sc⟩:=c
 dsimp only[CF.cs] at *
 simp (disch:=omega) only [vm0,vm1,vm2,vm3,vm4,vm5,vm6,vm7,vmF,vmT,evo,wr,wrC,frame,Nat.reduceAdd,Nat.reduceMul,Nat.reduceSub,beq_self_eq_true,List.cons_append,List.nil_append,beq_dec,vmI,vc17,g1]
 refine call_ok rfl rfl hnew ?_
 rintro y s2 ⟨e,gv,rfl,hE⟩
 have hE2:=hE.drop
 have hvl:=(hv _ (EndJ.tail hE2)).lenV
 simp (disch:=omega) only [vm0,vm1,vm2,vm3,vm4,vm5,vm6,vm7,vmF,vmT,evo,wr,wrC,frame,Nat.reduceAdd,Nat.reduceMul,Nat.reduceSub,beq_self_eq_true,List.cons_append,List.nil_append,beq_dec,vmI,hvl]
 have hT0:EndS gv s0 s2 e X0 (oW .nils 12 EvR.enc []::oH []::Ps):=by
  obtain ⟨H,hnp,hS2⟩:=hE2
  have h1:=hS2.push (P:=oH []) (f:=[]) ⟨by simp[Lt],by simp⟩ .refl (by simp[Nw])
  have h2:=h1.push (P:=oW .nils 12 EvR.enc []) (f:=[]) (.nil EvR.wid (by omega)) .refl (by simp[Nw])
  exact ⟨H,hnp,((h2.re ((List.perm_middle (l₁:=[_,_])).trans (.cons _ ((List.perm_middle (l₁:=[_,_])).trans (.cons _ ((List.perm_middle (l₁:=[_,_])).trans (.cons _ ((List.perm_middle (l₁:=[_,_])).trans (.cons _ ((List.perm_middle (l₁:=[_,_])).trans (.cons _ ((List.perm_middle (l₁:=[_,_])).trans (.cons _ ((List.perm_middle (l₁:=[_,_])).trans (.cons _ ((List.perm_middle (l₁:=[_,_])).trans (.cons _ ((List.perm_middle (l₁:=[_,_])).trans (.cons _ (.refl _)))))))))))))))))))))⟩
 clear hE hE2 hS hS1 g1 hnew
 refine x_loop (fun j F s'=>∃ i:Nat,∃ z told x3 x6 x12 x14 x15 x16,∃ (Y:EN) (m:List EvR),j=l.length-i∧i≤l.length∧z=(i:Int)∧F=[some (.agg [num pa,num bu,num wi,num ch,num mo,num fi,num sc]),some (num side),some v,x3,some (num z),some told,x6,some (.ptr e 0),some (.ptr s.next 0),some (num 0),some (.bool false),some (num l.length),x12,some v,x14,x15,x16,some .nils,some (num 0)]∧Y.Ok i∧m.map EvR.e=Y.log∧EndS gv s0 s' e Y (oW told 12 EvR.enc m::oH m::Ps)∧X0.run 0 (l.map EvR.e)=Y.run i ((l.map EvR.e).drop i)) l.length (by omega) ?_ ?_
 ·exact ⟨0,0,.nils,_,_,_,_,_,_,X0,[],by omega,by omega,rfl,rfl,hO,by rw[hlg0]; rfl,hT0,rfl⟩
 ·clear hT0 hO
  rintro j F s2 ⟨i,_,told,x3,x6,x12,x14,x15,x16,Y,m,rfl,hi,rfl,rfl,hOk,hmY,hE,hrun⟩ hj
  by_cases hlt:i<l.length
  case neg =>
   obtain rfl:i=l.length:=by omega
   rw[List.drop_eq_nil_of_le (by simp)] at hrun
   have hr2:X0.run 0 (l.map EvR.e)=(-1,Y):=hrun
   simp (disch:=omega) only [vm0,vm1,vm2,vm3,vm4,vm5,vm6,vm7,vmF,vmT,evo,wr,wrC,frame,Nat.reduceAdd,Nat.reduceMul,Nat.reduceSub,beq_self_eq_true,List.cons_append,List.nil_append,beq_dec,vmI]
   refine call_ok rfl rfl (n_state (n+3) s2 e Y l.length _ hE hOk hfu) ?_
   rintro y s3 hE3
   simp (disch:=omega) only [vm0,vm1,vm2,vm3,vm4,vm5,vm6,vm7,vmF,vmT,evo,wr,wrC,frame,Nat.reduceAdd,Nat.reduceMul,Nat.reduceSub,beq_self_eq_true,List.cons_append,List.nil_append,beq_dec,vmI]
   rw[hr2]
   have hT:=EndJ.tail hE3
   exact ⟨_,rfl,fun _=>((hT.re ((List.perm_middle (l₁:=[_])).trans (.cons _ ((List.perm_middle (l₁:=[_])).trans (.cons _ (.refl _)))))).drop.drop),fun h=>absurd rfl h⟩
  obtain ⟨x,hx⟩ : ∃ x,l[i]?=some x:=⟨_,List.getElem?_eq_getElem hlt⟩
  obtain ⟨hxu,hxw,hft⟩:=hd x (List.mem_of_getElem? hx)
  have hvr:=hv _ (EndJ.tail hE).drop.drop
  have e1:=hvr.ia hx
  have e2:=hvr.at hx
  have hxe:(l.map EvR.e)[i]?=some x.e:=by rw[List.getElem?_map,hx]; rfl
  rw[drop_of hxe,run_c] at hrun
  obtain ⟨⟨ek,en,d,⟨pk,pt,nr,of_,fr,pd,fin,se,li⟩⟩,u,w⟩:=x
  obtain ⟨H,hnp,hS2⟩:=hE
  have hSc:=hS2.cell z12 [num ek,num en,u,num pk,num pt,num nr,num of_,num fr,w,.bool fin,num se,num li]
  have hEc:EndS gv s0 _ e Y (oC s2.next [num ek,num en,u,num pk,num pt,num nr,num of_,num fr,w,.bool fin,num se,num li]::oW told 12 EvR.enc m::oH m::Ps):=⟨H,hnp,((hSc.re ((List.perm_middle (l₁:=[_])).trans (.cons _ ((List.perm_middle (l₁:=[_])).trans (.cons _ ((List.perm_middle (l₁:=[_])).trans (.cons _ ((List.perm_middle (l₁:=[_])).trans (.cons _ ((List.perm_middle (l₁:=[_])).trans (.cons _ ((List.perm_middle (l₁:=[_])).trans (.cons _ ((List.perm_middle (l₁:=[_])).trans (.cons _ ((List.perm_middle (l₁:=[_])).trans (.cons _ ((List.perm_middle (l₁:=[_])).trans (.cons _ (.refl _)))))))))))))))))))))⟩
  clear hSc hS2
  dsimp only[EvR.enc,EvV.cs,z12] at *
  have hml:m.length=Y.log.length:=by rw[←hmY,List.length_map]
  simp (disch:=omega) only [vm0,vm1,vm2,vm3,vm4,vm5,vm6,vm7,vmF,vmT,evo,wr,wrC,frame,Nat.reduceAdd,Nat.reduceMul,Nat.reduceSub,beq_self_eq_true,List.cons_append,List.nil_append,beq_dec,vmI,e1,e2]
  generalize (s2.new (.cells [num 0,num 0,.nils,num 0,num 0,num 0,num 0,num 0,.nils,.bool false,num 0,num 0] .own)).put s2.next (some (.cells [num ek,num en,u,num pk,num pt,num nr,num of_,num fr,w,.bool fin,num se,num li] .own))=s3 at *
  generalize hb1:s2.next=b1 at *
  have gb:=(EndJ.tail hEc).getC
  have htl:=(Sep.rdW (EndJ.tail hEc).drop).lenV
  by_cases hil:i=Y.log.length
  case neg =>
   rw[if_neg hil] at hrun
   have hne:i≠m.length:=by omega
   simp (disch:=omega) only [vm0,vm1,vm2,vm3,vm4,vm5,vm6,vm7,vmF,vmT,evo,wr,wrC,frame,Nat.reduceAdd,Nat.reduceMul,Nat.reduceSub,beq_self_eq_true,List.cons_append,List.nil_append,beq_dec,vmI,vmU,htl]
   have hOY:Y.Ok ((i:Int)+1):=hOk.up1 (by omega)
   have hE3:=hEc
   have hm3:=hmY
   generalize Y=Y3 at *
   generalize m=m3 at *
   have hlogY:=hOY.log
   have hlm:m3.length=Y3.log.length:=by rw[←hm3,List.length_map]
   have htl:=(Sep.rdW (EndJ.tail hE3).drop).lenV
   have g3:=(EndJ.tail hE3).getC
   by_cases hge:i<m3.length
   ·obtain ⟨z,hz⟩ : ∃ z,m3[i]?=some z:=⟨_,List.getElem?_eq_getElem hge⟩
    have hzl:Y3.log[i]?=some z.e:=by rw[←hm3,List.getElem?_map,hz]; rfl
    have hft3:=hOY.lg z.e (List.mem_of_getElem? hzl)
    have hok3:=Sep.oks2 (EndJ.tail hE3).drop.drop (fun y hy=>hOY.lg y (by rw[←hm3]; exact hy)) z (List.mem_of_getElem? hz)
    have htr:=Sep.rdW (EndJ.tail hE3).drop
    have e3:=htr.ia hz
    have e4:=htr.at hz
    have svt:=Sep.sameW (EndJ.tail hE3).drop
    have hsame:=e_same (bd:=bd) (h:=h) (fu:=fu) (n+6) s3 z.e ⟨ek,en,d,⟨pk,pt,nr,of_,fr,pd,fin,se,li⟩⟩ z.u z.w u w hok3.u hok3.w (hxu.rd (EndJ.tail hE3).drop.drop.drop) (hxw.rd (EndJ.tail hE3).drop.drop.drop) hok3.h8 hok3.h9 hft.h8 hft.h9
    have hdec:decide (z.e=(⟨ek,en,d,⟨pk,pt,nr,of_,fr,pd,fin,se,li⟩⟩ : EvV))=decide (Y3.log[i]?=some (⟨ek,en,d,⟨pk,pt,nr,of_,fr,pd,fin,se,li⟩⟩ : EvV)):=by rw[hzl]; simp
    rw[hdec] at hsame
    generalize hze:z.e=ze at *
    obtain ⟨zk,zn,zd,⟨zpk,zpt,znr,zof,zfr,zpd,zfin,zse,zli⟩⟩:=ze
    rw[show EvR.enc z=EvV.cs ⟨zk,zn,zd,⟨zpk,zpt,znr,zof,zfr,zpd,zfin,zse,zli⟩⟩ z.u z.w by unfold EvR.enc; rw[hze]] at e4
    dsimp only[EvV.cs] at e4 hsame
    simp (disch:=omega) only [vm0,vm1,vm2,vm3,vm4,vm5,vm6,vm7,vmF,vmT,evo,wr,wrC,frame,Nat.reduceAdd,Nat.reduceMul,Nat.reduceSub,beq_self_eq_true,List.cons_append,List.nil_append,beq_dec,vmI,vmU,htl,g3,e3,e4,svt]
    refine call_ok rfl rfl hsame ?_
    rintro y s4 ⟨rfl,hf4⟩
    have hE4:=EndS.fr hE3 hf4
    by_cases heq:Y3.log[i]?=some (⟨ek,en,d,⟨pk,pt,nr,of_,fr,pd,fin,se,li⟩⟩ : EvV)
    ·rw[decide_eq_true heq]
     rw[if_pos heq] at hrun
     simp (disch:=omega) only [vm0,vm1,vm2,vm3,vm4,vm5,vm6,vm7,vmF,vmT,evo,wr,wrC,frame,Nat.reduceAdd,Nat.reduceMul,Nat.reduceSub,beq_self_eq_true,List.cons_append,List.nil_append,beq_dec,vmI,vmU]
     exact ⟨l.length-(i+1),by omega,i+1,(i:Int)+1,_,_,_,_,_,_,_,Y3,m3,rfl,by omega,by omega,rfl,hOY,hm3,hE4.drop,hrun⟩
    ·rw[decide_eq_false heq]
     rw[if_neg heq] at hrun
     simp (disch:=omega) only [vm0,vm1,vm2,vm3,vm4,vm5,vm6,vm7,vmF,vmT,evo,wr,wrC,frame,Nat.reduceAdd,Nat.reduceMul,Nat.reduceSub,beq_self_eq_true,List.cons_append,List.nil_append,beq_dec,vmI,vmU]
     rw[hrun]
     exact ⟨_,rfl,fun h=>absurd h (by dsimp only; omega),fun _=>⟨rfl,(EndJ.tail hE4).drop.drop.drop⟩⟩
   ·have hnone:Y3.log[i]?=none:=by rw[List.getElem?_eq_none_iff]; omega
    rw[hnone,if_neg (by simp)] at hrun
    simp (disch:=omega) only [vm0,vm1,vm2,vm3,vm4,vm5,vm6,vm7,vmF,vmT,evo,wr,wrC,frame,Nat.reduceAdd,Nat.reduceMul,Nat.reduceSub,beq_self_eq_true,List.cons_append,List.nil_append,beq_dec,vmI,vmU,du_lda,htl,g3]
    rw[hrun]
    exact ⟨_,rfl,fun h=>absurd h (by dsimp only; omega),fun _=>⟨rfl,(EndJ.tail hE3).drop.drop.drop⟩⟩
  rw[if_pos hil] at hrun
  have him:i=m.length:=by omega
  simp (disch:=omega) only [vm0,vm1,vm2,vm3,vm4,vm5,vm6,vm7,vmF,vmT,evo,wr,wrC,frame,Nat.reduceAdd,Nat.reduceMul,Nat.reduceSub,beq_self_eq_true,List.cons_append,List.nil_append,beq_dec,vmI,vmU,htl,gb]
  refine call_ok rfl rfl (n_input (n+8) s3 ⟨ek,en,d,⟨pk,pt,nr,of_,fr,pd,fin,se,li⟩⟩ u w) ?_
  rintro y s4 ⟨rfl,hf4⟩
  have hE4:=EndS.fr hEc hf4
  have gb4:=(EndJ.tail hE4).getC
  cases hin:inpB ⟨ek,en,d,⟨pk,pt,nr,of_,fr,pd,fin,se,li⟩⟩
  ·rw[hin] at hrun
   simp only[Bool.false_and,Bool.false_eq_true,if_false] at hrun
   simp (disch:=omega) only [vm0,vm1,vm2,vm3,vm4,vm5,vm6,vm7,vmF,vmT,evo,wr,wrC,frame,Nat.reduceAdd,Nat.reduceMul,Nat.reduceSub,beq_self_eq_true,List.cons_append,List.nil_append,beq_dec,vmI,vmU]
   rw[hrun]
   exact ⟨_,rfl,fun h=>absurd h (by dsimp only; omega),fun _=>⟨rfl,(EndJ.tail hE4).drop.drop.drop⟩⟩
  rw[hin,Bool.true_and] at hrun
  simp (disch:=omega) only [vm0,vm1,vm2,vm3,vm4,vm5,vm6,vm7,vmF,vmT,evo,wr,wrC,frame,Nat.reduceAdd,Nat.reduceMul,Nat.reduceSub,beq_self_eq_true,List.cons_append,List.nil_append,beq_dec,vmI,vmU,gb4]
  refine call_ok rfl rfl (n_do hs n s4 e Y i ⟨ek,en,d,⟨pk,pt,nr,of_,fr,pd,fin,se,li⟩⟩ u w _ hE4 hOk (by omega) hft hxu.cons.cons.cons hxw.cons.cons.cons hfu) ?_
  rintro y s5 ⟨rfl,hE5⟩
  cases hdb:Y.doB ⟨ek,en,d,⟨pk,pt,nr,of_,fr,pd,fin,se,li⟩⟩
  ·rw[hdb] at hrun
   simp only[Bool.false_eq_true,if_false] at hrun
   simp (disch:=omega) only [vm0,vm1,vm2,vm3,vm4,vm5,vm6,vm7,vmF,vmT,evo,wr,wrC,frame,Nat.reduceAdd,Nat.reduceMul,Nat.reduceSub,beq_self_eq_true,List.cons_append,List.nil_append,beq_dec,vmI,vmU]
   rw[hrun]
   exact ⟨_,rfl,fun h=>absurd h (by dsimp only; omega),fun _=>⟨rfl,(EndJ.tail hE5).drop.drop.drop⟩⟩
  rw[hdb] at hrun
  simp only[if_true] at hrun
  have hOY:=EN.Ok.doE hOk hft (by omega)
  generalize hY3:Y.doE ⟨ek,en,d,⟨pk,pt,nr,of_,fr,pd,fin,se,li⟩⟩=Y3 at *
  simp (disch:=omega) only [vm0,vm1,vm2,vm3,vm4,vm5,vm6,vm7,vmF,vmT,evo,wr,wrC,frame,Nat.reduceAdd,Nat.reduceMul,Nat.reduceSub,beq_self_eq_true,List.cons_append,List.nil_append,beq_dec,vmI,vmU,htl]
  refine call_ok rfl rfl (n_events (n+5) s5 e Y3 _ _ hE5 hOY hfu) ?_
  rintro told3 s6 ⟨m3,hm3,hE6⟩
  have hE3:EndS gv s0 s6 e Y3 (oC b1 [num ek,num en,u,num pk,num pt,num nr,num of_,num fr,w,.bool fin,num se,num li]::oW told3 12 EvR.enc m3::oH m3::Ps):=by
   obtain ⟨H6,hnp6,hS6⟩:=hE6
   exact ⟨H6,hnp6,((hS6.re ((List.perm_middle (l₁:=[_,_,_,_,_,_,_,_,_,_,_,_])).trans (.cons _ ((List.perm_middle (l₁:=[_,_,_,_,_,_,_,_,_,_,_,_])).trans (.cons _ (.cons _ (.cons _ (.cons _ (.cons _ (.cons _ (.cons _ (.cons _ (.cons _ (.cons _ ((List.perm_middle (l₁:=[_,_])).trans (.cons _ (.refl _))))))))))))))))).drop.drop)⟩
  clear hE6 hE5 hE4 hEc htl
  generalize s6=s3 at *
  simp (disch:=omega) only [vm0,vm1,vm2,vm3,vm4,vm5,vm6,vm7,vmF,vmT,evo,wr,wrC,frame,Nat.reduceAdd,Nat.reduceMul,Nat.reduceSub,beq_self_eq_true,List.cons_append,List.nil_append,beq_dec,vmI]
  have hlogY:=hOY.log
  have hlm:m3.length=Y3.log.length:=by rw[←hm3,List.length_map]
  have htl:=(Sep.rdW (EndJ.tail hE3).drop).lenV
  have g3:=(EndJ.tail hE3).getC
  by_cases hge:i<m3.length
  ·obtain ⟨z,hz⟩ : ∃ z,m3[i]?=some z:=⟨_,List.getElem?_eq_getElem hge⟩
   have hzl:Y3.log[i]?=some z.e:=by rw[←hm3,List.getElem?_map,hz]; rfl
   have hft3:=hOY.lg z.e (List.mem_of_getElem? hzl)
   have hok3:=Sep.oks2 (EndJ.tail hE3).drop.drop (fun y hy=>hOY.lg y (by rw[←hm3]; exact hy)) z (List.mem_of_getElem? hz)
   have htr:=Sep.rdW (EndJ.tail hE3).drop
   have e3:=htr.ia hz
   have e4:=htr.at hz
   have svt:=Sep.sameW (EndJ.tail hE3).drop
   have hsame:=e_same (bd:=bd) (h:=h) (fu:=fu) (n+6) s3 z.e ⟨ek,en,d,⟨pk,pt,nr,of_,fr,pd,fin,se,li⟩⟩ z.u z.w u w hok3.u hok3.w (hxu.rd (EndJ.tail hE3).drop.drop.drop) (hxw.rd (EndJ.tail hE3).drop.drop.drop) hok3.h8 hok3.h9 hft.h8 hft.h9
   have hdec:decide (z.e=(⟨ek,en,d,⟨pk,pt,nr,of_,fr,pd,fin,se,li⟩⟩ : EvV))=decide (Y3.log[i]?=some (⟨ek,en,d,⟨pk,pt,nr,of_,fr,pd,fin,se,li⟩⟩ : EvV)):=by rw[hzl]; simp
   rw[hdec] at hsame
   generalize hze:z.e=ze at *
   obtain ⟨zk,zn,zd,⟨zpk,zpt,znr,zof,zfr,zpd,zfin,zse,zli⟩⟩:=ze
   rw[show EvR.enc z=EvV.cs ⟨zk,zn,zd,⟨zpk,zpt,znr,zof,zfr,zpd,zfin,zse,zli⟩⟩ z.u z.w by unfold EvR.enc; rw[hze]] at e4
   dsimp only[EvV.cs] at e4 hsame
   simp (disch:=omega) only [vm0,vm1,vm2,vm3,vm4,vm5,vm6,vm7,vmF,vmT,evo,wr,wrC,frame,Nat.reduceAdd,Nat.reduceMul,Nat.reduceSub,beq_self_eq_true,List.cons_append,List.nil_append,beq_dec,vmI,vmU,htl,g3,e3,e4,svt]
   refine call_ok rfl rfl hsame ?_
   rintro y s4 ⟨rfl,hf4⟩
   have hE4:=EndS.fr hE3 hf4
   by_cases heq:Y3.log[i]?=some (⟨ek,en,d,⟨pk,pt,nr,of_,fr,pd,fin,se,li⟩⟩ : EvV)
   ·rw[decide_eq_true heq]
    rw[if_pos heq] at hrun
    simp (disch:=omega) only [vm0,vm1,vm2,vm3,vm4,vm5,vm6,vm7,vmF,vmT,evo,wr,wrC,frame,Nat.reduceAdd,Nat.reduceMul,Nat.reduceSub,beq_self_eq_true,List.cons_append,List.nil_append,beq_dec,vmI,vmU]
    exact ⟨l.length-(i+1),by omega,i+1,(i:Int)+1,_,_,_,_,_,_,_,Y3,m3,rfl,by omega,by omega,rfl,hOY,hm3,hE4.drop,hrun⟩
   ·rw[decide_eq_false heq]
    rw[if_neg heq] at hrun
    simp (disch:=omega) only [vm0,vm1,vm2,vm3,vm4,vm5,vm6,vm7,vmF,vmT,evo,wr,wrC,frame,Nat.reduceAdd,Nat.reduceMul,Nat.reduceSub,beq_self_eq_true,List.cons_append,List.nil_append,beq_dec,vmI,vmU]
    rw[hrun]
    exact ⟨_,rfl,fun h=>absurd h (by dsimp only; omega),fun _=>⟨rfl,(EndJ.tail hE4).drop.drop.drop⟩⟩
  ·have hnone:Y3.log[i]?=none:=by rw[List.getElem?_eq_none_iff]; omega
   rw[hnone,if_neg (by simp)] at hrun
   simp (disch:=omega) only [vm0,vm1,vm2,vm3,vm4,vm5,vm6,vm7,vmF,vmT,evo,wr,wrC,frame,Nat.reduceAdd,Nat.reduceMul,Nat.reduceSub,beq_self_eq_true,List.cons_append,List.nil_append,beq_dec,vmI,vmU,du_lda,htl,g3]
   rw[hrun]
   exact ⟨_,rfl,fun h=>absurd h (by dsimp only; omega),fun _=>⟨rfl,(EndJ.tail hE3).drop.drop.drop⟩⟩
end
def LogLe (X Y:EN):Prop:=∃ S,Y.log=X.log++S
theorem LogLe.rfl' {X Y:EN} (h:Y.log=X.log):LogLe X Y:=⟨[],by rw[h]; simp⟩
theorem LogLe.trans {X Y Z:EN} (h:LogLe X Y) (k:LogLe Y Z):LogLe X Z:=by
 obtain ⟨S,h⟩:=h
 obtain ⟨T,k⟩:=k
 exact ⟨S++T,by rw[k,h,List.append_assoc]⟩
theorem LogLe.say (X:EN) (p:PkV):LogLe X (X.say p):=by
 unfold EN.say
 split
 ·split
  ·exact ⟨_,rfl⟩
  ·exact .rfl' rfl
 ·exact .rfl' rfl
theorem LogLe.data (X:EN) (i:Nat) (a b:Int):LogLe X (X.data i a b):=by
 unfold EN.data
 split
 ·obtain ⟨S,h⟩:=LogLe.say X (dtaP X.o i a b)
  exact ⟨S,h⟩
 ·exact LogLe.say ..
theorem LogLe.datas:∀ (l:List Int) (X:EN) (a b:Int),LogLe X (X.datas l a b)
 | [],X,a,b => .rfl' rfl
 | x::l,X,a,b=>(LogLe.data X x.toNat a b).trans (LogLe.datas l (X.data x.toNat a b) a b)
theorem pick_log (X:EN):X.pick.2.log=X.log:=by
 unfold EN.pick
 split <;> rfl
theorem LogLe.pumpN:∀ (n:Nat) (X:EN),LogLe X (X.pumpN n)
 | 0,X => .rfl' rfl
 | n+1,X=>by
  rw[pumpN_s]
  split
  ·split
   ·exact ((LogLe.rfl' (show X.nexted.pick.2.log=X.log by rw[pick_log]; rfl)).trans (LogLe.datas _ _ _ _)).trans (LogLe.pumpN n _)
   ·exact .rfl' rfl
  ·exact .rfl' rfl
theorem LogLe.pump (X:EN):LogLe X X.pump:=LogLe.pumpN _ X
theorem LogLe.probe (X:EN):LogLe X X.probe:=by
 unfold EN.probe
 split
 ·exact (LogLe.rfl' (pick_log X)).trans (LogLe.datas _ _ _ _)
 ·exact .rfl' rfl
theorem LogLe.join (X:EN) (i:Nat):LogLe X (X.join i):=by
 obtain ⟨S,h⟩:=LogLe.say X (joP i)
 exact ⟨S,h⟩
theorem LogLe.lost:∀ (l:List O) (X:EN),LogLe X (X.lost l)
 | [],X => .rfl' rfl
 | o::l,X=>(LogLe.rfl' (X:=X) (Y:={ X with pl:=addC o.2.1 o.2.2.1 X.pl }) rfl).trans (LogLe.lost l _)
theorem LogLe.tickP (now:Int) (X:EN) (i:Nat):LogLe X (X.tickP now i):=by
 unfold EN.tickP
 split
 ·split
  ·exact LogLe.join ..
  ·exact (LogLe.rfl' rfl).trans (LogLe.lost _ _)
 ·exact .rfl' rfl
theorem LogLe.tickB (X:EN) (now:Int):∀ k,LogLe (X.tickA now) (X.tickB now k)
 | 0 => .rfl' rfl
 | k+1=>by rw[tickB_s]; exact (LogLe.tickB X now k).trans (LogLe.tickP ..)
theorem LogLe.tickC (X:EN):LogLe X X.tickC:=by
 unfold EN.tickC
 split
 ·exact (LogLe.pump X).trans (LogLe.probe _)
 ·exact LogLe.pump X
theorem LogLe.heard (X:EN) (p:PkV) (t:PT):LogLe X (X.heard p t):=by
 unfold EN.heard
 split
 ·exact (LogLe.rfl' rfl).trans (LogLe.say _ _)
 split
 ·exact (LogLe.rfl' rfl).trans (LogLe.pump _)
 split
 ·exact (LogLe.rfl' rfl).trans (LogLe.say _ _)
 ·exact (LogLe.rfl' rfl).trans (LogLe.pump _)
theorem LogLe.note {X Y Z:EN} {e:EvV} (h:Y.log=X.log++[e]) (k:LogLe Y Z):∃ S,Z.log=X.log++e::S:=by
 obtain ⟨S,k⟩:=k
 exact ⟨S,by rw[k,h,List.append_assoc]; rfl⟩
def Rp (A X:EN):Prop:=∀ l,A.run 0 (X.log++l)=X.run X.log.length l
theorem Rp.new (c:CF) (side:Int):Rp (EN.new c side) (EN.new c side):=fun l=>rfl
theorem run_tail (Y:EN) (l:List EvV):∀ (S B:List EvV),Y.log=B++S→Y.run B.length (S++l)=Y.run Y.log.length l
 | [],B,h=>by rw[h]; simp
 | e::S,B,h=>by
  have h1:=run_tail Y l S (B++[e]) (by rw[h]; simp)
  rw[List.length_append,List.length_singleton] at h1
  rw[List.cons_append,run_c,if_neg (by rw[h]; simp),if_pos (by rw[h]; simp)]
  exact h1
theorem Rp.step {A X:EN} (h:Rp A X) {e:EvV} (hi:inpB e=true) (hb:X.doB e=true) (hl:∃ S,(X.doE e).log=X.log++e::S):Rp A (X.doE e):=by
 obtain ⟨S,hS⟩:=hl
 intro l
 rw[hS,List.append_assoc,h,List.cons_append,run_c,if_pos rfl,hi,hb,if_pos (show (true&&true)=true from rfl),if_pos (by rw[hS]; simp)]
 have h1:=run_tail (X.doE e) l S (X.log++[e]) (by rw[hS]; simp)
 rw[List.length_append,List.length_singleton] at h1
 rw[h1,hS]
theorem Rp.run {A X:EN} (h:Rp A X):A.run 0 X.log=(-1,X):=by
 have:=h []
 rw[List.append_nil] at this
 rw[this]; rfl
theorem Rp.write {A X:EN} (h:Rp A X) (l:List Int):Rp A (X.write l):=by
 obtain ⟨r1,r2,r3⟩:=room_bd X.o l
 by_cases h0:X.o.room l.length=0
 ·rw[show X.write l=X from if_pos h0]; exact h
 have hlen:((l.take (X.o.room l.length).toNat).length:Int)=X.o.room l.length:=by rw[List.length_take]; omega
 have hroom:X.o.room ((l.take (X.o.room l.length).toNat).length:Int)=X.o.room l.length:=by
  rw[hlen]
  unfold OB.room
  by_cases hc:X.o.closed=true
  ·simp only[if_pos hc]
  ·simp only[if_neg hc]; omega
 have hw:X.write l=X.doE (evD 1 (l.take (X.o.room l.length).toNat)):=by
  unfold EN.doE
  rw[if_pos (show (evD 1 (l.take (X.o.room l.length).toNat)).k=1 from rfl)]
  show X.write l=X.write (l.take (X.o.room l.length).toNat)
  unfold EN.write
  rw[hroom,List.take_take,Nat.min_self]
  rw[if_neg h0,if_neg h0]
  have ho:X.o.write (l.take (X.o.room l.length).toNat)=X.o.write l:=by
   unfold OB.write
   rw[hroom,List.take_take,Nat.min_self]
  rw[ho]
 rw[hw]
 refine h.step rfl ?_ ?_
 ·unfold EN.doB
  rw[if_pos (show (evD 1 (l.take (X.o.room l.length).toNat)).k=1 from rfl)]
  show (decide (0<(l.take (X.o.room l.length).toNat).length)&&decide (X.o.room ((l.take (X.o.room l.length).toNat).length:Int)=((l.take (X.o.room l.length).toNat).length:Int)))=true
  rw[hroom,hlen]
  simp only[decide_true,Bool.and_true,decide_eq_true_eq]
  omega
 ·rw[←hw]
  rw[show X.write l=EN.pump (EN.note { X with o:=X.o.write l } (evD 1 (l.take (X.o.room l.length).toNat))) from if_neg h0]
  exact LogLe.note (X:=X) (Y:=EN.note { X with o:=X.o.write l } (evD 1 (l.take (X.o.room l.length).toNat))) rfl (LogLe.pump _)
theorem Rp.read {A X:EN} {k:Int} (h:Rp A X) (hX:X.Ok k) (z:Int):Rp A (X.read z):=by
 obtain ⟨h1,h2,h3⟩:=hX.ig.n_bd z
 have hol:=(out_len hX z).1
 by_cases h0:X.i.out z=[]
 ·rw[show X.read z=X from if_pos h0]; exact h
 have hn:X.i.n_ ((X.i.out z).length:Int)=X.i.n_ z:=by
  rw[hol]
  unfold IB.n_ at *
  omega
 have ho:X.i.out ((X.i.out z).length:Int)=X.i.out z:=by
  show (X.i.b.take (X.i.tk+X.i.n_ ((X.i.out z).length:Int)).toNat).drop X.i.tk.toNat=_
  rw[hn]; rfl
 have hr:X.i.read ((X.i.out z).length:Int)=X.i.read z:=by unfold IB.read; rw[hn]
 have hw:X.read z=X.doE (evD 2 (X.i.out z)):=by
  unfold EN.doE
  rw[if_neg (by simp[evD]),if_pos (show (evD 2 (X.i.out z)).k=2 from rfl)]
  show X.read z=X.read ((X.i.out z).length:Int)
  unfold EN.read
  rw[ho,hr]
 rw[hw]
 refine h.step rfl ?_ ?_
 ·unfold EN.doB
  rw[if_neg (by simp[evD]),if_pos (show (evD 2 (X.i.out z)).k=2 from rfl)]
  show decide (X.i.out ((X.i.out z).length:Int)=X.i.out z)=true
  rw[ho]; simp
 ·rw[←hw,show X.read z=EN.note { X with i:=X.i.read z } (evD 2 (X.i.out z)) from if_neg h0]
  exact ⟨[],rfl⟩
theorem do_3 (X:EN) {e:EvV} (h:e.k=3):X.doE e=X.tick e.n∧X.doB e=X.mayT e.n:=by
 unfold EN.doE EN.doB
 rw[if_neg (by omega),if_neg (by omega),if_pos h,if_neg (by omega),if_neg (by omega),if_pos h]; exact ⟨rfl,rfl⟩
theorem do_4 (X:EN) {e:EvV} (h:e.k=4):X.doE e=X.come e.p∧X.doB e=X.may e.p:=by
 unfold EN.doE EN.doB
 rw[if_neg (by omega),if_neg (by omega),if_neg (by omega),if_pos h,if_neg (by omega),if_neg (by omega),if_neg (by omega),if_pos h]; exact ⟨rfl,rfl⟩
theorem do_6 (X:EN) {e:EvV} (h:e.k=6):X.doE e=X.close∧X.doB e=!X.o.closed:=by
 unfold EN.doE EN.doB
 rw[if_neg (by omega),if_neg (by omega),if_neg (by omega),if_neg (by omega),if_pos h,if_neg (by omega),if_neg (by omega),if_neg (by omega),if_neg (by omega),if_pos h]; exact ⟨rfl,rfl⟩
theorem do_7 (X:EN) {e:EvV} (h:e.k=7):X.doE e=X.up e.n∧X.doB e=X.mayU e.n:=by
 unfold EN.doE EN.doB
 rw[if_neg (by omega),if_neg (by omega),if_neg (by omega),if_neg (by omega),if_neg (by omega),if_pos h,if_neg (by omega),if_neg (by omega),if_neg (by omega),if_neg (by omega),if_neg (by omega),if_pos h]; exact ⟨rfl,rfl⟩
theorem do_8 (X:EN) {e:EvV} (h:e.k=8):X.doE e=X.down e.n∧X.doB e=X.mayD e.n:=by
 unfold EN.doE EN.doB
 rw[if_neg (by omega),if_neg (by omega),if_neg (by omega),if_neg (by omega),if_neg (by omega),if_neg (by omega),if_neg (by omega),if_neg (by omega),if_neg (by omega),if_neg (by omega),if_neg (by omega),if_neg (by omega)]; exact ⟨rfl,rfl⟩
theorem Rp.tick {A X:EN} (h:Rp A X) (now:Int):Rp A (X.tick now):=by
 cases hm:X.mayT now
 ·rw[show X.tick now=X from if_neg (by rw[hm]; simp)]; exact h
 obtain ⟨hw',hb'⟩:=do_3 X (e:=evN 3 now) rfl
 have hw:X.tick now=X.doE (evN 3 now):=hw'.symm
 rw[hw]
 refine h.step rfl (hb'.trans hm) ?_
 rw[←hw,show X.tick now=(X.tickB now X.P.length).tickC from if_pos hm]
 exact LogLe.note (X:=X) (Y:=X.tickA now) rfl ((LogLe.tickB X now _).trans (LogLe.tickC _))
theorem Rp.close {A X:EN} (h:Rp A X):Rp A X.close:=by
 cases hc:X.o.closed
 ·obtain ⟨hw',hb'⟩:=do_6 X (e:=evN 6 0) rfl
  have hw:X.close=X.doE (evN 6 0):=hw'.symm
  rw[hw]
  refine h.step rfl (hb'.trans (by rw[hc]; rfl)) ?_
  rw[←hw,show X.close=EN.pump (EN.note { X with o:={ X.o with closed:=true } } (evN 6 0)) from if_neg (by rw[hc]; simp)]
  exact LogLe.note (X:=X) (Y:=EN.note { X with o:={ X.o with closed:=true } } (evN 6 0)) rfl (LogLe.pump _)
 ·rw[show X.close=X from if_pos hc]; exact h
theorem Rp.up {A X:EN} (h:Rp A X) (z:Int):Rp A (X.up z):=by
 cases hm:X.mayU z
 ·rw[show X.up z=X from if_neg (by rw[hm]; simp)]; exact h
 have hz:0≤z:=by unfold EN.mayU at hm; simp only[Bool.and_eq_true,decide_eq_true_eq] at hm; exact hm.1.1
 obtain ⟨hw',hb'⟩:=do_7 X (e:=evN 7 z) rfl
 have hw:X.up z=X.doE (evN 7 z):=hw'.symm
 rw[hw]
 refine h.step rfl (hb'.trans hm) ?_
 rw[←hw]
 unfold EN.up
 rw[hm]
 simp only[if_true]
 have hzn:evN 7 (z.toNat:Int)=evN 7 z:=by rw[Int.toNat_of_nonneg hz]
 split
 ·rename_i t ht
  rw[←hzn]
  split
  ·exact LogLe.note (X:=X) (Y:=X.upA z.toNat t) rfl (LogLe.join _ _)
  ·exact LogLe.note (X:=X) (Y:=X.upA z.toNat t) rfl (LogLe.pump _)
 ·rename_i ht
  unfold EN.mayU at hm
  rw[ht] at hm; simp at hm
theorem Rp.down {A X:EN} (h:Rp A X) (z:Int):Rp A (X.down z):=by
 cases hm:X.mayD z
 ·rw[show X.down z=X from if_neg (by rw[hm]; simp)]; exact h
 have hz:0≤z:=by unfold EN.mayD at hm; simp only[Bool.and_eq_true,decide_eq_true_eq] at hm; exact hm.1.1
 obtain ⟨hw',hb'⟩:=do_8 X (e:=evN 8 z) rfl
 have hw:X.down z=X.doE (evN 8 z):=hw'.symm
 rw[hw]
 refine h.step rfl (hb'.trans hm) ?_
 rw[←hw]
 unfold EN.down
 rw[hm]
 simp only[if_true]
 have hzn:evN 8 (z.toNat:Int)=evN 8 z:=by rw[Int.toNat_of_nonneg hz]
 split
 ·rename_i t ht
  rw[←hzn]
  exact LogLe.note (X:=X) (Y:=EN.setP (X.note (evN 8 z.toNat)) z.toNat { t with up:=false,F:=[] }) rfl ((LogLe.lost _ _).trans (LogLe.pump _))
 ·rename_i ht
  unfold EN.mayD at hm
  rw[ht] at hm; simp at hm
theorem Rp.come {A X:EN} (h:Rp A X) (p:PkV):Rp A (X.come p):=by
 cases hm:X.may p
 ·rw[show X.come p=X from if_neg (by rw[hm]; simp)]; exact h
 obtain ⟨hw',hb'⟩:=do_4 X (e:=evP 4 p) rfl
 have hw:X.come p=X.doE (evP 4 p):=hw'.symm
 rw[hw]
 refine h.step rfl (hb'.trans hm) ?_
 rw[←hw]
 unfold EN.come
 rw[hm]
 simp only[if_true]
 split
 ·exact LogLe.note (X:=X) (Y:=X.note (evP 4 p)) rfl (LogLe.heard _ _ _)
 ·rename_i ht
  unfold EN.may at hm
  rw[ht] at hm; simp at hm
def plC:CF:=⟨2,60,50,10,4,3,1⟩
theorem plC_vd:plC.Vd:=⟨by decide,by decide,by decide,by decide,by decide,by decide,by decide⟩
theorem wk_tick:((EN.new plC 0).tick 3).now=3∧((EN.new plC 0).tick 3).log=[evN 3 3]:=⟨by decide,by decide⟩
theorem wk_run:((EN.new plC 0).run 0 [evN 3 3,evN 3 3]).1=1:=by
 obtain ⟨h1,h2⟩:=wk_tick
 obtain ⟨d1,d2⟩:=do_3 (EN.new plC 0) (e:=evN 3 3) rfl
 obtain ⟨d3,d4⟩:=do_3 ((EN.new plC 0).tick 3) (e:=evN 3 3) rfl
 have d1':(EN.new plC 0).doE (evN 3 3)=(EN.new plC 0).tick 3:=d1
 have d2':(EN.new plC 0).doB (evN 3 3)=true:=d2.trans (by decide)
 have d4':((EN.new plC 0).tick 3).doB (evN 3 3)=false:=d4.trans (by
  show decide (((EN.new plC 0).tick 3).now<3∧(3:Int)≤1048576)=false
  rw[h1]; decide)
 have hi:inpB (evN 3 3)=true:=by decide
 rw[run_c,if_pos (by decide),hi,d2',if_pos (show (true&&true)=true from rfl),d1',h2,if_pos (by decide),run_c,h2,if_pos (by decide),hi,d4',if_neg (by decide)]
 rfl
theorem rdE_of {α:Type} {enc:α→List AV} {sz n:Nat} {s:St} {b:Nat} {l:List α} {cs:List AV} (hg:s.heap.get b=some (.cells cs .own)) (hb:b<s.next) (hc:cs=l.flatMap enc) (hn:l.length=n) (hw:∀ x,(enc x).length=sz) (hp:0<sz):RdE s (.sl b 0 n n true sz) sz enc l:=by
 subst hn
 subst hc
 have h:OwE s (.sl b 0 l.length l.length true sz) sz enc l [b]:=⟨.inr ⟨b,l.length,l.length,true,.own,[],rfl,Nat.le_refl _,flat_len hw l,by rw[List.append_nil]; exact hg,.inl ⟨rfl,rfl⟩⟩,hw,hp,fun z hz=>by simp at hz; subst hz; exact hb⟩
 exact h.rd
theorem Hd.nil {Ps:List Obj}:Hd Ps .nils []:=fun s g _=>⟨.nil encB_w (by omega),trivial⟩
section
variable {bd : Bd} {h : VF} {fu : Nat} {gv : AV × List Nat}
theorem n_plain (n:Nat) (s:St):OutOk (callF bd (tab h).get fu (n+1) 70 [] s) (fun x s'=>Is x (.agg plC.cs)∧Fr s s' []):=by
 refine call_code (t70 h) rfl ?_
 simp (disch:=omega) only [vm0,vm1,vm2,vm3,vm4,vm5,vm6,vm7,vmF,vmT,evo,wr,wrC,frame,Nat.reduceAdd,Nat.reduceMul,Nat.reduceSub,beq_self_eq_true,List.cons_append,List.nil_append,beq_dec,vmI,vc70]
 exact ⟨rfl,by exact (by (repeat' (first | exact Fr.refl | assumption | apply Fr.new' | apply Fr.mk' | apply Fr.put')) <;> (first | omega | (left; simp; done) | (right; simp only[next_put,next_new,next_mk]; omega) | (simp only[next_put,next_new,next_mk]; omega)))⟩
set_option maxHeartbeats 4000000 in
theorem wakes24 (hs:SortOk h) (n:Nat) (s:St) (hfu:1200000<fu):OutOk (callF bd (tab h).get fu (n+11) 21 [] s) (fun x s'=>Is x (.bool true)):=by
 refine call_code (t21 h) rfl ?_
 simp (disch:=omega) only [vm0,vm1,vm2,vm3,vm4,vm5,vm6,vm7,vmF,vmT,evo,wr,wrC,frame,Nat.reduceAdd,Nat.reduceMul,Nat.reduceSub,beq_self_eq_true,List.cons_append,List.nil_append,beq_dec,vmI,vc21]
 refine call_ok rfl rfl (n_plain (n+9) s) ?_
 rintro y s1 ⟨rfl,hf1⟩
 simp (disch:=omega) only [vm0,vm1,vm2,vm3,vm4,vm5,vm6,vm7,vmF,vmT,evo,wr,wrC,frame,Nat.reduceAdd,Nat.reduceMul,Nat.reduceSub,beq_self_eq_true,List.cons_append,List.nil_append,beq_dec,vmI]
 refine call_ok rfl rfl (n_new (n+5) s1 plC 0 [] .nil plC_vd (.inl rfl) (by omega)) ?_
 rintro y s2 ⟨e,gv,rfl,H,hnp,hS⟩
 have hO:=EN.Ok.new plC_vd 0
 have hrun2:=wk_run
 have hr0:(EN.new plC 0).run 0 []=(-1,EN.new plC 0):=rfl
 have hst0:0<(EN.new plC 0).state.length:=by unfold EN.state EN.st0; simp
 simp (disch:=omega) only [vm0,vm1,vm2,vm3,vm4,vm5,vm6,vm7,vmF,vmT,evo,wr,wrC,frame,Nat.reduceAdd,Nat.reduceMul,Nat.reduceSub,beq_self_eq_true,List.cons_append,List.nil_append,beq_dec,vmI,vmU]
 refine call_ok rfl rfl (n_plain (n+9) s2) ?_
 rintro y s3 ⟨rfl,hf3⟩
 simp (disch:=omega) only [vm0,vm1,vm2,vm3,vm4,vm5,vm6,vm7,vmF,vmT,evo,wr,wrC,frame,Nat.reduceAdd,Nat.reduceMul,Nat.reduceSub,beq_self_eq_true,List.cons_append,List.nil_append,beq_dec,vmI]
 refine call_ok rfl rfl (n_run hs n s3 plC 0 .nils [] _ (hS.fr hf3) plC_vd (.inl rfl) (fun s' _ => .nil EvR.wid (by omega)) (by simp) (by simp) hfu) ?_
 rw[List.map_nil,hr0]
 rintro y s4 ⟨v1,rfl,q1,_⟩
 have hS4:=q1 rfl
 have hv1:=hS4.rdW.lenV
 have hv1c:=cells1 hS4.rdW.rd.sl
 simp (disch:=omega) only [vm0,vm1,vm2,vm3,vm4,vm5,vm6,vm7,vmF,vmT,evo,wr,wrC,frame,Nat.reduceAdd,Nat.reduceMul,Nat.reduceSub,beq_self_eq_true,List.cons_append,List.nil_append,beq_dec,vmI,hv1c]
 refine call_ok rfl rfl (n_plain (n+9) s4) ?_
 rintro y s5 ⟨rfl,hf5⟩
 simp (disch:=omega) only [vm0,vm1,vm2,vm3,vm4,vm5,vm6,vm7,vmF,vmT,evo,wr,wrC,frame,Nat.reduceAdd,Nat.reduceMul,Nat.reduceSub,beq_self_eq_true,List.cons_append,List.nil_append,beq_dec,vmI]
 have hS5:=hS4.fr hf5
 have hS6:=hS5.newC ([⟨evN 3 3,.nils,.nils⟩,⟨evN 3 3,.nils,.nils⟩].flatMap EvR.enc)
 have hR:=n_run (bd:=bd) (h:=h) (fu:=fu) hs n _ plC 0 (.sl s5.next 0 2 2 true 12) [⟨evN 3 3,.nils,.nils⟩,⟨evN 3 3,.nils,.nils⟩] _ hS6 plC_vd (.inl rfl) (fun s' hS'=>by
  obtain ⟨_,⟨k1,k2,_⟩,_⟩:=hS'.hd
  exact rdE_of k1 k2 rfl rfl EvR.wid (by omega)) (fun x hx=>by
  have hxe:x=⟨evN 3 3,.nils,.nils⟩:=by simpa using hx
  subst hxe
  exact ⟨Hd.nil,Hd.nil,evN_ft⟩) (by simp) hfu
 rw[show ([⟨evN 3 3,.nils,.nils⟩,⟨evN 3 3,.nils,.nils⟩]:List EvR).map EvR.e=[evN 3 3,evN 3 3] from rfl,hrun2] at hR
 refine call_ok rfl rfl hR ?_
 rintro y s7 ⟨v2,rfl,_,q2⟩
 obtain ⟨rfl,hS7⟩:=q2 (by decide)
 have hE7:EndS gv s1 s7 e (EN.new plC 0) [_,_]:=⟨H,hnp,((hS7.re ((List.perm_middle (l₁:=[_,_])).trans (.cons _ ((List.perm_middle (l₁:=[_,_])).trans (.cons _ ((List.perm_middle (l₁:=[_,_])).trans (.cons _ ((List.perm_middle (l₁:=[_,_])).trans (.cons _ ((List.perm_middle (l₁:=[_,_])).trans (.cons _ ((List.perm_middle (l₁:=[_,_])).trans (.cons _ ((List.perm_middle (l₁:=[_,_])).trans (.cons _ ((List.perm_middle (l₁:=[_,_])).trans (.cons _ ((List.perm_middle (l₁:=[_,_])).trans (.cons _ (.refl _)))))))))))))))))))))⟩
 have hsl:(EN.new plC 0).state.length≤100:=by decide
 have hst1:(0:Int)<((EN.new plC 0).state.length:Int):=by omega
 simp (disch:=omega) only [vm0,vm1,vm2,vm3,vm4,vm5,vm6,vm7,vmF,vmT,evo,wr,wrC,frame,Nat.reduceAdd,Nat.reduceMul,Nat.reduceSub,beq_self_eq_true,List.cons_append,List.nil_append,beq_dec,vmI,vmU,hv1]
 refine call_ok rfl rfl (n_state (n+4) s7 e _ _ _ hE7 hO hfu) ?_
 rintro y s8 hE8
 have hT:=EndJ.tail hE8
 simp (disch:=omega) only [vm0,vm1,vm2,vm3,vm4,vm5,vm6,vm7,vmF,vmT,evo,wr,wrC,frame,Nat.reduceAdd,Nat.reduceMul,Nat.reduceSub,beq_self_eq_true,List.cons_append,List.nil_append,beq_dec,vmI,vmU]
 refine call_ok rfl rfl (sameI (n+9) s8 v1 y _ _ (Sep.rdW (((hT.re ((List.perm_middle (l₁:=[_,_])).trans (.cons _ (.refl _))))))) hT.rdW (show (EN.new plC 0).state.length<fu by omega) (show (EN.new plC 0).state.length<4611686018427387904 by omega)) ?_
 rintro z s9 ⟨rfl,rfl⟩
 rw[decide_eq_true rfl]
 simp (disch:=omega) only [vm0,vm1,vm2,vm3,vm4,vm5,vm6,vm7,vmF,vmT,evo,wr,wrC,frame,Nat.reduceAdd,Nat.reduceMul,Nat.reduceSub,beq_self_eq_true,List.cons_append,List.nil_append,beq_dec,vmI,vmU]
 exact rfl
end
end Go.Proofs.YtlgbkpaihjnjpaaGreat.ctr
namespace Go.Proofs.YtlgbkpaihjnjpaaGreat.ctr
open Go.Vm Go.RowKit
section
variable {bd : Bd} {h : VF} {fu : Nat}
theorem within (n:Nat) (s:St) (v m:Int) (hv:-9223372036854775808≤v∧v≤9223372036854775807) (hm:1≤m) (hm2:m≤9223372036854775807) :
  OutOk (callF bd (tab h).get fu (n+1) 5 [num v,num m] s) (fun x s'=>Is x (num (v%m))∧Is s' s) :=
 within_ok (t5 h) n s v m hv hm hm2
end
end Go.Proofs.YtlgbkpaihjnjpaaGreat.ctr
namespace Go.Proofs.YtlgbkpaihjnjpaaGreat.ctr
open Go Go.Vm Go.RowKit
section
variable {bd : Bd} {h : VF} {fu : Nat}
theorem p_config (n:Nat) (s:St) (b1 b2 b3 b4 b5 b6 b7:Int) (h1:In64 b1) (h2:In64 b2) (h3:In64 b3) (h4:In64 b4) (h5:In64 b5) (h6:In64 b6) (h7:In64 b7) :
  OutOk (callF bd (tab h).get fu (n+2) 4 [.agg [num b1,num b2,num b3,num b4,num b5,num b6,num b7]] s) (fun x s'=>Is x (.agg [num (1+b1%3),num (1+b2%60),num (1+b3%50),num (1+b4%20),num (1+b5%6),num (1+b6%8),num (1+b7%3)])∧Fr s s' []):=by
 refine call_code (t4 h) rfl ?_
 simp (disch:=omega) only [vm0,vm1,vm2,vm3,vm4,vm5,vm6,vm7,vmF,vmT,evo,wr,wrC,frame,Nat.reduceAdd,Nat.reduceMul,Nat.reduceSub,beq_self_eq_true,List.cons_append,List.nil_append,beq_dec,vmI,vc4]
 have hfa:Fr s ((s.new (.cells [num b1,num b2,num b3,num b4,num b5,num b6,num b7] .own)).new (.cells [num 0,num 0,num 0,num 0,num 0,num 0,num 0] .own)) []:=by exact (by (repeat' (first | exact Fr.refl | assumption | apply Fr.new' | apply Fr.mk' | apply Fr.put')) <;> (first | omega | (left; simp; done) | (right; simp only[next_put,next_new,next_mk]; omega) | (simp only[next_put,next_new,next_mk]; omega)))
 have g1:((s.new (.cells [num b1,num b2,num b3,num b4,num b5,num b6,num b7] .own)).new (.cells [num 0,num 0,num 0,num 0,num 0,num 0,num 0] .own)).heap.get s.next=some (.cells [num b1,num b2,num b3,num b4,num b5,num b6,num b7] .own):=by
  rw[get_new_ne (by rw[next_new]; omega)]; exact get_new_eq rfl
 have g2:((s.new (.cells [num b1,num b2,num b3,num b4,num b5,num b6,num b7] .own)).new (.cells [num 0,num 0,num 0,num 0,num 0,num 0,num 0] .own)).heap.get (s.next+1)=some (.cells [num 0,num 0,num 0,num 0,num 0,num 0,num 0] .own):=get_new_eq (by simp only[next_new])
 have hpn:s.next≠s.next+1:=by omega
 generalize (s.new (.cells [num b1,num b2,num b3,num b4,num b5,num b6,num b7] .own)).new (.cells [num 0,num 0,num 0,num 0,num 0,num 0,num 0] .own)=X at *
 simp (disch:=omega) only [vm0,vm1,vm2,vm3,vm4,vm5,vm6,vm7,vmF,vmT,evo,wr,wrC,frame,Nat.reduceAdd,Nat.reduceMul,Nat.reduceSub,beq_self_eq_true,List.cons_append,List.nil_append,beq_dec,vmI,g1]
 refine call_ok rfl rfl (within n X b1 3 h1 (by omega) (by omega)) ?_
 rintro y X ⟨rfl,rfl⟩
 have q1:0≤b1%3∧b1%3<3:=by omega
 simp (disch:=omega) only [vm0,vm1,vm2,vm3,vm4,vm5,vm6,vm7,vmF,vmT,evo,wr,wrC,frame,Nat.reduceAdd,Nat.reduceMul,Nat.reduceSub,beq_self_eq_true,List.cons_append,List.nil_append,beq_dec,vmI,vmR,g1,g2]
 refine call_ok rfl rfl (within n X b2 60 h2 (by omega) (by omega)) ?_
 rintro y X ⟨rfl,rfl⟩
 have q2:0≤b2%60∧b2%60<60:=by omega
 simp (disch:=omega) only [vm0,vm1,vm2,vm3,vm4,vm5,vm6,vm7,vmF,vmT,evo,wr,wrC,frame,Nat.reduceAdd,Nat.reduceMul,Nat.reduceSub,beq_self_eq_true,List.cons_append,List.nil_append,beq_dec,vmI,vmR,g1,g2]
 refine call_ok rfl rfl (within n X b3 50 h3 (by omega) (by omega)) ?_
 rintro y X ⟨rfl,rfl⟩
 have q3:0≤b3%50∧b3%50<50:=by omega
 simp (disch:=omega) only [vm0,vm1,vm2,vm3,vm4,vm5,vm6,vm7,vmF,vmT,evo,wr,wrC,frame,Nat.reduceAdd,Nat.reduceMul,Nat.reduceSub,beq_self_eq_true,List.cons_append,List.nil_append,beq_dec,vmI,vmR,g1,g2]
 refine call_ok rfl rfl (within n X b4 20 h4 (by omega) (by omega)) ?_
 rintro y X ⟨rfl,rfl⟩
 have q4:0≤b4%20∧b4%20<20:=by omega
 simp (disch:=omega) only [vm0,vm1,vm2,vm3,vm4,vm5,vm6,vm7,vmF,vmT,evo,wr,wrC,frame,Nat.reduceAdd,Nat.reduceMul,Nat.reduceSub,beq_self_eq_true,List.cons_append,List.nil_append,beq_dec,vmI,vmR,g1,g2]
 refine call_ok rfl rfl (within n X b5 6 h5 (by omega) (by omega)) ?_
 rintro y X ⟨rfl,rfl⟩
 have q5:0≤b5%6∧b5%6<6:=by omega
 simp (disch:=omega) only [vm0,vm1,vm2,vm3,vm4,vm5,vm6,vm7,vmF,vmT,evo,wr,wrC,frame,Nat.reduceAdd,Nat.reduceMul,Nat.reduceSub,beq_self_eq_true,List.cons_append,List.nil_append,beq_dec,vmI,vmR,g1,g2]
 refine call_ok rfl rfl (within n X b6 8 h6 (by omega) (by omega)) ?_
 rintro y X ⟨rfl,rfl⟩
 have q6:0≤b6%8∧b6%8<8:=by omega
 simp (disch:=omega) only [vm0,vm1,vm2,vm3,vm4,vm5,vm6,vm7,vmF,vmT,evo,wr,wrC,frame,Nat.reduceAdd,Nat.reduceMul,Nat.reduceSub,beq_self_eq_true,List.cons_append,List.nil_append,beq_dec,vmI,vmR,g1,g2]
 refine call_ok rfl rfl (within n X b7 3 h7 (by omega) (by omega)) ?_
 rintro y X ⟨rfl,rfl⟩
 have q7:0≤b7%3∧b7%3<3:=by omega
 simp (disch:=omega) only [vm0,vm1,vm2,vm3,vm4,vm5,vm6,vm7,vmF,vmT,evo,wr,wrC,frame,Nat.reduceAdd,Nat.reduceMul,Nat.reduceSub,beq_self_eq_true,List.cons_append,List.nil_append,beq_dec,vmI,vmR,g1,g2]
 exact ⟨rfl,by exact (by (repeat' (first | exact Fr.refl | assumption | apply Fr.new' | apply Fr.mk' | apply Fr.put')) <;> (first | omega | (left; simp; done) | (right; simp only[next_put,next_new,next_mk]; omega) | (simp only[next_put,next_new,next_mk]; omega)))⟩
end
end Go.Proofs.YtlgbkpaihjnjpaaGreat.ctr
namespace Go.Proofs.YtlgbkpaihjnjpaaGreat.ctr
open Go Go.Vm Go.RowKit Go.Ranges
structure AcR where
 k:Int
 n:Int
 b:List Int
 p:PkV
 how:Int
 u:AV
 w:AV
def AcR.enc (x:AcR):List AV:=[num x.k,num x.n,x.u,num x.p.k,num x.p.pt,num x.p.nr,num x.p.of_,num x.p.fr,x.w,.bool x.p.fin,num x.p.se,num x.p.li,num x.how]
theorem AcR.wid:∀ x:AcR,x.enc.length=13:=fun _=>rfl
structure AcR.In (x:AcR):Prop where
 k:In64 x.k
 n:In64 x.n
 b:∀ y∈x.b,In8 y
 p:x.p.In
 how:In64 x.how
structure Liv (A X:EN) (k:Int):Prop where
 ok:X.Ok k
 rp:Rp A X
theorem EndS.push {gv:AV×List Nat} {s0 s s':St} {e:Nat} {X:EN} {P:Obj} {Ps:List Obj} {f:List Nat} (h:EndS gv s0 s e X Ps) (hp:P.P s' f) (hf:Fr s s' []) (hn:Nw s [] f):EndS gv s0 s' e X (P::Ps):=by
 obtain ⟨H,hnp,hS⟩:=h
 have h1:=hS.push hp hf hn
 exact ⟨H,hnp,((h1.re ((List.perm_middle (l₁:=[_])).trans (.cons _ ((List.perm_middle (l₁:=[_])).trans (.cons _ ((List.perm_middle (l₁:=[_])).trans (.cons _ ((List.perm_middle (l₁:=[_])).trans (.cons _ ((List.perm_middle (l₁:=[_])).trans (.cons _ ((List.perm_middle (l₁:=[_])).trans (.cons _ ((List.perm_middle (l₁:=[_])).trans (.cons _ ((List.perm_middle (l₁:=[_])).trans (.cons _ ((List.perm_middle (l₁:=[_])).trans (.cons _ (.refl _)))))))))))))))))))))⟩
theorem EndS.app1 {gv:AV×List Nat} {s0 s s':St} {e:Nat} {X:EN} {P:Obj} {Ps:List Obj} (h:EndS gv s0 s e X Ps) (hp:Sep s s' [P]):EndS gv s0 s' e X (P::Ps):=by
 obtain ⟨H,hnp,hS⟩:=h
 have h1:=hS.app hp
 exact ⟨H,hnp,((h1.re ((List.perm_middle (l₁:=[_])).trans (.cons _ ((List.perm_middle (l₁:=[_])).trans (.cons _ ((List.perm_middle (l₁:=[_])).trans (.cons _ ((List.perm_middle (l₁:=[_])).trans (.cons _ ((List.perm_middle (l₁:=[_])).trans (.cons _ ((List.perm_middle (l₁:=[_])).trans (.cons _ ((List.perm_middle (l₁:=[_])).trans (.cons _ ((List.perm_middle (l₁:=[_])).trans (.cons _ ((List.perm_middle (l₁:=[_])).trans (.cons _ (.refl _)))))))))))))))))))))⟩
section
variable {bd : Bd} {h : VF} {fu : Nat} {gv : AV × List Nat}
set_option maxHeartbeats 4000000 in
theorem live_act (hs:SortOk h) (n:Nat) {s0:St} (s:St) (e:Nat) (A X:EN) (k:Int) (a0 a1 a2:AV) (r:Int) (i b4 b8 b11:Nat) (x:AcR) (x6 x9 x10 x14 x15 x16 x17 x18 x19 x20 x21 x22:Option AV) (Ps:List Obj) (hE:EndS gv s0 s e X (oC b4 x.enc::Ps)) (hL:Liv A X k) (hk:k+1≤500000) (hx:x.In) (hu:RdE s0 x.u 1 encB x.b) (hw:RdE s0 x.w 1 encB x.p.d) (hr:0≤r∧r<8) (hfu:1200000<fu) {Q:Ex→LF→St→Prop}
  (hQ:∀ s' X' y6 y9 y10 y15 y16 y17 y18,EndS gv s0 s' e X' Ps→Liv A X' (k+1)→Q .normal [some a0,some a1,some a2,some (.ptr e 0),some (.ptr b4 0),some (num r),y6,some (num i),some (.ptr b8 0),y9,y10,some (.ptr b11 0),some (num 0),some (.bool false),x14,y15,y16,y17,y18,x19,x20,x21,x22,some (.bool false)] s') :
  RsOk (exec bd (callF bd (tab h).get fu (n+11)) fu vc3_0 [some a0,some a1,some a2,some (.ptr e 0),some (.ptr b4 0),some (num r),x6,some (num i),some (.ptr b8 0),x9,x10,some (.ptr b11 0),some (num 0),some (.bool false),x14,x15,x16,x17,x18,x19,x20,x21,x22,some (.bool false)] s) Q:=by
 obtain ⟨hX,hR⟩:=hL
 obtain ⟨h1,h2,h3,h4,h5⟩:=hx
 have g:=(EndJ.tail hE).getC
 have hul:=hu.fr0 (EndJ.tail hE).frm
 have hwl:=hw.fr0 (EndJ.tail hE).frm
 obtain ⟨ak,an,ab,ap,how,u,w⟩:=x
 dsimp only[AcR.enc] at *
 have hnow:=hX.now
 by_cases hw01:r=0∨r=1
 ·rcases hw01 with rfl | rfl
  all_goals (
   simp (disch:=omega) only [vm0,vm1,vm2,vm3,vm4,vm5,vm6,vm7,vmF,vmT,evo,wr,wrC,frame,Nat.reduceAdd,Nat.reduceMul,Nat.reduceSub,beq_self_eq_true,List.cons_append,List.nil_append,beq_dec,vmI,vc3_0,g]
   refine call_ok rfl rfl (cutB (n+9) s u ab 40 (by omega) (by omega) hul) ?_
   rintro y s1 ⟨f,q1,q2,q3⟩
   have hE1:=EndS.push (P:=oW y 1 encB (ab.take (40:Int).toNat)) hE q1 q2 q3
   simp (disch:=omega) only [vm0,vm1,vm2,vm3,vm4,vm5,vm6,vm7,vmF,vmT,evo,wr,wrC,frame,Nat.reduceAdd,Nat.reduceMul,Nat.reduceSub,beq_self_eq_true,List.cons_append,List.nil_append,beq_dec,vmI]
   refine call_ok rfl rfl (n_write (n+3) s1 e X k y (ab.take (40:Int).toNat) _ hE1 hX hk (fun s' hS'=>hS'.rdW) (fun z hz=>h3 z (List.mem_of_mem_take hz)) (by rw[List.length_take]; omega) (by omega)) ?_
   rintro z s2 ⟨rfl,hE2⟩
   simp (disch:=omega) only [vm0,vm1,vm2,vm3,vm4,vm5,vm6,vm7,vmF,vmT,evo,wr,wrC,frame,Nat.reduceAdd,Nat.reduceMul,Nat.reduceSub,beq_self_eq_true,List.cons_append,List.nil_append,beq_dec,vmI]
   exact hQ _ _ _ _ _ _ _ _ _ hE2.drop.drop ⟨hX.write (fun z hz=>h3 z (List.mem_of_mem_take hz)) hk,hR.write _⟩)
 by_cases hw2:r=2
 ·subst hw2
  have hrem:binop bd .rem (num an) (num 30)=some (num (an.tmod 30)):=by rw[b_rem (by omega)]
  simp (disch:=omega) only [vm0,vm1,vm2,vm3,vm4,vm5,vm6,vm7,vmF,vmT,evo,wr,wrC,frame,Nat.reduceAdd,Nat.reduceMul,Nat.reduceSub,beq_self_eq_true,List.cons_append,List.nil_append,beq_dec,vmI,vc3_0,g,hrem]
  refine call_ok rfl rfl (n_read (n+5) s e X k (an.tmod 30) _ hE hX) ?_
  rintro z s2 hE2
  simp (disch:=omega) only [vm0,vm1,vm2,vm3,vm4,vm5,vm6,vm7,vmF,vmT,evo,wr,wrC,frame,Nat.reduceAdd,Nat.reduceMul,Nat.reduceSub,beq_self_eq_true,List.cons_append,List.nil_append,beq_dec,vmI]
  exact hQ _ _ _ _ _ _ _ _ _ hE2.drop.drop ⟨hX.read _ hk,hR.read hX _⟩
 by_cases hw34:r=3∨r=4
 ·rcases hw34 with rfl | rfl
  all_goals (
   simp (disch:=omega) only [vm0,vm1,vm2,vm3,vm4,vm5,vm6,vm7,vmF,vmT,evo,wr,wrC,frame,Nat.reduceAdd,Nat.reduceMul,Nat.reduceSub,beq_self_eq_true,List.cons_append,List.nil_append,beq_dec,vmI,vc3_0,g]
   refine call_ok rfl rfl (n_now (n+10) s e X _ hE) ?_
   rintro y s1 ⟨rfl,rfl⟩
   simp (disch:=omega) only [vm0,vm1,vm2,vm3,vm4,vm5,vm6,vm7,vmF,vmT,evo,wr,wrC,frame,Nat.reduceAdd,Nat.reduceMul,Nat.reduceSub,beq_self_eq_true,List.cons_append,List.nil_append,beq_dec,vmI,g]
   refine call_ok rfl rfl (wth (n+10) s1 an 5 h2 (by omega) (by omega)) ?_
   rintro y s2 ⟨m,rfl,hm,rfl⟩
   simp (disch:=omega) only [vm0,vm1,vm2,vm3,vm4,vm5,vm6,vm7,vmF,vmT,evo,wr,wrC,frame,Nat.reduceAdd,Nat.reduceMul,Nat.reduceSub,beq_self_eq_true,List.cons_append,List.nil_append,beq_dec,vmI,g]
   refine call_ok rfl rfl (n_tick hs (n+3) s2 e X k (X.now+1+m) _ hE hX hk (by omega)) ?_
   rintro z s3 ⟨rfl,hE2⟩
   simp (disch:=omega) only [vm0,vm1,vm2,vm3,vm4,vm5,vm6,vm7,vmF,vmT,evo,wr,wrC,frame,Nat.reduceAdd,Nat.reduceMul,Nat.reduceSub,beq_self_eq_true,List.cons_append,List.nil_append,beq_dec,vmI,g]
   exact hQ _ _ _ _ _ _ _ _ _ hE2.drop ⟨hX.tick _ hk,hR.tick _⟩)
 by_cases hw5:r=5
 ·subst hw5
  simp (disch:=omega) only [vm0,vm1,vm2,vm3,vm4,vm5,vm6,vm7,vmF,vmT,evo,wr,wrC,frame,Nat.reduceAdd,Nat.reduceMul,Nat.reduceSub,beq_self_eq_true,List.cons_append,List.nil_append,beq_dec,vmI,vc3_0,g]
  refine call_ok rfl rfl (wth (n+10) s an 3 h2 (by omega) (by omega)) ?_
  rintro y s2 ⟨m,rfl,hm,rfl⟩
  simp (disch:=omega) only [vm0,vm1,vm2,vm3,vm4,vm5,vm6,vm7,vmF,vmT,evo,wr,wrC,frame,Nat.reduceAdd,Nat.reduceMul,Nat.reduceSub,beq_self_eq_true,List.cons_append,List.nil_append,beq_dec,vmI,g]
  refine call_ok rfl rfl (n_up (n+3) s2 e X k m _ hE hX hk (by omega)) ?_
  rintro z s3 ⟨rfl,hE2⟩
  simp (disch:=omega) only [vm0,vm1,vm2,vm3,vm4,vm5,vm6,vm7,vmF,vmT,evo,wr,wrC,frame,Nat.reduceAdd,Nat.reduceMul,Nat.reduceSub,beq_self_eq_true,List.cons_append,List.nil_append,beq_dec,vmI]
  exact hQ _ _ _ _ _ _ _ _ _ hE2.drop ⟨hX.up _ hk,hR.up _⟩
 by_cases hw7:r=7
 ·subst hw7
  have hrem:binop bd .rem (num an) (num 5)=some (num (an.tmod 5)):=by rw[b_rem (by omega)]
  by_cases ha:an.tmod 5=0
  ·simp (disch:=omega) only [vm0,vm1,vm2,vm3,vm4,vm5,vm6,vm7,vmF,vmT,evo,wr,wrC,frame,Nat.reduceAdd,Nat.reduceMul,Nat.reduceSub,beq_self_eq_true,List.cons_append,List.nil_append,beq_dec,vmI,vc3_0,g,hrem]
   refine call_ok rfl rfl (n_close (n+3) s e X k _ hE hX hk (by omega)) ?_
   rintro z s3 ⟨rfl,hE2⟩
   simp (disch:=omega) only [vm0,vm1,vm2,vm3,vm4,vm5,vm6,vm7,vmF,vmT,evo,wr,wrC,frame,Nat.reduceAdd,Nat.reduceMul,Nat.reduceSub,beq_self_eq_true,List.cons_append,List.nil_append,beq_dec,vmI]
   exact hQ _ _ _ _ _ _ _ _ _ hE2.drop ⟨hX.close hk,hR.close⟩
  ·simp (disch:=omega) only [vm0,vm1,vm2,vm3,vm4,vm5,vm6,vm7,vmF,vmT,evo,wr,wrC,frame,Nat.reduceAdd,Nat.reduceMul,Nat.reduceSub,beq_self_eq_true,List.cons_append,List.nil_append,beq_dec,vmI,vc3_0,g,hrem]
   refine call_ok rfl rfl (wth (n+10) s an 3 h2 (by omega) (by omega)) ?_
   rintro y s2 ⟨m,rfl,hm,rfl⟩
   simp (disch:=omega) only [vm0,vm1,vm2,vm3,vm4,vm5,vm6,vm7,vmF,vmT,evo,wr,wrC,frame,Nat.reduceAdd,Nat.reduceMul,Nat.reduceSub,beq_self_eq_true,List.cons_append,List.nil_append,beq_dec,vmI,g]
   refine call_ok rfl rfl (n_down hs (n+3) s2 e X k m _ hE hX hk (by omega)) ?_
   rintro z s3 ⟨rfl,hE2⟩
   simp (disch:=omega) only [vm0,vm1,vm2,vm3,vm4,vm5,vm6,vm7,vmF,vmT,evo,wr,wrC,frame,Nat.reduceAdd,Nat.reduceMul,Nat.reduceSub,beq_self_eq_true,List.cons_append,List.nil_append,beq_dec,vmI]
   exact hQ _ _ _ _ _ _ _ _ _ hE2.drop ⟨hX.down _ hk,hR.down _⟩
 obtain rfl:r=6:=by omega
 have hpl:=playP (bd:=bd) (h:=h) (fu:=fu) (n+6) s ap w how h4 h5 hwl
 obtain ⟨pk,pt,nr,of_,fr,pd,fin,se,li⟩:=ap
 dsimp only[PkV.cs] at hpl g
 simp (disch:=omega) only [vm0,vm1,vm2,vm3,vm4,vm5,vm6,vm7,vmF,vmT,evo,wr,wrC,frame,Nat.reduceAdd,Nat.reduceMul,Nat.reduceSub,beq_self_eq_true,List.cons_append,List.nil_append,beq_dec,vmI,vc3_0,g]
 refine call_ok rfl rfl hpl ?_
 rintro y s1 ⟨q,v,rfl,ql,q8,hSq⟩
 have hE1:=EndS.app1 hE hSq
 obtain ⟨qk,qt,qn,qo,qf,qd,qi,qs,qm⟩:=q
 dsimp only[PkV.cs] at *
 obtain ⟨H1,hnp1,hS1⟩:=hE1
 have hS2:=hS1.cell z9 [num qk,num qt,num qn,num qo,num qf,v,.bool qi,num qs,num qm]
 have g2:=hS2.getC
 have r1:binop bd .rem (num qn) (num 5)=some (num (qn.tmod 5)):=by rw[b_rem (by omega)]
 have r2:binop bd .rem (num qo) (num 5)=some (num (qo.tmod 5)):=by rw[b_rem (by omega)]
 have r3:binop bd .rem (num qs) (num 20)=some (num (qs.tmod 20)):=by rw[b_rem (by omega)]
 dsimp only[z9] at *
 simp (disch:=omega) only [vm0,vm1,vm2,vm3,vm4,vm5,vm6,vm7,vmF,vmT,evo,wr,wrC,frame,Nat.reduceAdd,Nat.reduceMul,Nat.reduceSub,beq_self_eq_true,List.cons_append,List.nil_append,beq_dec,vmI,r1,r2,r3]
 have hS3:=Sep.setC (Sep.setC (Sep.setC hS2 [num qk,num qt,num (qn.tmod 5),num qo,num qf,v,.bool qi,num qs,num qm]) [num qk,num qt,num (qn.tmod 5),num (qo.tmod 5),num qf,v,.bool qi,num qs,num qm]) [num qk,num qt,num (qn.tmod 5),num (qo.tmod 5),num qf,v,.bool qi,num (qs.tmod 20),num qm]
 have hE3:EndS gv s0 _ e X (oC s1.next [num qk,num qt,num (qn.tmod 5),num (qo.tmod 5),num qf,v,.bool qi,num (qs.tmod 20),num qm]::oW v 1 encB qd::oC b4 [num ak,num an,u,num pk,num pt,num nr,num of_,num fr,w,.bool fin,num se,num li,num how]::Ps):=⟨H1,hnp1,((hS3.re ((List.perm_middle (l₁:=[_])).trans (.cons _ ((List.perm_middle (l₁:=[_])).trans (.cons _ ((List.perm_middle (l₁:=[_])).trans (.cons _ ((List.perm_middle (l₁:=[_])).trans (.cons _ ((List.perm_middle (l₁:=[_])).trans (.cons _ ((List.perm_middle (l₁:=[_])).trans (.cons _ ((List.perm_middle (l₁:=[_])).trans (.cons _ ((List.perm_middle (l₁:=[_])).trans (.cons _ ((List.perm_middle (l₁:=[_])).trans (.cons _ (.refl _)))))))))))))))))))))⟩
 refine call_ok rfl rfl (n_come hs (n+3) _ e X k ⟨qk,qt,qn.tmod 5,qo.tmod 5,qf,qd,qi,qs.tmod 20,qm⟩ v _ hE3 hX hk Hd.oW.cons (by show qd.length≤1000000; omega) q8 (by omega)) ?_
 rintro z s5 ⟨rfl,hE4⟩
 simp (disch:=omega) only [vm0,vm1,vm2,vm3,vm4,vm5,vm6,vm7,vmF,vmT,evo,wr,wrC,frame,Nat.reduceAdd,Nat.reduceMul,Nat.reduceSub,beq_self_eq_true,List.cons_append,List.nil_append,beq_dec,vmI]
 exact hQ _ _ _ _ _ _ _ _ _ hE4.drop.drop.drop ⟨hX.come q8 hk,hR.come _⟩
end
theorem state_len {X:EN} {k:Int} (h:X.Ok k):X.state.length≤800000:=by
 have hn:=h.n
 have hd:=h.due
 have hp:=h.pll
 have hs:=stP_len h.P
 have hr:=r2_len X.pl
 have h0:X.st0.length≤10:=by unfold EN.st0; simp; omega
 have h1:X.st1.length=4:=rfl
 unfold EN.state
 simp only[List.length_append,List.length_singleton]
 omega
section
variable {bd : Bd} {h : VF} {fu : Nat} {gv : AV × List Nat}
set_option maxHeartbeats 4000000 in
theorem live_chk (hs:SortOk h) (n:Nat) {s0:St} (s:St) (e:Nat) (c:CF) (side:Int) (X:EN) (k:Int) (a0 a2:AV) (i b4 b8 b11:Nat) (x5 x6 x9 x10 x14 x15 x16 x17 x18 x19 x20 x21 x22:Option AV) (Ps:List Obj) (hE:EndS gv s0 s e X (oC b8 c.cs::Ps)) (hL:Liv (EN.new c side) X k) (hi:i<24) (hc:c.Vd) (hsd:side=0∨side=1) (hk:k≤100) (hfu:1200000<fu) {Q:Ex→LF→St→Prop}
  (hQ:∀ s' y19 y20 y21 y22,EndS gv s0 s' e X (oC b8 c.cs::Ps)→Q .normal [some a0,some (num side),some a2,some (.ptr e 0),some (.ptr b4 0),x5,x6,some (num i),some (.ptr b8 0),x9,x10,some (.ptr b11 0),some (num 0),some (.bool false),x14,x15,x16,x17,x18,y19,y20,y21,y22,some (.bool false)] s') :
  RsOk (exec bd (callF bd (tab h).get fu (n+11)) fu vc3_1 [some a0,some (num side),some a2,some (.ptr e 0),some (.ptr b4 0),x5,x6,some (num i),some (.ptr b8 0),x9,x10,some (.ptr b11 0),some (num 0),some (.bool false),x14,x15,x16,x17,x18,x19,x20,x21,x22,some (.bool false)] s) Q:=by
 obtain ⟨hX,hR⟩:=hL
 have hrem:binop bd .rem (num i) (num 5)=some (num ((i:Int).tmod 5)):=by rw[b_rem (by omega)]
 have g:=(EndJ.tail hE).getC
 by_cases h4:(i:Int).tmod 5=4
 case neg =>
  simp (disch:=omega) only [vm0,vm1,vm2,vm3,vm4,vm5,vm6,vm7,vmF,vmT,evo,wr,wrC,frame,Nat.reduceAdd,Nat.reduceMul,Nat.reduceSub,beq_self_eq_true,List.cons_append,List.nil_append,beq_dec,vmI,vc3_1,hrem]
  exact hQ _ _ _ _ _ hE
 have hrun:=hR.run
 have hstl:=state_len hX
 have hln:=hX.ln
 have hsb:=hX.sum_bd
 obtain ⟨pa,bu,wi,ch,mo,fi,sc⟩:=c
 dsimp only[CF.cs] at *
 simp (disch:=omega) only [vm0,vm1,vm2,vm3,vm4,vm5,vm6,vm7,vmF,vmT,evo,wr,wrC,frame,Nat.reduceAdd,Nat.reduceMul,Nat.reduceSub,beq_self_eq_true,List.cons_append,List.nil_append,beq_dec,vmI,vc3_1,hrem,g]
 refine call_ok rfl rfl (n_events (n+7) s e X k _ hE hX hfu) ?_
 rintro x s2 ⟨m,hm,hE2⟩
 have hml:m.length=X.log.length:=by rw[←hm,List.length_map]
 obtain ⟨H,hnp,hS2⟩:=hE2
 have g2:=Sep.getC (((hS2.re ((List.perm_middle (l₁:=[_,_,_,_,_,_,_,_,_,_,_])).trans (.cons _ (.refl _))))))
 have hRun:=n_run (bd:=bd) (h:=h) (fu:=fu) hs (n+1) s2 ⟨pa,bu,wi,ch,mo,fi,sc⟩ side x m _ hS2 hc hsd (fun s' hT0=>Sep.rdW (((hT0.re ((List.perm_middle (l₁:=[_,_,_,_,_,_,_,_,_])).trans (.cons _ (.refl _))))))) (fun y hy=>⟨(Hd.held hy).1.cons.cons.cons.cons.cons.cons.cons.cons.cons.cons,(Hd.held hy).2.cons.cons.cons.cons.cons.cons.cons.cons.cons.cons,hX.lg y.e (by rw[←hm]; exact List.mem_map_of_mem hy)⟩) (by omega) hfu
 rw[hm,hrun] at hRun
 dsimp only[CF.cs] at hRun
 simp (disch:=omega) only [vm0,vm1,vm2,vm3,vm4,vm5,vm6,vm7,vmF,vmT,evo,wr,wrC,frame,Nat.reduceAdd,Nat.reduceMul,Nat.reduceSub,beq_self_eq_true,List.cons_append,List.nil_append,beq_dec,vmI,g,g2]
 refine call_ok rfl rfl hRun ?_
 rintro y s3 ⟨y1,rfl,q1,_⟩
 have hS3:=q1 rfl
 have hE3:EndS gv s0 s3 e X (oW y1 1 encI X.state::oW x 12 EvR.enc m::oH m::oC b8 [num pa,num bu,num wi,num ch,num mo,num fi,num sc]::Ps):=⟨H,hnp,((hS3.re ((List.perm_middle (l₁:=[_])).trans (.cons _ ((List.perm_middle (l₁:=[_])).trans (.cons _ ((List.perm_middle (l₁:=[_])).trans (.cons _ ((List.perm_middle (l₁:=[_])).trans (.cons _ ((List.perm_middle (l₁:=[_])).trans (.cons _ ((List.perm_middle (l₁:=[_])).trans (.cons _ ((List.perm_middle (l₁:=[_])).trans (.cons _ ((List.perm_middle (l₁:=[_])).trans (.cons _ ((List.perm_middle (l₁:=[_])).trans (.cons _ (.refl _)))))))))))))))))))))⟩
 have hyc:=cells1 hS3.rdW.rd.sl
 simp (disch:=omega) only [vm0,vm1,vm2,vm3,vm4,vm5,vm6,vm7,vmF,vmT,evo,wr,wrC,frame,Nat.reduceAdd,Nat.reduceMul,Nat.reduceSub,beq_self_eq_true,List.cons_append,List.nil_append,beq_dec,vmI,vmU,g,g2,hyc]
 refine call_ok rfl rfl (n_state (n+5) s3 e X k _ hE3 hX hfu) ?_
 rintro y2 s4 hE4
 have hT:=EndJ.tail hE4
 simp (disch:=omega) only [vm0,vm1,vm2,vm3,vm4,vm5,vm6,vm7,vmF,vmT,evo,wr,wrC,frame,Nat.reduceAdd,Nat.reduceMul,Nat.reduceSub,beq_self_eq_true,List.cons_append,List.nil_append,beq_dec,vmI,vmU]
 refine call_ok rfl rfl (sameI (n+10) s4 y1 y2 X.state X.state (Sep.rdW hT.swap) hT.rdW (by omega) (by omega)) ?_
 rintro z s5 ⟨rfl,rfl⟩
 rw[decide_eq_true rfl]
 simp (disch:=omega) only [vm0,vm1,vm2,vm3,vm4,vm5,vm6,vm7,vmF,vmT,evo,wr,wrC,frame,Nat.reduceAdd,Nat.reduceMul,Nat.reduceSub,beq_self_eq_true,List.cons_append,List.nil_append,beq_dec,vmI,vmU]
 exact hQ _ _ _ _ _ hE4.drop.drop.drop.drop
end
def z13:List AV:=[num 0,num 0,.nils,num 0,num 0,num 0,num 0,num 0,.nils,.bool false,num 0,num 0,num 0]
section
variable {bd : Bd} {h : VF} {fu : Nat}
set_option maxHeartbeats 4000000 in
theorem live24 (hs:SortOk h) (n:Nat) (s:St) (b1 b2 b3 b4 b5 b6 b7 side:Int) (v:AV) (l:List AcR) (hv:RdE s v 13 AcR.enc l) (hin:∀ x∈l,x.In∧RdE s x.u 1 encB x.b∧RdE s x.w 1 encB x.p.d)
  (h1:In64 b1) (h2:In64 b2) (h3:In64 b3) (h4:In64 b4) (h5:In64 b5) (h6:In64 b6) (h7:In64 b7) (h8:In64 side) (hfu:1200000<fu) :
  OutOk (callF bd (tab h).get fu (n+12) 3 [.agg [num b1,num b2,num b3,num b4,num b5,num b6,num b7],num side,v] s) (fun x s'=>Is x (.bool true)):=by
 refine call_code (t3 h) rfl ?_
 have hS1:=(Sep.nil (s:=s)).newC [num b1,num b2,num b3,num b4,num b5,num b6,num b7]
 have g1:=hS1.getC
 have hlen:=hv.lenV
 simp (disch:=omega) only [vm0,vm1,vm2,vm3,vm4,vm5,vm6,vm7,vmF,vmT,evo,wr,wrC,frame,Nat.reduceAdd,Nat.reduceMul,Nat.reduceSub,beq_self_eq_true,List.cons_append,List.nil_append,beq_dec,vmI,vc3,g1]
 generalize s.new (.cells [num b1,num b2,num b3,num b4,num b5,num b6,num b7] .own)=s1 at *
 refine call_ok rfl rfl (p_config (n+9) s1 b1 b2 b3 b4 b5 b6 b7 h1 h2 h3 h4 h5 h6 h7) ?_
 rintro y s2 ⟨rfl,hf2⟩
 obtain ⟨c,hc⟩ : ∃ c:CF,c=⟨1+b1%3,1+b2%60,1+b3%50,1+b4%20,1+b5%6,1+b6%8,1+b7%3⟩:=⟨_,rfl⟩
 have hcs:c.cs=[num (1+b1%3),num (1+b2%60),num (1+b3%50),num (1+b4%20),num (1+b5%6),num (1+b6%8),num (1+b7%3)]:=by rw[hc]; rfl
 have hvd:c.Vd:=by rw[hc]; exact ⟨by dsimp only; omega,by dsimp only; omega,by dsimp only; omega,by dsimp only; omega,by dsimp only; omega,by dsimp only; omega,by dsimp only; omega⟩
 have hS2:=(hS1.fr hf2).cell [num 0,num 0,num 0,num 0,num 0,num 0,num 0] c.cs
 rw[hcs] at hS2
 have g2:=hS2.getC
 simp (disch:=omega) only [vm0,vm1,vm2,vm3,vm4,vm5,vm6,vm7,vmF,vmT,evo,wr,wrC,frame,Nat.reduceAdd,Nat.reduceMul,Nat.reduceSub,beq_self_eq_true,List.cons_append,List.nil_append,beq_dec,vmI]
 generalize (s2.new (.cells [num 0,num 0,num 0,num 0,num 0,num 0,num 0] .own)).put s2.next (some (.cells [num (1+b1%3),num (1+b2%60),num (1+b3%50),num (1+b4%20),num (1+b5%6),num (1+b6%8),num (1+b7%3)] .own))=s3 at *
 refine call_ok rfl rfl (wth (n+10) s3 side 2 h8 (by omega) (by omega)) ?_
 rintro y s4 ⟨sd,rfl,hsd,rfl⟩
 have hsd2:sd=0∨sd=1:=by omega
 simp (disch:=omega) only [vm0,vm1,vm2,vm3,vm4,vm5,vm6,vm7,vmF,vmT,evo,wr,wrC,frame,Nat.reduceAdd,Nat.reduceMul,Nat.reduceSub,beq_self_eq_true,List.cons_append,List.nil_append,beq_dec,vmI,g2]
 rw[←hcs] at hS2 ⊢
 refine call_ok rfl rfl (n_new (n+6) s4 c sd _ hS2 hvd hsd2 (by omega)) ?_
 rintro y s5 ⟨e,gv,rfl,hE⟩
 have hO:=EN.Ok.new hvd sd
 generalize hb8:s2.next=b8 at *
 generalize hb11:s.next=b11 at *
 simp (disch:=omega) only [vm0,vm1,vm2,vm3,vm4,vm5,vm6,vm7,vmF,vmT,evo,wr,wrC,frame,Nat.reduceAdd,Nat.reduceMul,Nat.reduceSub,beq_self_eq_true,List.cons_append,List.nil_append,beq_dec,vmI,vmU]
 refine x_loop (fun j F s'=>∃ i:Nat,∃ z x4 x5 x6 x9 x10 x14 x15 x16 x17 x18 x19 x20 x21 x22,∃ X:EN,j=24-i∧i≤24∧z=(i:Int)∧F=[some (.agg [num b1,num b2,num b3,num b4,num b5,num b6,num b7]),some (num sd),some v,some (.ptr e 0),x4,x5,x6,some (num z),some (.ptr b8 0),x9,x10,some (.ptr b11 0),some (num 0),some (.bool false),x14,x15,x16,x17,x18,x19,x20,x21,x22,some (.bool false)]∧EndS gv s s' e X [oC b8 c.cs,oC b11 [num b1,num b2,num b3,num b4,num b5,num b6,num b7]]∧Liv (EN.new c sd) X i) 24 (by omega) ?_ ?_
 ·exact ⟨0,0,_,_,_,_,_,_,_,_,_,_,_,_,_,_,_,by omega,by omega,rfl,rfl,hE,hO,Rp.new c sd⟩
 ·clear hE hS2 g2 hS1 g1 hf2
  rintro j F s6 ⟨i,_,x4,x5,x6,x9,x10,x14,x15,x16,x17,x18,x19,x20,x21,x22,X,rfl,hi,rfl,rfl,hE,hL⟩ hj
  by_cases hlt:(i:Int)<l.length
  case neg =>
   simp (disch:=omega) only [vm0,vm1,vm2,vm3,vm4,vm5,vm6,vm7,vmF,vmT,evo,wr,wrC,frame,Nat.reduceAdd,Nat.reduceMul,Nat.reduceSub,beq_self_eq_true,List.cons_append,List.nil_append,beq_dec,vmI,vc3_3,hlen,vmU]
   refine call_ok rfl rfl (wakes24 hs n s6 hfu) ?_
   rintro y s7 rfl
   simp (disch:=omega) only [vm0,vm1,vm2,vm3,vm4,vm5,vm6,vm7,vmF,vmT,evo,wr,wrC,frame,Nat.reduceAdd,Nat.reduceMul,Nat.reduceSub,beq_self_eq_true,List.cons_append,List.nil_append,beq_dec,vmI]
   exact rfl
  by_cases hlm:i<24
  case neg =>
   simp (disch:=omega) only [vm0,vm1,vm2,vm3,vm4,vm5,vm6,vm7,vmF,vmT,evo,wr,wrC,frame,Nat.reduceAdd,Nat.reduceMul,Nat.reduceSub,beq_self_eq_true,List.cons_append,List.nil_append,beq_dec,vmI,vc3_3,hlen,vmU]
   refine call_ok rfl rfl (wakes24 hs n s6 hfu) ?_
   rintro y s7 rfl
   simp (disch:=omega) only [vm0,vm1,vm2,vm3,vm4,vm5,vm6,vm7,vmF,vmT,evo,wr,wrC,frame,Nat.reduceAdd,Nat.reduceMul,Nat.reduceSub,beq_self_eq_true,List.cons_append,List.nil_append,beq_dec,vmI]
   exact rfl
  obtain ⟨x,hx⟩ : ∃ x,l[i]?=some x:=⟨_,List.getElem?_eq_getElem (by omega)⟩
  obtain ⟨hxi,hxu,hxw⟩:=hin x (List.mem_of_getElem? hx)
  have hv6:=hv.fr0 (EndS.frm hE)
  have e1:=hv6.ia hx
  have e2:=hv6.at hx
  obtain ⟨H,hnp,hS6⟩:=hE
  have hS7:=hS6.cell z13 x.enc
  have hE7:EndS gv s _ e X (oC s6.next x.enc::oC b8 c.cs::[oC b11 [num b1,num b2,num b3,num b4,num b5,num b6,num b7]]):=⟨H,hnp,((hS7.re ((List.perm_middle (l₁:=[_])).trans (.cons _ ((List.perm_middle (l₁:=[_])).trans (.cons _ ((List.perm_middle (l₁:=[_])).trans (.cons _ ((List.perm_middle (l₁:=[_])).trans (.cons _ ((List.perm_middle (l₁:=[_])).trans (.cons _ ((List.perm_middle (l₁:=[_])).trans (.cons _ ((List.perm_middle (l₁:=[_])).trans (.cons _ ((List.perm_middle (l₁:=[_])).trans (.cons _ ((List.perm_middle (l₁:=[_])).trans (.cons _ (.refl _)))))))))))))))))))))⟩
  have g7:=hS7.getC
  have hact:=fun r (hr:0≤r∧r<8) y6 y9 y10 y14 y15 y16 y17 y18 y19 y20 y21 y22 Q=>live_act (bd:=bd) (h:=h) (fu:=fu) hs n _ e (EN.new c sd) X i (.agg [num b1,num b2,num b3,num b4,num b5,num b6,num b7]) (num sd) v r i s6.next b8 b11 x y6 y9 y10 y14 y15 y16 y17 y18 y19 y20 y21 y22 _ hE7 hL (by omega) hxi hxu hxw hr hfu (Q:=Q)
  have hxk:=hxi.k
  obtain ⟨ak,an,ab,⟨pk,pt,nr,of_,fr,pd,fin,se,li⟩,how,u,w⟩:=x
  dsimp only[AcR.enc,z13] at *
  simp (disch:=omega) only [vm0,vm1,vm2,vm3,vm4,vm5,vm6,vm7,vmF,vmT,evo,wr,wrC,frame,Nat.reduceAdd,Nat.reduceMul,Nat.reduceSub,beq_self_eq_true,List.cons_append,List.nil_append,beq_dec,vmI,vc3_3,vc3_2,hlen,vmU,e1,e2]
  generalize (s6.new (.cells [num 0,num 0,.nils,num 0,num 0,num 0,num 0,num 0,.nils,.bool false,num 0,num 0,num 0] .own)).put s6.next (some (.cells [num ak,num an,u,num pk,num pt,num nr,num of_,num fr,w,.bool fin,num se,num li,num how] .own))=s7 at *
  refine call_ok rfl rfl (wth (n+10) s7 ak 8 hxk (by omega) (by omega)) ?_
  rintro y s8 ⟨r,rfl,hr,rfl⟩
  simp (disch:=omega) only [vm0,vm1,vm2,vm3,vm4,vm5,vm6,vm7,vmF,vmT,evo,wr,wrC,frame,Nat.reduceAdd,Nat.reduceMul,Nat.reduceSub,beq_self_eq_true,List.cons_append,List.nil_append,beq_dec,vmI,vmU]
  refine hact r hr _ _ _ _ _ _ _ _ _ _ _ _ _ ?_
  intro s9 X' y6 y9 y10 y15 y16 y17 y18 hE9 hL9
  simp (disch:=omega) only [vm0,vm1,vm2,vm3,vm4,vm5,vm6,vm7,vmF,vmT,evo,wr,wrC,frame,Nat.reduceAdd,Nat.reduceMul,Nat.reduceSub,beq_self_eq_true,List.cons_append,List.nil_append,beq_dec,vmI,vmU]
  refine live_chk hs n s9 e c sd X' _ _ _ _ _ _ _ _ _ _ _ _ _ _ _ _ _ _ _ _ _ hE9 hL9 hlm hvd hsd2 (by omega) hfu ?_
  intro s10 y19 y20 y21 y22 hE10
  simp (disch:=omega) only [vm0,vm1,vm2,vm3,vm4,vm5,vm6,vm7,vmF,vmT,evo,wr,wrC,frame,Nat.reduceAdd,Nat.reduceMul,Nat.reduceSub,beq_self_eq_true,List.cons_append,List.nil_append,beq_dec,vmI,vmU]
  exact ⟨24-(i+1),by omega,i+1,(i:Int)+1,_,_,_,_,_,_,_,_,_,_,_,_,_,_,X',rfl,by omega,by omega,rfl,hE10,hL9⟩
end
end Go.Proofs.YtlgbkpaihjnjpaaGreat.ctr
namespace Go.Proofs.YtlgbkpaihjnjpaaGreat.ctr
open Go Go.Vm Go.RowKit
def actK:List Fk:=[.i,.i,.S,.i,.i,.i,.i,.i,.S,.b,.i,.i,.i]
noncomputable def acOf (f:Nat→Cl):AcR:=⟨(f 0).z,(f 1).z,(f 2).l,⟨(f 3).z,(f 4).z,(f 5).z,(f 6).z,(f 7).z,(f 8).l,(f 9).x,(f 10).z,(f 11).z⟩,(f 12).z,(f 2).u,(f 8).u⟩
theorem acOf_ok {s:St} {f:Nat→Cl} (hf:∀ j,j<13→ClOk s (f j) (actK.getD j .i)):((acOf f).In∧RdE s (acOf f).u 1 encB (acOf f).b∧RdE s (acOf f).w 1 encB (acOf f).p.d)∧∀ j,j<13→(acOf f).enc[j]?=some (f j).av:=by
 have k0:ClOk s (f 0) .i:=hf 0 (by decide)
 have k1:ClOk s (f 1) .i:=hf 1 (by decide)
 have k2:ClOk s (f 2) .S:=hf 2 (by decide)
 have k3:ClOk s (f 3) .i:=hf 3 (by decide)
 have k4:ClOk s (f 4) .i:=hf 4 (by decide)
 have k5:ClOk s (f 5) .i:=hf 5 (by decide)
 have k6:ClOk s (f 6) .i:=hf 6 (by decide)
 have k7:ClOk s (f 7) .i:=hf 7 (by decide)
 have k8:ClOk s (f 8) .S:=hf 8 (by decide)
 have k9:ClOk s (f 9) .b:=hf 9 (by decide)
 have k10:ClOk s (f 10) .i:=hf 10 (by decide)
 have k11:ClOk s (f 11) .i:=hf 11 (by decide)
 have k12:ClOk s (f 12) .i:=hf 12 (by decide)
 refine ⟨⟨⟨k0.i.2,k1.i.2,k2.S.2.2,⟨k3.i.2,k4.i.2,k5.i.2,k6.i.2,k7.i.2,k10.i.2,k11.i.2,k8.S.2.2⟩,k12.i.2⟩,k2.S.2.1,k8.S.2.1⟩,fun j hj=>?_⟩
 rcases j with _ | _ | _ | _ | _ | _ | _ | _ | _ | _ | _ | _ | _ | j
 ·rw[k0.i.1]; rfl
 ·rw[k1.i.1]; rfl
 ·rw[k2.S.1]; rfl
 ·rw[k3.i.1]; rfl
 ·rw[k4.i.1]; rfl
 ·rw[k5.i.1]; rfl
 ·rw[k6.i.1]; rfl
 ·rw[k7.i.1]; rfl
 ·rw[k8.S.1]; rfl
 ·rw[k9.b]; rfl
 ·rw[k10.i.1]; rfl
 ·rw[k11.i.1]; rfl
 ·rw[k12.i.1]; rfl
 ·omega
theorem _root_.Go.Vm.Arg0.acts24 {E:Env} {s:St} {w:World} (h:Arg0 E s w) {a:Option Addr} {len cap:Nat} {V:Nat→Value} (hq:IsRowV w a len cap 13 V) (hk:∀ i,i<cap*13→FkOk w (actK.getD (i%13) .i) (V i)) :
  ∃ v E' s' l,Arg0 E' s' w∧E.le E'∧Fr s s' []∧VR rho0 E' v (.slice a len cap)∧RdE s' v 13 AcR.enc l∧∀ x∈l,x.In∧RdE s' x.u 1 encB x.b∧RdE s' x.w 1 encB x.p.d:=by
 obtain ⟨v,E',s',l,h1,h2,h3,h4,h5,_,h6⟩:=h.recs (ks:=actK) hq hk (by decide) AcR.enc acOf AcR.wid (fun s f hf=>(acOf_ok hf).2)
 refine ⟨v,E',s',l,h1,h2,h3,h4,h5,fun x hx=>?_⟩
 obtain ⟨f,rfl,hf⟩:=h6 x hx
 exact (acOf_ok hf).1
end Go.Proofs.YtlgbkpaihjnjpaaGreat.ctr
