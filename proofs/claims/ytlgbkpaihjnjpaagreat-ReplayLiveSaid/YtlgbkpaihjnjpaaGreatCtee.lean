/- What functions of the program compute, one by one (5). -/
import Derived.Test.YtlgbkpaihjnjpaaGreatCtdd
set_option linter.unusedVariables false
set_option linter.unusedSimpArgs false
set_option linter.unusedSectionVars false
set_option linter.constructorNameAsVariable false
set_option linter.defProp false
namespace Go.Proofs.YtlgbkpaihjnjpaaGreat.ctr
open Go Go.Vm Go.RowKit Go.Ranges
section
variable {bd : Bd} {h : VF} {fu : Nat}
theorem m_isup (n:Nat) {s0:St} (s:St) (p:Nat) (t:PT) (Ps:List Obj) (hS:Sep s0 s (oT1 p t::Ps)):OutOk (callF bd (tab h).get fu (n+1) 42 [.ptr p 0] s) (fun x s'=>Is x (.bool t.up)∧Is s' s):=by
 obtain ⟨g,w,f,hS⟩:=hS.openT
 exact p_isup n s p g w f t _ hS
theorem m_joined (n:Nat) {s0:St} (s:St) (p:Nat) (t:PT) (Ps:List Obj) (hS:Sep s0 s (oT1 p t::Ps)):OutOk (callF bd (tab h).get fu (n+1) 83 [.ptr p 0] s) (fun x s'=>Is x (.bool t.jn)∧Is s' s):=by
 obtain ⟨g,w,f,hS⟩:=hS.openT
 exact p_joined n s p g w f t _ hS
theorem m_behind (n:Nat) {s0:St} (s:St) (p:Nat) (t:PT) (Ps:List Obj) (hS:Sep s0 s (oT1 p t::Ps)):OutOk (callF bd (tab h).get fu (n+1) 144 [.ptr p 0] s) (fun x s'=>Is x (.bool t.bh)∧Is s' s):=by
 obtain ⟨g,w,f,hS⟩:=hS.openT
 exact p_behind n s p g w f t _ hS
theorem m_sent (n:Nat) {s0:St} (s:St) (p:Nat) (t:PT) (Ps:List Obj) (hS:Sep s0 s (oT1 p t::Ps)):OutOk (callF bd (tab h).get fu (n+1) 94 [.ptr p 0] s) (fun x s'=>Is x (num t.sent)∧Is s' s):=by
 obtain ⟨g,w,f,hS⟩:=hS.openT
 exact p_sent n s p g w f t _ hS
theorem m_mean (n:Nat) {s0:St} (s:St) (p:Nat) (t:PT) (Ps:List Obj) (hS:Sep s0 s (oT1 p t::Ps)):OutOk (callF bd (tab h).get fu (n+2) 145 [.ptr p 0] s) (fun x s'=>Is x (num t.G.me)∧Is s' s):=by
 obtain ⟨g,w,f,hS⟩:=hS.openT
 exact p_mean n s p g w f t _ hS
theorem m_len (n:Nat) {s0:St} (s:St) (p:Nat) (t:PT) (Ps:List Obj) (hS:Sep s0 s (oT1 p t::Ps)):OutOk (callF bd (tab h).get fu (n+2) 92 [.ptr p 0] s) (fun x s'=>Is x (num (t.F.length:Int))∧Is s' s):=by
 obtain ⟨g,w,f,hS⟩:=hS.openT
 exact p_len n s p g w f t _ (((hS.re (.cons _ ((List.perm_middle (l₁:=[_,_])).trans (.cons _ (.refl _)))))))
theorem m_up (n:Nat) {s0:St} (s:St) (p:Nat) (t:PT) (Ps:List Obj) (hS:Sep s0 s (oT1 p t::Ps)):OutOk (callF bd (tab h).get fu (n+1) 43 [.ptr p 0] s) (fun x s'=>Sep s0 s' (oT1 p { t with up:=true }::Ps)):=by
 obtain ⟨g,w,f,hS⟩:=hS.openT
 exact (p_up n s p g w f t _ hS).mono fun x s' ⟨_,q⟩=>Sep.closeT (t:={ t with up:=true }) q
theorem m_join (n:Nat) {s0:St} (s:St) (p:Nat) (t:PT) (Ps:List Obj) (hS:Sep s0 s (oT1 p t::Ps)):OutOk (callF bd (tab h).get fu (n+1) 46 [.ptr p 0] s) (fun x s'=>Sep s0 s' (oT1 p { t with jn:=true }::Ps)):=by
 obtain ⟨g,w,f,hS⟩:=hS.openT
 exact (p_join n s p g w f t _ hS).mono fun x s' ⟨_,q⟩=>Sep.closeT (t:={ t with jn:=true }) q
theorem m_out (n:Nat) {s0:St} (s:St) (p:Nat) (t:PT) (o:O) (Ps:List Obj) (hS:Sep s0 s (oT1 p t::Ps)) (hlen:t.F.length<fu) (hf:t.F.length<100000):OutOk (callF bd (tab h).get fu (n+5) 127 [.ptr p 0,.agg (encO o)] s) (fun x s'=>Sep s0 s' (oT1 p { t with F:=addF o t.F }::Ps)):=by
 obtain ⟨g,w,f,hS⟩:=hS.openT
 exact (p_out n s p g w f t o _ (((hS.re (.cons _ ((List.perm_middle (l₁:=[_,_])).trans (.cons _ (.refl _))))))) hlen hf).mono fun x s' ⟨_,q⟩=>Sep.closeT (t:={ t with F:=addF o t.F }) (((q.re (.cons _ ((List.perm_middle (l₁:=[_])).trans (.cons _ ((List.perm_middle (l₁:=[_])).trans (.cons _ (.refl _)))))))))
theorem m_late (n:Nat) {s0:St} (s:St) (p:Nat) (t:PT) (now:Int) (Ps:List Obj) (hS:Sep s0 s (oT1 p t::Ps)) (hg:t.G.Ok) (hw:t.W.Ok) (hlen:t.F.length<fu) (hf:t.F.length<100000) (hn:0≤now∧now≤1048576) :
  OutOk (callF bd (tab h).get fu (n+3) 38 [.ptr p 0,num now] s) (fun x s'=>Sep s0 s' (oW x 4 encO (t.lates now)::oT1 p (t.late now)::Ps)):=by
 obtain ⟨g,w,f,hS⟩:=hS.openT
 exact (p_late n s p g w f t now _ hS hg hw hlen hf hn).mono fun x s' q=>(Sep.closeT (t:=t.late now) (((q.re ((List.perm_middle (l₁:=[_])).trans (.cons _ ((List.perm_middle (l₁:=[_])).trans (.cons _ ((List.perm_middle (l₁:=[_])).trans (.cons _ ((List.perm_middle (l₁:=[_])).trans (.cons _ (.refl _))))))))))))).swap
theorem m_down (n:Nat) {s0:St} (s:St) (p:Nat) (t:PT) (Ps:List Obj) (hS:Sep s0 s (oT1 p t::Ps)) (hu:t.up=true):OutOk (callF bd (tab h).get fu (n+2) 54 [.ptr p 0] s) (fun x s'=>Sep s0 s' (oW x 4 encO t.F::oT1 p { t with up:=false,F:=[] }::Ps)):=by
 obtain ⟨g,w,f,hS⟩:=hS.openT
 refine (p_down n s p g w f t _ (((hS.re (.cons _ ((List.perm_middle (l₁:=[_,_])).trans (.cons _ (.refl _)))))))).mono fun x s' q=>?_
 rw[if_pos hu,if_pos hu] at q
 exact (Sep.closeT (t:={ t with up:=false,F:=[] }) (((q.re ((List.perm_middle (l₁:=[_])).trans (.cons _ ((List.perm_middle (l₁:=[_,_])).trans (.cons _ ((List.perm_middle (l₁:=[_,_])).trans (.cons _ ((List.perm_middle (l₁:=[_])).trans (.cons _ (.refl _))))))))))))).swap
theorem m_acked (n:Nat) {s0:St} (s:St) (p:Nat) (t:PT) (k now:Int) (Ps:List Obj) (hS:Sep s0 s (oT1 p t::Ps)) (hg:t.G.Ok) (hw:t.W.Ok) (hlen:t.F.length<fu) (hf:t.F.length<100000) (hn:0≤now∧now≤1048576) (ha:∀ o∈t.F,0≤o.2.2.2∧o.2.2.2≤1048576) :
  OutOk (callF bd (tab h).get fu (n+5) 51 [.ptr p 0,num k,num now] s) (fun x s'=>Sep s0 s' (oT1 p (t.acked k now)::Ps)):=by
 obtain ⟨g,w,f,hS⟩:=hS.openT
 exact (p_acked n s p g w f t k now _ hS hg hw hlen hf hn ha).mono fun x s' ⟨_,q⟩=>Sep.closeT q
theorem m_state (n:Nat) {s0:St} (s:St) (p:Nat) (t:PT) (Ps:List Obj) (hS:Sep s0 s (oT1 p t::Ps)) (hg:t.G.Ok) (hlen:t.F.length<fu) (hf:t.F.length<100000) :
  OutOk (callF bd (tab h).get fu (n+3) 69 [.ptr p 0] s) (fun x s'=>Sep s0 s' (oW x 1 encI t.state::oT1 p t::Ps)):=by
 obtain ⟨g,w,f,hS⟩:=hS.openT
 exact (p_state n s p g w f t _ hS hg hlen hf).mono fun x s' q=>(Sep.closeT (((q.re ((List.perm_middle (l₁:=[_])).trans (.cons _ ((List.perm_middle (l₁:=[_])).trans (.cons _ ((List.perm_middle (l₁:=[_])).trans (.cons _ ((List.perm_middle (l₁:=[_])).trans (.cons _ (.refl _))))))))))))).swap
theorem m_new (n:Nat) {s0:St} (s:St) (a1 a2 a3 a4 mo fi a7:Int) (Ps:List Obj) (hS:Sep s0 s Ps):OutOk (callF bd (tab h).get fu (n+3) 28 [.agg [num a1,num a2,num a3,num a4,num mo,num fi,num a7]] s) (fun x s'=>∃ p,Is x (.ptr p 0)∧Sep s0 s' (oT1 p (PT.new mo fi)::Ps)) :=
 (p_new n s a1 a2 a3 a4 mo fi a7 Ps hS).mono fun x s' ⟨p,g,w,f,q1,q2⟩=>⟨p,q1,Sep.closeT q2⟩
noncomputable def iarV (n sz:Nat) (v:AV) (oi:Option AV):Option AV:=v.onPtr (fun b o=>ob oi fun i=>i.onNat (fun i=>cnd (Nat.blt i n) (some (.ptr b (o+i*sz))) none) none) none
theorem f_iar {L F:LF} {n sz:Nat} {x i:Od}:fIar L F n sz x i=ob (ev L F x) fun v=>iarV n sz v (ev L F i):=rfl
theorem iar_k {n sz b o k:Nat} (hk:k<n):iarV n sz (.ptr b o) (some (num (k:Int)))=some (.ptr b (o+k*sz)):=by
 show cnd (Nat.blt k n) (some (AV.ptr b (o+k*sz))) none=_
 rw[blt_dec,dec_t hk]; rfl
theorem call_atom {k f:Nat} {tb:Nat→Option VF} (ht:tb f=some (.atom k)) {args:List AV} {s:St} {Q:AV→St→Prop} (h:OutOk (atomF k args s) Q) (n:Nat):OutOk (callF bd tb fu (n+1) f args s) Q:=by
 show OutOk (Option.casesOn (motive:=fun _=>Out) (tb f) (.bad 91 [f]) fun v=>callV bd fu (callF bd tb fu n) f args s v) Q
 rw[ht]
 exact h
theorem mt_is (n:Nat) (s:St) (k:Int) (h0:0≤k) (h1:k<8):OutOk (callF bd (tab h).get fu (n+1) 77 [num k] s) (fun x s'=>Is x (.bool true)∧Is s' s):=by
 refine call_code (t77 h) rfl ?_
 simp (disch:=omega) only [vm0,vm1,vm2,vm3,vm4,vm5,vm6,vm7,vmF,vmT,evo,wr,wrC,frame,Nat.reduceAdd,Nat.reduceMul,Nat.reduceSub,beq_self_eq_true,List.cons_append,List.nil_append,beq_dec,vmI,vc77,vmU]
 exact ⟨rfl,rfl⟩
theorem at_add (n:Nat) (s:St) (p k:Nat) (C:List AV) (c a:Int) (hg:s.heap.get p=some (.cells C .own)) (hc:C[k]?=some (num c)) :
  OutOk (callF bd (tab h).get fu (n+2) 78 [.ptr p k,num a] s) (fun x s'=>∃ d,Is x (num d)∧Is s' (s.put p (some (.cells (C.set k (num d)) .own)))):=by
 refine call_code (t78 h) rfl ?_
 simp (disch:=omega) only [vm0,vm1,vm2,vm3,vm4,vm5,vm6,vm7,vmF,vmT,evo,wr,wrC,frame,Nat.reduceAdd,Nat.reduceMul,Nat.reduceSub,beq_self_eq_true,List.cons_append,List.nil_append,beq_dec,vmI,vc78]
 have hk:k<C.length:=(List.getElem?_eq_some_iff.1 hc).1
 have e1:rd1 s p k=some (num c):=by
  rw[rd1_e,hg]; show nth C k=_; rw[nth_eq,hc]
 have e2:∀ d,wr s p k [num d]=some (s.put p (some (.cells (C.set k (num d)) .own))):=fun d=>by
  unfold wr
  rw[hg]
  show wrC s p .own (setL C k [num d])=_
  rw[setL_of (by simp; omega)]
  show some _=_
  rw[List.set_eq_take_append_cons_drop,if_pos hk,List.append_assoc]; rfl
 refine call_ok rfl rfl (call_atom (t117 h) (Q:=fun x s'=>∃ d,Is x (num d)∧Is s' (s.put p (some (.cells (C.set k (num d)) .own)))) ?_ n) ?_
 ·show OutOk (match rd1 s p k with
   | some (.int .i64 n)=>match arith .add .i64 n (.c a) with
    | some m=>match wr s p k [.int .i64 m] with
     | some s' => .v (.int .i64 m) s'
     | none => .bad 102 []
    | none => .bad 103 []
   | _ => .bad 104 []) _
  rw[e1]
  show OutOk (match wr s p k [num (IntKind.i64.wrap (c+a))] with
     | some s' => .v (num (IntKind.i64.wrap (c+a))) s'
     | none => .bad 102 []) _
  rw[e2]
  exact ⟨_,rfl,rfl⟩
 ·rintro x s' ⟨d,rfl,rfl⟩
  simp (disch:=omega) only [vm0,vm1,vm2,vm3,vm4,vm5,vm6,vm7,vmF,vmT,evo,wr,wrC,frame,Nat.reduceAdd,Nat.reduceMul,Nat.reduceSub,beq_self_eq_true,List.cons_append,List.nil_append,beq_dec,vmI]
  exact ⟨_,rfl,rfl⟩
def oM (p:Nat):Obj:=oE fun mc:Int×Int×Int×Int×Int×Int×Int×Int=>oC p [num mc.1,num mc.2.1,num mc.2.2.1,num mc.2.2.2.1,num mc.2.2.2.2.1,num mc.2.2.2.2.2.1,num mc.2.2.2.2.2.2.1,num mc.2.2.2.2.2.2.2]
theorem mt_add (n:Nat) {s0:St} (s:St) (p k:Nat) (z a:Int) (Ps:List Obj) (hS:Sep s0 s (oM p::Ps)) (hz:z=(k:Int)) (hk:k<8) (ha:0≤a∧a≤2147483647) :
  OutOk (callF bd (tab h).get fu (n+3) 31 [.ptr p 0,num z,num a] s) (fun x s'=>Sep s0 s' (oM p::Ps)):=by
 subst hz
 obtain ⟨⟨c0,c1,c2,c3,c4,c5,c6,c7⟩,hS⟩:=hS.openE
 dsimp only at hS
 have g1:=hS.getC
 obtain ⟨c,hc⟩ : ∃ c,([num c0,num c1,num c2,num c3,num c4,num c5,num c6,num c7]:List AV)[k]?=some (num c):=by
  match k,hk with
  | 0,_=>exact ⟨_,rfl⟩
  | 1,_=>exact ⟨_,rfl⟩
  | 2,_=>exact ⟨_,rfl⟩
  | 3,_=>exact ⟨_,rfl⟩
  | 4,_=>exact ⟨_,rfl⟩
  | 5,_=>exact ⟨_,rfl⟩
  | 6,_=>exact ⟨_,rfl⟩
  | 7,_=>exact ⟨_,rfl⟩
 refine call_code (t31 h) rfl ?_
 simp (disch:=omega) only [vm0,vm1,vm2,vm3,vm4,vm5,vm6,vm7,vmF,vmT,evo,wr,wrC,frame,Nat.reduceAdd,Nat.reduceMul,Nat.reduceSub,beq_self_eq_true,List.cons_append,List.nil_append,beq_dec,vmI,vc31,vmU]
 refine call_ok rfl rfl (mt_is (n+1) s k (by omega) (by omega)) ?_
 rintro y s1 ⟨rfl,rfl⟩
 simp (disch:=omega) only [vm0,vm1,vm2,vm3,vm4,vm5,vm6,vm7,vmF,vmT,evo,wr,wrC,frame,Nat.reduceAdd,Nat.reduceMul,Nat.reduceSub,beq_self_eq_true,List.cons_append,List.nil_append,beq_dec,vmI,vmU,f_iar,iar_k,Nat.mul_one]
 refine call_ok rfl rfl (at_add n s1 p k _ c a g1 hc) ?_
 rintro y s2 ⟨d,rfl,rfl⟩
 simp (disch:=omega) only [vm0,vm1,vm2,vm3,vm4,vm5,vm6,vm7,vmF,vmT,evo,wr,wrC,frame,Nat.reduceAdd,Nat.reduceMul,Nat.reduceSub,beq_self_eq_true,List.cons_append,List.nil_append,beq_dec,vmI]
 have hS2:=hS.setC (([num c0,num c1,num c2,num c3,num c4,num c5,num c6,num c7]:List AV).set k (num d))
 match k,hk with
 | 0,_=>exact Sep.closeE (f:=fun mc:Int×Int×Int×Int×Int×Int×Int×Int=>oC p _) (d,c1,c2,c3,c4,c5,c6,c7) hS2
 | 1,_=>exact Sep.closeE (f:=fun mc:Int×Int×Int×Int×Int×Int×Int×Int=>oC p _) (c0,d,c2,c3,c4,c5,c6,c7) hS2
 | 2,_=>exact Sep.closeE (f:=fun mc:Int×Int×Int×Int×Int×Int×Int×Int=>oC p _) (c0,c1,d,c3,c4,c5,c6,c7) hS2
 | 3,_=>exact Sep.closeE (f:=fun mc:Int×Int×Int×Int×Int×Int×Int×Int=>oC p _) (c0,c1,c2,d,c4,c5,c6,c7) hS2
 | 4,_=>exact Sep.closeE (f:=fun mc:Int×Int×Int×Int×Int×Int×Int×Int=>oC p _) (c0,c1,c2,c3,d,c5,c6,c7) hS2
 | 5,_=>exact Sep.closeE (f:=fun mc:Int×Int×Int×Int×Int×Int×Int×Int=>oC p _) (c0,c1,c2,c3,c4,d,c6,c7) hS2
 | 6,_=>exact Sep.closeE (f:=fun mc:Int×Int×Int×Int×Int×Int×Int×Int=>oC p _) (c0,c1,c2,c3,c4,c5,d,c7) hS2
 | 7,_=>exact Sep.closeE (f:=fun mc:Int×Int×Int×Int×Int×Int×Int×Int=>oC p _) (c0,c1,c2,c3,c4,c5,c6,d) hS2
theorem ownP (n:Nat) (s:St) (p:PkV) (u:AV) (hu:RdE s u 1 encB p.d) (hl:p.d.length≤1000000) :
  OutOk (callF bd (tab h).get fu (n+2) 96 [.agg (p.cs u)] s) (fun x s'=>∃ u',Is x (.agg (p.cs u'))∧Sep s s' [oW u' 1 encB p.d]):=by
 refine call_code (t96 h) rfl ?_
 have hS:=((Sep.nil (s:=s)).newC (p.cs u)).newC z9
 have hu1:=hu.fr0 hS.frm
 obtain ⟨_,⟨g1,_,_⟩,_⟩:=Sep.hd (((hS.re ((List.perm_middle (l₁:=[_])).trans (.cons _ (.refl _))))))
 dsimp only[PkV.cs,z9,next_new] at *
 simp (disch:=omega) only [vm0,vm1,vm2,vm3,vm4,vm5,vm6,vm7,vmF,vmT,evo,wr,wrC,frame,Nat.reduceAdd,Nat.reduceMul,Nat.reduceSub,beq_self_eq_true,List.cons_append,List.nil_append,beq_dec,vmI,vc96,g1]
 refine call_ok rfl rfl (cloneB n _ u p.d hu1 (by omega)) ?_
 rintro y s2 ⟨f,a1,a2,a3⟩
 have hS2:=hS.push (P:=oW y 1 encB p.d) a1 a2 a3
 have g2:=Sep.getC (((hS2.re ((List.perm_middle (l₁:=[_,_])).trans (.cons _ (.refl _))))))
 have hS3:=Sep.putC (((hS2.re ((List.perm_middle (l₁:=[_,_])).trans (.cons _ (.refl _)))))) [num p.k,num p.pt,num p.nr,num p.of_,num p.fr,y,.bool p.fin,num p.se,num p.li]
 have g3:=hS3.getC
 have g4:=Sep.getC (((hS3.re ((List.perm_middle (l₁:=[_,_])).trans (.cons _ (.refl _))))))
 have hS4:=Sep.putC (((hS3.re ((List.perm_middle (l₁:=[_,_])).trans (.cons _ (.refl _)))))) [num p.k,num p.pt,num p.nr,num p.of_,num p.fr,y,.bool p.fin,num p.se,num p.li]
 have g5:=hS4.getC
 have hyc:=cells1 a1.rd.rd.sl
 simp (disch:=omega) only [vm0,vm1,vm2,vm3,vm4,vm5,vm6,vm7,vmF,vmT,evo,wr,wrC,frame,Nat.reduceAdd,Nat.reduceMul,Nat.reduceSub,beq_self_eq_true,List.cons_append,List.nil_append,beq_dec,vmI,g2,g3,g4,g5,hyc]
 exact ⟨y,rfl,((hS4.re (.refl _)).drop.drop)⟩
end
structure EvV.Ft (e:EvV):Prop where
 l:e.d.length≤1000000
 pl:e.p.d.length≤1000000
 h8:∀ x∈e.d,In8 x
 h9:∀ x∈e.p.d,In8 x
theorem Sep.oks2 {s0 s:St} {m:List EvR} {Ps:List Obj} (h:Sep s0 s (oH m::Ps)) (hm:∀ x∈m.map EvR.e,x.Ft):evsOk s m:=by
 obtain ⟨fp,⟨f,g,h1,_⟩,_⟩:=h
 intro x hx
 obtain ⟨⟨f1,_,k1⟩,⟨f2,_,k2⟩⟩:=h1.2 x hx
 have hs:=hm x.e (List.mem_map_of_mem hx)
 exact ⟨k1.rd,k2.rd,hs.h8,hs.h9,hs.l,hs.pl⟩
structure CF where
 pa:Int
 bu:Int
 wi:Int
 ch:Int
 mo:Int
 fi:Int
 sc:Int
def CF.cs (c:CF):List AV:=[num c.pa,num c.bu,num c.wi,num c.ch,num c.mo,num c.fi,num c.sc]
structure EN where
 c:CF
 side:Int
 now:Int
 P:List PT
 due:List Int
 limit:Int
 o:OB
 pl:List R
 ps:Int
 i:IB
 nx:Int
 log:List EvV
structure EH where
 vp:AV
 ps:List Nat
 vd:AV
 ob:Nat
 pb:Nat
 ib:Nat
 sb:Nat
 vs:AV
 vl:AV
 mb:Nat
def EN.cells (X:EN) (a:EH):List AV:=[num X.c.pa,num X.c.bu,num X.c.wi,num X.c.ch,num X.c.mo,num X.c.fi,num X.c.sc,num X.side,num X.now,a.vp,a.vd,num X.limit,.ptr a.ob 0,.ptr a.pb 0,.ptr a.ib 0,.ptr a.sb 0,a.vs,a.vl,.ptr a.mb 0]
def encK (x:PkV×AV):List AV:=x.1.cs x.2
def encPt (p:Nat):List AV:=[.ptr p 0]
def LgOk (j:Nat) (log:List EvV) (x:List (PkV×AV)×List EvR):Prop:=x.2.map EvR.e=log∧x.1.length≤x.2.length+j
def oLg (j:Nat) (vs vl:AV) (mb:Nat) (log:List EvV):Obj:=oE fun x:{ x:List (PkV×AV)×List EvR // LgOk j log x }=>oL [oW vs 9 encK x.1.1,oW vl 12 EvR.enc x.1.2,oH x.1.2,oM mb]
theorem Sep.openLg {s0 s:St} {j:Nat} {vs vl:AV} {mb:Nat} {log:List EvV} {Ps:List Obj} (h:Sep s0 s (oLg j vs vl mb log::Ps)):∃ ms m,m.map EvR.e=log∧ms.length≤m.length+j∧Sep s0 s (oW vs 9 encK ms::oW vl 12 EvR.enc m::oH m::oM mb::Ps):=by
 obtain ⟨⟨⟨ms,m⟩,h1,h2⟩,hS⟩:=h.openE
 exact ⟨ms,m,h1,h2,hS.openL⟩
theorem Sep.closeLg {s0 s:St} {j:Nat} {vs vl:AV} {mb:Nat} {log:List EvV} {ms:List (PkV×AV)} {m:List EvR} {Ps:List Obj} (h1:m.map EvR.e=log) (h2:ms.length≤m.length+j) (h:Sep s0 s (oW vs 9 encK ms::oW vl 12 EvR.enc m::oH m::oM mb::Ps)):Sep s0 s (oLg j vs vl mb log::Ps) :=
 Sep.closeE (f:=fun x:{ x:List (PkV×AV)×List EvR // LgOk j log x }=>oL [oW vs 9 encK x.1.1,oW vl 12 EvR.enc x.1.2,oH x.1.2,oM mb]) ⟨(ms,m),h1,h2⟩ (Sep.closeL (Qs:=[_,_,_,_]) h)
def oV (gv:AV×List Nat) (v:AV) (ps:List Nat):Obj:=⟨fun s fp=>OwE s v 1 encPt ps fp∧(v,ps)=gv,fun h hf hd=>⟨h.1.fr hf hd,h.2⟩,fun h=>h.1.lt⟩
theorem Sep.rdV {s0 s:St} {gv:AV×List Nat} {v:AV} {ps:List Nat} {Ps:List Obj} (h:Sep s0 s (oV gv v ps::Ps)):RdE s v 1 encPt ps:=by
 obtain ⟨f,k,_⟩:=h.hd; exact k.1.rd
theorem Sep.sameV {s0 s:St} {gv:AV×List Nat} {v:AV} {ps:List Nat} {Ps:List Obj} (h:Sep s0 s (oV gv v ps::Ps)):sameA v v=true:=by
 obtain ⟨f,k,_⟩:=h.hd; exact OwE.isSame k.1
theorem Sep.eqV {s0 s:St} {gv:AV×List Nat} {v:AV} {ps:List Nat} {Ps:List Obj} (h:Sep s0 s (oV gv v ps::Ps)):v=gv.1∧ps=gv.2:=by
 obtain ⟨f,k,_⟩:=h.hd; exact ⟨congrArg Prod.fst k.2,congrArg Prod.snd k.2⟩
def EndJ (gv:AV×List Nat) (j:Nat) (s0 s:St) (e:Nat) (X:EN) (Ps:List Obj):Prop:=∃ a:EH,a.ps.length=X.P.length∧Sep s0 s (oC e (X.cells a)::oPS a.ps X.P::oV gv a.vp a.ps::oW a.vd 1 encI X.due::oO a.ob X.o::oP a.pb X.pl X.ps::oI a.ib X.i::oC a.sb [num X.c.sc,num X.nx]::oLg j a.vs a.vl a.mb X.log::Ps)
abbrev EndS (gv:AV×List Nat) (s0 s:St) (e:Nat) (X:EN) (Ps:List Obj):Prop:=EndJ gv 0 s0 s e X Ps
theorem Sep.up8 {s0 s:St} {A B C D E F G H I:Obj} {Ps:List Obj} (h:Sep s0 s (A::B::C::D::E::F::G::H::I::Ps)):Sep s0 s (I::A::B::C::D::E::F::G::H::Ps):=h.perm (List.perm_middle (l₁:=[A,B,C,D,E,F,G,H]) (a:=I) (l₂:=Ps))
theorem Sep.dn8 {s0 s:St} {A B C D E F G H I:Obj} {Ps:List Obj} (h:Sep s0 s (I::A::B::C::D::E::F::G::H::Ps)):Sep s0 s (A::B::C::D::E::F::G::H::I::Ps):=h.perm (List.perm_middle (l₁:=[A,B,C,D,E,F,G,H]) (a:=I) (l₂:=Ps)).symm
theorem EndS.frm {gv:AV×List Nat} {s0 s:St} {e:Nat} {X:EN} {Ps:List Obj} (h:EndS gv s0 s e X Ps):Fr s0 s []:=by obtain ⟨a,_,hS⟩:=h; exact hS.frm
theorem EndS.fr {gv:AV×List Nat} {s0 s s':St} {e:Nat} {X:EN} {Ps:List Obj} (h:EndS gv s0 s e X Ps) (hf:Fr s s' []):EndS gv s0 s' e X Ps:=by obtain ⟨a,h1,hS⟩:=h; exact ⟨a,h1,hS.fr hf⟩
def EN.note (X:EN) (x:EvV):EN:={ X with log:=X.log++[x] }
section
variable {bd : Bd} {h : VF} {fu : Nat} {gv : AV × List Nat}
theorem ownE (n:Nat) (s:St) (x:EvV) (u w:AV) (hu:RdE s u 1 encB x.d) (hw:RdE s w 1 encB x.p.d) (hl:x.d.length≤1000000) (hpl:x.p.d.length≤1000000) :
  OutOk (callF bd (tab h).get fu (n+3) 58 [.agg (x.cs u w)] s) (fun y s'=>∃ u' w',Is y (.agg (x.cs u' w'))∧Sep s s' [oW u' 1 encB x.d,oW w' 1 encB x.p.d]):=by
 refine call_code (t58 h) rfl ?_
 have hS:=((Sep.nil (s:=s)).newC (x.cs u w)).newC z12
 have hu1:=hu.fr0 hS.frm
 have hw1:=hw.fr0 hS.frm
 obtain ⟨_,⟨g1,_,_⟩,_⟩:=Sep.hd (((hS.re ((List.perm_middle (l₁:=[_])).trans (.cons _ (.refl _))))))
 have su:=sv_sl hu.rd.sl
 have sw:=sv_sl hw.rd.sl
 obtain ⟨k,nn,d,⟨pk,pt,nr,of_,fr,pd,fin,se,li⟩⟩:=x
 dsimp only[EvV.cs,z12,next_new] at *
 simp (disch:=omega) only [vm0,vm1,vm2,vm3,vm4,vm5,vm6,vm7,vmF,vmT,evo,wr,wrC,frame,Nat.reduceAdd,Nat.reduceMul,Nat.reduceSub,beq_self_eq_true,List.cons_append,List.nil_append,beq_dec,vmI,vc58,g1]
 refine call_ok rfl rfl (cloneB (n+1) _ u d hu1 (by omega)) ?_
 rintro y s2 ⟨f,a1,a2,a3⟩
 have hS2:=hS.push (P:=oW y 1 encB d) a1 a2 a3
 have hw2:=hw1.fr0 a2
 have g2:=Sep.getC (((hS2.re ((List.perm_middle (l₁:=[_,_])).trans (.cons _ (.refl _))))))
 simp (disch:=omega) only [vm0,vm1,vm2,vm3,vm4,vm5,vm6,vm7,vmF,vmT,evo,wr,wrC,frame,Nat.reduceAdd,Nat.reduceMul,Nat.reduceSub,beq_self_eq_true,List.cons_append,List.nil_append,beq_dec,vmI,g2]
 refine call_ok rfl rfl (ownP n s2 ⟨pk,pt,nr,of_,fr,pd,fin,se,li⟩ w hw2 hpl) ?_
 rintro y2 s3 ⟨w',rfl,hSq⟩
 have hS3:=hS2.app hSq
 have hyc:=cells1 a1.rd.rd.sl
 dsimp only[PkV.cs]
 have g3:=Sep.getC (((hS3.re ((List.perm_middle (l₁:=[_,_,_])).trans (.cons _ (.refl _))))))
 have g4:=Sep.getC (((hS3.re ((List.perm_middle (l₁:=[_,_])).trans (.cons _ (.refl _))))))
 have hwc:=cells1 (Sep.rdW hS3).rd.sl
 simp (disch:=omega) only [vm0,vm1,vm2,vm3,vm4,vm5,vm6,vm7,vmF,vmT,evo,wr,wrC,frame,Nat.reduceAdd,Nat.reduceMul,Nat.reduceSub,beq_self_eq_true,List.cons_append,List.nil_append,beq_dec,vmI,g1,g2,g3,g4,hyc,hwc,su,sw,sv_bool]
 have hS4:=Sep.putC (((hS3.re ((List.perm_middle (l₁:=[_,_,_])).trans (.cons _ (.refl _)))))) [num k,num nn,y,num pk,num pt,num nr,num of_,num fr,w,.bool fin,num se,num li]
 have hS5:=hS4.putC [num k,num nn,y,num pk,num pt,num nr,num of_,num fr,w',.bool fin,num se,num li]
 have hS6:=Sep.putC (((hS5.re ((List.perm_middle (l₁:=[_,_,_])).trans (.cons _ (.refl _)))))) [num k,num nn,y,num pk,num pt,num nr,num of_,num fr,w',.bool fin,num se,num li]
 exact ⟨y,w',rfl,((hS6.re (.cons _ (.cons _ ((List.perm_middle (l₁:=[_])).trans (.cons _ (.refl _)))))).drop.drop)⟩
theorem n_note (n j:Nat) {s0:St} (s:St) (e:Nat) (X:EN) (x:EvV) (u w:AV) (Ps:List Obj) (hE:EndJ gv j s0 s e X Ps) (hu:RdE s u 1 encB x.d) (hw:RdE s w 1 encB x.p.d) (hl:x.d.length≤1000000) (hpl:x.p.d.length≤1000000) (hlog:X.log.length<1000000) :
  OutOk (callF bd (tab h).get fu (n+4) 30 [.ptr e 0,.agg (x.cs u w)] s) (fun y s'=>EndJ gv (j-1) s0 s' e (X.note x) Ps):=by
 obtain ⟨a,hnp,hS⟩:=hE
 refine call_code (t30 h) rfl ?_
 have hS1:=(hS.newC (x.cs u w)).rsv
 have hfr:Fr s ⟨(s.new (.cells (x.cs u w) .own)).heap,(s.new (.cells (x.cs u w) .own)).next+1⟩ []:=by rw[next_new]; exact (by (repeat' (first | exact Fr.refl | assumption | apply Fr.new' | apply Fr.mk' | apply Fr.put')) <;> (first | omega | (left; simp; done) | (right; simp only[next_put,next_new,next_mk]; omega) | (simp only[next_put,next_new,next_mk]; omega)))
 have hu1:=hu.fr0 hfr
 have hw1:=hw.fr0 hfr
 have hown:=ownE (bd:=bd) (h:=h) (fu:=fu) n _ x u w hu1 hw1 hl hpl
 obtain ⟨ms,m,hm1,hm2,hL⟩:=(Sep.openLg (((hS1.re ((List.perm_middle (l₁:=[_,_,_,_,_,_,_,_,_,_])).trans (.cons _ (.refl _)))))))
 have g1:=Sep.getC (((hL.re ((List.perm_middle (l₁:=[_,_,_,_,_,_])).trans (.cons _ (.refl _))))))
 have g2:=Sep.getC (((hL.re ((List.perm_middle (l₁:=[_,_,_,_,_])).trans (.cons _ (.refl _))))))
 have hml:m.length=X.log.length:=by rw[←hm1,List.length_map]
 have svl:=Sep.sameW hL.swap
 obtain ⟨⟨pa,bu,wi,ch,mo,fi,sc⟩,side,now,P,due,limit,o,pl,ps,ib,nx,log⟩:=X
 obtain ⟨vp,pps,vd,ob',pb,ibb,sb,vs,vl,mb⟩:=a
 obtain ⟨k,nn,d,⟨pk,pt,nr,of_,fr,pd,fin,se,li⟩⟩:=x
 dsimp only[EvV.cs,EN.cells,next_new,EN.note] at *
 simp (disch:=omega) only [vm0,vm1,vm2,vm3,vm4,vm5,vm6,vm7,vmF,vmT,evo,wr,wrC,frame,Nat.reduceAdd,Nat.reduceMul,Nat.reduceSub,beq_self_eq_true,List.cons_append,List.nil_append,beq_dec,vmI,vc30,g1,g2,svl]
 generalize (⟨(s.new (.cells [num k,num nn,u,num pk,num pt,num nr,num of_,num fr,w,.bool fin,num se,num li] .own)).heap,s.next+1+1⟩ : St)=s1 at *
 have g1:=Sep.getC (((hL.re ((List.perm_middle (l₁:=[_,_,_,_,_,_])).trans (.cons _ (.refl _))))))
 refine call_ok rfl rfl hown ?_
 rintro y s2 ⟨u',w',rfl,hSq⟩
 have hS2:=hL.app hSq
 have hS3:=Sep.fillC (((hS2.re ((List.perm_middle (l₁:=[_,_,_,_,_,_])).trans (.cons _ (.refl _)))))) [num k,num nn,u',num pk,num pt,num nr,num of_,num fr,w',.bool fin,num se,num li]
 have g3:=Sep.getC (((hS2.re ((List.perm_middle (l₁:=[_,_,_,_,_,_,_,_])).trans (.cons _ (.refl _))))))
 have g4:=hS3.getC
 obtain ⟨fo,ho,up⟩:=Sep.hd (((hS3.re ((List.perm_middle (l₁:=[_,_,_,_])).trans (.cons _ (.refl _))))))
 simp (disch:=omega) only [vm0,vm1,vm2,vm3,vm4,vm5,vm6,vm7,vmF,vmT,evo,wr,wrC,frame,Nat.reduceAdd,Nat.reduceMul,Nat.reduceSub,beq_self_eq_true,List.cons_append,List.nil_append,beq_dec,vmI,g1,g3,g4,svl]
 refine op_app1 (show OwE _ vl 12 EvR.enc m fo from ho) .refl (x:=⟨⟨k,nn,d,⟨pk,pt,nr,of_,fr,pd,fin,se,li⟩⟩,u',w'⟩) rfl (by omega) ?_
 intro v3 s4 f4 r7 r8 r9
 have hS4:=up (oW v3 12 EvR.enc (m++[(⟨⟨k,nn,d,⟨pk,pt,nr,of_,fr,pd,fin,se,li⟩⟩,u',w'⟩ : EvR)])) r7 r8 r9
 have g5:=Sep.getC (((hS4.re ((List.perm_middle (l₁:=[_,_,_,_,_,_,_,_])).trans (.cons _ (.refl _))))))
 have h3c:=cells1 (Sep.rdW hS4).rd.sl
 simp (disch:=omega) only [vm0,vm1,vm2,vm3,vm4,vm5,vm6,vm7,vmF,vmT,evo,wr,wrC,frame,Nat.reduceAdd,Nat.reduceMul,Nat.reduceSub,beq_self_eq_true,List.cons_append,List.nil_append,beq_dec,vmI,g1,g3,g5,h3c,svl]
 have hS5:=Sep.setC (((hS4.re ((List.perm_middle (l₁:=[_])).trans (.cons _ ((List.perm_middle (l₁:=[_,_,_,_,_,_])).trans (.cons _ ((List.perm_middle (l₁:=[_,_,_,_,_,_])).trans (.cons _ (.refl _)))))))).drop.drop)) [num pa,num bu,num wi,num ch,num mo,num fi,num sc,num side,num now,vp,vd,num limit,.ptr ob' 0,.ptr pb 0,.ptr ibb 0,.ptr sb 0,vs,v3,.ptr mb 0]
 have g6:=hS5.getC
 generalize s4.put e (some (.cells [num pa,num bu,num wi,num ch,num mo,num fi,num sc,num side,num now,vp,vd,num limit,.ptr ob' 0,.ptr pb 0,.ptr ibb 0,.ptr sb 0,vs,v3,.ptr mb 0] .own))=s5 at *
 refine call_ok rfl rfl (mt_add n s5 mb 0 0 1 _ (((hS5.re ((List.perm_middle (l₁:=[_,_,_,_,_,_])).trans (.cons _ (.refl _)))))) rfl (by omega) (by omega)) ?_
 rintro y s6 hS6
 simp (disch:=omega) only [vm0,vm1,vm2,vm3,vm4,vm5,vm6,vm7,vmF,vmT,evo,wr,wrC,frame,Nat.reduceAdd,Nat.reduceMul,Nat.reduceSub,beq_self_eq_true,List.cons_append,List.nil_append,beq_dec,vmI]
 have hS7:=Sep.held (e:=⟨k,nn,d,⟨pk,pt,nr,of_,fr,pd,fin,se,li⟩⟩) (((hS6.re ((List.perm_middle (l₁:=[_,_,_])).trans (.cons _ ((List.perm_middle (l₁:=[_,_,_])).trans (.cons _ ((List.perm_middle (l₁:=[_,_,_,_])).trans (.cons _ (.refl _))))))))))
 have hS8:=Sep.closeLg (j:=j-1) (log:=log++[⟨k,nn,d,⟨pk,pt,nr,of_,fr,pd,fin,se,li⟩⟩]) (by rw[List.map_append,hm1]; rfl) (by simp only[List.length_append,List.length_cons,List.length_nil]; omega) (((hS7.re ((List.perm_middle (l₁:=[_,_,_,_])).trans (.cons _ ((List.perm_middle (l₁:=[_,_,_])).trans (.cons _ (.refl _))))))))
 exact ⟨⟨vp,pps,vd,ob',pb,ibb,sb,vs,v3,mb⟩,hnp,hS8.dn8⟩
end
def snt (p:PkV):EvV:=⟨5,0,[],p⟩
def EN.say (X:EN) (p:PkV):EN:=match X.P[p.pt.toNat]? with
 | some t=>if t.sent≤65535 then EN.note { X with P:=X.P.set p.pt.toNat { t with sent:=t.sent+1 } } (snt { p with nr:=t.sent }) else X
 | none=>X
def EN.nr (X:EN) (p:Int):Int:=match X.P[p.toNat]? with
 | some t=>if t.sent≤65535 then t.sent else 0
 | none=>0
def EN.ok (X:EN) (p:Int):Bool:=match X.P[p.toNat]? with
 | some t=>decide (t.sent≤65535)
 | none=>false
theorem EndJ.tail {gv:AV×List Nat} {j:Nat} {s0 s:St} {e:Nat} {X:EN} {Ps:List Obj} (h:EndJ gv j s0 s e X Ps):Sep s0 s Ps:=by
 obtain ⟨a,_,hS⟩:=h
 exact ((hS.re (.refl _)).drop.drop.drop.drop.drop.drop.drop.drop.drop)
section
variable {bd : Bd} {h : VF} {fu : Nat} {gv : AV × List Nat}
set_option maxHeartbeats 1000000 in
theorem n_say (n:Nat) {s0:St} (s:St) (e:Nat) (X:EN) (p:PkV) (t:PT) (u:AV) (Ps:List Obj) (hE:EndS gv s0 s e X Ps) (hp:0≤p.pt) (ht:X.P[p.pt.toNat]?=some t) (hs:0≤t.sent∧t.sent≤65536) (hu:∀ s',Sep s0 s' Ps→RdE s' u 1 encB p.d) (hpl:p.d.length≤1000000) (hlog:X.log.length<1000000) :
  OutOk (callF bd (tab h).get fu (n+5) 47 [.ptr e 0,.agg (p.cs u)] s) (fun y s'=>Is y (.tup [num (X.nr p.pt),.bool (X.ok p.pt)])∧EndS gv s0 s' e (X.say p) Ps):=by
 obtain ⟨a,hnp,hS⟩:=hE
 refine call_code (t47 h) rfl ?_
 have hX:X.say p=if t.sent≤65535 then EN.note { X with P:=X.P.set p.pt.toNat { t with sent:=t.sent+1 } } (snt { p with nr:=t.sent }) else X:=by unfold EN.say; rw[ht]
 have hnr:X.nr p.pt=if t.sent≤65535 then t.sent else 0:=by unfold EN.nr; rw[ht]
 have hok:X.ok p.pt=decide (t.sent≤65535):=by unfold EN.ok; rw[ht]
 rw[hX,hnr,hok]
 obtain ⟨i,hi⟩ : ∃ i:Nat,p.pt=(i:Int):=⟨p.pt.toNat,by omega⟩
 rw[hi,Int.toNat_natCast] at ht
 obtain ⟨q,hq⟩ : ∃ q,a.ps[i]?=some q:=⟨_,List.getElem?_eq_getElem (by rw[hnp]; exact (List.getElem?_eq_some_iff.1 ht).1)⟩
 have hS1:=hS.newC (p.cs u)
 have g1:=hS1.getC
 have g2:=hS1.swap.getC
 obtain ⟨Rr,hF,back⟩:=Sep.focus (((hS1.re ((List.perm_middle (l₁:=[_,_])).trans (.cons _ (.refl _)))))) hq ht
 have hvp:=Sep.rdV (((hS1.re ((List.perm_middle (l₁:=[_,_,_])).trans (.cons _ (.refl _))))))
 have e1:=hvp.ia hq
 have e2:=hvp.at1 (f:=fun p => .ptr p 0) hq
 have su:=sv_sl hvp.rd.sl
 have hnum:=m_number (bd:=bd) (h:=h) (fu:=fu) (n+2) _ q t _ hF hs.1 hs.2
 obtain ⟨k,pt,nr,of_,fr,d,fin,se,li⟩:=p
 dsimp only at hi
 subst hi
 obtain ⟨⟨pa,bu,wi,ch,mo,fi,sc⟩,side,now,P,due,limit,o,pl,ps,ib,nx,log⟩:=X
 obtain ⟨vp,pps,vd,ob',pb,ibb,sb,vs,vl,mb⟩:=a
 dsimp only[PkV.cs,EN.cells,next_new,EN.note] at *
 simp (disch:=omega) only [vm0,vm1,vm2,vm3,vm4,vm5,vm6,vm7,vmF,vmT,evo,wr,wrC,frame,Nat.reduceAdd,Nat.reduceMul,Nat.reduceSub,beq_self_eq_true,List.cons_append,List.nil_append,beq_dec,vmI,vc47,g1,g2,e1,e2,su]
 generalize s.new (.cells [num k,num i,num nr,num of_,num fr,u,.bool fin,num se,num li] .own)=s1 at *
 refine call_ok rfl rfl hnum ?_
 rintro y s2 ⟨k1,k2⟩
 by_cases hl:t.sent≤65535
 ·obtain ⟨rfl,hS2⟩:=k1 hl
  have hS3:=back hS2
  have hS4:=Sep.setC (((hS3.re ((List.perm_middle (l₁:=[_])).trans (.cons _ (.refl _)))))) [num k,num i,num t.sent,num of_,num fr,u,.bool fin,num se,num li]
  have hu1:=hu _ (((hS4.re (.refl _)).drop.drop.drop.drop.drop.drop.drop.drop.drop.drop))
  have hS5:=hS4.rsv
  have hown:=ownP (bd:=bd) (h:=h) (fu:=fu) (n+2) _ ⟨k,i,t.sent,of_,fr,d,fin,se,li⟩ u (hu _ (((hS5.re (.refl _)).drop.drop.drop.drop.drop.drop.drop.drop.drop.drop.drop))) hpl
  obtain ⟨ms,m,hm1,hm2,hL⟩:=Sep.openLg (((hS5.re ((List.perm_middle (l₁:=[_,_,_,_,_,_,_,_,_,_])).trans (.cons _ (.refl _))))))
  have hml:m.length=log.length:=by rw[←hm1,List.length_map]
  have svs:=Sep.sameW hL
  have g3:=Sep.getC (((hS3.re ((List.perm_middle (l₁:=[_])).trans (.cons _ (.refl _))))))
  have g4:=Sep.getC (((hS3.re ((List.perm_middle (l₁:=[_,_])).trans (.cons _ (.refl _))))))
  have g5:=hS4.getC
  have g6:=Sep.getC (((hS4.re ((List.perm_middle (l₁:=[_,_])).trans (.cons _ (.refl _))))))
  dsimp only[PkV.cs,next_put] at *
  simp (disch:=omega) only [vm0,vm1,vm2,vm3,vm4,vm5,vm6,vm7,vmF,vmT,evo,wr,wrC,frame,Nat.reduceAdd,Nat.reduceMul,Nat.reduceSub,beq_self_eq_true,List.cons_append,List.nil_append,beq_dec,vmI,g1,g2,g3,g4,g5,g6,svs]
  generalize hs3:(⟨(s2.put s.next (some (.cells [num k,num i,num t.sent,num of_,num fr,u,.bool fin,num se,num li] .own))).heap,s2.next+1⟩ : St)=s3 at *
  have g7:=Sep.getC (((hL.re ((List.perm_middle (l₁:=[_,_,_,_,_])).trans (.cons _ (.refl _))))))
  have g8:=Sep.getC (((hL.re ((List.perm_middle (l₁:=[_,_,_,_,_,_,_])).trans (.cons _ (.refl _))))))
  refine call_ok rfl rfl hown ?_
  rintro y s4 ⟨u',rfl,hSq⟩
  have hS6:=hL.app hSq
  have hS7:=Sep.fillC (((hS6.re ((List.perm_middle (l₁:=[_,_,_,_,_])).trans (.cons _ (.refl _)))))) [num k,num i,num t.sent,num of_,num fr,u',.bool fin,num se,num li]
  have g9:=Sep.getC (((hS6.re ((List.perm_middle (l₁:=[_,_,_,_,_,_,_,_])).trans (.cons _ (.refl _))))))
  have g10:=hS7.getC
  obtain ⟨fo,ho,up⟩:=Sep.hd (((hS7.re ((List.perm_middle (l₁:=[_,_])).trans (.cons _ (.refl _))))))
  simp (disch:=omega) only [vm0,vm1,vm2,vm3,vm4,vm5,vm6,vm7,vmF,vmT,evo,wr,wrC,frame,Nat.reduceAdd,Nat.reduceMul,Nat.reduceSub,beq_self_eq_true,List.cons_append,List.nil_append,beq_dec,vmI,g7,g8,g9,g10,svs]
  refine op_app1 (show OwE _ vs 9 encK ms fo from ho) .refl (x:=(⟨k,i,t.sent,of_,fr,d,fin,se,li⟩,u')) rfl (by omega) ?_
  intro v3 s5 f4 r7 r8 r9
  have hS8:=up (oW v3 9 encK (ms++[((⟨k,i,t.sent,of_,fr,d,fin,se,li⟩,u'):PkV×AV)])) r7 r8 r9
  have g11:=Sep.getC (((hS8.re ((List.perm_middle (l₁:=[_,_,_,_,_,_,_,_])).trans (.cons _ (.refl _))))))
  have h3c:=cells1 (Sep.rdW hS8).rd.sl
  have hS9:=Sep.setC (((hS8.re ((List.perm_middle (l₁:=[_])).trans (.cons _ ((List.perm_middle (l₁:=[_])).trans (.cons _ ((List.perm_middle (l₁:=[_,_,_,_,_,_])).trans (.cons _ (.refl _)))))))).drop.drop)) [num pa,num bu,num wi,num ch,num mo,num fi,num sc,num side,num now,vp,vd,num limit,.ptr ob' 0,.ptr pb 0,.ptr ibb 0,.ptr sb 0,v3,vl,.ptr mb 0]
  have g12:=Sep.getC (((hS9.re ((List.perm_middle (l₁:=[_,_,_,_,_])).trans (.cons _ (.refl _))))))
  simp (disch:=omega) only [vm0,vm1,vm2,vm3,vm4,vm5,vm6,vm7,vmF,vmT,evo,wr,wrC,frame,Nat.reduceAdd,Nat.reduceMul,Nat.reduceSub,beq_self_eq_true,List.cons_append,List.nil_append,beq_dec,vmI,g7,g8,g9,g11,g12,h3c,svs]
  have hS10:=Sep.closeLg (j:=1) (log:=log) hm1 (by simp only[List.length_append,List.length_cons,List.length_nil]; omega) (((hS9.re ((List.perm_middle (l₁:=[_])).trans (.cons _ ((List.perm_middle (l₁:=[_])).trans (.cons _ ((List.perm_middle (l₁:=[_])).trans (.cons _ ((List.perm_middle (l₁:=[_])).trans (.cons _ (.refl _))))))))))))
  have hEJ:EndJ gv 1 s0 _ e ⟨⟨pa,bu,wi,ch,mo,fi,sc⟩,side,now,P.set i { up:=t.up,jn:=t.jn,bh:=t.bh,sent:=t.sent+1,G:=t.G,W:=t.W,F:=t.F },due,limit,o,pl,ps,ib,nx,log⟩ (oC s.next [num k,num i,num t.sent,num of_,num fr,u,.bool fin,num se,num li]::Ps):=⟨⟨vp,pps,vd,ob',pb,ibb,sb,v3,vl,mb⟩,by rw[hnp]; simp,((hS10.re ((List.perm_middle (l₁:=[_])).trans (.cons _ ((List.perm_middle (l₁:=[_,_])).trans (.cons _ ((List.perm_middle (l₁:=[_,_])).trans (.cons _ ((List.perm_middle (l₁:=[_,_])).trans (.cons _ ((List.perm_middle (l₁:=[_,_])).trans (.cons _ ((List.perm_middle (l₁:=[_,_])).trans (.cons _ ((List.perm_middle (l₁:=[_,_])).trans (.cons _ ((List.perm_middle (l₁:=[_,_])).trans (.cons _ (.refl _)))))))))))))))))))⟩
  clear hS10 hS9 hS8 hS7 hS6 hL hS5 hS4 hS3 hS2
  generalize s5.put e (some (.cells [num pa,num bu,num wi,num ch,num mo,num fi,num sc,num side,num now,vp,vd,num limit,.ptr ob' 0,.ptr pb 0,.ptr ibb 0,.ptr sb 0,v3,vl,.ptr mb 0] .own))=s6 at *
  refine call_ok rfl rfl (n_note n 1 s6 e _ (snt ⟨k,i,t.sent,of_,fr,d,fin,se,li⟩) .nils u _ hEJ (.nil encB_w (by omega)) (hu _ (EndJ.tail hEJ).drop) (by simp[snt]) hpl hlog) ?_
  rintro y s7 ⟨b,hnb,hT⟩
  have g13:=hT.getC
  have g14:=Sep.getC (((hT.re ((List.perm_middle (l₁:=[_,_,_,_,_,_,_,_,_])).trans (.cons _ (.refl _))))))
  obtain ⟨ms2,m2,hm3,hm4,hL2⟩:=(Sep.up8 hT).openLg
  have g15:=Sep.getC (((hL2.re ((List.perm_middle (l₁:=[_,_,_,_])).trans (.cons _ (.refl _))))))
  dsimp only[EN.cells,EN.note] at g13 g15
  simp (disch:=omega) only [vm0,vm1,vm2,vm3,vm4,vm5,vm6,vm7,vmF,vmT,evo,wr,wrC,frame,Nat.reduceAdd,Nat.reduceMul,Nat.reduceSub,beq_self_eq_true,List.cons_append,List.nil_append,beq_dec,vmI,g13]
  refine call_ok rfl rfl (mt_add (n+1) s7 b.mb 1 1 1 _ (((hL2.re ((List.perm_middle (l₁:=[_,_,_])).trans (.cons _ (.refl _)))))) rfl (by omega) (by omega)) ?_
  rintro y s8 hL3
  have g16:=Sep.getC (((hL3.re ((List.perm_middle (l₁:=[_,_,_,_])).trans (.cons _ (.refl _))))))
  have g17:=Sep.getC (((hL3.re ((List.perm_middle (l₁:=[_,_,_,_,_,_,_,_,_,_,_,_])).trans (.cons _ (.refl _))))))
  have hlu:=(hu _ (((hL3.re (.refl _)).drop.drop.drop.drop.drop.drop.drop.drop.drop.drop.drop.drop.drop))).lenV
  dsimp only[EN.cells,EN.note] at g16
  simp (disch:=omega) only [vm0,vm1,vm2,vm3,vm4,vm5,vm6,vm7,vmF,vmT,evo,wr,wrC,frame,Nat.reduceAdd,Nat.reduceMul,Nat.reduceSub,beq_self_eq_true,List.cons_append,List.nil_append,beq_dec,vmI,g16,g17,hlu]
  refine call_ok rfl rfl (mt_add (n+1) s8 b.mb 2 2 d.length _ hL3 rfl (by omega) (by omega)) ?_
  rintro y s9 hL4
  simp (disch:=omega) only [vm0,vm1,vm2,vm3,vm4,vm5,vm6,vm7,vmF,vmT,evo,wr,wrC,frame,Nat.reduceAdd,Nat.reduceMul,Nat.reduceSub,beq_self_eq_true,List.cons_append,List.nil_append,beq_dec,vmI]
  rw[if_pos hl,if_pos hl]
  refine ⟨rfl,b,hnb,?_⟩
  have hL5:=Sep.closeLg (j:=0) hm3 hm4 (((hL4.re ((List.perm_middle (l₁:=[_])).trans (.cons _ ((List.perm_middle (l₁:=[_])).trans (.cons _ ((List.perm_middle (l₁:=[_])).trans (.cons _ (.refl _))))))))))
  exact ((hL5.re ((List.perm_middle (l₁:=[_,_,_,_,_,_,_,_,_])).trans (.cons _ ((List.perm_middle (l₁:=[_])).trans (.cons _ ((List.perm_middle (l₁:=[_])).trans (.cons _ ((List.perm_middle (l₁:=[_])).trans (.cons _ ((List.perm_middle (l₁:=[_])).trans (.cons _ ((List.perm_middle (l₁:=[_])).trans (.cons _ ((List.perm_middle (l₁:=[_])).trans (.cons _ ((List.perm_middle (l₁:=[_])).trans (.cons _ ((List.perm_middle (l₁:=[_])).trans (.cons _ (.refl _)))))))))))))))))))).drop)
 ·obtain ⟨rfl,rfl⟩:=k2 hl
  have g18:=Sep.getC (((hS1.re ((List.perm_middle (l₁:=[_])).trans (.cons _ (.refl _))))))
  simp (disch:=omega) only [vm0,vm1,vm2,vm3,vm4,vm5,vm6,vm7,vmF,vmT,evo,wr,wrC,frame,Nat.reduceAdd,Nat.reduceMul,Nat.reduceSub,beq_self_eq_true,List.cons_append,List.nil_append,beq_dec,vmI,g18]
  rw[if_neg hl,if_neg hl]
  exact ⟨rfl,⟨vp,pps,vd,ob',pb,ibb,sb,vs,vl,mb⟩,hnp,hS1.drop⟩
end
def OB.pc (o:OB) (a b:Int):List Int×Bool:=if 0≤a∧a≤b∧b≤o.places then ((o.b.take (min b (o.b.length:Int)).toNat).drop (min a (o.b.length:Int)).toNat,decide (a≤(o.b.length:Int))&&decide ((o.b.length:Int)<b)) else ([],false)
def updP (l:List PT) (i:Nat) (f:PT→PT):List PT:=match l[i]? with
 | some t=>l.set i (f t)
 | none=>l
theorem updP_eq {l:List PT} {i:Nat} {t:PT} {f:PT→PT} (h:l[i]?=some t):updP l i f=l.set i (f t):=by unfold updP; rw[h]
def dtaP (o:OB) (i:Nat) (a b:Int):PkV:=⟨3,i,0,0,a,(o.pc a b).1,(o.pc a b).2,0,0⟩
def EN.data (X:EN) (i:Nat) (a b:Int):EN :=
 if X.ok i then { X.say (dtaP X.o i a b) with P:=updP (X.say (dtaP X.o i a b)).P i fun t=>{ t with F:=addF (X.nr i,a,b,X.now) t.F } } else X.say (dtaP X.o i a b)
section
variable {bd : Bd} {h : VF} {fu : Nat} {gv : AV × List Nat}
theorem d_piece2 (n:Nat) {s0:St} (s:St) (p:Nat) (o:OB) (Ps:List Obj) (a b:Int) (hS:Sep s0 s (oO p o::Ps)) (hl:o.b.length<100000) :
  OutOk (callF bd (tab h).get fu (n+2) 126 [.ptr p 0,num a,num b] s) (fun x s'=>∃ u,Is x (.tup [u,.bool (o.pc a b).2])∧Sep s0 s' (oW u 1 encB (o.pc a b).1::oO p o::Ps)):=by
 by_cases hok:0≤a∧a≤b∧b≤o.places
 ·rw[show o.pc a b=_ from if_pos hok]
  exact d_piece n s p o Ps a b hS hl hok.1 hok.2.1 hok.2.2
 rw[show o.pc a b=_ from if_neg hok]
 have hnil:=hS.push (P:=oW .nils 1 encB []) (f:=[]) (.nil encB_w (by omega)) .refl (by simp[Nw])
 refine call_code (t126 h) rfl ?_
 by_cases h0:0≤a
 ·by_cases h1:a≤b
  ·simp (disch:=omega) only [vm0,vm1,vm2,vm3,vm4,vm5,vm6,vm7,vmF,vmT,evo,wr,wrC,frame,Nat.reduceAdd,Nat.reduceMul,Nat.reduceSub,beq_self_eq_true,List.cons_append,List.nil_append,beq_dec,vmI,vc126,vmU]
   refine call_ok rfl rfl (d_places n s p o Ps hS (by omega)) ?_
   rintro x s ⟨rfl,rfl⟩
   simp (disch:=omega) only [vm0,vm1,vm2,vm3,vm4,vm5,vm6,vm7,vmF,vmT,evo,wr,wrC,frame,Nat.reduceAdd,Nat.reduceMul,Nat.reduceSub,beq_self_eq_true,List.cons_append,List.nil_append,beq_dec,vmI,vmU]
   exact ⟨.nils,rfl,hnil⟩
  ·simp (disch:=omega) only [vm0,vm1,vm2,vm3,vm4,vm5,vm6,vm7,vmF,vmT,evo,wr,wrC,frame,Nat.reduceAdd,Nat.reduceMul,Nat.reduceSub,beq_self_eq_true,List.cons_append,List.nil_append,beq_dec,vmI,vc126,vmU]
   exact ⟨.nils,rfl,hnil⟩
 ·simp (disch:=omega) only [vm0,vm1,vm2,vm3,vm4,vm5,vm6,vm7,vmF,vmT,evo,wr,wrC,frame,Nat.reduceAdd,Nat.reduceMul,Nat.reduceSub,beq_self_eq_true,List.cons_append,List.nil_append,beq_dec,vmI,vc126,vmU]
  exact ⟨.nils,rfl,hnil⟩
set_option maxHeartbeats 1000000 in
theorem n_data (n:Nat) {s0:St} (s:St) (e:Nat) (X:EN) (i:Nat) (t:PT) (a b:Int) (Ps:List Obj) (hE:EndS gv s0 s e X Ps) (ht:X.P[i]?=some t) (hs:0≤t.sent∧t.sent≤65536) (hF:t.F.length<fu) (hF2:t.F.length<100000) (hlog:X.log.length<1000000) (hb:X.o.b.length<100000) :
  OutOk (callF bd (tab h).get fu (n+6) 82 [.ptr e 0,num (i:Int),num a,num b] s) (fun y s'=>EndS gv s0 s' e (X.data i a b) Ps):=by
 obtain ⟨H,hnp,hS⟩:=hE
 refine call_code (t82 h) rfl ?_
 have g1:=hS.getC
 dsimp only[EN.cells] at g1
 simp (disch:=omega) only [vm0,vm1,vm2,vm3,vm4,vm5,vm6,vm7,vmF,vmT,evo,wr,wrC,frame,Nat.reduceAdd,Nat.reduceMul,Nat.reduceSub,beq_self_eq_true,List.cons_append,List.nil_append,beq_dec,vmI,vc82,g1]
 refine call_ok rfl rfl (d_piece2 (n+3) s H.ob X.o _ a b (Sep.up4 hS) hb) ?_
 rintro y s1 ⟨u,rfl,hS1⟩
 have huc:=cells1 hS1.rdW.rd.sl
 have hE1:EndS gv s0 s1 e X (oW u 1 encB (X.o.pc a b).1::Ps):=⟨H,hnp,((hS1.re ((List.perm_middle (l₁:=[_,_])).trans (.cons _ ((List.perm_middle (l₁:=[_,_])).trans (.cons _ ((List.perm_middle (l₁:=[_,_])).trans (.cons _ ((List.perm_middle (l₁:=[_,_])).trans (.cons _ ((List.perm_middle (l₁:=[_])).trans (.cons _ ((List.perm_middle (l₁:=[_])).trans (.cons _ ((List.perm_middle (l₁:=[_])).trans (.cons _ ((List.perm_middle (l₁:=[_])).trans (.cons _ ((List.perm_middle (l₁:=[_])).trans (.cons _ (.refl _)))))))))))))))))))))⟩
 have hpl:(X.o.pc a b).1.length≤1000000:=by
  unfold OB.pc
  split
  ·simp; omega
  ·simp
 simp (disch:=omega) only [vm0,vm1,vm2,vm3,vm4,vm5,vm6,vm7,vmF,vmT,evo,wr,wrC,frame,Nat.reduceAdd,Nat.reduceMul,Nat.reduceSub,beq_self_eq_true,List.cons_append,List.nil_append,beq_dec,vmI,huc]
 refine call_ok rfl rfl (n_say n s1 e X (dtaP X.o i a b) t u _ hE1 (by simp[dtaP]) (by simpa [dtaP] using ht) hs (fun s' hS=>hS.rdW) hpl hlog) ?_
 rintro y s2 ⟨rfl,hE2⟩
 have hnr:X.nr (dtaP X.o i a b).pt=if t.sent≤65535 then t.sent else 0:=by unfold EN.nr; rw[show (dtaP X.o i a b).pt.toNat=i by simp[dtaP],ht]
 have hok:X.ok (dtaP X.o i a b).pt=decide (t.sent≤65535):=by unfold EN.ok; rw[show (dtaP X.o i a b).pt.toNat=i by simp[dtaP],ht]
 have hX:X.say (dtaP X.o i a b)=if t.sent≤65535 then EN.note { X with P:=X.P.set i { t with sent:=t.sent+1 } } (snt { dtaP X.o i a b with nr:=t.sent }) else X:=by unfold EN.say; rw[show (dtaP X.o i a b).pt.toNat=i by simp[dtaP],ht]
 rw[hnr,hok]
 rw[hX] at hE2
 have hD:X.data i a b=if t.sent≤65535 then { X.say (dtaP X.o i a b) with P:=updP (X.say (dtaP X.o i a b)).P i fun t=>{ t with F:=addF (X.nr i,a,b,X.now) t.F } } else X:=by
  unfold EN.data
  rw[show X.ok i=decide (t.sent≤65535) from hok,hX]
  by_cases hl:t.sent≤65535
  ·rw[if_pos hl,if_pos (by simpa using hl),if_pos hl]
  ·rw[if_neg hl,if_neg (by simpa using hl),if_neg hl]
 have hnr':X.nr i=if t.sent≤65535 then t.sent else 0:=hnr
 by_cases hl:t.sent≤65535
 ·rw[hD,if_pos hl,hX,if_pos hl,hnr',if_pos hl]
  rw[if_pos hl] at hE2
  obtain ⟨H2,hnp2,hT⟩:=hE2
  have hil:i<X.P.length:=(List.getElem?_eq_some_iff.1 ht).1
  have ht2:(X.P.set i { t with sent:=t.sent+1 })[i]?=some { t with sent:=t.sent+1 }:=by simp[hil]
  obtain ⟨q,hq⟩ : ∃ q,H2.ps[i]?=some q:=⟨_,List.getElem?_eq_getElem (by rw[hnp2]; simpa [EN.note] using hil)⟩
  have g2:=hT.getC
  have hvp:=Sep.rdV (((hT.re ((List.perm_middle (l₁:=[_,_])).trans (.cons _ (.refl _))))))
  have e1:=hvp.ia hq
  have e2:=hvp.at1 (f:=fun p => .ptr p 0) hq
  obtain ⟨Rr,hFo,back⟩:=Sep.focus (((hT.re ((List.perm_middle (l₁:=[_])).trans (.cons _ (.refl _)))))) hq ht2
  have svp:=Sep.sameV (((hT.re ((List.perm_middle (l₁:=[_,_])).trans (.cons _ (.refl _))))))
  dsimp only[EN.cells,EN.note] at g2
  simp (disch:=omega) only [vm0,vm1,vm2,vm3,vm4,vm5,vm6,vm7,vmF,vmT,evo,wr,wrC,frame,Nat.reduceAdd,Nat.reduceMul,Nat.reduceSub,beq_self_eq_true,List.cons_append,List.nil_append,beq_dec,vmI,g2,e1,e2,svp]
  refine call_ok rfl rfl (m_out n s2 q _ (t.sent,a,b,X.now) _ hFo hF hF2) ?_
  rintro y s3 hS3
  have hS4:=back hS3
  have g3:=Sep.getC (((hS4.re ((List.perm_middle (l₁:=[_])).trans (.cons _ (.refl _))))))
  have g4:=Sep.rdV (((hS4.re ((List.perm_middle (l₁:=[_,_])).trans (.cons _ (.refl _))))))
  have e3:=g4.at1 (f:=fun p => .ptr p 0) hq
  dsimp only[EN.cells,EN.note] at g3
  simp (disch:=omega) only [vm0,vm1,vm2,vm3,vm4,vm5,vm6,vm7,vmF,vmT,evo,wr,wrC,frame,Nat.reduceAdd,Nat.reduceMul,Nat.reduceSub,beq_self_eq_true,List.cons_append,List.nil_append,beq_dec,vmI,g2,g3,e1,e2,e3,svp]
  dsimp only[EN.note]
  rw[updP_eq ht2]
  exact ⟨H2,by rw[hnp2]; simp[EN.note],((hS4.re ((List.perm_middle (l₁:=[_,_,_,_,_,_,_,_,_])).trans (.cons _ ((List.perm_middle (l₁:=[_])).trans (.cons _ (.refl _)))))).drop)⟩
 ·rw[hD,if_neg hl]
  rw[if_neg hl] at hE2
  obtain ⟨H2,hnp2,hT⟩:=hE2
  simp (disch:=omega) only [vm0,vm1,vm2,vm3,vm4,vm5,vm6,vm7,vmF,vmT,evo,wr,wrC,frame,Nat.reduceAdd,Nat.reduceMul,Nat.reduceSub,beq_self_eq_true,List.cons_append,List.nil_append,beq_dec,vmI]
  exact ⟨H2,hnp2,((hT.re ((List.perm_middle (l₁:=[_,_,_,_,_,_,_,_,_])).trans (.cons _ (.refl _)))).drop)⟩
end
def usx (l:List Int) (k:Nat):List Int:=((List.range k).filter fun i=>decide (0≤l.getD i (-1))).map fun i:Nat=>(i:Int)
theorem usx_s {l:List Int} {k:Nat} {x:Int} (hx:l[k]?=some x):usx l (k+1)=usx l k++(if 0≤x then [(k:Int)] else []):=by
 unfold usx
 rw[List.range_succ,List.filter_append,List.map_append]
 have e:l.getD k (-1)=x:=by rw[List.getD_eq_getElem?_getD,hx]; rfl
 simp only[List.filter_cons,List.filter_nil,e]
 by_cases h:0≤x <;> simp[h]
theorem usx_len (l:List Int) (k:Nat):(usx l k).length≤k:=by
 unfold usx
 rw[List.length_map]
 exact Nat.le_trans (List.length_filter_le ..) (by simp)
theorem usx_in {l:List Int} {k:Nat} {x:Int} (h:x∈usx l k):∃ i:Nat,x=(i:Int)∧i<k∧0≤l.getD i (-1):=by
 unfold usx at h
 simp only[List.mem_map,List.mem_filter,List.mem_range,decide_eq_true_eq] at h
 obtain ⟨i,⟨h1,h2⟩,h3⟩:=h
 exact ⟨i,h3.symm,h1,h2⟩
def frs (k:Int):List Int→Int→Int
 | [],_ => -1
 | x::l,i=>if k≤x then i else frs k l (i+1)
theorem frs_bd (k:Int):∀ (l:List Int) (i:Int),0≤i→frs k l i = -1∨(i≤frs k l i∧frs k l i<i+l.length)
 | [],_,_ => .inl rfl
 | x::l,i,h=>by
  unfold frs
  split
  ·right; simp only[List.length_cons]; omega
  ·rcases frs_bd k l (i+1) (by omega) with h | h
   ·exact .inl h
   ·right; simp only[List.length_cons]; omega
theorem Sep.bsl1 {s0 s:St} {Ps:List Obj} (h:Sep s0 s Ps) (x:Int):Sep s0 (s.new (.cells [num x] .own)) (oW (.sl s.next 0 1 1 true 1) 1 encI [x]::Ps) :=
 h.push (P:=oW (.sl s.next 0 1 1 true 1) 1 encI [x]) (f:=[s.next]) (bsl_ow rfl (get_new_eq rfl) (by rw[next_new]; omega)) .new (by intro z hz; simp at hz; right; omega)
def bst (ms:List Int) (b p:Int):Int:=if ms.getD p.toNat 0<ms.getD b.toNat 0 then p else b
def pickS (k nx:Int) (ms:List Int):List Int×Int :=
 if usx ms ms.length=[]∨k=3 then (usx ms ms.length,nx)
 else if k=2 then ([(usx ms ms.length).getD (max 0 (frs nx (usx ms ms.length) 0)).toNat 0],(usx ms ms.length).getD (max 0 (frs nx (usx ms ms.length) 0)).toNat 0+1)
 else ([(usx ms ms.length).foldl (bst ms) ((usx ms ms.length).headD 0)],nx)
section
variable {bd : Bd} {h : VF} {fu : Nat} {gv : AV × List Nat}
theorem s_usable (n:Nat) (s:St) (v:AV) (l:List Int) (hv:RdE s v 1 encI l) (hlen:l.length<fu) (hf:l.length<100000) :
  OutOk (callF bd (tab h).get fu (n+1) 146 [v] s) (fun x s'=>∃ fp,OwE s' x 1 encI (usx l l.length) fp∧Fr s s' []∧Nw s [] fp):=by
 refine call_code (t146 h) rfl ?_
 have hvl:=hv.lenV
 simp (disch:=omega) only [vm0,vm1,vm2,vm3,vm4,vm5,vm6,vm7,vmF,vmT,evo,wr,wrC,frame,Nat.reduceAdd,Nat.reduceMul,Nat.reduceSub,beq_self_eq_true,List.cons_append,List.nil_append,beq_dec,vmI,vc146,hvl]
 refine x_loop (fun m F s'=>∃ i:Nat,∃ z x4 x6 x7 x8 vo fo,m=l.length-i∧i≤l.length∧z=(i:Int)∧F=[some v,some (num z),some vo,some (num (l.length:Int)),x4,some v,x6,x7,x8,some .nils]∧Fr s s' []∧OwE s' vo 1 encI (usx l i) fo∧Nw s [] fo) l.length (by omega) ?_ ?_
 ·exact ⟨0,_,_,_,_,_,_,[],by omega,by omega,rfl,rfl,.refl,.nil (fun _=>rfl) (by omega),by simp[Nw]⟩
 ·rintro m F s1 ⟨i,_,x4,x6,x7,x8,vo,fo,rfl,hi,rfl,rfl,hfr,ho,hn⟩ hm
  by_cases hlt:i<l.length
  ·obtain ⟨x,hx⟩ : ∃ x,l[i]?=some x:=⟨_,List.getElem?_eq_getElem hlt⟩
   have hv1:=hv.fr0 hfr
   have e1:=hv1.ia hx
   have e2:=hv1.at1 (f:=num) hx
   have hu:=usx_s hx
   have hul:=usx_len l i
   by_cases h0:0≤x
   ·rw[if_pos h0] at hu
    simp (disch:=omega) only [vm0,vm1,vm2,vm3,vm4,vm5,vm6,vm7,vmF,vmT,evo,wr,wrC,frame,Nat.reduceAdd,Nat.reduceMul,Nat.reduceSub,beq_self_eq_true,List.cons_append,List.nil_append,beq_dec,vmI,e1,e2]
    refine op_app1 ho (by (repeat' (first | exact Fr.refl | assumption | apply Fr.new' | apply Fr.mk' | apply Fr.put')) <;> (first | omega | (left; simp; done) | (right; simp only[next_put,next_new,next_mk]; omega) | (simp only[next_put,next_new,next_mk]; omega))) (x:=(i:Int)) rfl (by omega) ?_
    intro v' s2 fo' p1 p2 p3
    simp (disch:=omega) only [vm0,vm1,vm2,vm3,vm4,vm5,vm6,vm7,vmF,vmT,evo,wr,wrC,frame,Nat.reduceAdd,Nat.reduceMul,Nat.reduceSub,beq_self_eq_true,List.cons_append,List.nil_append,beq_dec,vmI]
    exact ⟨l.length-(i+1),by omega,i+1,_,_,_,_,_,_,fo',rfl,by omega,by omega,rfl,hfr.nn p2 hn,by rw[hu]; exact p1,hn.nn p3 hfr.1⟩
   ·rw[if_neg h0,List.append_nil] at hu
    simp (disch:=omega) only [vm0,vm1,vm2,vm3,vm4,vm5,vm6,vm7,vmF,vmT,evo,wr,wrC,frame,Nat.reduceAdd,Nat.reduceMul,Nat.reduceSub,beq_self_eq_true,List.cons_append,List.nil_append,beq_dec,vmI,e1,e2]
    exact ⟨l.length-(i+1),by omega,i+1,_,_,_,_,_,_,fo,rfl,by omega,by omega,rfl,hfr,by rw[hu]; exact ho,hn⟩
  ·obtain rfl:i=l.length:=by omega
   simp (disch:=omega) only [vm0,vm1,vm2,vm3,vm4,vm5,vm6,vm7,vmF,vmT,evo,wr,wrC,frame,Nat.reduceAdd,Nat.reduceMul,Nat.reduceSub,beq_self_eq_true,List.cons_append,List.nil_append,beq_dec,vmI]
   exact ⟨fo,ho,hfr,hn⟩
theorem idxS (n:Nat) (s:St) (v:AV) (l:List Int) (q p:Nat) (kd nx:Int) (hq:s.heap.get q=some (.cells [.ptr p 0] .own)) (hp:s.heap.get p=some (.cells [num kd,num nx] .own)) (hv:RdE s v 1 encI l) (hlen:l.length<fu) (hf:l.length<1000000) :
  OutOk (callF bd (tab h).get fu (n+2) 156 [v,.fn 157 [] [.ptr q 0]] s) (fun x s'=>Is x (num (frs nx l 0))∧Is s' s):=by
 refine call_code (t156 h) rfl ?_
 simp (disch:=omega) only [vm0,vm1,vm2,vm3,vm4,vm5,vm6,vm7,vmF,vmT,evo,wr,wrC,frame,Nat.reduceAdd,Nat.reduceMul,Nat.reduceSub,beq_self_eq_true,List.cons_append,List.nil_append,beq_dec,vmI,vc156,hv.lenV]
 refine x_loop (fun m F s'=>∃ i:Nat,∃ z x3 x5 x6,m=l.length-i∧i≤l.length∧z=(i:Int)∧F=[some v,some (.fn 157 [] [.ptr q 0]),some (num z),x3,some (num (l.length:Int)),x5,x6,some (num 0)]∧s'=s∧frs nx l 0=frs nx (l.drop i) i) l.length (by omega) ?_ ?_
 ·exact ⟨0,_,_,_,_,by omega,by omega,rfl,rfl,rfl,rfl⟩
 ·rintro m F s1 ⟨i,_,x3,x5,x6,rfl,hi,rfl,rfl,rfl,hfst⟩ hm
  by_cases hlt:i<l.length
  ·obtain ⟨a,hx⟩ : ∃ x,l[i]?=some x:=⟨_,List.getElem?_eq_getElem hlt⟩
   have e1:=hv.ia hx
   have e2:=hv.at1 (f:=num) hx
   simp (disch:=omega) only [vm0,vm1,vm2,vm3,vm4,vm5,vm6,vm7,vmF,vmT,evo,wr,wrC,frame,Nat.reduceAdd,Nat.reduceMul,Nat.reduceSub,beq_self_eq_true,List.cons_append,List.nil_append,beq_dec,vmI,e1,e2]
   rw[List.drop_eq_getElem_cons hlt,(List.getElem?_eq_some_iff.1 hx).2] at hfst
   refine call_ok (R:=fun x s'=>Is x (.bool (decide (nx≤a)))∧Is s' s1) rfl rfl ?_ ?_
   ·refine call_code (t157 h) rfl ?_
    by_cases hk:nx≤a
    ·simp (disch:=omega) only [vm0,vm1,vm2,vm3,vm4,vm5,vm6,vm7,vmF,vmT,evo,wr,wrC,frame,Nat.reduceAdd,Nat.reduceMul,Nat.reduceSub,beq_self_eq_true,List.cons_append,List.nil_append,beq_dec,vmI,vc157,hq,hp]
     exact ⟨rfl,rfl⟩
    ·simp (disch:=omega) only [vm0,vm1,vm2,vm3,vm4,vm5,vm6,vm7,vmF,vmT,evo,wr,wrC,frame,Nat.reduceAdd,Nat.reduceMul,Nat.reduceSub,beq_self_eq_true,List.cons_append,List.nil_append,beq_dec,vmI,vc157,hq,hp]
     exact ⟨rfl,rfl⟩
   ·rintro x s2 ⟨rfl,rfl⟩
    by_cases hk:nx≤a
    ·simp (disch:=omega) only [vm0,vm1,vm2,vm3,vm4,vm5,vm6,vm7,vmF,vmT,evo,wr,wrC,frame,Nat.reduceAdd,Nat.reduceMul,Nat.reduceSub,beq_self_eq_true,List.cons_append,List.nil_append,beq_dec,vmI]
     exact ⟨by show num _=num _; rw[hfst]; simp[frs,hk],rfl⟩
    ·simp (disch:=omega) only [vm0,vm1,vm2,vm3,vm4,vm5,vm6,vm7,vmF,vmT,evo,wr,wrC,frame,Nat.reduceAdd,Nat.reduceMul,Nat.reduceSub,beq_self_eq_true,List.cons_append,List.nil_append,beq_dec,vmI]
     refine ⟨l.length-(i+1),by omega,i+1,_,_,_,_,rfl,by omega,by omega,rfl,rfl,?_⟩
     rw[hfst]; simp[frs,hk]
  ·simp (disch:=omega) only [vm0,vm1,vm2,vm3,vm4,vm5,vm6,vm7,vmF,vmT,evo,wr,wrC,frame,Nat.reduceAdd,Nat.reduceMul,Nat.reduceSub,beq_self_eq_true,List.cons_append,List.nil_append,beq_dec,vmI]
   refine ⟨?_,rfl⟩
   rw[hfst,List.drop_eq_nil_of_le (by omega)]; rfl
theorem s_round (n:Nat) {s0:St} (s:St) (v:AV) (l:List Int) (p:Nat) (kd nx:Int) (Ps:List Obj) (hS:Sep s0 s (oC p [num kd,num nx]::oW v 1 encI l::Ps)) (hlen:l.length<fu) (hf:l.length<1000000) (hne:l≠[]) (hin:∀ x∈l,0≤x∧x<1000000) :
  OutOk (callF bd (tab h).get fu (n+3) 147 [.ptr p 0,v] s) (fun x s'=>Is x (num (l.getD (max 0 (frs nx l 0)).toNat 0))∧Sep s0 s' (oC p [num kd,num (l.getD (max 0 (frs nx l 0)).toNat 0+1)]::Ps)):=by
 refine call_code (t147 h) rfl ?_
 have hS1:=hS.newC [.ptr p 0]
 have g1:=hS1.getC
 have g2:=hS1.swap.getC
 have hv:=Sep.rdW (((hS1.re ((List.perm_middle (l₁:=[_,_])).trans (.cons _ (.refl _))))))
 have sv:=Sep.sameW (((hS1.re ((List.perm_middle (l₁:=[_,_])).trans (.cons _ (.refl _))))))
 obtain ⟨k,hk⟩ : ∃ k:Nat,max 0 (frs nx l 0)=(k:Int):=⟨(max 0 (frs nx l 0)).toNat,by omega⟩
 have hkl:k<l.length:=by
  have:=frs_bd nx l 0 (by omega)
  have:0<l.length:=List.length_pos_iff.2 hne
  omega
 obtain ⟨x,hx⟩ : ∃ x,l[k]?=some x:=⟨_,List.getElem?_eq_getElem hkl⟩
 have hxb:=hin x (List.mem_of_getElem? hx)
 have hD:l.getD (max 0 (frs nx l 0)).toNat 0=x:=by rw[hk,Int.toNat_natCast,List.getD_eq_getElem?_getD,hx]; rfl
 rw[hD]
 have e1:=hv.ia hx
 have e2:=hv.at1 (f:=num) hx
 simp (disch:=omega) only [vm0,vm1,vm2,vm3,vm4,vm5,vm6,vm7,vmF,vmT,evo,wr,wrC,frame,Nat.reduceAdd,Nat.reduceMul,Nat.reduceSub,beq_self_eq_true,List.cons_append,List.nil_append,beq_dec,vmI,vc147,g1]
 refine call_ok rfl rfl (idxS n _ v l s.next p kd nx g1 g2 hv hlen hf) ?_
 rintro y s1 ⟨rfl,rfl⟩
 have hS2:=Sep.setC hS1.swap [num kd,num (x+1)]
 have g3:=hS2.swap.getC
 have hv3:=Sep.rdW (((hS2.re ((List.perm_middle (l₁:=[_,_])).trans (.cons _ (.refl _))))))
 have e3:=hv3.ia hx
 have e4:=hv3.at1 (f:=num) hx
 simp (disch:=omega) only [vm0,vm1,vm2,vm3,vm4,vm5,vm6,vm7,vmF,vmT,evo,wr,wrC,frame,Nat.reduceAdd,Nat.reduceMul,Nat.reduceSub,beq_self_eq_true,List.cons_append,List.nil_append,beq_dec,vmI,g1,g2,g3,hk,e1,e2,e3,e4,sv]
 exact ⟨rfl,((hS2.re ((List.perm_middle (l₁:=[_])).trans (.cons _ ((List.perm_middle (l₁:=[_])).trans (.cons _ (.refl _)))))).drop.drop)⟩
theorem s_pick (n:Nat) {s0:St} (s:St) (v:AV) (ms:List Int) (p:Nat) (kd nx:Int) (Ps:List Obj) (hS:Sep s0 s (oC p [num kd,num nx]::Ps)) (hv:RdE s v 1 encI ms) (hlen:ms.length<fu) (hf:ms.length<100000) :
  OutOk (callF bd (tab h).get fu (n+4) 125 [.ptr p 0,v] s) (fun x s'=>Sep s0 s' (oW x 1 encI (pickS kd nx ms).1::oC p [num kd,num (pickS kd nx ms).2]::Ps)):=by
 refine call_code (t125 h) rfl ?_
 simp (disch:=omega) only [vm0,vm1,vm2,vm3,vm4,vm5,vm6,vm7,vmF,vmT,evo,wr,wrC,frame,Nat.reduceAdd,Nat.reduceMul,Nat.reduceSub,beq_self_eq_true,List.cons_append,List.nil_append,beq_dec,vmI,vc125]
 refine call_ok rfl rfl (s_usable (n+2) s v ms hv hlen hf) ?_
 rintro y s1 ⟨f,a1,a2,a3⟩
 have hS1:=hS.push (P:=oW y 1 encI (usx ms ms.length)) a1 a2 a3
 have hv1:=hv.fr0 a2
 have hul:=usx_len ms ms.length
 have hin:∀ x∈usx ms ms.length,0≤x∧x<1000000:=fun x hx=>by obtain ⟨i,rfl,h2,_⟩:=usx_in hx; omega
 have hmem:∀ x∈usx ms ms.length,∃ (i:Nat) (y:Int),x=(i:Int)∧ms[i]?=some y:=fun x hx=>by
  obtain ⟨i,rfl,h2,_⟩:=usx_in hx
  exact ⟨i,_,rfl,List.getElem?_eq_getElem h2⟩
 have g1:=hS1.swap.getC
 have hyl:=hS1.rdW.lenV
 have hpk:pickS kd nx ms=if usx ms ms.length=[]∨kd=3 then (usx ms ms.length,nx)
   else if kd=2 then ([(usx ms ms.length).getD (max 0 (frs nx (usx ms ms.length) 0)).toNat 0],(usx ms ms.length).getD (max 0 (frs nx (usx ms ms.length) 0)).toNat 0+1)
   else ([(usx ms ms.length).foldl (bst ms) ((usx ms ms.length).headD 0)],nx):=rfl
 rw[hpk]
 generalize usx ms ms.length=l at *
 by_cases hne:l=[]
 ·subst hne
  rw[if_pos (.inl rfl)]
  simp (disch:=omega) only [vm0,vm1,vm2,vm3,vm4,vm5,vm6,vm7,vmF,vmT,evo,wr,wrC,frame,Nat.reduceAdd,Nat.reduceMul,Nat.reduceSub,beq_self_eq_true,List.cons_append,List.nil_append,beq_dec,vmI,hyl,vmU,List.length_nil,Int.natCast_zero]
  exact hS1
 have hl0:0<l.length:=List.length_pos_iff.2 hne
 by_cases h3:kd=3
 ·rw[if_pos (.inr h3)]
  simp (disch:=omega) only [vm0,vm1,vm2,vm3,vm4,vm5,vm6,vm7,vmF,vmT,evo,wr,wrC,frame,Nat.reduceAdd,Nat.reduceMul,Nat.reduceSub,beq_self_eq_true,List.cons_append,List.nil_append,beq_dec,vmI,hyl,vmU,g1]
  exact hS1
 rw[if_neg (by rintro (h | h); exact hne h; exact h3 h)]
 by_cases h2:kd=2
 ·rw[if_pos h2]
  simp (disch:=omega) only [vm0,vm1,vm2,vm3,vm4,vm5,vm6,vm7,vmF,vmT,evo,wr,wrC,frame,Nat.reduceAdd,Nat.reduceMul,Nat.reduceSub,beq_self_eq_true,List.cons_append,List.nil_append,beq_dec,vmI,hyl,vmU,g1]
  refine call_ok rfl rfl (s_round n s1 y l p kd nx _ hS1.swap (by omega) (by omega) hne hin) ?_
  rintro z s2 ⟨rfl,hS2⟩
  simp (disch:=omega) only [vm0,vm1,vm2,vm3,vm4,vm5,vm6,vm7,vmF,vmT,evo,wr,wrC,frame,Nat.reduceAdd,Nat.reduceMul,Nat.reduceSub,beq_self_eq_true,List.cons_append,List.nil_append,beq_dec,vmI]
  exact hS2.bsl1 _
 ·rw[if_neg h2]
  obtain ⟨x0,hx0⟩ : ∃ x,l[0]?=some x:=⟨_,List.getElem?_eq_getElem hl0⟩
  have hhd:l.headD 0=x0:=by cases l with
   | nil=>exact absurd rfl hne
   | cons a l=>simpa using hx0
  have hvy:=hS1.rdW
  have e1:iaV 1 y (some (num 0))=some (.ptr (sblk y) (soff y+0*1)):=hvy.ia hx0
  have e2:ob (s1.heap.get (sblk y)) (rd1C (soff y))=some (num x0):=by have:=hvy.at1 (f:=num) hx0; rwa [Nat.zero_mul,Nat.add_zero] at this
  have svm:=sv_sl hv1.rd.sl
  rw[hhd]
  simp (disch:=omega) only [vm0,vm1,vm2,vm3,vm4,vm5,vm6,vm7,vmF,vmT,evo,wr,wrC,frame,Nat.reduceAdd,Nat.reduceMul,Nat.reduceSub,beq_self_eq_true,List.cons_append,List.nil_append,beq_dec,vmI,hyl,vmU,g1,e1,e2]
  refine x_loop (fun m F s'=>∃ i:Nat,∃ z x4 x9 x11 bb,m=l.length-i∧i≤l.length∧z=(i:Int)∧F=[some (.ptr p 0),some v,some y,some (num z),x4,some (num bb),some (.bool false),some (.bool false),some (num (l.length:Int)),x9,some y,x11,some .nils]∧s'=s1∧bb∈l∧bb=(l.take i).foldl (bst ms) x0) l.length (by omega) ?_ ?_
  ·exact ⟨0,_,_,_,_,_,by omega,by omega,rfl,rfl,rfl,List.mem_of_getElem? hx0,rfl⟩
  ·rintro m F s2 ⟨i,_,x4,x9,x11,bb,rfl,hi,rfl,rfl,rfl,hbm,hbb⟩ hm
   by_cases hlt:i<l.length
   ·obtain ⟨x,hx⟩ : ∃ x,l[i]?=some x:=⟨_,List.getElem?_eq_getElem hlt⟩
    have e3:=hvy.ia hx
    have e4:=hvy.at1 (f:=num) hx
    have hfo:(l.take (i+1)).foldl (bst ms) x0=bst ms bb x:=by rw[List.take_add_one,hx,hbb]; simp
    have hxm:=List.mem_of_getElem? hx
    obtain ⟨a,ya,hxa,hya⟩:=hmem x hxm
    obtain ⟨b,yb,hbe,hyb⟩:=hmem bb hbm
    have e5:=hv1.ia hya
    have e6:=hv1.at1 (f:=num) hya
    have e7:=hv1.ia hyb
    have e8:=hv1.at1 (f:=num) hyb
    have hbst:bst ms bb x=if ya<yb then x else bb:=by
     unfold bst
     rw[hxa,hbe,Int.toNat_natCast,Int.toNat_natCast,List.getD_eq_getElem?_getD,List.getD_eq_getElem?_getD,hya,hyb]; rfl
    rw[hbst] at hfo
    clear hbb
    subst hxa hbe
    by_cases hc:ya<yb
    ·rw[if_pos hc] at hfo
     simp (disch:=omega) only [vm0,vm1,vm2,vm3,vm4,vm5,vm6,vm7,vmF,vmT,evo,wr,wrC,frame,Nat.reduceAdd,Nat.reduceMul,Nat.reduceSub,beq_self_eq_true,List.cons_append,List.nil_append,beq_dec,vmI,e3,e4,e5,e6,e7,e8,svm]
     exact ⟨l.length-(i+1),by omega,i+1,_,_,_,_,_,rfl,by omega,by omega,rfl,rfl,hxm,hfo.symm⟩
    ·rw[if_neg hc] at hfo
     simp (disch:=omega) only [vm0,vm1,vm2,vm3,vm4,vm5,vm6,vm7,vmF,vmT,evo,wr,wrC,frame,Nat.reduceAdd,Nat.reduceMul,Nat.reduceSub,beq_self_eq_true,List.cons_append,List.nil_append,beq_dec,vmI,e3,e4,e5,e6,e7,e8,svm]
     exact ⟨l.length-(i+1),by omega,i+1,_,_,_,_,_,rfl,by omega,by omega,rfl,rfl,hbm,hfo.symm⟩
   ·rw[List.take_of_length_le (by omega)] at hbb
    simp (disch:=omega) only [vm0,vm1,vm2,vm3,vm4,vm5,vm6,vm7,vmF,vmT,evo,wr,wrC,frame,Nat.reduceAdd,Nat.reduceMul,Nat.reduceSub,beq_self_eq_true,List.cons_append,List.nil_append,beq_dec,vmI]
    rw[←hbb]
    exact hS1.drop.bsl1 _
end
def fsh (t:PT):Bool:=t.free&&!t.bh
def mn1 (bh:Bool) (t:PT):Int:=if t.free&&(bh||!t.bh) then t.G.me else -1
def EN.beh (X:EN):Bool:=!X.P.any fsh
def EN.mns (X:EN):List Int:=X.P.map (mn1 X.beh)
def EN.pick (X:EN):List Int×EN:=if X.beh then (usx X.mns X.mns.length,X) else ((pickS X.c.sc X.nx X.mns).1,{ X with nx:=(pickS X.c.sc X.nx X.mns).2 })
theorem EndS.at {gv:AV×List Nat} {s0 s:St} {e:Nat} {X:EN} {H:EH} {Ps:List Obj} (hnp:H.ps.length=X.P.length) (hS:Sep s0 s (oC e (X.cells H)::oPS H.ps X.P::oV gv H.vp H.ps::Ps)) {i:Nat} (hi:i<X.P.length) :
  ∃ (p:Nat) (t:PT) (R:Obj),X.P[i]?=some t∧H.ps[i]?=some p∧Sep s0 s (oT1 p t::R::oC e (X.cells H)::oV gv H.vp H.ps::Ps) ∧
   iaV 1 H.vp (some (num (i:Int)))=some (.ptr (sblk H.vp) (soff H.vp+i*1))∧ob (s.heap.get (sblk H.vp)) (rd1C (soff H.vp+i*1))=some (.ptr p 0):=by
 obtain ⟨t,ht⟩ : ∃ t,X.P[i]?=some t:=⟨_,List.getElem?_eq_getElem hi⟩
 obtain ⟨q,hq⟩ : ∃ q,H.ps[i]?=some q:=⟨_,List.getElem?_eq_getElem (by rw[hnp]; exact hi)⟩
 obtain ⟨Rr,hFo,back⟩:=Sep.focus (((hS.re ((List.perm_middle (l₁:=[_])).trans (.cons _ (.refl _)))))) hq ht
 have hvp:=Sep.rdV (((hS.re ((List.perm_middle (l₁:=[_,_])).trans (.cons _ (.refl _))))))
 exact ⟨q,t,Rr,ht,hq,hFo,hvp.ia hq,hvp.at1 (f:=fun p => .ptr p 0) hq⟩
section
variable {bd : Bd} {h : VF} {fu : Nat} {gv : AV × List Nat}
set_option maxHeartbeats 1000000 in
theorem n_means (n:Nat) {s0:St} (s:St) (e:Nat) (X:EN) (Ps:List Obj) (hE:EndS gv s0 s e X Ps) (hlen:X.P.length<fu) (hf:X.P.length<100000) :
  OutOk (callF bd (tab h).get fu (n+3) 124 [.ptr e 0] s) (fun x s'=>∃ v,Is x (.tup [v,.bool X.beh])∧EndS gv s0 s' e X (oW v 1 encI X.mns::Ps)):=by
 obtain ⟨H,hnp,hS⟩:=hE
 refine call_code (t124 h) rfl ?_
 have g1:=hS.getC
 dsimp only[EN.cells] at g1
 have hvl:=(Sep.rdV (((hS.re ((List.perm_middle (l₁:=[_,_])).trans (.cons _ (.refl _))))))).lenV
 rw[hnp] at hvl
 simp (disch:=omega) only [vm0,vm1,vm2,vm3,vm4,vm5,vm6,vm7,vmF,vmT,evo,wr,wrC,frame,Nat.reduceAdd,Nat.reduceMul,Nat.reduceSub,beq_self_eq_true,List.cons_append,List.nil_append,beq_dec,vmI,vc124,g1,hvl]
 refine x_loop (fun m F s'=>∃ i:Nat,∃ z x6 x8 x10,m=X.P.length-i∧i≤X.P.length∧z=(i:Int)∧F=[some (.ptr e 0),some .nils,some (num z),none,none,some (.bool (!(X.P.take i).any fsh)),x6,some (num (X.P.length:Int)),x8,some H.vp,x10,none,none,none,none]∧s'=s) X.P.length (by omega) ?_ ?_
 ·exact ⟨0,_,_,_,_,by omega,by omega,rfl,rfl,rfl⟩
 ·rintro m F s1 ⟨i,_,x6,x8,x10,rfl,hi,rfl,rfl,rfl⟩ hm
  by_cases hlt:i<X.P.length
  ·obtain ⟨p,t,R,ht,hp,hT,e1,e2⟩:=EndS.at hnp hS hlt
   have hany:(X.P.take (i+1)).any fsh=((X.P.take i).any fsh||fsh t):=by rw[List.take_add_one,ht]; simp
   simp (disch:=omega) only [vm0,vm1,vm2,vm3,vm4,vm5,vm6,vm7,vmF,vmT,evo,wr,wrC,frame,Nat.reduceAdd,Nat.reduceMul,Nat.reduceSub,beq_self_eq_true,List.cons_append,List.nil_append,beq_dec,vmI,e1,e2]
   refine call_ok rfl rfl (m_usable n s1 p t _ hT) ?_
   rintro y s2 ⟨rfl,rfl⟩
   cases hfr:t.free
   ·have hfs:fsh t=false:=by unfold fsh; rw[hfr]; rfl
    rw[hfs,Bool.or_false] at hany
    simp (disch:=omega) only [vm0,vm1,vm2,vm3,vm4,vm5,vm6,vm7,vmF,vmT,evo,wr,wrC,frame,Nat.reduceAdd,Nat.reduceMul,Nat.reduceSub,beq_self_eq_true,List.cons_append,List.nil_append,beq_dec,vmI,vmU]
    exact ⟨X.P.length-(i+1),by omega,i+1,(i:Int)+1,_,_,_,rfl,by omega,by omega,by rw[hany],rfl⟩
   ·simp (disch:=omega) only [vm0,vm1,vm2,vm3,vm4,vm5,vm6,vm7,vmF,vmT,evo,wr,wrC,frame,Nat.reduceAdd,Nat.reduceMul,Nat.reduceSub,beq_self_eq_true,List.cons_append,List.nil_append,beq_dec,vmI,vmU]
    refine call_ok rfl rfl (m_behind (n+1) s2 p t _ hT) ?_
    rintro y s3 ⟨rfl,rfl⟩
    cases hbh:t.bh
    ·have hfs:fsh t=true:=by unfold fsh; rw[hfr,hbh]; rfl
     rw[hfs,Bool.or_true] at hany
     simp (disch:=omega) only [vm0,vm1,vm2,vm3,vm4,vm5,vm6,vm7,vmF,vmT,evo,wr,wrC,frame,Nat.reduceAdd,Nat.reduceMul,Nat.reduceSub,beq_self_eq_true,List.cons_append,List.nil_append,beq_dec,vmI,vmU]
     exact ⟨X.P.length-(i+1),by omega,i+1,(i:Int)+1,_,_,_,rfl,by omega,by omega,by rw[hany]; rfl,rfl⟩
    ·have hfs:fsh t=false:=by unfold fsh; rw[hfr,hbh]; rfl
     rw[hfs,Bool.or_false] at hany
     simp (disch:=omega) only [vm0,vm1,vm2,vm3,vm4,vm5,vm6,vm7,vmF,vmT,evo,wr,wrC,frame,Nat.reduceAdd,Nat.reduceMul,Nat.reduceSub,beq_self_eq_true,List.cons_append,List.nil_append,beq_dec,vmI,vmU]
     exact ⟨X.P.length-(i+1),by omega,i+1,(i:Int)+1,_,_,_,rfl,by omega,by omega,by rw[hany],rfl⟩
  ·rw[List.take_of_length_le (by omega),show (!X.P.any fsh)=X.beh from rfl]
   simp (disch:=omega) only [vm0,vm1,vm2,vm3,vm4,vm5,vm6,vm7,vmF,vmT,evo,wr,wrC,frame,Nat.reduceAdd,Nat.reduceMul,Nat.reduceSub,beq_self_eq_true,List.cons_append,List.nil_append,beq_dec,vmI,g1,hvl]
   refine x_loop (fun m F s'=>∃ i:Nat,∃ z vo x4 x6 x8 x10 x12 x14,m=X.P.length-i∧i≤X.P.length∧z=(i:Int)∧F=[some (.ptr e 0),some vo,some (num X.P.length),some (num z),x4,some (.bool X.beh),x6,some (num (X.P.length:Int)),x8,some H.vp,x10,some (num (X.P.length:Int)),x12,some H.vp,x14]∧Sep s0 s' (oW vo 1 encI (X.mns.take i)::oC e (X.cells H)::oPS H.ps X.P::oV gv H.vp H.ps::oW H.vd 1 encI X.due::oO H.ob X.o::oP H.pb X.pl X.ps::oI H.ib X.i::oC H.sb [num X.c.sc,num X.nx]::oLg 0 H.vs H.vl H.mb X.log::Ps)) X.P.length (by omega) ?_ ?_
   ·obtain rfl:i=X.P.length:=by omega
    exact ⟨0,0,_,_,_,_,_,_,_,by omega,by omega,rfl,rfl,hS.push (P:=oW .nils 1 encI []) (f:=[]) (.nil (fun _=>rfl) (by omega)) .refl (by simp[Nw])⟩
   ·clear hlt hi g1 hS
    rintro m F s1 ⟨i,_,vo,x4,x6,x8,x10,x12,x14,rfl,hi,rfl,rfl,hS1⟩ hm
    by_cases hlt:i<X.P.length
    ·obtain ⟨p,t,R,ht,hp,hT,e1,e2⟩:=EndS.at hnp (((hS1.re ((List.perm_middle (l₁:=[_])).trans (.cons _ ((List.perm_middle (l₁:=[_])).trans (.cons _ ((List.perm_middle (l₁:=[_])).trans (.cons _ (.refl _)))))))))) hlt
     have hml:X.mns.length=X.P.length:=by unfold EN.mns; rw[List.length_map]
     have hmt:X.mns.take (i+1)=X.mns.take i++[mn1 X.beh t]:=by
      have:X.mns[i]?=some (mn1 X.beh t):=by unfold EN.mns; rw[List.getElem?_map,ht]; rfl
      rw[List.take_add_one,this]; rfl
     simp (disch:=omega) only [vm0,vm1,vm2,vm3,vm4,vm5,vm6,vm7,vmF,vmT,evo,wr,wrC,frame,Nat.reduceAdd,Nat.reduceMul,Nat.reduceSub,beq_self_eq_true,List.cons_append,List.nil_append,beq_dec,vmI,e1,e2]
     refine call_ok rfl rfl (m_usable n s1 p t _ hT) ?_
     rintro y s2 ⟨rfl,rfl⟩
     cases hfr:t.free
     ·rw[show mn1 X.beh t = -1 by unfold mn1; rw[hfr]; rfl] at hmt
      obtain ⟨fo,ho,up⟩:=hS1.hd
      simp (disch:=omega) only [vm0,vm1,vm2,vm3,vm4,vm5,vm6,vm7,vmF,vmT,evo,wr,wrC,frame,Nat.reduceAdd,Nat.reduceMul,Nat.reduceSub,beq_self_eq_true,List.cons_append,List.nil_append,beq_dec,vmI,vmU]
      refine op_app1 (show OwE _ vo 1 encI (X.mns.take i) fo from ho) .new (x := -1) rfl (by rw[List.length_take]; omega) ?_
      intro v' s5 fo' p1 p2 p3
      have hS5:=up (oW v' 1 encI (X.mns.take i++[-1])) p1 p2 p3
      rw[←hmt] at hS5
      simp (disch:=omega) only [vm0,vm1,vm2,vm3,vm4,vm5,vm6,vm7,vmF,vmT,evo,wr,wrC,frame,Nat.reduceAdd,Nat.reduceMul,Nat.reduceSub,beq_self_eq_true,List.cons_append,List.nil_append,beq_dec,vmI]
      exact ⟨X.P.length-(i+1),by omega,i+1,(i:Int)+1,_,_,_,_,_,_,_,rfl,by omega,by omega,rfl,hS5⟩
     cases hbe:X.beh
     ·simp (disch:=omega) only [vm0,vm1,vm2,vm3,vm4,vm5,vm6,vm7,vmF,vmT,evo,wr,wrC,frame,Nat.reduceAdd,Nat.reduceMul,Nat.reduceSub,beq_self_eq_true,List.cons_append,List.nil_append,beq_dec,vmI,vmU]
      refine call_ok rfl rfl (m_behind (n+1) s2 p t _ hT) ?_
      rintro y s3 ⟨rfl,rfl⟩
      cases hbh:t.bh
      ·rw[hbe,show mn1 false t=t.G.me by unfold mn1; rw[hfr,hbh]; rfl] at hmt
       simp (disch:=omega) only [vm0,vm1,vm2,vm3,vm4,vm5,vm6,vm7,vmF,vmT,evo,wr,wrC,frame,Nat.reduceAdd,Nat.reduceMul,Nat.reduceSub,beq_self_eq_true,List.cons_append,List.nil_append,beq_dec,vmI,vmU]
       refine call_ok rfl rfl (m_mean n s3 p t _ hT) ?_
       rintro y s4 ⟨rfl,rfl⟩
       obtain ⟨fo,ho,up⟩:=hS1.hd
       simp (disch:=omega) only [vm0,vm1,vm2,vm3,vm4,vm5,vm6,vm7,vmF,vmT,evo,wr,wrC,frame,Nat.reduceAdd,Nat.reduceMul,Nat.reduceSub,beq_self_eq_true,List.cons_append,List.nil_append,beq_dec,vmI,vmU]
       refine op_app1 (show OwE _ vo 1 encI (X.mns.take i) fo from ho) .new (x:=t.G.me) rfl (by rw[List.length_take]; omega) ?_
       intro v' s5 fo' p1 p2 p3
       have hS5:=up (oW v' 1 encI (X.mns.take i++[t.G.me])) p1 p2 p3
       rw[←hmt] at hS5
       simp (disch:=omega) only [vm0,vm1,vm2,vm3,vm4,vm5,vm6,vm7,vmF,vmT,evo,wr,wrC,frame,Nat.reduceAdd,Nat.reduceMul,Nat.reduceSub,beq_self_eq_true,List.cons_append,List.nil_append,beq_dec,vmI]
       exact ⟨X.P.length-(i+1),by omega,i+1,(i:Int)+1,_,_,_,_,_,_,_,rfl,by omega,by omega,rfl,hS5⟩
      ·rw[hbe,show mn1 false t = -1 by unfold mn1; rw[hfr,hbh]; rfl] at hmt
       obtain ⟨fo,ho,up⟩:=hS1.hd
       simp (disch:=omega) only [vm0,vm1,vm2,vm3,vm4,vm5,vm6,vm7,vmF,vmT,evo,wr,wrC,frame,Nat.reduceAdd,Nat.reduceMul,Nat.reduceSub,beq_self_eq_true,List.cons_append,List.nil_append,beq_dec,vmI,vmU]
       refine op_app1 (show OwE _ vo 1 encI (X.mns.take i) fo from ho) .new (x := -1) rfl (by rw[List.length_take]; omega) ?_
       intro v' s5 fo' p1 p2 p3
       have hS5:=up (oW v' 1 encI (X.mns.take i++[-1])) p1 p2 p3
       rw[←hmt] at hS5
       simp (disch:=omega) only [vm0,vm1,vm2,vm3,vm4,vm5,vm6,vm7,vmF,vmT,evo,wr,wrC,frame,Nat.reduceAdd,Nat.reduceMul,Nat.reduceSub,beq_self_eq_true,List.cons_append,List.nil_append,beq_dec,vmI]
       exact ⟨X.P.length-(i+1),by omega,i+1,(i:Int)+1,_,_,_,_,_,_,_,rfl,by omega,by omega,rfl,hS5⟩
     ·rw[hbe,show mn1 true t=t.G.me by unfold mn1; rw[hfr]; rfl] at hmt
      simp (disch:=omega) only [vm0,vm1,vm2,vm3,vm4,vm5,vm6,vm7,vmF,vmT,evo,wr,wrC,frame,Nat.reduceAdd,Nat.reduceMul,Nat.reduceSub,beq_self_eq_true,List.cons_append,List.nil_append,beq_dec,vmI,vmU]
      refine call_ok rfl rfl (m_mean n s2 p t _ hT) ?_
      rintro y s4 ⟨rfl,rfl⟩
      obtain ⟨fo,ho,up⟩:=hS1.hd
      simp (disch:=omega) only [vm0,vm1,vm2,vm3,vm4,vm5,vm6,vm7,vmF,vmT,evo,wr,wrC,frame,Nat.reduceAdd,Nat.reduceMul,Nat.reduceSub,beq_self_eq_true,List.cons_append,List.nil_append,beq_dec,vmI,vmU]
      refine op_app1 (show OwE _ vo 1 encI (X.mns.take i) fo from ho) .new (x:=t.G.me) rfl (by rw[List.length_take]; omega) ?_
      intro v' s5 fo' p1 p2 p3
      have hS5:=up (oW v' 1 encI (X.mns.take i++[t.G.me])) p1 p2 p3
      rw[←hmt] at hS5
      simp (disch:=omega) only [vm0,vm1,vm2,vm3,vm4,vm5,vm6,vm7,vmF,vmT,evo,wr,wrC,frame,Nat.reduceAdd,Nat.reduceMul,Nat.reduceSub,beq_self_eq_true,List.cons_append,List.nil_append,beq_dec,vmI]
      exact ⟨X.P.length-(i+1),by omega,i+1,(i:Int)+1,_,_,_,_,_,_,_,rfl,by omega,by omega,rfl,hS5⟩
    ·rw[List.take_of_length_le (by unfold EN.mns; rw[List.length_map]; omega)] at hS1
     simp (disch:=omega) only [vm0,vm1,vm2,vm3,vm4,vm5,vm6,vm7,vmF,vmT,evo,wr,wrC,frame,Nat.reduceAdd,Nat.reduceMul,Nat.reduceSub,beq_self_eq_true,List.cons_append,List.nil_append,beq_dec,vmI]
     exact ⟨vo,rfl,H,hnp,((hS1.re ((List.perm_middle (l₁:=[_])).trans (.cons _ ((List.perm_middle (l₁:=[_])).trans (.cons _ ((List.perm_middle (l₁:=[_])).trans (.cons _ ((List.perm_middle (l₁:=[_])).trans (.cons _ ((List.perm_middle (l₁:=[_])).trans (.cons _ ((List.perm_middle (l₁:=[_])).trans (.cons _ ((List.perm_middle (l₁:=[_])).trans (.cons _ ((List.perm_middle (l₁:=[_])).trans (.cons _ ((List.perm_middle (l₁:=[_])).trans (.cons _ (.refl _)))))))))))))))))))))⟩
theorem n_pick (n:Nat) {s0:St} (s:St) (e:Nat) (X:EN) (Ps:List Obj) (hE:EndS gv s0 s e X Ps) (hlen:X.P.length<fu) (hf:X.P.length<100000) :
  OutOk (callF bd (tab h).get fu (n+5) 81 [.ptr e 0] s) (fun x s'=>EndS gv s0 s' e X.pick.2 (oW x 1 encI X.pick.1::Ps)):=by
 refine call_code (t81 h) rfl ?_
 simp (disch:=omega) only [vm0,vm1,vm2,vm3,vm4,vm5,vm6,vm7,vmF,vmT,evo,wr,wrC,frame,Nat.reduceAdd,Nat.reduceMul,Nat.reduceSub,beq_self_eq_true,List.cons_append,List.nil_append,beq_dec,vmI,vc81]
 refine call_ok rfl rfl (n_means (n+1) s e X Ps hE hlen hf) ?_
 rintro y s1 ⟨v,rfl,H,hnp,hS⟩
 have g1:=hS.getC
 have hvm:=Sep.rdW (((hS.re ((List.perm_middle (l₁:=[_,_,_,_,_,_,_,_,_])).trans (.cons _ (.refl _))))))
 have hmlen:X.mns.length=X.P.length:=by unfold EN.mns; rw[List.length_map]
 have hvc:=cells1 hvm.rd.sl
 have hvl:=hvm.lenV
 dsimp only[EN.cells] at g1
 cases hbe:X.beh
 ·rw[show X.pick=((pickS X.c.sc X.nx X.mns).1,{ X with nx:=(pickS X.c.sc X.nx X.mns).2 }) by unfold EN.pick; rw[hbe]; rfl]
  simp (disch:=omega) only [vm0,vm1,vm2,vm3,vm4,vm5,vm6,vm7,vmF,vmT,evo,wr,wrC,frame,Nat.reduceAdd,Nat.reduceMul,Nat.reduceSub,beq_self_eq_true,List.cons_append,List.nil_append,beq_dec,vmI,g1,hvc]
  refine call_ok rfl rfl (s_pick n s1 v X.mns H.sb X.c.sc X.nx _ (((hS.re ((List.perm_middle (l₁:=[_,_,_,_,_,_,_])).trans (.cons _ (.refl _)))))) hvm (by omega) (by omega)) ?_
  rintro y s2 hS2
  simp (disch:=omega) only [vm0,vm1,vm2,vm3,vm4,vm5,vm6,vm7,vmF,vmT,evo,wr,wrC,frame,Nat.reduceAdd,Nat.reduceMul,Nat.reduceSub,beq_self_eq_true,List.cons_append,List.nil_append,beq_dec,vmI]
  exact ⟨H,hnp,((hS2.re ((List.perm_middle (l₁:=[_,_,_,_,_,_,_,_,_,_])).trans (.cons _ ((List.perm_middle (l₁:=[_,_])).trans (.cons _ ((List.perm_middle (l₁:=[_,_])).trans (.cons _ ((List.perm_middle (l₁:=[_,_])).trans (.cons _ ((List.perm_middle (l₁:=[_,_])).trans (.cons _ ((List.perm_middle (l₁:=[_,_])).trans (.cons _ ((List.perm_middle (l₁:=[_,_])).trans (.cons _ ((List.perm_middle (l₁:=[_,_])).trans (.cons _ ((List.perm_middle (l₁:=[_])).trans (.cons _ ((List.perm_middle (l₁:=[_])).trans (.cons _ (.refl _)))))))))))))))))))))).drop)⟩
 ·rw[show X.pick=(usx X.mns X.mns.length,X) by unfold EN.pick; rw[hbe]; rfl]
  simp (disch:=omega) only [vm0,vm1,vm2,vm3,vm4,vm5,vm6,vm7,vmF,vmT,evo,wr,wrC,frame,Nat.reduceAdd,Nat.reduceMul,Nat.reduceSub,beq_self_eq_true,List.cons_append,List.nil_append,beq_dec,vmI,hvc,hvl]
  refine x_loop (fun m F s'=>∃ i:Nat,∃ z vo x7 x9 x10 x11,m=X.mns.length-i∧i≤X.mns.length∧z=(i:Int)∧F=[some (.ptr e 0),some (num z),some v,some vo,some (.bool true),some (.bool false),some (num (X.mns.length:Int)),x7,some v,x9,x10,x11,some .nils]∧Sep s0 s' (oW vo 1 encI (usx X.mns i)::oC e (X.cells H)::oPS H.ps X.P::oV gv H.vp H.ps::oW H.vd 1 encI X.due::oO H.ob X.o::oP H.pb X.pl X.ps::oI H.ib X.i::oC H.sb [num X.c.sc,num X.nx]::oLg 0 H.vs H.vl H.mb X.log::oW v 1 encI X.mns::Ps)) X.mns.length (by omega) ?_ ?_
  ·exact ⟨0,0,_,_,_,_,_,by omega,by omega,rfl,rfl,hS.push (P:=oW .nils 1 encI []) (f:=[]) (.nil (fun _=>rfl) (by omega)) .refl (by simp[Nw])⟩
  ·clear hS g1 hvm hvc hvl
   rintro m F s2 ⟨i,_,vo,x7,x9,x10,x11,rfl,hi,rfl,rfl,hS2⟩ hm
   by_cases hlt:i<X.mns.length
   ·obtain ⟨x,hx⟩ : ∃ x,X.mns[i]?=some x:=⟨_,List.getElem?_eq_getElem hlt⟩
    have hv1:=Sep.rdW (((hS2.re ((List.perm_middle (l₁:=[_,_,_,_,_,_,_,_,_,_])).trans (.cons _ (.refl _))))))
    have e1:=hv1.ia hx
    have e2:=hv1.at1 (f:=num) hx
    have hu:=usx_s hx
    have hul:=usx_len X.mns i
    obtain ⟨fo,ho,up⟩:=hS2.hd
    by_cases h0:0≤x
    ·rw[if_pos h0] at hu
     simp (disch:=omega) only [vm0,vm1,vm2,vm3,vm4,vm5,vm6,vm7,vmF,vmT,evo,wr,wrC,frame,Nat.reduceAdd,Nat.reduceMul,Nat.reduceSub,beq_self_eq_true,List.cons_append,List.nil_append,beq_dec,vmI,e1,e2]
     refine op_app1 (show OwE _ vo 1 encI (usx X.mns i) fo from ho) .new (x:=(i:Int)) rfl (by omega) ?_
     intro v' s3 fo' p1 p2 p3
     have hS3:=up (oW v' 1 encI (usx X.mns i++[(i:Int)])) p1 p2 p3
     rw[←hu] at hS3
     simp (disch:=omega) only [vm0,vm1,vm2,vm3,vm4,vm5,vm6,vm7,vmF,vmT,evo,wr,wrC,frame,Nat.reduceAdd,Nat.reduceMul,Nat.reduceSub,beq_self_eq_true,List.cons_append,List.nil_append,beq_dec,vmI]
     exact ⟨X.mns.length-(i+1),by omega,i+1,(i:Int)+1,_,_,_,_,_,rfl,by omega,by omega,rfl,hS3⟩
    ·rw[if_neg h0,List.append_nil] at hu
     rw[←hu] at hS2
     simp (disch:=omega) only [vm0,vm1,vm2,vm3,vm4,vm5,vm6,vm7,vmF,vmT,evo,wr,wrC,frame,Nat.reduceAdd,Nat.reduceMul,Nat.reduceSub,beq_self_eq_true,List.cons_append,List.nil_append,beq_dec,vmI,e1,e2]
     exact ⟨X.mns.length-(i+1),by omega,i+1,(i:Int)+1,_,_,_,_,_,rfl,by omega,by omega,rfl,hS2⟩
   ·obtain rfl:i=X.mns.length:=by omega
    simp (disch:=omega) only [vm0,vm1,vm2,vm3,vm4,vm5,vm6,vm7,vmF,vmT,evo,wr,wrC,frame,Nat.reduceAdd,Nat.reduceMul,Nat.reduceSub,beq_self_eq_true,List.cons_append,List.nil_append,beq_dec,vmI]
    exact ⟨H,hnp,((hS2.re ((List.perm_middle (l₁:=[_,_,_,_,_,_,_,_,_,_])).trans (.cons _ ((List.perm_middle (l₁:=[_])).trans (.cons _ ((List.perm_middle (l₁:=[_])).trans (.cons _ ((List.perm_middle (l₁:=[_])).trans (.cons _ ((List.perm_middle (l₁:=[_])).trans (.cons _ ((List.perm_middle (l₁:=[_])).trans (.cons _ ((List.perm_middle (l₁:=[_])).trans (.cons _ ((List.perm_middle (l₁:=[_])).trans (.cons _ ((List.perm_middle (l₁:=[_])).trans (.cons _ ((List.perm_middle (l₁:=[_])).trans (.cons _ (.refl _)))))))))))))))))))))).drop)⟩
end
def EN.able (X:EN):Bool:=X.P.any PT.free
def outT (t:PT):Bool:=decide (0<t.F.length)
def EN.idle (X:EN):Bool:=decide (X.o.acked<X.o.places)&&!X.P.any outT
def idT (φ:PT→Bool):List PT→Int→Int
 | [],_ => -1
 | t::l,i=>if φ t then i else idT φ l (i+1)
theorem idT_any (φ:PT→Bool):∀ (l:List PT) (i:Int),0≤i→decide (0≤idT φ l i)=l.any φ
 | [],i,h=>by simp[idT]
 | t::l,i,h=>by
  unfold idT
  cases ht:φ t
  ·simp only[Bool.false_eq_true,if_false]
   rw[idT_any φ l (i+1) (by omega)]; simp[ht]
  ·simp[ht,h]
section
variable {bd : Bd} {h : VF} {fu : Nat} {gv : AV × List Nat}
theorem anyT (n g:Nat) (φ:PT→Bool) (hg:∀ (s0 s:St) (p:Nat) (t:PT) (Ps:List Obj),Sep s0 s (oT1 p t::Ps)→OutOk (callF bd (tab h).get fu (n+3) g [.ptr p 0] s) (fun x s'=>Is x (.bool (φ t))∧Is s' s))
  {s0:St} (s:St) (e:Nat) (X:EN) (H:EH) (Ps:List Obj) (hnp:H.ps.length=X.P.length) (hS:Sep s0 s (oC e (X.cells H)::oPS H.ps X.P::oV gv H.vp H.ps::Ps)) (hlen:X.P.length<fu) (hf:X.P.length<100000) :
  OutOk (callF bd (tab h).get fu (n+5) 90 [H.vp,.fn g [] []] s) (fun x s'=>Is x (.bool (X.P.any φ))∧Is s' s):=by
 refine call_code (t90 h) rfl ?_
 simp (disch:=omega) only [vm0,vm1,vm2,vm3,vm4,vm5,vm6,vm7,vmF,vmT,evo,wr,wrC,frame,Nat.reduceAdd,Nat.reduceMul,Nat.reduceSub,beq_self_eq_true,List.cons_append,List.nil_append,beq_dec,vmI,vc90]
 have hi:=idT_any φ X.P 0 (by omega)
 refine call_ok (R:=fun x s'=>Is x (num (idT φ X.P 0))∧Is s' s) rfl rfl ?_ ?_
 ·refine call_code (t130 h) rfl ?_
  have hvl:=(Sep.rdV (((hS.re ((List.perm_middle (l₁:=[_,_])).trans (.cons _ (.refl _))))))).lenV
  rw[hnp] at hvl
  simp (disch:=omega) only [vm0,vm1,vm2,vm3,vm4,vm5,vm6,vm7,vmF,vmT,evo,wr,wrC,frame,Nat.reduceAdd,Nat.reduceMul,Nat.reduceSub,beq_self_eq_true,List.cons_append,List.nil_append,beq_dec,vmI,vc130,hvl]
  refine x_loop (fun m F s'=>∃ i:Nat,∃ z x3 x5 x6,m=X.P.length-i∧i≤X.P.length∧z=(i:Int)∧F=[some H.vp,some (.fn g [] []),some (num z),x3,some (num (X.P.length:Int)),x5,x6,some (num 0)]∧s'=s∧idT φ X.P 0=idT φ (X.P.drop i) i) X.P.length (by omega) ?_ ?_
  ·exact ⟨0,0,_,_,_,by omega,by omega,rfl,rfl,rfl,rfl⟩
  ·rintro m F s1 ⟨i,_,x3,x5,x6,rfl,hi,rfl,rfl,rfl,hfst⟩ hm
   by_cases hlt:i<X.P.length
   ·obtain ⟨p,t,R,ht,hp,hT,e1,e2⟩:=EndS.at hnp hS hlt
    simp (disch:=omega) only [vm0,vm1,vm2,vm3,vm4,vm5,vm6,vm7,vmF,vmT,evo,wr,wrC,frame,Nat.reduceAdd,Nat.reduceMul,Nat.reduceSub,beq_self_eq_true,List.cons_append,List.nil_append,beq_dec,vmI,e1,e2]
    rw[List.drop_eq_getElem_cons hlt,(List.getElem?_eq_some_iff.1 ht).2] at hfst
    refine call_ok rfl rfl (hg s0 s1 p t _ hT) ?_
    rintro x s2 ⟨rfl,rfl⟩
    cases hk:φ t
    ·simp (disch:=omega) only [vm0,vm1,vm2,vm3,vm4,vm5,vm6,vm7,vmF,vmT,evo,wr,wrC,frame,Nat.reduceAdd,Nat.reduceMul,Nat.reduceSub,beq_self_eq_true,List.cons_append,List.nil_append,beq_dec,vmI]
     refine ⟨X.P.length-(i+1),by omega,i+1,(i:Int)+1,_,_,_,rfl,by omega,by omega,rfl,rfl,?_⟩
     rw[hfst]; simp[idT,hk]
    ·simp (disch:=omega) only [vm0,vm1,vm2,vm3,vm4,vm5,vm6,vm7,vmF,vmT,evo,wr,wrC,frame,Nat.reduceAdd,Nat.reduceMul,Nat.reduceSub,beq_self_eq_true,List.cons_append,List.nil_append,beq_dec,vmI]
     exact ⟨by show num _=num _; rw[hfst]; simp[idT,hk],rfl⟩
   ·simp (disch:=omega) only [vm0,vm1,vm2,vm3,vm4,vm5,vm6,vm7,vmF,vmT,evo,wr,wrC,frame,Nat.reduceAdd,Nat.reduceMul,Nat.reduceSub,beq_self_eq_true,List.cons_append,List.nil_append,beq_dec,vmI]
    refine ⟨?_,rfl⟩
    rw[hfst,List.drop_eq_nil_of_le (by omega)]; rfl
 ·rintro x s1 ⟨rfl,rfl⟩
  cases ha:X.P.any φ
  ·rw[ha] at hi
   have:=of_decide_eq_false hi
   simp (disch:=omega) only [vm0,vm1,vm2,vm3,vm4,vm5,vm6,vm7,vmF,vmT,evo,wr,wrC,frame,Nat.reduceAdd,Nat.reduceMul,Nat.reduceSub,beq_self_eq_true,List.cons_append,List.nil_append,beq_dec,vmI]
   exact ⟨rfl,rfl⟩
  ·rw[ha] at hi
   have:=of_decide_eq_true hi
   simp (disch:=omega) only [vm0,vm1,vm2,vm3,vm4,vm5,vm6,vm7,vmF,vmT,evo,wr,wrC,frame,Nat.reduceAdd,Nat.reduceMul,Nat.reduceSub,beq_self_eq_true,List.cons_append,List.nil_append,beq_dec,vmI]
   exact ⟨rfl,rfl⟩
theorem n_usable (n:Nat) {s0:St} (s:St) (e:Nat) (X:EN) (Ps:List Obj) (hE:EndS gv s0 s e X Ps) (hlen:X.P.length<fu) (hf:X.P.length<100000) :
  OutOk (callF bd (tab h).get fu (n+6) 79 [.ptr e 0] s) (fun x s'=>Is x (.bool X.able)∧Is s' s):=by
 obtain ⟨H,hnp,hS⟩:=hE
 refine call_code (t79 h) rfl ?_
 have g1:=hS.getC
 dsimp only[EN.cells] at g1
 simp (disch:=omega) only [vm0,vm1,vm2,vm3,vm4,vm5,vm6,vm7,vmF,vmT,evo,wr,wrC,frame,Nat.reduceAdd,Nat.reduceMul,Nat.reduceSub,beq_self_eq_true,List.cons_append,List.nil_append,beq_dec,vmI,vc79,g1]
 refine call_ok rfl rfl (anyT n 118 PT.free (fun s0 s p t Ps hS=>?_) s e X H _ hnp hS hlen hf) ?_
 ·refine call_code (t118 h) rfl ?_
  simp (disch:=omega) only [vm0,vm1,vm2,vm3,vm4,vm5,vm6,vm7,vmF,vmT,evo,wr,wrC,frame,Nat.reduceAdd,Nat.reduceMul,Nat.reduceSub,beq_self_eq_true,List.cons_append,List.nil_append,beq_dec,vmI,vc118]
  refine call_ok rfl rfl (m_usable n s p t _ hS) ?_
  rintro x s1 ⟨rfl,rfl⟩
  simp (disch:=omega) only [vm0,vm1,vm2,vm3,vm4,vm5,vm6,vm7,vmF,vmT,evo,wr,wrC,frame,Nat.reduceAdd,Nat.reduceMul,Nat.reduceSub,beq_self_eq_true,List.cons_append,List.nil_append,beq_dec,vmI]
  exact ⟨rfl,rfl⟩
 ·rintro x s1 ⟨rfl,rfl⟩
  simp (disch:=omega) only [vm0,vm1,vm2,vm3,vm4,vm5,vm6,vm7,vmF,vmT,evo,wr,wrC,frame,Nat.reduceAdd,Nat.reduceMul,Nat.reduceSub,beq_self_eq_true,List.cons_append,List.nil_append,beq_dec,vmI]
  exact ⟨rfl,rfl⟩
theorem n_idle (n:Nat) {s0:St} (s:St) (e:Nat) (X:EN) (Ps:List Obj) (hE:EndS gv s0 s e X Ps) (hlen:X.P.length<fu) (hf:X.P.length<100000) (hb:X.o.b.length<1000000) :
  OutOk (callF bd (tab h).get fu (n+6) 39 [.ptr e 0] s) (fun x s'=>Is x (.bool X.idle)∧Is s' s):=by
 obtain ⟨H,hnp,hS⟩:=hE
 refine call_code (t39 h) rfl ?_
 have g1:=hS.getC
 dsimp only[EN.cells] at g1
 simp (disch:=omega) only [vm0,vm1,vm2,vm3,vm4,vm5,vm6,vm7,vmF,vmT,evo,wr,wrC,frame,Nat.reduceAdd,Nat.reduceMul,Nat.reduceSub,beq_self_eq_true,List.cons_append,List.nil_append,beq_dec,vmI,vc39,g1,vmU]
 refine call_ok rfl rfl (d_acked (n+4) s H.ob X.o _ hS.up4) ?_
 rintro y s1 ⟨rfl,rfl⟩
 simp (disch:=omega) only [vm0,vm1,vm2,vm3,vm4,vm5,vm6,vm7,vmF,vmT,evo,wr,wrC,frame,Nat.reduceAdd,Nat.reduceMul,Nat.reduceSub,beq_self_eq_true,List.cons_append,List.nil_append,beq_dec,vmI,g1,vmU]
 refine call_ok rfl rfl (d_places (n+4) s1 H.ob X.o _ hS.up4 hb) ?_
 rintro y s2 ⟨rfl,rfl⟩
 have hid:X.idle=(decide (X.o.acked<X.o.places)&&!X.P.any outT):=rfl
 rw[hid]
 by_cases hc:X.o.acked<X.o.places
 ·rw[decide_eq_true hc]
  simp (disch:=omega) only [vm0,vm1,vm2,vm3,vm4,vm5,vm6,vm7,vmF,vmT,evo,wr,wrC,frame,Nat.reduceAdd,Nat.reduceMul,Nat.reduceSub,beq_self_eq_true,List.cons_append,List.nil_append,beq_dec,vmI,g1,vmU]
  refine call_ok rfl rfl (anyT n 91 outT (fun s0 s p t Ps hS=>?_) s2 e X H _ hnp hS hlen hf) ?_
  ·refine call_code (t91 h) rfl ?_
   simp (disch:=omega) only [vm0,vm1,vm2,vm3,vm4,vm5,vm6,vm7,vmF,vmT,evo,wr,wrC,frame,Nat.reduceAdd,Nat.reduceMul,Nat.reduceSub,beq_self_eq_true,List.cons_append,List.nil_append,beq_dec,vmI,vc91]
   refine call_ok rfl rfl (m_len n s p t _ hS) ?_
   rintro x s1 ⟨rfl,rfl⟩
   by_cases hl:0<t.F.length
   ·have hl2:(0:Int)<(t.F.length:Int):=by omega
    simp (disch:=omega) only [vm0,vm1,vm2,vm3,vm4,vm5,vm6,vm7,vmF,vmT,evo,wr,wrC,frame,Nat.reduceAdd,Nat.reduceMul,Nat.reduceSub,beq_self_eq_true,List.cons_append,List.nil_append,beq_dec,vmI]
    exact ⟨by rw[outT,decide_eq_true hl]; rfl,rfl⟩
   ·simp (disch:=omega) only [vm0,vm1,vm2,vm3,vm4,vm5,vm6,vm7,vmF,vmT,evo,wr,wrC,frame,Nat.reduceAdd,Nat.reduceMul,Nat.reduceSub,beq_self_eq_true,List.cons_append,List.nil_append,beq_dec,vmI]
    exact ⟨by rw[outT,decide_eq_false hl]; rfl,rfl⟩
  ·rintro x s3 ⟨rfl,rfl⟩
   cases X.P.any outT
   ·simp (disch:=omega) only [vm0,vm1,vm2,vm3,vm4,vm5,vm6,vm7,vmF,vmT,evo,wr,wrC,frame,Nat.reduceAdd,Nat.reduceMul,Nat.reduceSub,beq_self_eq_true,List.cons_append,List.nil_append,beq_dec,vmI,g1,vmU]
    exact ⟨rfl,rfl⟩
   ·simp (disch:=omega) only [vm0,vm1,vm2,vm3,vm4,vm5,vm6,vm7,vmF,vmT,evo,wr,wrC,frame,Nat.reduceAdd,Nat.reduceMul,Nat.reduceSub,beq_self_eq_true,List.cons_append,List.nil_append,beq_dec,vmI,g1,vmU]
    exact ⟨rfl,rfl⟩
 ·rw[decide_eq_false hc]
  simp (disch:=omega) only [vm0,vm1,vm2,vm3,vm4,vm5,vm6,vm7,vmF,vmT,evo,wr,wrC,frame,Nat.reduceAdd,Nat.reduceMul,Nat.reduceSub,beq_self_eq_true,List.cons_append,List.nil_append,beq_dec,vmI,g1,vmU]
  exact ⟨rfl,rfl⟩
end
end Go.Proofs.YtlgbkpaihjnjpaaGreat.ctr
