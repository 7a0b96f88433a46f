/- A region whose operations come in any order does what the interpreter says; so a law that the interpreter runs to true returns true. -/
import Derived.Test.YtlgbkpaihjnjpaaGreatVrC
import Derived.Below
set_option linter.unusedVariables false
set_option linter.unusedSimpArgs false
set_option linter.unusedSectionVars false
set_option linter.constructorNameAsVariable false
set_option linter.defProp false
namespace Go.Vm
theorem tb_eq (n j:Nat):tb n j=n.testBit j:=by
 have h:Nat.land (Nat.shiftRight n j) 1=(n >>> j)%2:=by
  show (n >>> j)&&&1=_
  exact Nat.and_one_is_mod _
 unfold tb
 rw[h,Nat.testBit_eq_decide_div_mod_eq,Nat.shiftRight_eq_div_pow]
 rw[Bool.eq_iff_iff]
 simp
theorem mask_get (bits:Nat):∀ (L:LF) (c j:Nat),L.length=c→j<c→nthO (maskL bits L c) (c-1-j)=if tb bits j=true then nthO L (c-1-j) else none:=by
 intro L
 induction L with
 | nil=>intro c j h hj; simp at h; omega
 | cons x l ih =>
  intro c j h hj
  obtain ⟨c,rfl⟩ : ∃ d,c=d+1:=⟨c-1,by omega⟩
  have e:maskL bits (x::l) (c+1)=cnd (tb bits c) x none::maskL bits l c:=rfl
  rw[e]
  by_cases hc:j=c
  ·subst hc
   rw[show j+1-1-j=0 by omega]
   show cnd (tb bits j) x none=if _ then x else none
   rw[cnd_eq]
  ·rw[show c+1-1-j=(c-1-j)+1 by omega]
   exact ih c j (by simpa using h) (by omega)
theorem sameAI_ok {ρ:Nat→Int} {k:IntKind} {x y:AI} (h:sameAI x y=true) {n:Int} (hx:IR ρ k x n):IR ρ k y n:=by
 cases x <;> cases y <;> simp only[sameAI,Bool.false_eq_true,decide_eq_true_eq,Bool.and_eq_true] at h
 ·subst h; exact hx
 ·obtain ⟨h1,rfl⟩:=h
  have:=sameT_eq h1
  subst this; exact hx
theorem sameAIs_ok {ρ:Nat→Int}:∀ {a b:List AI},sameAIs a b=true→∀ {m:List UInt8},SR ρ a m→SR ρ b m:=by
 intro a
 induction a with
 | nil=>intro b h m hm; cases b with | nil=>exact hm | cons=>cases h
 | cons x a ih =>
  intro b h m hm
  cases b with
  | nil=>cases h
  | cons y b =>
   simp only[sameAIs,Bool.and_eq_true] at h
   cases hm with | cons h1 h2=>exact .cons (sameAI_ok h.1 h1) (ih h.2 h2)
theorem sameV_eq {ρ:Nat→Int} {E:Env} {x y:AV} (h:sameV x y=true) {u:Value} (hx:VR ρ E x u):VR ρ E y u:=by
 cases x <;> cases y <;> simp only[sameV,Bool.false_eq_true,decide_eq_true_eq,Bool.and_eq_true,beq_iff_eq] at h
 case emp.emp=>exact hx
 case bool.bool=>subst h; exact hx
 case int.int =>
  obtain ⟨rfl,h⟩:=h
  cases hx with | int hi=>exact .int (sameAI_ok h hi)
 case str.str=>cases hx with | str hs=>exact .str (sameAIs_ok h hs)
 case nilp.nilp=>exact hx
 case ptr.ptr =>
  obtain ⟨h1,h2⟩:=h
  have:=Nat.eq_of_beq_eq_true h1
  have:=Nat.eq_of_beq_eq_true h2
  subst_vars; exact hx
 case nils.nils=>exact hx
 case sl.sl =>
  obtain ⟨⟨⟨⟨⟨h1,h2⟩,h3⟩,h4⟩,h5⟩,h6⟩:=h
  have:=Nat.eq_of_beq_eq_true h1
  have:=Nat.eq_of_beq_eq_true h2
  have:=Nat.eq_of_beq_eq_true h3
  have:=Nat.eq_of_beq_eq_true h4
  have:=Nat.eq_of_beq_eq_true h6
  subst_vars; exact hx
 case mapr.mapr =>
  have:=Nat.eq_of_beq_eq_true h
  subst_vars; exact hx
 case nilm.nilm=>exact hx
 case nilf.nilf=>exact hx
 case nili.nili=>exact hx
theorem sameV_scalar {x y:AV} (h:sameV x y=true):y.scalar=true:=by
 cases x <;> cases y <;> first | rfl | (simp[sameV] at h)
theorem sameVs_eq {ρ:Nat→Int} {E:Env}:∀ {l m:List AV} {us:List Value},sameVs l m=true→VRs ρ E l us→VRs ρ E m us∧∀ c∈m,c.scalar=true:=by
 intro l
 induction l with
 | nil =>
  intro m us h hx
  cases m with
  | nil=>exact ⟨hx,by simp⟩
  | cons y m=>simp[sameVs] at h
 | cons x l ih =>
  intro m us h hx
  cases m with
  | nil=>simp[sameVs] at h
  | cons y m =>
   simp only[sameVs,Bool.and_eq_true] at h
   cases hx with | cons h1 h2 =>
   obtain ⟨i1,i2⟩:=ih h.2 h2
   refine ⟨.cons (sameV_eq h.1 h1) i1,fun c hc=>?_⟩
   rcases List.mem_cons.1 hc with rfl | hc
   ·exact sameV_scalar h.1
   ·exact i2 c hc
theorem sameA_eq {ρ:Nat→Int} {E:Env} {x y:AV} (h:sameA x y=true) {u:Value} (hx:VR ρ E x u):VR ρ E y u:=by
 unfold sameA at h
 split at h
 ·cases hx with | agg h1 h2 =>
  obtain ⟨i1,i2⟩:=sameVs_eq h h1
  exact .agg i1 i2
 ·exact sameV_eq h hx
theorem chkAt_ok {bd:Bd} {F:LF} {o:VO} {L:LF} {v:AV} {w:WI} {fs:List Fs}:∀ {T:List St} {k:Nat},chkAt bd F o L v w fs k T=true→∀ t s,T[t]?=some s→w.lo≤k+t→k+t≤w.hi →
  ∃ x,readOp bd L F (addR w.bits (k+t) fs s) o=some x∧sameA x v=true:=by
 intro T
 induction T with
 | nil=>intro k _ t s h; simp at h
 | cons s0 T ih =>
  intro k h t s hs h1 h2
  have h':(cnd (Nat.ble w.lo k&&Nat.ble k w.hi) (Option.rec (motive:=fun _=>Bool) false (fun x=>sameA x v) (readOp bd L F (addR w.bits k fs s0) o)) true&&chkAt bd F o L v w fs (k+1) T)=true:=h
  simp only[Bool.and_eq_true] at h'
  obtain ⟨g1,g2⟩:=h'
  cases t with
  | zero =>
   simp at hs; subst hs
   simp only[Nat.add_zero] at h1 h2 ⊢
   have hw:(Nat.ble w.lo k&&Nat.ble k w.hi)=true:=by simp[h1,h2]
   rw[hw] at g1
   change Option.rec (motive:=fun _=>Bool) false (fun x=>sameA x v) (readOp bd L F (addR w.bits k fs s0) o)=true at g1
   cases hr:readOp bd L F (addR w.bits k fs s0) o with
   | none=>rw[hr] at g1; cases g1
   | some x=>rw[hr] at g1; exact ⟨x,rfl,g1⟩
  | succ t =>
   have:=ih g2 t s (by simpa using hs) (by omega) (by omega)
   rw[show k+(t+1)=k+1+t by omega]
   exact this
def DidO (bd:Bd) (call:FuncId→List AV→St→Out) (F:LF) (n0:Nat) (T:List St) (G fs:List Fs) (w:WI) (i k:Nat) (Lm:LF) (v:Option AV) (o:VO):Prop :=
 (cls o=0∧(∀ f∈G,f.i≠i)∧∃ x,pureOp bd Lm F o=some x∧v=some x) ∨
 (cls o=1∧(∀ f∈G,f.i≠i)∧∃ x,v=some x∧∀ k s,T[k]?=some s→w.lo≤k→k≤w.hi→∃ y,readOp bd Lm F (addR w.bits k fs s) o=some y∧∀ (ρ:Nat→Int) (E:Env) (u:Value),VR ρ E y u→VR ρ E x u) ∨
 (cls o=3∧∃ x b,freshOp bd Lm F (n0+w.hi) o=some (x,b)∧v=some x∧(⟨i,n0+w.hi,w.lo,b⟩ : Fs)∈G) ∨
 (cls o=2∧(∀ f∈G,f.i≠i)∧∃ s s',T[k]?=some s∧T[k+1]?=some s'∧((∃ x,loudOp bd call Lm F (addM (k+1) fs s) o = .v x s'∧v=some x)∨(loudOp bd call Lm F (addM (k+1) fs s) o = .u s'∧v=none)))
def Did (bd:Bd) (call:FuncId→List AV→St→Out) (F:LF) (n0:Nat) (T:List St) (G fs:List Fs) (w:WI) (i k:Nat) (Lm:LF) (v:Option AV) (vi:VI):Prop:=match vi with
 | .i o=>DidO bd call F n0 T G fs w i k Lm v o
 | .g j wt o=>(want Lm F j wt=some true∧DidO bd call F n0 T G fs w i k Lm v o) ∨
   (want Lm F j wt=some false∧v=some (.tup [])∧(∀ f∈G,f.i≠i)∧(cls o=2→∃ s,T[k]?=some s∧T[k+1]?=some (addM (k+1) fs s)))
theorem cls_le (o:VO):cls o=0∨cls o=1∨cls o=2∨cls o=3:=by cases o <;> simp[cls]
noncomputable def lc:List VI→Nat→Nat
 | [],_=>0
 | _::_,0=>0
 | v::r,t+1=>(if v.cls=2 then 1 else 0)+lc r t
def Asked (bd:Bd) (F:LF) (T:List St):Pend→Prop
 | .mk o L v w fs=>chkAt bd F o L v w fs 0 T=true
section
variable {bd : Bd} {call : FuncId → List AV → St → Out} {F : LF} {n0 : Nat}
theorem drwF_nil {c:Nat} {ws:List WI} {L:LF} {k:Nat} {s:St} {ss:List St} {fs:List Fs} {ps:List Pend}:drwF bd call F n0 [] ws c L k s ss fs ps=match chkAll bd F (List.reverse (s::ss)) ps with
  | true => .ok L (addE k fs s)
  | false => .bad 70 []:=by cases ws <;> rfl
theorem drwF_cons {i:VI} {r:List VI} {w:WI} {c:Nat} {ws:List WI} {L:LF} {k:Nat} {s:St} {ss:List St} {fs:List Fs} {ps:List Pend}:drwF bd call F n0 (i::r) (w::ws) c L k s ss fs ps =
  match drwI bd call F n0 i w c (maskL w.bits L c) k s ss fs ps with
  | .ok x k' s' ss' fs' ps'=>drwF bd call F n0 r ws (c+1) (x::L) k' s' ss' fs' ps'
  | .bad n t => .bad n (c::t):=rfl
theorem chkAll_ok {T:List St}:∀ {ps:List Pend},chkAll bd F T ps=true→∀ p∈ps,Asked bd F T p:=by
 intro ps
 induction ps with
 | nil=>intro _ p hp; cases hp
 | cons q ps ih =>
  intro h p hp
  cases q with | mk o L v w fs =>
  have h':(chkAt bd F o L v w fs 0 T&&chkAll bd F T ps)=true:=h
  simp only[Bool.and_eq_true] at h'
  rcases List.mem_cons.1 hp with rfl | hp
  ·exact h'.1
  ·exact ih h'.2 p hp
structure Went (bd:Bd) (call:FuncId→List AV→St→Out) (F:LF) (n0:Nat) (w:WI) (c k:Nat) (Lm:LF) (s:St) (ss:List St) (fs:List Fs) (ps:List Pend) (vi:VI) (x:Option AV) (k':Nat) (s':St) (ss':List St) (fs':List Fs) (ps':List Pend):Prop where
 stage:(vi.cls≠2∧k'=k∧s'=s∧ss'=ss)∨(vi.cls=2∧k'=k+1∧ss'=s::ss)
 fresh:fs'=fs∨∃ b,fs'=(⟨c,n0+w.hi,w.lo,b⟩ : Fs)::fs
 pend:∀ p∈ps,p∈ps'
 did:∀ (T:List St) (G:List Fs) (Tx:List St),T=ss'.reverse++s'::Tx→(∀ f∈fs',f∈G)→(∀ f∈G,f∈fs'∨c+1≤f.i)→(∀ f∈fs,f.i<c)→ss.length=k→(∀ p∈ps',Asked bd F T p)→Did bd call F n0 T G fs w c k Lm x vi
theorem drwO_ok {o:VO} {w:WI} {c k:Nat} {Lm:LF} {s:St} {ss:List St} {fs:List Fs} {ps:List Pend} {x:Option AV} {k':Nat} {s':St} {ss':List St} {fs':List Fs} {ps':List Pend}
  (h:drwO bd call F n0 o w c Lm k s ss fs ps = .ok x k' s' ss' fs' ps') :
  ((cls o≠2∧k'=k∧s'=s∧ss'=ss)∨(cls o=2∧k'=k+1∧ss'=s::ss))∧(fs'=fs∨∃ b,fs'=(⟨c,n0+w.hi,w.lo,b⟩ : Fs)::fs)∧(∀ p∈ps,p∈ps') ∧
  ∀ (T:List St) (G:List Fs) (Tx:List St),T=ss'.reverse++s'::Tx→(∀ f∈fs',f∈G)→(∀ f∈G,f∈fs'∨c+1≤f.i)→(∀ f∈fs,f.i<c)→ss.length=k→(∀ p∈ps',Asked bd F T p)→DidO bd call F n0 T G fs w c k Lm x o:=by
 have noG:∀ {G:List Fs},fs'=fs→(∀ f∈G,f∈fs'∨c+1≤f.i)→(∀ f∈fs,f.i<c)→∀ f∈G,f.i≠c:=by
  intro G e h1 h2 f hf
  rcases h1 f hf with h | h
  ·rw[e] at h; have:=h2 f h; omega
  ·omega
 unfold drwO at h
 split at h
 ·rename_i hc
  split at h
  ·rename_i y hp
   cases h
   exact ⟨.inl ⟨by omega,rfl,rfl,rfl⟩,.inl rfl,fun _ h=>h,fun T G Tx _ _ h2 h3 _ _ => .inl ⟨hc,noG rfl h2 h3,y,hp,rfl⟩⟩
  ·cases h
 ·rename_i hc
  split at h
  ·rename_i y hp
   rw[cnd_eq] at h
   split at h
   ·rename_i hlh
    have hlh':=Nat.eq_of_beq_eq_true hlh
    rw[cnd_eq] at h
    split at h
    ·rename_i hlk
     have hlk':=Nat.eq_of_beq_eq_true hlk
     cases h
     refine ⟨.inl ⟨by omega,rfl,rfl,rfl⟩,.inl rfl,fun _ h=>h,fun T G Tx hT _ h2 h3 hk _ => .inr (.inl ⟨hc,noG rfl h2 h3,y,rfl,fun k1 s1 hs1 g1 g2=>?_⟩)⟩
     have:k1=k:=by omega
     subst this
     rw[hT,List.getElem?_append_right (by simp; omega)] at hs1
     simp[hk] at hs1
     subst hs1
     exact ⟨y,hp,fun _ _ _ h=>h⟩
    ·cases h
   ·cases h
    refine ⟨.inl ⟨by omega,rfl,rfl,rfl⟩,.inl rfl,fun p hp=>List.mem_cons_of_mem _ hp,fun T G Tx hT _ h2 h3 hk hA => .inr (.inl ⟨hc,noG rfl h2 h3,y,rfl,fun k1 s1 hs1 g1 g2=>?_⟩)⟩
    have:=hA _ List.mem_cons_self
    obtain ⟨z,z1,z2⟩:=chkAt_ok this k1 s1 hs1 (by omega) (by omega)
    rw[Nat.zero_add] at z1
    exact ⟨z,z1,fun _ _ _ h=>sameA_eq z2 h⟩
  ·cases h
 ·rename_i hc
  split at h
  ·rename_i y b hp
   cases h
   exact ⟨.inl ⟨by omega,rfl,rfl,rfl⟩,.inr ⟨b,rfl⟩,fun _ h=>h,fun T G Tx _ h1 h2 h3 _ _ => .inr (.inr (.inl ⟨hc,y,b,hp,rfl,h1 _ List.mem_cons_self⟩))⟩
  ·cases h
 ·rename_i h0 h1 h3
  have hc:cls o=2:=by rcases cls_le o with h | h | h | h <;> first | exact h | exact absurd h ‹_›
  split at h
  ·rename_i y s2 hp
   cases h
   refine ⟨.inr ⟨hc,rfl,rfl⟩,.inl rfl,fun _ h=>h,fun T G Tx hT _ h2 h3 hk _ => .inr (.inr (.inr ⟨hc,noG rfl h2 h3,s,s',?_,?_,.inl ⟨y,hp,rfl⟩⟩))⟩
   ·rw[hT]; simp[←hk]
   ·rw[hT]; simp[←hk]
  ·rename_i s2 hp
   cases h
   refine ⟨.inr ⟨hc,rfl,rfl⟩,.inl rfl,fun _ h=>h,fun T G Tx hT _ h2 h3 hk _ => .inr (.inr (.inr ⟨hc,noG rfl h2 h3,s,s',?_,?_,.inr ⟨hp,rfl⟩⟩))⟩
   ·rw[hT]; simp[←hk]
   ·rw[hT]; simp[←hk]
  ·cases h
theorem drwI_ok {vi:VI} {w:WI} {c k:Nat} {Lm:LF} {s:St} {ss:List St} {fs:List Fs} {ps:List Pend} {x:Option AV} {k':Nat} {s':St} {ss':List St} {fs':List Fs} {ps':List Pend}
  (h:drwI bd call F n0 vi w c Lm k s ss fs ps = .ok x k' s' ss' fs' ps'):Went bd call F n0 w c k Lm s ss fs ps vi x k' s' ss' fs' ps':=by
 cases vi with
 | i o =>
  obtain ⟨h1,h2,h3,h4⟩:=drwO_ok (show drwO bd call F n0 o w c Lm k s ss fs ps=_ from h)
  exact ⟨h1,h2,h3,h4⟩
 | g j wt o =>
  have h':(match want Lm F j wt with
   | some true=>drwO bd call F n0 o w c Lm k s ss fs ps
   | some false=>drwU o k s ss fs ps
   | none => .bad 75 []) = .ok x k' s' ss' fs' ps':=h
  split at h'
  ·rename_i hw
   obtain ⟨h1,h2,h3,h4⟩:=drwO_ok h'
   exact ⟨h1,h2,h3,fun T G Tx a b c d e f => .inl ⟨hw,h4 T G Tx a b c d e f⟩⟩
  ·rename_i hw
   unfold drwU at h'
   have noG:∀ {G:List Fs},(∀ f∈G,f∈fs∨c+1≤f.i)→(∀ f∈fs,f.i<c)→∀ f∈G,f.i≠c:=by
    intro G h1 h2 f hf
    rcases h1 f hf with h | h
    ·have:=h2 f h; omega
    ·omega
   split at h'
   ·rename_i hc
    cases h'
    refine ⟨.inr ⟨hc,rfl,rfl⟩,.inl rfl,fun _ h=>h,fun T G Tx hT _ h2 h3 hk _ => .inr ⟨hw,rfl,noG h2 h3,fun _=>⟨s,?_,?_⟩⟩⟩
    ·rw[hT]; simp[←hk]
    ·rw[hT]; simp[←hk]
   ·rename_i hc
    cases h'
    exact ⟨.inl ⟨hc,rfl,rfl,rfl⟩,.inl rfl,fun _ h=>h,fun T G Tx hT _ h2 h3 hk _ => .inr ⟨hw,rfl,noG h2 h3,fun h=>absurd h hc⟩⟩
  ·cases h'
theorem drwF_ok:∀ (r:List VI) (ws:List WI) (c:Nat) (L:LF) (k:Nat) (s:St) (ss:List St) (fs:List Fs) (ps:List Pend) (L1:LF) (s1:St),drwF bd call F n0 r ws c L k s ss fs ps = .ok L1 s1→L.length=c→ss.length=k →
  (∀ f∈fs,f.i<c)→(∀ f∈fs,∀ g∈fs,f.i=g.i→f=g) →
  ∃ (Lx:LF) (Tx T:List St) (G:List Fs) (sl:St) (m:Nat),L1=Lx++L∧Lx.length=r.length∧T=ss.reverse++s::Tx∧m=k+lc r r.length∧T[m]?=some sl∧s1=addE m G sl ∧
   (∀ f∈fs,f∈G)∧(∀ f∈G,f∈fs∨(c≤f.i∧f.i<c+r.length))∧(∀ f∈G,∀ g∈G,f.i=g.i→f=g)∧(∀ p∈ps,Asked bd F T p) ∧
   ∀ t vi,r[t]?=some vi→∃ w fs',ws[t]?=some w∧(∀ f,f∈fs'↔f∈G∧f.i<c+t)∧Did bd call F n0 T G fs' w (c+t) (k+lc r t) (maskL w.bits (L1.drop (r.length-t)) (c+t)) (nthO L1 (r.length-1-t)) vi:=by
 intro r
 induction r with
 | nil =>
  intro ws c L k s ss fs ps L1 s1 h hL hk hf hu
  rw[drwF_nil] at h
  split at h
  ·rename_i hc
   cases h
   refine ⟨[],[],ss.reverse++[s],fs,s,k,rfl,rfl,rfl,rfl,by simp[←hk],rfl,fun _ h=>h,fun _ h => .inl h,hu,?_,fun t vi ht=>by simp at ht⟩
   intro p hp
   have:=chkAll_ok hc p hp
   simpa using this
  ·cases h
 | cons vi r ih =>
  intro ws c L k s ss fs ps L1 s1 h hL hk hf hu
  cases ws with
  | nil=>cases h
  | cons w ws =>
  rw[drwF_cons] at h
  split at h
  ·rename_i x k' s' ss' fs' ps' hd
   have hw:=drwI_ok hd
   have hk':ss'.length=k':=by
    rcases hw.stage with ⟨_,rfl,rfl,rfl⟩ | ⟨_,rfl,rfl⟩
    ·exact hk
    ·simp[hk]
   have hf':∀ f∈fs',f.i<c+1:=by
    intro f hq
    rcases hw.fresh with rfl | ⟨b,rfl⟩
    ·have:=hf f hq; omega
    ·rcases List.mem_cons.1 hq with rfl | hq
     ·exact Nat.lt_succ_self _
     ·have:=hf f hq; omega
   have hu':∀ f∈fs',∀ g∈fs',f.i=g.i→f=g:=by
    rcases hw.fresh with rfl | ⟨b,rfl⟩
    ·exact hu
    ·intro f h1 g h2 e
     rcases List.mem_cons.1 h1 with rfl | h1 <;> rcases List.mem_cons.1 h2 with rfl | h2
     ·rfl
     ·have:=hf g h2; dsimp only at e; omega
     ·have:=hf f h1; dsimp only at e; omega
     ·exact hu f h1 g h2 e
   obtain ⟨Lx,Tx,T,G,sl,m,e1,e2,e3,e4,e5,e6,e7,e8,e9,e10,e11⟩:=ih ws (c+1) (x::L) k' s' ss' fs' ps' L1 s1 h (by simp[hL]) hk' hf' hu'
   have hfs:∀ f∈fs,f∈fs':=by
    intro f hq
    rcases hw.fresh with rfl | ⟨b,rfl⟩
    ·exact hq
    ·exact List.mem_cons_of_mem _ hq
   have hfs2:∀ f∈fs',f∈fs∨f.i=c:=by
    intro f hq
    rcases hw.fresh with rfl | ⟨b,rfl⟩
    ·exact .inl hq
    ·rcases List.mem_cons.1 hq with rfl | hq
     ·exact .inr rfl
     ·exact .inl hq
   have hstage:k'=k+(if vi.cls=2 then 1 else 0):=by
    rcases hw.stage with ⟨hc,rfl,rfl,rfl⟩ | ⟨hc,rfl,rfl⟩
    ·rw[if_neg hc]; rfl
    ·rw[if_pos hc]
   have hTx:∃ Ty,T=ss.reverse++s::Ty:=by
    rcases hw.stage with ⟨hc,rfl,rfl,rfl⟩ | ⟨hc,rfl,rfl⟩
    ·exact ⟨Tx,e3⟩
    ·exact ⟨s'::Tx,by rw[e3]; simp⟩
   obtain ⟨Ty,hTy⟩:=hTx
   refine ⟨Lx++[x],Ty,T,G,sl,m,by rw[e1]; simp,by simp[e2],hTy,?_,e5,e6,fun f h=>e7 f (hfs f h),fun f h=>?_,e9,fun p hp=>e10 p (hw.pend p hp),?_⟩
   ·rw[e4,hstage]; simp only[List.length_cons,lc]; omega
   ·rcases e8 f h with h | h
    ·rcases hfs2 f h with h | h
     ·exact .inl h
     ·exact .inr (by simp only[List.length_cons]; omega)
    ·exact .inr (by simp only[List.length_cons]; omega)
   ·intro t vi' ht
    cases t with
    | zero =>
     simp at ht; subst ht
     refine ⟨w,fs,rfl,fun f=>?_,?_⟩
     ·constructor
      ·intro h; exact ⟨e7 f (hfs f h),hf f h⟩
      ·rintro ⟨h,hlt⟩
       rcases e8 f h with h | h
       ·rcases hfs2 f h with h | h
        ·exact h
        ·omega
       ·omega
     ·have hdrop:L1.drop ((vi::r).length-0)=L:=by
       rw[e1]; simp[←e2]
      have hnth:nthO L1 ((vi::r).length-1-0)=x:=by
       rw[e1,nthO_eq]; simp[←e2]
      rw[hdrop,hnth]
      exact hw.did T G Tx e3 e7 (fun f h=>(e8 f h).imp_right And.left) hf hk e10
    | succ t =>
     obtain ⟨w',fs'',g1,g2,g3⟩:=e11 t vi' (by simpa using ht)
     refine ⟨w',fs'',by simpa using g1,fun f=>?_,?_⟩
     ·rw[g2]; constructor <;> (rintro ⟨a,b⟩; exact ⟨a,by omega⟩)
     ·have a1:c+(t+1)=c+1+t:=by omega
      have a2:k+lc (vi::r) (t+1)=k'+lc r t:=by rw[hstage]; simp only[lc]; omega
      have a3:(vi::r).length-(t+1)=r.length-t:=by simp
      have a4:(vi::r).length-1-(t+1)=r.length-1-t:=by simp; omega
      rw[a1,a2,a3,a4]
      exact g3
  ·cases h
end
theorem cntF_succ (p:Nat→Bool) (n:Nat):cntF p (n+1)=cntF p n+(if p n=true then 1 else 0):=by
 unfold cntF
 rw[List.range_succ,List.filter_append,List.length_append]
 cases h:p n <;> simp[h]
theorem cntF_mono {p q:Nat→Bool}:∀ {n:Nat},(∀ i,i<n→p i=true→q i=true)→cntF p n≤cntF q n:=by
 intro n
 induction n with
 | zero=>intro _; exact Nat.le_refl _
 | succ n ih =>
  intro h
  rw[cntF_succ,cntF_succ]
  have:=ih fun i hi=>h i (by omega)
  have hn:=h n (by omega)
  by_cases hp:p n=true
  ·rw[if_pos hp,if_pos (hn hp)]; omega
  ·rw[if_neg hp]; omega
theorem cntF_lt {p q:Nat→Bool}:∀ {n:Nat},(∀ i,i<n→p i=true→q i=true)→∀ j,j<n→q j=true→p j=false→cntF p n<cntF q n:=by
 intro n
 induction n with
 | zero=>intro _ j hj; omega
 | succ n ih =>
  intro h j hj hq hp
  rw[cntF_succ,cntF_succ]
  by_cases hjn:j=n
  ·subst hjn
   have:=cntF_mono fun i hi=>h i (Nat.lt_succ_of_lt hi)
   rw[hp,hq]; simp; omega
  ·have:=ih (fun i hi=>h i (by omega)) j (by omega) hq hp
   have hn:=h n (by omega)
   by_cases hp:p n=true
   ·rw[if_pos hp,if_pos (hn hp)]; omega
   ·rw[if_neg hp]; omega
theorem cntF_cut {p : Nat → Bool} {n m : Nat} (h : m ≤ n) : cntF (fun i => p i && Nat.blt i m) n = cntF p m := by
  induction n with
  | zero => have : m = 0 := by omega
            subst this; rfl
  | succ n ih =>
    by_cases hm : m = n + 1
    · subst hm
      apply Nat.le_antisymm
      · exact cntF_mono fun i hi hp => by simp at hp; exact hp.1
      · exact cntF_mono fun i hi hp => by simp [hp, hi]
    · rw [cntF_succ, ih (by omega), if_neg (by simp; omega)]; rfl
theorem cntF_le_of_lt {p:Nat→Bool} {i j:Nat} (h:i≤j):cntF p i≤cntF p j:=by
 rw[←cntF_cut h]
 exact cntF_mono fun k _ hp=>by simp at hp; exact hp.1
theorem cntF_strict {p:Nat→Bool} {i j:Nat} (h:i<j) (hp:p i=true):cntF p i<cntF p j:=by
 have:=cntF_le_of_lt (p:=p) (show i+1≤j from h)
 rw[cntF_succ,if_pos hp] at this
 omega
theorem lc_succ:∀ (r:List VI) (t:Nat),lc r (t+1)=lc r t+(match r[t]? with | some v=>if v.cls=2 then 1 else 0 | none=>0):=by
 intro r
 induction r with
 | nil=>intro t; simp[lc]
 | cons v r ih =>
  intro t
  cases t with
  | zero=>simp[lc]; cases r <;> simp[lc]
  | succ t =>
   have:=ih t
   simp only[lc,List.getElem?_cons_succ]
   omega
theorem lc_eq (vs:List VI):∀ t,lc vs t=cntF (isLoud (vs.map VI.cls)) t:=by
 intro t
 induction t with
 | zero=>cases vs <;> rfl
 | succ t ih =>
  rw[lc_succ,cntF_succ,ih]
  congr 1
  unfold isLoud
  rw[List.getD_eq_getElem?_getD,List.getElem?_map]
  cases vs[t]? with
  | none=>simp
  | some v=>by_cases h:v.cls=2 <;> simp[h]
structure Fix (ops:Array Oper) (cl B:List Nat):Prop where
 aft:∀ j oj,ops[j]?=some oj→∀ e∈oj.after,Region.binds .any e=true→e.on<j
 low:∀ j,j<ops.size→∀ i,bitAt B j i=true→i<j
 clos:∀ j oj,ops[j]?=some oj→∀ i,bitAt B j i=true→∃ e∈oj.after,Region.binds .any e=true∧(e.on=i∨bitAt B e.on i=true)
 fwd:∀ i j oi oj,i<j→ops[i]?=some oi→ops[j]?=some oj→∀ d,oi.dst=some d→(d∈oj.looksAt ops→bitAt B j i=true)∧oj.dst≠some d
 bwd:∀ i j oi oj,i<j→ops[i]?=some oi→ops[j]?=some oj→∀ d,oj.dst=some d→d∈oi.looksAt ops→bitAt B j i=true
 loud:∀ i j,i<j→j<ops.size→isLoud cl i=true→isLoud cl j=true→bitAt B j i=true
 mst:∀ j e,j<ops.size→e<ops.size→isFresh cl j=true→isLoud cl e=true→(bitAt B e j=true↔(winOf cl B j).lo≤cntF (isLoud cl) e+1)
theorem allN_ok {n:Nat} {p:Nat→Bool} (h:allN n p=true):∀ i,i<n→p i=true:=by
 intro i hi
 unfold allN at h
 rw[List.all_eq_true] at h
 exact h i (List.mem_range.2 hi)
theorem opAt_ok {ops:List Oper} {j:Nat} {p:Oper→Bool} (h:opAt ops j p=true):∃ o,ops[j]?=some o∧p o=true:=by
 unfold opAt at h
 split at h
 ·rename_i o ho; exact ⟨o,ho,h⟩
 ·cases h
theorem fix_ok {ops:Array Oper} {cl B:List Nat} (h:drawOk ops.toList cl B=true):Fix ops cl B:=by
 have hsz:ops.toList.length=ops.size:=by simp
 have key:∀ j oj,ops[j]?=some oj→((oj.after.toList.all fun e=>!Region.binds .any e||Nat.blt e.on j) &&
  Nat.blt (B.getD j 0) (2^j) &&
  (allN j fun i=>!bitAt B j i||oj.after.toList.any fun e=>Region.binds .any e&&(Nat.beq e.on i||bitAt B e.on i)) &&
  (allN j fun i=>opAt ops.toList i fun oi=>clear2 ops.toList B i j oi oj&&(!(isLoud cl i&&isLoud cl j)||bitAt B j i)) &&
  (allN ops.toList.length fun e=>!(isFresh cl j&&isLoud cl e)||(bitAt B e j==Nat.ble (winOf cl B j).lo (cntF (isLoud cl) e+1))))=true:=by
  intro j oj hj
  have hlt:=lt_of_get hj
  obtain ⟨o,ho,hp⟩:=opAt_ok (allN_ok h j (by simpa using hlt))
  have:o=oj:=by
   have e:ops[j]?=some o:=by simpa using ho
   rw[hj] at e; cases e; rfl
  subst this
  exact hp
 have get:∀ j,j<ops.size→∃ oj,ops[j]?=some oj:=fun j hj=>⟨ops[j],Array.getElem?_eq_getElem hj⟩
 have low:∀ j,j<ops.size→∀ i,bitAt B j i=true→i<j:=by
  intro j hj i hb
  obtain ⟨oj,ho⟩:=get j hj
  have:=key j oj ho
  simp only[Bool.and_eq_true] at this
  have hl:=blt_t this.1.1.1.2
  unfold bitAt at hb
  rw[tb_eq] at hb
  rcases Nat.lt_or_ge i j with h' | h'
  ·exact h'
  ·have:2^j≤2^i:=Nat.pow_le_pow_right (by omega) h'
   rw[Nat.testBit_lt_two_pow (by omega)] at hb
   cases hb
 refine ⟨?_,low,?_,?_,?_,?_,?_⟩
 ·intro j oj hj e he hb
  have:=key j oj hj
  simp only[Bool.and_eq_true,List.all_eq_true] at this
  have:=this.1.1.1.1 e (by simpa using he)
  rw[hb] at this
  simp at this
  exact this
 ·intro j oj hj i hb
  have:=key j oj hj
  simp only[Bool.and_eq_true] at this
  have:=allN_ok this.1.1.2 i (low j (lt_of_get hj) i hb)
  simp only[hb,Bool.not_true,Bool.false_or,List.any_eq_true,Bool.and_eq_true,Bool.or_eq_true,Array.mem_toList_iff] at this
  obtain ⟨e,e1,e2,e3⟩:=this
  exact ⟨e,e1,e2,e3.imp Nat.eq_of_beq_eq_true id⟩
 ·intro i j oi oj hij hi hj d hd
  have:=key j oj hj
  simp only[Bool.and_eq_true] at this
  obtain ⟨o,ho,hp⟩:=opAt_ok (allN_ok this.1.2 i hij)
  have:o=oi:=by
   have e:ops[i]?=some o:=by simpa using ho
   rw[hi] at e; cases e; rfl
  subst this
  simp only[Bool.and_eq_true,clear2,hd] at hp
  have hp1:=hp.1.1
  simp only[Bool.or_eq_true,Bool.not_eq_true',List.contains_iff_mem,decide_eq_false_iff_not] at hp1
  refine ⟨fun hm=>?_,fun he=>?_⟩
  ·rcases hp1.1 with h | h
   ·rw[←Bool.not_eq_true,List.contains_iff_mem] at h
    exact absurd hm (by simpa using h)
   ·exact h
  ·have:=hp1.2
   rw[he] at this; simp at this
 ·intro i j oi oj hij hi hj d hd hm
  have:=key j oj hj
  simp only[Bool.and_eq_true] at this
  obtain ⟨o,ho,hp⟩:=opAt_ok (allN_ok this.1.2 i hij)
  have:o=oi:=by
   have e:ops[i]?=some o:=by simpa using ho
   rw[hi] at e; cases e; rfl
  subst this
  simp only[Bool.and_eq_true,clear2,hd] at hp
  have hp1:=hp.1.2
  simp only[Bool.or_eq_true,Bool.not_eq_true'] at hp1
  rcases hp1 with h | h
  ·rw[←Bool.not_eq_true,List.contains_iff_mem] at h
   exact absurd hm (by simpa using h)
  ·exact h
 ·intro i j hij hj hi hl
  obtain ⟨oj,ho⟩:=get j hj
  have:=key j oj ho
  simp only[Bool.and_eq_true] at this
  obtain ⟨o,_,hp⟩:=opAt_ok (allN_ok this.1.2 i hij)
  simp only[Bool.and_eq_true,hi,hl] at hp
  simpa using hp.2
 ·intro j e hj he hf hl
  obtain ⟨oj,ho⟩:=get j hj
  have:=key j oj ho
  simp only[Bool.and_eq_true] at this
  have:=allN_ok this.2 e (by simpa using he)
  simp only[hf,hl,Bool.and_self,Bool.not_true,Bool.false_or,beq_iff_eq] at this
  rw[this]
  simp
def AddsOk (g:List Fs→St→St) (c:Fs→Prop):Prop:=∀ (fs:List Fs) (s:St),
  (g fs s).m.n=s.m.n∧(∀ b x,(g fs s).m.g b=some x→s.m.g b=some x∨∃ f∈fs,c f∧f.id=b∧f.b=x)∧(∀ b,(∀ f∈fs,c f→f.id≠b)→(g fs s).m.g b=s.m.g b) ∧
  (∀ f∈fs,c f→(∀ f'∈fs,f'.id=f.id→f'=f)→(g fs s).m.g f.id=some f.b)
theorem adds_spec {g:List Fs→St→St} {c:Fs→Prop} [DecidablePred c] (h0:∀ s,g [] s=s) (h1:∀ f r s,g (f::r) s=if c f then g r (s.put f.id (some f.b)) else g r s):AddsOk g c:=by
 intro fs
 induction fs with
 | nil=>intro s; rw[h0]; exact ⟨rfl,fun b x h => .inl h,fun b _=>rfl,fun f h=>by cases h⟩
 | cons f0 r ih =>
  intro s
  rw[h1]
  by_cases hc:c f0
  ·rw[if_pos hc]
   obtain ⟨i1,i2,i3,i4⟩:=ih (s.put f0.id (some f0.b))
   refine ⟨i1,fun b x hb=>?_,fun b hb=>?_,fun f hf hcf hu=>?_⟩
   ·rcases i2 b x hb with h | ⟨f,f1,f2,f3,f4⟩
    ·rw[St.m_put] at h
     split at h
     ·rename_i e; cases h; exact .inr ⟨f0,List.mem_cons_self,hc,e.symm,rfl⟩
     ·exact .inl h
    ·exact .inr ⟨f,List.mem_cons_of_mem _ f1,f2,f3,f4⟩
   ·rw[i3 b fun f hf=>hb f (List.mem_cons_of_mem _ hf),St.m_put,if_neg]
    intro e; exact hb f0 List.mem_cons_self hc e.symm
   ·by_cases hfr:f∈r
    ·exact i4 f hfr hcf fun f' hf'=>hu f' (List.mem_cons_of_mem _ hf')
    ·have:f=f0:=by
      rcases List.mem_cons.1 hf with h | h
      ·exact h
      ·exact absurd h hfr
     subst this
     rw[i3 f.id,St.m_put,if_pos rfl]
     intro f' hf' _ e
     have:=hu f' (List.mem_cons_of_mem _ hf') e
     subst this
     exact hfr hf'
  ·rw[if_neg hc]
   obtain ⟨i1,i2,i3,i4⟩:=ih s
   refine ⟨i1,fun b x hb=>?_,fun b hb=>?_,fun f hf hcf hu=>?_⟩
   ·rcases i2 b x hb with h | ⟨f,f1,f2,f3,f4⟩
    ·exact .inl h
    ·exact .inr ⟨f,List.mem_cons_of_mem _ f1,f2,f3,f4⟩
   ·exact i3 b fun f hf=>hb f (List.mem_cons_of_mem _ hf)
   ·rcases List.mem_cons.1 hf with h | h
    ·subst h; exact absurd hcf hc
    ·exact i4 f h hcf fun f' hf'=>hu f' (List.mem_cons_of_mem _ hf')
theorem addM_spec (m:Nat):AddsOk (addM m) (fun f=>f.mst=m):=adds_spec (g:=addM m) (c:=fun f=>f.mst=m) (fun _=>rfl) (fun f r s=>by
 show cnd (Nat.beq f.mst m) _ _=_
 rw[cnd_eq]
 by_cases h:f.mst=m
 ·subst h; simp
 ·rw[beq_f h,if_neg h]; simp)
theorem addR_spec (bits k:Nat):AddsOk (addR bits k) (fun f=>tb bits f.i=true∧k<f.mst):=adds_spec (g:=addR bits k) (c:=fun f=>tb bits f.i=true∧k<f.mst) (fun _=>rfl) (fun f r s=>by
 show cnd (tb bits f.i&&Nat.blt k f.mst) _ _=_
 rw[cnd_eq]
 by_cases h:tb bits f.i=true∧k<f.mst
 ·rw[if_pos h,if_pos (by simp[h])]
 ·rw[if_neg h,if_neg (by simpa using h)])
theorem addE_spec (k:Nat):AddsOk (addE k) (fun f=>k<f.mst):=adds_spec (g:=addE k) (c:=fun f=>k<f.mst) (fun _=>rfl) (fun f r s=>by
 show cnd (Nat.blt k f.mst) _ _=_
 rw[cnd_eq]
 by_cases h:k<f.mst
 ·rw[if_pos h,if_pos (by simp[h])]
 ·rw[if_neg h,if_neg (by simpa using h)])
noncomputable def ceG:List Oper→Nat→CE→Nat→CE
 | [],_,C,_=>C
 | _::_,_,C,0=>C
 | o::r,cur,C,j+1=>ceG r (cur+1) (pushE cur C o.dst) j
theorem coIs_get {P:Program} {vars:List Nat} {nt:Nat} {ops:Array Oper}:∀ (l:List Oper) (cur:Nat) (C:CE) (j:Nat),(coIs P vars nt false ops l cur C)[j]?=(l[j]?).map fun o=>coI P vars nt ops (cur+j) (ceG l cur C j) o:=by
 intro l
 induction l with
 | nil=>intro cur C j; simp[coIs]
 | cons o l ih =>
  intro cur C j
  simp only[coIs,Bool.false_eq_true,if_false]
  cases j with
  | zero=>simp[ceG]
  | succ j=>simp only[List.getElem?_cons_succ,ih,ceG]; rw[show cur+1+j=cur+(j+1) by omega]
theorem coIs_len {P:Program} {vars:List Nat} {nt:Nat} {ops:Array Oper}:∀ (l:List Oper) (cur:Nat) (C:CE),(coIs P vars nt false ops l cur C).length=l.length:=by
 intro l
 induction l with
 | nil=>intro cur C; simp[coIs]
 | cons o l ih=>intro cur C; simp only[coIs,Bool.false_eq_true,if_false,List.length_cons,ih]
theorem endE_get {vars:List Nat} {nt:Nat}:∀ (l:List Oper) (cur:Nat) (C:CE),endE vars nt false l cur C=(cur+l.length,ceG l cur C l.length):=by
 intro l
 induction l with
 | nil=>intro cur C; simp[endE,ceG]
 | cons o l ih =>
  intro cur C
  simp only[endE,Bool.false_eq_true,if_false,ih,List.length_cons,ceG]
  rw[show cur+1+l.length=cur+(l.length+1) by omega]
theorem ceG_look:∀ (l:List Oper) (cur:Nat) (C:CE) (j k:Nat),j≤l.length→(∃ i o,i<j∧l[i]?=some o∧o.dst=some k∧lookE k (ceG l cur C j)=some (.p (cur+i))) ∨
  ((∀ i o,i<j→l[i]?=some o→o.dst≠some k)∧lookE k (ceG l cur C j)=lookE k C):=by
 intro l
 induction l with
 | nil=>intro cur C j k h; exact .inr ⟨fun i o _ h=>by simp at h,rfl⟩
 | cons o l ih =>
  intro cur C j k h
  cases j with
  | zero=>exact .inr ⟨fun i o h=>by omega,rfl⟩
  | succ j =>
   simp only[ceG]
   rcases ih (cur+1) (pushE cur C o.dst) j k (by simpa using h) with ⟨i,o',h1,h2,h3,h4⟩ | ⟨h1,h2⟩
   ·exact .inl ⟨i+1,o',by omega,by simpa using h2,h3,by rw[h4]; congr 2; omega⟩
   ·rw[lookE_push] at h2
    by_cases hd:o.dst=some k
    ·rw[if_pos hd] at h2
     exact .inl ⟨0,o,by omega,rfl,hd,h2⟩
    ·rw[if_neg hd] at h2
     refine .inr ⟨fun i o' hi ho=>?_,h2⟩
     cases i with
     | zero=>simp at ho; subst ho; exact hd
     | succ i=>exact h1 i o' (by omega) (by simpa using ho)
noncomputable def vsOf (P:Program) (vars:List Nat) (nt:Nat) (ops:Array Oper):List VI:=coIs P vars nt false ops ops.toList 0 []
noncomputable def clOf (P:Program) (vars:List Nat) (nt:Nat) (ops:Array Oper):List Nat:=(vsOf P vars nt ops).map VI.cls
section
variable {ρ : Nat → Int} {bd : Bd} (hbd : BdOk ρ bd) {P : Program} {call : FuncId → List AV → St → Out} (hcall : CallsOk ρ P call) {vars : List Nat} {F : LF} {nt : Nat} {ops : Array Oper} {n0 : Nat} {T : List St} {G : List Fs} {L1 : LF}
structure Reg (bd:Bd) (call:FuncId→List AV→St→Out) (F:LF) (P:Program) (vars:List Nat) (nt:Nat) (ops:Array Oper) (n0:Nat) (T:List St) (G:List Fs) (L1:LF):Prop where
 fx:Fix ops (clOf P vars nt ops) (bitsOf ops)
 did:∀ i vi,(vsOf P vars nt ops)[i]?=some vi→∃ fs:List Fs,(∀ f,f∈fs↔f∈G∧f.i<i) ∧
  Did bd call F n0 T G fs (winOf (clOf P vars nt ops) (bitsOf ops) i) i (cntF (isLoud (clOf P vars nt ops)) i) (maskL ((bitsOf ops).getD i 0) (L1.drop (ops.size-i)) i) (nthO L1 (ops.size-1-i)) vi
 gu:∀ f∈G,∀ g∈G,f.i=g.i→f=g
 gl:∀ f∈G,f.i<ops.size
 len:L1.length=ops.size
theorem vs_get {i:Nat} {o:Oper} (ho:ops[i]?=some o):(vsOf P vars nt ops)[i]?=some (coI P vars nt ops i (ceG ops.toList 0 [] i) o):=by
 unfold vsOf
 rw[coIs_get]
 have:ops.toList[i]?=some o:=by simpa using ho
 rw[this]; simp
theorem cl_get {i:Nat} {vi:VI} (h:(vsOf P vars nt ops)[i]?=some vi):(clOf P vars nt ops).getD i 0=vi.cls:=by
 unfold clOf
 rw[List.getD_eq_getElem?_getD,List.getElem?_map,h]; rfl
theorem winOf_bits (c b:List Nat) (i:Nat):(winOf c b i).bits=b.getD i 0:=by unfold winOf; split <;> rfl
theorem freshOp_own {bd:Bd} {L F:LF} {id:Nat} {o:VO} {v:AV} {b:AB} (h:freshOp bd L F id o=some (v,b)):∀ c k,b = .cells c k→k = .own:=by
 intro c k e
 subst e
 cases o with
 | new z=>cases h; rfl
 | box x =>
  obtain ⟨_,_,h⟩:=ob_eq h
  obtain ⟨_,_,h⟩:=ob_eq h
  cases h; rfl
 | bsl z l n ps =>
  obtain ⟨_,_,h⟩:=ob_eq h
  obtain ⟨_,_,h⟩:=ob_eq h
  cases h; rfl
 | cvb x =>
  obtain ⟨_,_,h⟩:=ob_eq h
  obtain ⟨_,_,h⟩:=onStr_some h
  cases h; rfl
 | mkm=>cases h
 | mks z a b l c =>
  obtain ⟨lv,_,h⟩:=ob_eq h
  obtain ⟨cv,_,h⟩:=ob_eq h
  obtain ⟨k,x,rfl,h⟩:=onInt_some h
  cases x with
  | c m =>
   obtain ⟨_,_,_,h⟩:=onNat_some (show (AV.int k (.c m)).onNat _ none=some _ from h)
   obtain ⟨_,_,_,h⟩:=onNat_some h
   obtain ⟨_,h⟩:=cnd_some h
   cases h; rfl
  | s ts d =>
   obtain ⟨_,_,_,h⟩:=onInt_some h
   obtain ⟨_,h⟩:=cnd_some h
   obtain ⟨_,h⟩:=cnd_some h
   obtain ⟨_,_,h⟩:=ob_eq h
   obtain ⟨_,h⟩:=cnd_some h
   cases h; rfl
 | _=>cases h
theorem Reg.g (R:Reg bd call F P vars nt ops n0 T G L1) {f:Fs} (hf:f∈G):isFresh (clOf P vars nt ops) f.i=true∧f.id=n0+cntF (isFresh (clOf P vars nt ops)) f.i∧f.mst=(winOf (clOf P vars nt ops) (bitsOf ops) f.i).lo∧∀ c k,f.b = .cells c k→k = .own:=by
 have hlt:=R.gl f hf
 obtain ⟨o,ho⟩ : ∃ o,ops[f.i]?=some o:=⟨ops[f.i],Array.getElem?_eq_getElem hlt⟩
 have hv:=vs_get (P:=P) (vars:=vars) (nt:=nt) ho
 obtain ⟨fs,h1,h2⟩:=R.did f.i _ hv
 have hcl:=cl_get hv
 generalize coI P vars nt ops f.i (ceG ops.toList 0 [] f.i) o=vi at h2 hcl
 have key:∀ vo,vi.cls=cls vo→DidO bd call F n0 T G fs (winOf (clOf P vars nt ops) (bitsOf ops) f.i) f.i (cntF (isLoud (clOf P vars nt ops)) f.i) (maskL ((bitsOf ops).getD f.i 0) (L1.drop (ops.size-f.i)) f.i) (nthO L1 (ops.size-1-f.i)) vo →
   isFresh (clOf P vars nt ops) f.i=true∧f.id=n0+cntF (isFresh (clOf P vars nt ops)) f.i∧f.mst=(winOf (clOf P vars nt ops) (bitsOf ops) f.i).lo∧∀ c k,f.b = .cells c k→k = .own:=by
  intro vo hvo hd
  rcases hd with ⟨_,h,_⟩ | ⟨_,h,_⟩ | ⟨hc,x,b,hx,_,h⟩ | ⟨_,h,_⟩
  ·exact absurd rfl (h f hf)
  ·exact absurd rfl (h f hf)
  ·have hfe:=R.gu f hf _ h rfl
   have h3:(clOf P vars nt ops).getD f.i 0=3:=by rw[hcl,hvo,hc]
   have hw:(winOf (clOf P vars nt ops) (bitsOf ops) f.i).hi=cntF (isFresh (clOf P vars nt ops)) f.i:=by unfold winOf; simp only[h3]
   refine ⟨by unfold isFresh; rw[h3]; rfl,?_,?_,?_⟩
   ·rw[←hw]; exact congrArg Fs.id hfe
   ·exact congrArg Fs.mst hfe
   ·have:f.b=b:=congrArg Fs.b hfe
    rw[this]; exact freshOp_own hx
  ·exact absurd rfl (h f hf)
 cases vi with
 | i vo=>exact key vo rfl h2
 | g j wt vo =>
  rcases h2 with ⟨_,h2⟩ | ⟨_,_,h,_⟩
  ·exact key vo rfl h2
  ·exact absurd rfl (h f hf)
theorem Reg.id_inj (R:Reg bd call F P vars nt ops n0 T G L1) {f g:Fs} (hf:f∈G) (hg:g∈G) (h:f.id=g.id):f=g:=by
 obtain ⟨f1,f2,_⟩:=R.g hf
 obtain ⟨g1,g2,_⟩:=R.g hg
 apply R.gu f hf g hg
 rcases Nat.lt_trichotomy f.i g.i with h' | h' | h'
 ·have:=cntF_strict h' f1; omega
 ·exact h'
 ·have:=cntF_strict h' g1; omega
structure RI (ρ:Nat→Int) (P:Program) (vars:List Nat) (nt:Nat) (ops:Array Oper) (n0:Nat) (T:List St) (G:List Fs) (L1:LF) (E0:Env) (s0:St) (w0:World) (a0:Act) (listed:Array Bool) (E:Env) (a:Act) (w:World) (p:Nat) (sk:St) (M:Vm.M):Prop where
 lsz:listed.size=ops.size
 closed:∀ j i,listed.getD j false=true→bitAt (bitsOf ops) j i=true→listed.getD i false=true
 cut:∀ e,e<ops.size→isLoud (clOf P vars nt ops) e=true→(listed.getD e false=true↔e<p)
 pn:p≤ops.size
 size:a.tmps.size=nt
 defers:a.defers=[]
 t1:∀ j oj d,listed.getD j false=true→ops[j]?=some oj→oj.dst=some d→∀ v,nthO L1 (ops.size-1-j)=some v→VR ρ E v (a.eval (.tmp d))
 t2:∀ k,(∀ j oj,listed.getD j false=true→ops[j]?=some oj→oj.dst≠some k)→a.eval (.tmp k)=a0.eval (.tmp k)
 stg:T[cntF (isLoud (clOf P vars nt ops)) p]?=some sk
 big:n0+cntF (isFresh (clOf P vars nt ops)) ops.size≤M.n
 n:M.n=sk.m.n
 sub:∀ b x,sk.m.g b=some x→M.g b=some x
 inn:∀ f∈G,listed.getD f.i false=true→cntF (isLoud (clOf P vars nt ops)) p<f.mst→M.g f.id=some f.b
 out:∀ b x,M.g b=some x→sk.m.g b=some x∨∃ f∈G,listed.getD f.i false=true∧cntF (isLoud (clOf P vars nt ops)) p<f.mst∧f.id=b∧f.b=x
 non:∀ f∈G,cntF (isLoud (clOf P vars nt ops)) p<f.mst→sk.m.g f.id=none
 step:Step ρ E0 s0.m w0 E M w
 unb:∀ j,j<ops.size→isFresh (clOf P vars nt ops) j=true→listed.getD j false=false→E.blk (n0+cntF (isFresh (clOf P vars nt ops)) j)=none∧E.mp (n0+cntF (isFresh (clOf P vars nt ops)) j)=none
theorem ready_mem {listed:Array Bool} {i:Nat} (h:i∈Region.ready .any ops listed) (hs:listed.size=ops.size):i<ops.size∧listed.getD i false=false∧∃ o,ops[i]?=some o∧∀ e∈o.after,Region.binds .any e=true→listed.getD e.on false=true:=by
 unfold Region.ready at h
 rw[List.mem_filter] at h
 obtain ⟨h1,h2⟩:=h
 have hi:=List.mem_range.1 h1
 simp only[Bool.and_eq_true,Bool.not_eq_true'] at h2
 obtain ⟨h2,h3⟩:=h2
 refine ⟨hi,?_,ops[i],Array.getElem?_eq_getElem hi,fun e he hb=>?_⟩
 ·rw[Array.getD_eq_getD_getElem?] at h2 ⊢
  rw[Array.getElem?_eq_getElem (by omega)] at h2 ⊢
  simpa using h2
 ·rw[Array.getElem?_eq_getElem hi] at h3
  simp only[Option.map_some,Option.getD_some,Array.all_eq_true'] at h3
  have:=h3 e he
  simpa [hb] using this
theorem set_get {listed:Array Bool} {i:Nat} (hi:i<listed.size) (j:Nat):(listed.setIfInBounds i true).getD j false=true↔(listed.getD j false=true∨j=i):=by
 rw[Array.getD_eq_getD_getElem?,Array.getD_eq_getD_getElem?,Array.getElem?_setIfInBounds]
 by_cases h:i=j
 ·subst h; simp[hi]
 ·simp[h,Ne.symm h]
theorem RI.next (R:Reg bd call F P vars nt ops n0 T G L1) {E0:Env} {s0:St} {w0:World} {a0:Act} {listed:Array Bool} {E:Env} {a:Act} {w:World} {p:Nat} {sk:St} {M:Vm.M} (h:RI ρ P vars nt ops n0 T G L1 E0 s0 w0 a0 listed E a w p sk M)
  {i:Nat} (hi:i∈Region.ready .any ops listed) {o:Oper} (ho:ops[i]?=some o) {E':Env} {u:Value} {w':World} {p':Nat} {sk':St} {M':Vm.M} (hle:E.le E') (hd:∀ d,o.dst=some d→d<nt) (hv:∀ v,nthO L1 (ops.size-1-i)=some v→VR ρ E' v u)
  (cut:∀ e,e<ops.size→isLoud (clOf P vars nt ops) e=true→((listed.getD e false=true∨e=i)↔e<p')) (pn:p'≤ops.size) (stg:T[cntF (isLoud (clOf P vars nt ops)) p']?=some sk') (big:n0+cntF (isFresh (clOf P vars nt ops)) ops.size≤M'.n) (n:M'.n=sk'.m.n)
  (sub:∀ b x,sk'.m.g b=some x→M'.g b=some x) (inn:∀ f∈G,(listed.getD f.i false=true∨f.i=i)→cntF (isLoud (clOf P vars nt ops)) p'<f.mst→M'.g f.id=some f.b)
  (out:∀ b x,M'.g b=some x→sk'.m.g b=some x∨∃ f∈G,(listed.getD f.i false=true∨f.i=i)∧cntF (isLoud (clOf P vars nt ops)) p'<f.mst∧f.id=b∧f.b=x) (non:∀ f∈G,cntF (isLoud (clOf P vars nt ops)) p'<f.mst→sk'.m.g f.id=none)
  (step:Step ρ E0 s0.m w0 E' M' w') (unb:∀ j,j<ops.size→isFresh (clOf P vars nt ops) j=true→listed.getD j false=false→j≠i→E'.blk (n0+cntF (isFresh (clOf P vars nt ops)) j)=none∧E'.mp (n0+cntF (isFresh (clOf P vars nt ops)) j)=none) :
  RI ρ P vars nt ops n0 T G L1 E0 s0 w0 a0 (listed.setIfInBounds i true) E' (a.put o.dst u) w' p' sk' M':=by
 obtain ⟨hin,hil,o',ho',haft⟩:=ready_mem hi h.lsz
 rw[ho] at ho'; cases ho'
 have hsz:i<listed.size:=by rw[h.lsz]; exact hin
 have low:∀ j,bitAt (bitsOf ops) i j=true→listed.getD j false=true:=by
  intro j hb
  obtain ⟨e,e1,e2,e3⟩:=R.fx.clos i o ho j hb
  have:=haft e e1 e2
  rcases e3 with rfl | e3
  ·exact this
  ·exact h.closed _ _ this e3
 have uniq:∀ j oj k,j≠i→ops[j]?=some oj→oj.dst=some k→o.dst≠some k:=by
  intro j oj k hj hoj hk
  rcases Nat.lt_trichotomy j i with h' | h' | h'
  ·exact (R.fx.fwd j i oj o h' hoj ho k hk).2
  ·exact absurd h' hj
  ·intro he
   exact (R.fx.fwd i j o oj h' ho hoj k he).2 hk
 have neg:∀ j,(listed.setIfInBounds i true).getD j false=false→listed.getD j false=false∧j≠i:=by
  intro j hj
  have:=set_get hsz j
  rw[hj] at this
  simp at this
  exact ⟨by simpa using this.1,this.2⟩
 refine ⟨by simp[h.lsz],?_,?_,pn,?_,?_,?_,?_,stg,big,n,sub,?_,?_,non,step,?_⟩
 ·intro j k hj hb
  rw[set_get hsz] at hj ⊢
  rcases hj with hj | rfl
  ·exact .inl (h.closed j k hj hb)
  ·exact .inl (low k hb)
 ·intro e he hl
  rw[set_get hsz]; exact cut e he hl
 ·cases o.dst <;> simp[Act.put,h.size]
 ·cases o.dst <;> simp[Act.put,h.defers]
 ·intro j oj d hj hoj hjd v hjv
  rw[set_get hsz] at hj
  by_cases hji:j=i
  ·subst hji
   rw[ho] at hoj; cases hoj
   rw[hjd,put_eval_same (by rw[h.size]; exact hd d hjd)]
   exact hv v hjv
  ·rw[put_eval (uniq j oj d hji hoj hjd)]
   exact (h.t1 j oj d (hj.resolve_right hji) hoj hjd v hjv).mono hle
 ·intro k hk
  rw[put_eval (hk i o ((set_get hsz i).2 (.inr rfl)) ho)]
  exact h.t2 k fun j oj hj hoj=>hk j oj ((set_get hsz j).2 (.inl hj)) hoj
 ·intro f hf hl
  exact inn f hf ((set_get hsz f.i).1 hl)
 ·intro b x hb
  rcases out b x hb with h | ⟨f,f1,f2,f3⟩
  ·exact .inl h
  ·exact .inr ⟨f,f1,(set_get hsz f.i).2 f2,f3⟩
 ·intro j hj hf hl
  obtain ⟨n1,n2⟩:=neg j hl
  exact unb j hj hf n1 n2
end
open Classical in
noncomputable def seen (nt:Nat) (c:Nat→Prop) (a a0:Act):Act:={ tmps:=Array.ofFn (n:=nt) fun k=>if c k then a.tmps.getD k undef else a0.tmps.getD k undef,defers:=[] }
open Classical in
theorem seen_eval {nt:Nat} {c:Nat→Prop} {a a0:Act} (h:a.tmps.size=nt) (h0:a0.tmps.size=nt) (k:Nat):(seen nt c a a0).eval (.tmp k)=if c k then a.eval (.tmp k) else a0.eval (.tmp k):=by
 show (seen nt c a a0).tmps.getD k undef=if c k then a.tmps.getD k undef else a0.tmps.getD k undef
 by_cases hk:k<nt
 ·rw[Array.getD_eq_getD_getElem?]
  simp[seen,hk]
 ·have e1:a.tmps.getD k undef=undef:=by rw[Array.getD_eq_getD_getElem?,Array.getElem?_eq_none (by omega)]; rfl
  have e2:a0.tmps.getD k undef=undef:=by rw[Array.getD_eq_getD_getElem?,Array.getElem?_eq_none (by omega)]; rfl
  rw[e1,e2,Array.getD_eq_getD_getElem?,Array.getElem?_eq_none (by simp[seen]; omega)]
  simp
theorem yield_ok {ρ:Nat→Int} {E:Env} {ops:Array Oper} {a:Act} {j d:Nat} {wt b:Bool} {v:AV} (hj:(ops[j]?).bind (·.dst)=some d) (hv:VR ρ E v (a.eval (.tmp d)))
  (h2:v.onBool (fun b=>some (b==wt)) (v.onTup (fun l=>List.casesOn l (some false) fun _ _=>none) none)=some b):(yielded ops a.tmps j==some wt)=b:=by
 have key:∀ x,a.eval (.tmp d)=x→(∀ y,x = .bool y→(yielded ops a.tmps j==some wt)=(y==wt))∧((∀ y,x ≠ .bool y)→(yielded ops a.tmps j==some wt)=false):=by
  intro x hx
  unfold yielded
  rw[hj]
  simp only[Option.bind_some]
  simp only[Act.eval,Array.getD_eq_getD_getElem?] at hx
  cases hg:a.tmps[d]? with
  | none =>
   rw[hg] at hx
   simp[undef] at hx
   subst hx
   exact ⟨fun y hy=>(by cases hy),fun _=>rfl⟩
  | some z =>
   rw[hg] at hx
   simp at hx
   subst hx
   refine ⟨?_,?_⟩
   ·rintro y rfl; simp
   ·intro hn
    cases z <;> first | rfl | exact absurd rfl (hn _)
 generalize hx:a.eval (.tmp d)=x at hv
 cases v <;> simp only[AV.onBool,AV.onTup,reduceCtorEq] at h2
 ·cases hv with | bool y =>
  cases h2
  exact (key _ hx).1 _ rfl
 ·rename_i vs
  cases vs with
  | cons c cs=>cases h2
  | nil =>
   cases h2
   cases hv with | tup hh =>
   exact (key _ hx).2 (by intro y hy; cases hy)
section
variable {ρ : Nat → Int} {bd : Bd} (hbd : BdOk ρ bd) {P : Program} {call : FuncId → List AV → St → Out} (hcall : CallsOk ρ P call) {vars : List Nat} {F : LF} {nt : Nat} {ops : Array Oper} {n0 : Nat} {T : List St} {G : List Fs} {L1 : LF}
variable (R : Reg bd call F P vars nt ops n0 T G L1) {E0 : Env} {s0 : St} {w0 : World} {a0 : Act} (hF : FrOk ρ E0 vars nt F a0) {listed : Array Bool} {E : Env} {a : Act} {w : World} {p : Nat} {sk : St} {M : Vm.M} (h : RI ρ P vars nt ops n0 T G L1 E0 s0 w0 a0 listed E a w p sk M) {i : Nat} (hi : i ∈ Region.ready .any ops listed) {o : Oper} (ho : ops[i]? = some o)
include R h hi ho in
theorem ready_low {j:Nat} (hb:bitAt (bitsOf ops) i j=true):listed.getD j false=true:=by
 obtain ⟨hin,hil,o',ho',haft⟩:=ready_mem hi h.lsz
 rw[ho] at ho'; cases ho'
 obtain ⟨e,e1,e2,e3⟩:=R.fx.clos i o ho j hb
 have:=haft e e1 e2
 rcases e3 with rfl | e3
 ·exact this
 ·exact h.closed _ _ this e3
def ahead (ops:Array Oper) (i:Nat) (k:Nat):Prop:=∃ j oj,j<i∧bitAt (bitsOf ops) i j=true∧ops[j]?=some oj∧oj.dst=some k
include R h hi ho hF in
theorem seen_agree {k:Nat} (hk:k∈o.looksAt ops):(seen nt (ahead ops i) a a0).eval (.tmp k)=a.eval (.tmp k):=by
 obtain ⟨hin,hil,_⟩:=ready_mem hi h.lsz
 rw[seen_eval h.size hF.size]
 split
 ·rfl
 ·rename_i hc
  refine (h.t2 k fun j oj hj hoj hjk=>?_).symm
  rcases Nat.lt_trichotomy j i with h' | h' | h'
  ·exact hc ⟨j,oj,h',(R.fx.fwd j i oj o h' hoj ho k hjk).1 hk,hoj,hjk⟩
  ·subst h'; rw[hil] at hj; cases hj
  ·have:=h.closed j i hj (R.fx.bwd i j o oj h' ho hoj k hjk hk)
   rw[hil] at this; cases this
include R h hi ho hF in
theorem seen_exec (hs:∀ cs b,o.op ≠ .select cs b):execOp (seen nt (ahead ops i) a a0).eval o=execOp a.eval o:=by
 refine execOp_congr o hs fun x hx=>?_
 cases x with
 | tmp k =>
  refine seen_agree R hF h hi ho ?_
  unfold Oper.looksAt
  refine List.mem_append_left _ (List.mem_filterMap.2 ⟨.tmp k,by simpa using hx,rfl⟩)
 | _=>rfl
include R h hi ho hF in
theorem seen_oks:OKs ρ E vars i (ceG ops.toList 0 [] i) (maskL ((bitsOf ops).getD i 0) (L1.drop (ops.size-i)) i) F (seen nt (ahead ops i) a a0):=by
 obtain ⟨hin,hil,_⟩:=ready_mem hi h.lsz
 intro x od hx v hv
 by_cases htmp:∃ k,x = .tmp k
 ·obtain ⟨k,rfl⟩:=htmp
  rw[seen_eval h.size hF.size]
  have hlook:=ceG_look ops.toList 0 [] i k (by simp; omega)
  rcases coO_tmp hx with ⟨r,h1,rfl⟩ | ⟨h1,i',h2,rfl⟩
  ·rcases hlook with ⟨j,oj,g1,g2,g3,g4⟩ | ⟨_,g4⟩
   ·rw[h1] at g4; cases g4
    have e:(Rf.p (0+j)).od i = .t (i-1-j):=by simp[Rf.od]
    rw[e] at hv
    have hv':nthO (maskL ((bitsOf ops).getD i 0) (L1.drop (ops.size-i)) i) (i-1-j)=some v:=hv
    rw[mask_get _ _ _ _ (by simp[R.len]; omega) g1] at hv'
    split at hv'
    ·rename_i hb
     have hoj:ops[j]?=some oj:=by simpa using g2
     have hval:nthO L1 (ops.size-1-j)=some v:=by
      rw[nthO_eq,List.getElem?_drop] at hv'
      rw[nthO_eq,←hv']
      congr 2; omega
     rw[if_pos ⟨j,oj,g1,hb,hoj,g3⟩]
     exact h.t1 j oj k (ready_low R h hi ho hb) hoj g3 v hval
    ·cases hv'
   ·rw[h1] at g4; cases g4
  ·rcases hlook with ⟨j,oj,g1,g2,g3,g4⟩ | ⟨g1,_⟩
   ·rw[h1] at g4; cases g4
   ·rw[if_neg]
    ·exact (hF.ok k i' v h2 hv).mono h.step.le
    ·rintro ⟨j,oj,j1,j2,j3,j4⟩
     exact g1 j oj j1 (by simpa using j3) j4
 ·obtain ⟨c,rfl,h1,h2⟩:=coO_rest (fun k e=>htmp ⟨k,e⟩) hx [] F a0 (seen nt (ahead ops i) a a0)
  rw[h2]
  exact (hF.inv.ok x (.c c) (h1 _ _) v hv).mono h.step.le
include R h hi ho in
theorem loud_at (hl:isLoud (clOf P vars nt ops) i=true):cntF (isLoud (clOf P vars nt ops)) p=cntF (isLoud (clOf P vars nt ops)) i∧∀ e,e<ops.size→isLoud (clOf P vars nt ops) e=true→(listed.getD e false=true↔e<i):=by
 obtain ⟨hin,hil,_⟩:=ready_mem hi h.lsz
 have key:∀ e,e<ops.size→isLoud (clOf P vars nt ops) e=true→(listed.getD e false=true↔e<i):=by
  intro e he hle
  constructor
  ·intro hls
   rcases Nat.lt_trichotomy e i with h' | h' | h'
   ·exact h'
   ·subst h'; rw[hil] at hls; cases hls
   ·have:=h.closed e i hls (R.fx.loud i e h' he hl hle)
    rw[hil] at this; cases this
  ·intro h'
   exact ready_low R h hi ho (R.fx.loud e i h' hin hle hl)
 refine ⟨?_,key⟩
 rw[←cntF_cut h.pn,←cntF_cut (Nat.le_of_lt hin)]
 apply Nat.le_antisymm
 ·refine cntF_mono fun e he hp=>?_
  simp only[Bool.and_eq_true,Nat.blt_eq] at hp ⊢
  exact ⟨hp.1,(key e he hp.1).1 ((h.cut e he hp.1).2 hp.2)⟩
 ·refine cntF_mono fun e he hp=>?_
  simp only[Bool.and_eq_true,Nat.blt_eq] at hp ⊢
  exact ⟨hp.1,(h.cut e he hp.1).1 ((key e he hp.1).2 hp.2)⟩
include R h hi ho in
theorem read_at:cntF (fun e=>isLoud (clOf P vars nt ops) e&&bitAt (bitsOf ops) i e) ops.size≤cntF (isLoud (clOf P vars nt ops)) p∧cntF (isLoud (clOf P vars nt ops)) p≤cntF (fun e=>isLoud (clOf P vars nt ops) e&&!bitAt (bitsOf ops) e i) ops.size:=by
 obtain ⟨hin,hil,_⟩:=ready_mem hi h.lsz
 rw[←cntF_cut h.pn]
 constructor
 ·refine cntF_mono fun e he hp=>?_
  simp only[Bool.and_eq_true,Nat.blt_eq] at hp ⊢
  exact ⟨hp.1,(h.cut e he hp.1).1 (ready_low R h hi ho hp.2)⟩
 ·refine cntF_mono fun e he hp=>?_
  simp only[Bool.and_eq_true,Nat.blt_eq,Bool.not_eq_true'] at hp ⊢
  refine ⟨hp.1,?_⟩
  cases hb:bitAt (bitsOf ops) e i with
  | false=>rfl
  | true =>
   have:=h.closed e i ((h.cut e he hp.1).2 hp.2) hb
   rw[hil] at this; cases this
end
section
variable {ρ : Nat → Int} {bd : Bd} (hbd : BdOk ρ bd) {P : Program} {call : FuncId → List AV → St → Out} (hcall : CallsOk ρ P call) {vars : List Nat} {F : LF} {nt : Nat} {ops : Array Oper} {n0 : Nat} {T : List St} {G : List Fs} {L1 : LF}
variable (R : Reg bd call F P vars nt ops n0 T G L1) {E0 : Env} {s0 : St} {w0 : World} {a0 : Act} (hn0 : s0.m.n = n0) (hF : FrOk ρ E0 vars nt F a0) {listed : Array Bool} {E : Env} {a : Act} {w : World} {p : Nat} {sk : St} {M : Vm.M} (h : RI ρ P vars nt ops n0 T G L1 E0 s0 w0 a0 listed E a w p sk M) {i : Nat} (hi : i ∈ Region.ready .any ops listed) {o : Oper} (ho : ops[i]? = some o)
def Nexts (ρ:Nat→Int) (P:Program) (vars:List Nat) (nt:Nat) (ops:Array Oper) (n0:Nat) (T:List St) (G:List Fs) (L1:LF) (E0:Env) (s0:St) (w0:World) (a0:Act) (listed:Array Bool) (i:Nat) (K:Act→World→Prop):Prop :=
 ∀ E' a' w' p' sk' M',RI ρ P vars nt ops n0 T G L1 E0 s0 w0 a0 (listed.setIfInBounds i true) E' a' w' p' sk' M'→K a' w'
include R h hi ho in
theorem next_same (hl:isLoud (clOf P vars nt ops) i=false) (hnoG:∀ f∈G,f.i≠i) {u:Value} {w':World} (hd:∀ d,o.dst=some d→d<nt) (hv:∀ v,nthO L1 (ops.size-1-i)=some v→VR ρ E v u) (hs:Step ρ E M w E M w') :
  RI ρ P vars nt ops n0 T G L1 E0 s0 w0 a0 (listed.setIfInBounds i true) E (a.put o.dst u) w' p sk M:=by
 refine h.next R hi ho (.refl _) hd hv (fun e he hle=>?_) h.pn h.stg h.big h.n h.sub (fun f hf hfi=>h.inn f hf (hfi.resolve_right (hnoG f hf))) (fun b x hb=>?_) h.non (h.step.trans hs) (fun j hj hf hlj _=>h.unb j hj hf hlj)
 ·rw[←h.cut e he hle]
  constructor
  ·rintro (h' | rfl)
   ·exact h'
   ·rw[hl] at hle; cases hle
  ·exact .inl
 ·rcases h.out b x hb with h' | ⟨f,f1,f2,f3⟩
  ·exact .inl h'
  ·exact .inr ⟨f,f1,.inl f2,f3⟩
include R h hi ho in
theorem next_fresh (hl:isLoud (clOf P vars nt ops) i=false) {vb:AV} {b:AB} {u:Value} {w':World} {ob:Obj} (hG:(⟨i,n0+(winOf (clOf P vars nt ops) (bitsOf ops) i).hi,(winOf (clOf P vars nt ops) (bitsOf ops) i).lo,b⟩ : Fs)∈G) (hd:∀ d,o.dst=some d→d<nt) (hv:nthO L1 (ops.size-1-i)=some vb)
  (hw:w'.heap=w.heap.push ob) (hw1:w'.os=w.os) (hw2:w'.tape=w.tape) (hw3:w'.output=w.output) (hm:Made ρ E (n0+(winOf (clOf P vars nt ops) (bitsOf ops) i).hi) vb b u ob w.heap.size) (hn0:s0.m.n=n0) :
  ∃ E' M',RI ρ P vars nt ops n0 T G L1 E0 s0 w0 a0 (listed.setIfInBounds i true) E' (a.put o.dst u) w' p sk M':=by
 obtain ⟨hin,hil,_⟩:=ready_mem hi h.lsz
 obtain ⟨g1,g2,g3,g4⟩:=R.g hG
 dsimp only at g1 g2 g3 g4
 have hc3:(clOf P vars nt ops).getD i 0=3:=by unfold isFresh at g1; exact Nat.eq_of_beq_eq_true g1
 have hlo:cntF (isLoud (clOf P vars nt ops)) p<(winOf (clOf P vars nt ops) (bitsOf ops) i).lo:=by
  have:=(read_at R h hi ho).2
  unfold winOf
  simp only[hc3]
  have e:(clOf P vars nt ops).length=ops.size:=by simp[clOf,vsOf,coIs_len]
  rw[e]; omega
 have hnon:=h.non _ hG hlo
 dsimp only at hnon
 obtain ⟨u1,u2⟩:=h.unb i hin g1 hil
 rw[←g2] at u1 u2
 have hidn:n0+(winOf (clOf P vars nt ops) (bitsOf ops) i).hi<M.n:=by
  have:=cntF_strict hin g1
  have:=h.big
  omega
 obtain ⟨E',e1,e2,e3,e4,e5⟩:=made_ok (m1:=⟨fun j=>if j=n0+(winOf (clOf P vars nt ops) (bitsOf ops) i).hi then some b else M.g j,M.n⟩) h.step.hr hm hw u1 u2 hidn (Nat.le_refl _) (fun j=>rfl)
 have hneq:∀ f∈G,f.i≠i→f.id≠n0+(winOf (clOf P vars nt ops) (bitsOf ops) i).hi:=by
  intro f hf hfi e
  have:=R.id_inj hf hG e
  rw[this] at hfi; exact hfi rfl
 refine ⟨E',⟨fun j=>if j=n0+(winOf (clOf P vars nt ops) (bitsOf ops) i).hi then some b else M.g j,M.n⟩,h.next R hi ho e1 hd (fun v hv'=>?_) (fun e he hle=>?_) h.pn h.stg h.big h.n (fun c x hc=>?_) (fun f hf hfi hk=>?_) (fun c x hc=>?_) h.non ?_ (fun j hj hf hlj hji=>?_)⟩
 ·rw[hv] at hv'; cases hv'; exact e3
 ·rw[←h.cut e he hle]
  constructor
  ·rintro (h' | rfl)
   ·exact h'
   ·rw[hl] at hle; cases hle
  ·exact .inl
 ·show (if c=_ then _ else _)=_
  rw[if_neg]
  ·exact h.sub c x hc
  ·rintro rfl; rw[hnon] at hc; cases hc
 ·show (if f.id=_ then _ else _)=_
  by_cases hfe:f.i=i
  ·have:=R.gu f hf _ hG hfe
   subst this
   rw[if_pos rfl]
  ·rw[if_neg (hneq f hf hfe)]
   exact h.inn f hf (hfi.resolve_right hfe) hk
 ·have hc':(if c=n0+(winOf (clOf P vars nt ops) (bitsOf ops) i).hi then some b else M.g c)=some x:=hc
  split at hc'
  ·rename_i e
   cases hc'
   exact .inr ⟨_,hG,.inr rfl,hlo,e.symm,rfl⟩
  ·rcases h.out c x hc' with h' | ⟨f,f1,f2,f3⟩
   ·exact .inl h'
   ·exact .inr ⟨f,f1,.inl f2,f3⟩
 ·have hS:=h.step
  refine ⟨hS.le.trans e1,e2,fun X hX hno=>?_,fun X hX=>?_,hw1.trans hS.os,hw2.trans hS.tape,hw3.trans hS.output,?_,hS.next,fun j hj=>?_,fun j hj hj0=>?_,fun j c hj=>?_⟩
  ·rw[←hS.frame X hX hno,hw,Array.getElem?_push,if_neg]
   have:=hS.size; omega
  ·rcases e5 X hX with h' | h'
   ·exact hS.own X h'
   ·exact .inr (Nat.le_trans hS.size h')
  ·rw[hw]; have:=hS.size; simp; omega
  ·obtain ⟨o1,o2⟩:=hS.old j hj
   obtain ⟨p1,p2⟩:=e4 j (by omega)
   exact ⟨p1.trans o1,p2.trans o2⟩
  ·show (if j=_ then _ else _)=_
   rw[if_neg (by omega)]
   exact hS.dead j hj hj0
  ·have hj':(if j=n0+(winOf (clOf P vars nt ops) (bitsOf ops) i).hi then some b else M.g j)=some (.cells c .ro):=hj
   split at hj'
   ·cases hj'
    have:=g4 c .ro rfl
    cases this
   ·exact hS.ro j c hj'
 ·obtain ⟨q1,q2⟩:=h.unb j hj hf hlj
  have hne:n0+cntF (isFresh (clOf P vars nt ops)) j≠n0+(winOf (clOf P vars nt ops) (bitsOf ops) i).hi:=by
   rw[g2]
   intro e
   rcases Nat.lt_trichotomy j i with h' | h' | h'
   ·have:=cntF_strict h' hf; omega
   ·exact hji h'
   ·have:=cntF_strict h' g1; omega
  obtain ⟨p1,p2⟩:=e4 _ hne
  exact ⟨p1.trans q1,p2.trans q2⟩
include R h hi ho in
theorem loud_mem (hl:isLoud (clOf P vars nt ops) i=true) {fs:List Fs} (hfs:∀ f,f∈fs↔f∈G∧f.i<i) :
  let k:=cntF (isLoud (clOf P vars nt ops)) i
  (∀ b x,(addM (k+1) fs sk).m.g b=some x→M.g b=some x)∧(addM (k+1) fs sk).m.n=M.n∧(∀ b,sk.m.g b≠none→(addM (k+1) fs sk).m.g b≠none) ∧
   (∀ f∈G,k+1<f.mst→(addM (k+1) fs sk).m.g f.id=none)∧(∀ f∈G,listed.getD f.i false=true→k<f.mst→¬k+1<f.mst→(addM (k+1) fs sk).m.g f.id=some f.b):=by
 intro k
 obtain ⟨hin,hil,_⟩:=ready_mem hi h.lsz
 obtain ⟨hk,_⟩:=loud_at R h hi ho hl
 obtain ⟨s1,s2,s3,s4⟩:=addM_spec (k+1) fs sk
 have hmst:∀ f∈G,(bitAt (bitsOf ops) i f.i=true↔f.mst≤k+1):=by
  intro f hf
  obtain ⟨g1,g2,g3,_⟩:=R.g hf
  rw[g3]
  exact R.fx.mst f.i i (R.gl f hf) hin g1 hl
 have uniq:∀ f∈fs,∀ f'∈fs,f'.id=f.id→f'=f:=fun f hf f' hf' e=>R.id_inj ((hfs f').1 hf').1 ((hfs f).1 hf).1 e
 refine ⟨fun b x hb=>?_,s1.trans h.n.symm,fun b hb hno=>?_,fun f hf hm=>?_,fun f hf hls h1 h2=>?_⟩
 ·rcases s2 b x hb with h' | ⟨f,f1,f2,f3,f4⟩
  ·exact h.sub b x h'
  ·have hfG:=((hfs f).1 f1).1
   have hls:=ready_low R h hi ho ((hmst f hfG).2 (by omega))
   have:=h.inn f hfG hls (by rw[hk]; omega)
   rw[f3,f4] at this; exact this
 ·by_cases hex:∃ f∈fs,f.mst=k+1∧f.id=b
  ·obtain ⟨f,f1,f2,f3⟩:=hex
   have:=s4 f f1 f2 (uniq f f1)
   rw[f3,hno] at this; cases this
  ·rw[s3 b fun f f1 f2 f3=>hex ⟨f,f1,f2,f3⟩] at hno
   exact hb hno
 ·rw[s3 f.id]
  ·exact h.non f hf (by rw[hk]; omega)
  ·intro f' hf' hm' e
   have:=R.id_inj ((hfs f').1 hf').1 hf e
   subst this; omega
 ·have hb:=(hmst f hf).2 (by omega)
  have hlt:=R.fx.low i hin f.i hb
  exact s4 f ((hfs f).2 ⟨hf,hlt⟩) (by omega) (uniq f ((hfs f).2 ⟨hf,hlt⟩))
include R h hi ho in
theorem next_loud (hl:isLoud (clOf P vars nt ops) i=true) {fs:List Fs} (hfs:∀ f,f∈fs↔f∈G∧f.i<i) (hnoG:∀ f∈G,f.i≠i) {s':St} (hT:T[cntF (isLoud (clOf P vars nt ops)) i+1]?=some s') {E':Env} {u:Value} {w':World} (hd:∀ d,o.dst=some d→d<nt)
  (hv:∀ v,nthO L1 (ops.size-1-i)=some v→VR ρ E' v u) (hS:Step ρ E (addM (cntF (isLoud (clOf P vars nt ops)) i+1) fs sk).m w E' s'.m w') :
  ∃ M',RI ρ P vars nt ops n0 T G L1 E0 s0 w0 a0 (listed.setIfInBounds i true) E' (a.put o.dst u) w' (i+1) s' M':=by
 obtain ⟨hin,hil,_⟩:=ready_mem hi h.lsz
 obtain ⟨hk,hcut⟩:=loud_at R h hi ho hl
 obtain ⟨m1,m2,m3,m4,m5⟩:=loud_mem R h hi ho hl hfs
 have hk1:cntF (isLoud (clOf P vars nt ops)) (i+1)=cntF (isLoud (clOf P vars nt ops)) i+1:=by rw[cntF_succ,if_pos hl]
 obtain ⟨M1,hM1,hM1n⟩ : ∃ M1:Vm.M,(∀ b,M1.g b=match s'.m.g b with
   | some x=>some x
   | none=>if (addM (cntF (isLoud (clOf P vars nt ops)) i+1) fs sk).m.g b=none then M.g b else none)∧M1.n=s'.m.n:=by
  exact ⟨⟨fun b=>match s'.m.g b with
   | some x=>some x
   | none=>if (addM (cntF (isLoud (clOf P vars nt ops)) i+1) fs sk).m.g b=none then M.g b else none,s'.m.n⟩,fun b=>rfl,rfl⟩
 have hlift:=Step.lift (M1:=M1) h.step.hr hS m1 m2 (fun b c k hb h0=>by
    rcases h.out b _ hb with h' | ⟨f,f1,f2,f3,f4,f5⟩
    ·exact absurd h0 (m3 b (by rw[h']; simp))
    ·exact (R.g f1).2.2.2 c k f5) (fun b=>(hM1 b).trans (by cases s'.m.g b <;> rfl)) hM1n
 have hdead:∀ f∈G,cntF (isLoud (clOf P vars nt ops)) i+1<f.mst→s'.m.g f.id=none:=by
  intro f hf hm
  refine hS.dead f.id ?_ (m4 f hf hm)
  obtain ⟨g1,g2,_⟩:=R.g hf
  rw[m2,g2]
  have:=cntF_strict (R.gl f hf) g1
  have:=h.big
  omega
 have hkn:(addM (cntF (isLoud (clOf P vars nt ops)) i+1) fs sk).m.n≤s'.m.n:=hS.next
 refine ⟨M1,h.next R hi ho hS.le hd hv (fun e he hle=>?_) hin (by rw[hk1]; exact hT) ?_ hM1n (fun b x hb=>?_) (fun f hf hfi hm=>?_) (fun b x hb=>?_) (fun f hf hm=>hdead f hf (by omega)) (h.step.trans hlift) (fun j hj hf hlj hji=>?_)⟩
 ·rw[hcut e he hle]; omega
 ·rw[hM1n]
  have:=h.big; omega
 ·rw[hM1,hb]
 ·rw[hM1,hdead f hf (by omega)]
  simp only
  rw[if_pos (m4 f hf (by omega))]
  exact h.inn f hf (hfi.resolve_right (hnoG f hf)) (by omega)
 ·have hb':(match s'.m.g b with
   | some x=>some x
   | none=>if (addM (cntF (isLoud (clOf P vars nt ops)) i+1) fs sk).m.g b=none then M.g b else none)=some x:=(hM1 b).symm.trans hb
  cases hsb:s'.m.g b with
  | some y=>rw[hsb] at hb'; cases hb'; exact .inl rfl
  | none =>
   rw[hsb] at hb'
   simp only at hb'
   split at hb'
   ·rename_i h0
    rcases h.out b x hb' with h' | ⟨f,f1,f2,f3,f4,f5⟩
    ·exact absurd h0 (m3 b (by rw[h']; simp))
    ·refine .inr ⟨f,f1,.inl f2,?_,f4,f5⟩
     rcases Nat.lt_or_ge (cntF (isLoud (clOf P vars nt ops)) i+1) f.mst with h' | h'
     ·omega
     ·have:=m5 f f1 f2 (by omega) (by omega)
      rw[f4,h0] at this; cases this
   ·cases hb'
 ·obtain ⟨q1,q2⟩:=h.unb j hj hf hlj
  have hlt:n0+cntF (isFresh (clOf P vars nt ops)) j<M.n:=by
   have:=cntF_strict hj hf
   have:=h.big
   omega
  obtain ⟨o1,o2⟩:=hlift.old _ hlt
  exact ⟨o1.trans q1,o2.trans q2⟩
include R h hi ho in
theorem next_loud_not (hl:isLoud (clOf P vars nt ops) i=true) {fs:List Fs} (hfs:∀ f,f∈fs↔f∈G∧f.i<i) (hnoG:∀ f∈G,f.i≠i) (hT:T[cntF (isLoud (clOf P vars nt ops)) i+1]?=some (addM (cntF (isLoud (clOf P vars nt ops)) i+1) fs sk)) {u:Value} (hd:∀ d,o.dst=some d→d<nt)
  (hv:∀ v,nthO L1 (ops.size-1-i)=some v→VR ρ E v u) :
  RI ρ P vars nt ops n0 T G L1 E0 s0 w0 a0 (listed.setIfInBounds i true) E (a.put o.dst u) w (i+1) (addM (cntF (isLoud (clOf P vars nt ops)) i+1) fs sk) M:=by
 obtain ⟨hin,hil,_⟩:=ready_mem hi h.lsz
 obtain ⟨hk,hcut⟩:=loud_at R h hi ho hl
 obtain ⟨m1,m2,m3,m4,m5⟩:=loud_mem R h hi ho hl hfs
 have hk1:cntF (isLoud (clOf P vars nt ops)) (i+1)=cntF (isLoud (clOf P vars nt ops)) i+1:=by rw[cntF_succ,if_pos hl]
 refine h.next R hi ho (.refl _) hd hv (fun e he hle=>?_) hin (by rw[hk1]; exact hT) h.big m2.symm m1 (fun f hf hfi hm=>?_) (fun b x hb=>?_) (fun f hf hm=>m4 f hf (by omega)) h.step (fun j hj hf hlj hji=>h.unb j hj hf hlj)
 ·rw[hcut e he hle]; omega
 ·exact h.inn f hf (hfi.resolve_right (hnoG f hf)) (by omega)
 ·rcases h.out b x hb with h' | ⟨f,f1,f2,f3,f4,f5⟩
  ·have hne:=m3 b (by rw[h']; simp)
   cases hq:(addM (cntF (isLoud (clOf P vars nt ops)) i+1) fs sk).m.g b with
   | none=>exact absurd hq hne
   | some y =>
    have:=m1 b y hq
    rw[hb] at this; cases this
    exact .inl rfl
  ·rcases Nat.lt_or_ge (cntF (isLoud (clOf P vars nt ops)) i+1) f.mst with h' | h'
   ·exact .inr ⟨f,f1,.inl f2,by omega,f4,f5⟩
   ·have:=m5 f f1 f2 (by omega) (by omega)
    rw[f4,f5] at this
    exact .inl this
theorem isLoud_of {vi:VI} (h:(vsOf P vars nt ops)[i]?=some vi):isLoud (clOf P vars nt ops) i=Nat.beq vi.cls 2:=by unfold isLoud; rw[cl_get h]
include hbd hcall R h hi ho hF hn0 in
theorem do_ok {K:Act→World→Prop} {Q:Exit→Act→World→Prop} (hK:Nexts ρ P vars nt ops n0 T G L1 E0 s0 w0 a0 listed i K) (hd:∀ d,o.dst=some d→d<nt) {vo:VO} (hvo:vo=coOp P vars i (ceG ops.toList 0 [] i) o.op) {vi:VI} (hvi:(vsOf P vars nt ops)[i]?=some vi) (hcl:vi.cls=cls vo)
  {fs:List Fs} (hfs:∀ f,f∈fs↔f∈G∧f.i<i) (hD:DidO bd call F n0 T G fs (winOf (clOf P vars nt ops) (bitsOf ops) i) i (cntF (isLoud (clOf P vars nt ops)) i) (maskL ((bitsOf ops).getD i 0) (L1.drop (ops.size-i)) i) (nthO L1 (ops.size-1-i)) vo):o.wp P a w K Q:=by
 obtain ⟨hin,hil,_⟩:=ready_mem hi h.lsz
 have hO:=seen_oks R hF h hi ho
 have hlo:=isLoud_of hvi
 have hco:coOp1 P vars i (ceG ops.toList 0 [] i) o.op=some vo:=by
  unfold coOp at hvo
  split at hvo
  ·rename_i x hx; rw[hvo]; exact hx
  ·subst hvo
   rcases hD with ⟨_,_,x,hx,_⟩ | ⟨hc,_⟩ | ⟨hc,_⟩ | ⟨hc,_⟩
   ·cases hx
   ·cases hc
   ·cases hc
   ·cases hc
 have hsel:∀ cs b,o.op ≠ .select cs b:=by
  intro cs b e
  rw[e] at hco; cases hco
 have hex:=seen_exec R hF h hi ho hsel
 rcases hD with ⟨hc,hno,x,hx,hval⟩ | ⟨hc,hno,x,hval,hx⟩ | ⟨hc,x,b,hx,hval,hG⟩ | ⟨hc,hno,s,s',hs,hs',hx⟩
 ·-- pure
  have hl:isLoud (clOf P vars nt ops) i=false:=by rw[hlo,hcl,hc]; rfl
  obtain ⟨u,u1,u2⟩:=pure_ok hbd hO hco hx
  have:=u2 w o.dst o.type o.pos o.after o.guard
  unfold Oper.wp
  rw[←hex,this]
  exact hK _ _ _ _ _ _ (next_same R h hi ho hl hno hd (fun v hv=>by rw[hval] at hv; cases hv; exact u1) (.refl h.step.hr))
 ·-- it reads memory
  have hl:isLoud (clOf P vars nt ops) i=false:=by rw[hlo,hcl,hc]; rfl
  have hc1:(clOf P vars nt ops).getD i 0=1:=by rw[cl_get hvi,hcl,hc]
  obtain ⟨q1,q2⟩:=read_at R h hi ho
  have hlen:(clOf P vars nt ops).length=ops.size:=by simp[clOf,vsOf,coIs_len]
  have hw1:(winOf (clOf P vars nt ops) (bitsOf ops) i).lo=cntF (fun e=>isLoud (clOf P vars nt ops) e&&bitAt (bitsOf ops) i e) ops.size:=by unfold winOf; simp only[hc1]; rw[hlen]
  have hw2:(winOf (clOf P vars nt ops) (bitsOf ops) i).hi=cntF (fun e=>isLoud (clOf P vars nt ops) e&&!bitAt (bitsOf ops) e i) ops.size:=by unfold winOf; simp only[hc1]; rw[hlen]
  obtain ⟨y,y1,y2⟩:=hx _ sk h.stg (by rw[hw1]; exact q1) (by rw[hw2]; exact q2)
  rw[winOf_bits] at y1
  obtain ⟨s1,s2,s3,s4⟩:=addR_spec ((bitsOf ops).getD i 0) (cntF (isLoud (clOf P vars nt ops)) p) fs sk
  have hsub:∀ b z,(addR ((bitsOf ops).getD i 0) (cntF (isLoud (clOf P vars nt ops)) p) fs sk).m.g b=some z→M.g b=some z:=by
   intro b z hb
   rcases s2 b z hb with h' | ⟨f,f1,⟨f2,f3⟩,f4,f5⟩
   ·exact h.sub b z h'
   ·have hls:=ready_low R h hi ho (show bitAt (bitsOf ops) i f.i=true from f2)
    have:=h.inn f ((hfs f).1 f1).1 hls f3
    rw[f4,f5] at this; exact this
  have hn:(addR ((bitsOf ops).getD i 0) (cntF (isLoud (clOf P vars nt ops)) p) fs sk).m.n=M.n:=s1.trans h.n.symm
  have hH:=h.step.hr.sub hsub hn
  obtain ⟨u,w',u1,u2,u3⟩:=read_ok hbd hO hco hH y1
  have hlift:=Step.lift (M1:=M) h.step.hr u3 hsub hn (fun b c k hb h0=>by
    rcases h.out b _ hb with h' | ⟨f,f1,f2,f3,f4,f5⟩
    ·exfalso
     by_cases hex:∃ f∈fs,(tb ((bitsOf ops).getD i 0) f.i=true∧cntF (isLoud (clOf P vars nt ops)) p<f.mst)∧f.id=b
     ·obtain ⟨f,f1,f2,f3⟩:=hex
      have:=s4 f f1 f2 (fun f' hf' e=>R.id_inj ((hfs f').1 hf').1 ((hfs f).1 f1).1 e)
      rw[f3,h0] at this; cases this
     ·rw[s3 b fun f f1 f2 f3=>hex ⟨f,f1,f2,f3⟩,h'] at h0; cases h0
    ·exact (R.g f1).2.2.2 c k f5) (fun b=>by
    cases hq:(addR ((bitsOf ops).getD i 0) (cntF (isLoud (clOf P vars nt ops)) p) fs sk).m.g b with
    | some z=>exact hsub b z hq
    | none=>rfl) hn.symm
  have:=u2 o.dst o.type o.pos o.after o.guard
  unfold Oper.wp
  rw[←hex,this]
  exact hK _ _ _ _ _ _ (next_same R h hi ho hl hno hd (fun v hv=>by rw[hval] at hv; cases hv; exact y2 _ _ _ u1) hlift)
 ·-- it makes a block
  have hl:isLoud (clOf P vars nt ops) i=false:=by rw[hlo,hcl,hc]; rfl
  obtain ⟨u,w',ob,m1,m2,m3,m4,m5,m6⟩:=fresh_ok hbd hO hco hx w
  obtain ⟨E',M',hR⟩:=next_fresh R h hi ho hl hG hd hval m2 m3 m4 m5 m6 hn0
  have:=m1 o.dst o.type o.pos o.after o.guard
  unfold Oper.wp
  rw[←hex,this]
  exact hK _ _ _ _ _ _ hR
 ·-- it changes memory
  have hl:isLoud (clOf P vars nt ops) i=true:=by rw[hlo,hcl,hc]; rfl
  obtain ⟨hk,_⟩:=loud_at R h hi ho hl
  have hss:s=sk:=by
   have:=h.stg
   rw[hk,hs] at this; cases this; rfl
  subst hss
  obtain ⟨m1,m2,m3,m4,m5⟩:=loud_mem R h hi ho hl hfs
  have hH:=h.step.hr.sub m1 m2
  have hg:=loud_good hbd hcall hO hco hH
  rcases hx with ⟨x,hx,hval⟩ | ⟨hx,hval⟩
  ·rw[hx] at hg
   rcases hg with ⟨E',u,w',c1,c2,c3⟩ | ⟨f,vals,c1,c2⟩
   ·unfold Oper.wp
    rw[←hex,c1]
    obtain ⟨M',hR⟩:=next_loud R h hi ho hl hfs hno hs' hd (fun v hv=>by rw[hval] at hv; cases hv; exact c2) c3
    exact hK _ _ _ _ _ _ hR
   ·unfold Oper.wp
    rw[←hex,c1]
    show Calls P f vals w _
    refine c2.mono ?_
    rintro e w' ⟨u,E',rfl,q1,q2⟩
    obtain ⟨M',hR⟩:=next_loud R h hi ho hl hfs hno hs' hd (fun v hv=>by rw[hval] at hv; cases hv; exact q1) q2
    exact hK _ _ _ _ _ _ hR
  ·rw[hx] at hg
   obtain ⟨E',w',c1,c2⟩:=hg
   unfold Oper.wp
   rw[←hex,c1]
   obtain ⟨M',hR⟩:=next_loud (u:=undef) R h hi ho hl hfs hno hs' hd (fun v hv=>by rw[hval] at hv; cases hv) c2
   exact hK _ _ _ _ _ _ hR
include hbd hcall R h hi ho hF hn0 in
theorem step_ok {K:Act→World→Prop} {Q:Exit→Act→World→Prop} (hK:Nexts ρ P vars nt ops n0 T G L1 E0 s0 w0 a0 listed i K):wpOp P ops Q i K a w:=by
 obtain ⟨hin,hil,_⟩:=ready_mem hi h.lsz
 have hv:=vs_get (P:=P) (vars:=vars) (nt:=nt) ho
 obtain ⟨fs,hfs,hD⟩:=R.did i _ hv
 have hO:=seen_oks R hF h hi ho
 unfold wpOp
 rw[ho]
 simp only
 have bad:¬Did bd call F n0 T G fs (winOf (clOf P vars nt ops) (bitsOf ops) i) i (cntF (isLoud (clOf P vars nt ops)) i) (maskL ((bitsOf ops).getD i 0) (L1.drop (ops.size-i)) i) (nthO L1 (ops.size-1-i)) (.i VO.no):=by
  intro hh
  rcases hh with ⟨_,_,x,hx,_⟩ | ⟨hc,_⟩ | ⟨hc,_⟩ | ⟨hc,_⟩
  ·cases hx
  ·cases hc
  ·cases hc
  ·cases hc
 generalize hvi:coI P vars nt ops i (ceG ops.toList 0 [] i) o=vi at hv hD
 have hdst:(∀ d,o.dst=some d→d<nt)∧vi=coG ops i (ceG ops.toList 0 [] i) o (coOp P vars i (ceG ops.toList 0 [] i) o.op):=by
  unfold coI at hvi
  split at hvi
  ·rename_i d hd
   split at hvi
   ·rename_i hb
    refine ⟨fun d' hd'=>?_,hvi.symm⟩
    rw[hd] at hd'; cases hd'; exact blt_t hb
   ·subst hvi; exact absurd hD bad
  ·rename_i hd
   exact ⟨fun d' hd'=>(by rw[hd] at hd'; cases hd'),hvi.symm⟩
 obtain ⟨hd,hvi'⟩:=hdst
 unfold coG at hvi'
 split at hvi'
 ·rename_i hg
  subst hvi'
  rw[if_pos (by simp[Region.wanted,hg])]
  exact .inl (do_ok hbd hcall R hn0 hF h hi ho hK hd rfl hv rfl hfs hD)
 ·rename_i g wt hg
  split at hvi'
  ·rename_i d hgd
   split at hvi'
   ·rename_i r hr
    subst hvi'
    have hmem:d∈o.looksAt ops:=by
     unfold Oper.looksAt
     refine List.mem_append_right _ ?_
     rw[hg]; simp[hgd]
    have hagree:=seen_agree R hF h hi ho hmem
    have hwant:∀ b,want (maskL ((bitsOf ops).getD i 0) (L1.drop (ops.size-i)) i) F (r.od i) wt=some b→Region.wanted o (yielded ops a.tmps)=b:=by
     intro b hb
     obtain ⟨v,h1,h2⟩:=ob_eq hb
     have hv:=hO (.tmp d) (r.od i) (by simp[coO,coRf,coT,hr]) v h1
     rw[hagree] at hv
     simp only[Region.wanted,hg]
     exact yield_ok hgd hv h2
    rcases hD with ⟨hw,hD⟩ | ⟨hw,hval,hno,hst⟩
    ·rw[if_pos (hwant true hw)]
     exact .inl (do_ok hbd hcall R hn0 hF h hi ho hK hd rfl hv rfl hfs hD)
    ·rw[if_neg (by rw[hwant false hw]; simp)]
     have hvv:∀ E' v,nthO L1 (ops.size-1-i)=some v→VR ρ E' v undef:=by
      intro E' v hv; rw[hval] at hv; cases hv; exact .tup .nil
     have hlo:=isLoud_of hv
     cases hl:isLoud (clOf P vars nt ops) i with
     | false=>exact hK _ _ _ _ _ _ (next_same R h hi ho hl hno hd (hvv E) (.refl h.step.hr))
     | true =>
      rw[hl] at hlo
      obtain ⟨s,hs,hs'⟩:=hst (Nat.eq_of_beq_eq_true hlo.symm)
      obtain ⟨hk,_⟩:=loud_at R h hi ho hl
      have hss:s=sk:=by
       have:=h.stg
       rw[hk,hs] at this; cases this; rfl
      subst hss
      exact hK _ _ _ _ _ _ (next_loud_not R h hi ho hl hfs hno hs' hd (hvv E))
   ·subst hvi'; exact absurd hD bad
  ·subst hvi'; exact absurd hD bad
include R in
theorem all_done (h:RI ρ P vars nt ops n0 T G L1 E0 s0 w0 a0 listed E a w p sk M) (hr:Region.ready .any ops listed=[]):∀ i,i<ops.size→listed.getD i false=true:=by
 intro i
 induction i using Nat.strongRecOn with
 | _ i ih =>
  intro hi
  cases hl:listed.getD i false with
  | true=>rfl
  | false =>
   exfalso
   have:i∈Region.ready .any ops listed:=by
    unfold Region.ready
    rw[List.mem_filter]
    refine ⟨List.mem_range.2 hi,?_⟩
    have hg:=Array.getElem?_eq_getElem hi
    simp only[Bool.and_eq_true,Bool.not_eq_true']
    refine ⟨?_,?_⟩
    ·have hsz:i<listed.size:=by rw[h.lsz]; exact hi
     rw[Array.getD_eq_getD_getElem?,Array.getElem?_eq_getElem hsz] at hl ⊢
     simpa using hl
    ·rw[hg]
     simp only[Option.map_some,Option.getD_some,Array.all_eq_true']
     intro e he
     cases hb:Region.binds .any e with
     | false=>rfl
     | true =>
      have hlt:=R.fx.aft i _ hg e he hb
      simp[ih e.on hlt (by omega)]
   rw[hr] at this; cases this
include hbd hcall R hF hn0 in
theorem any_ok {Q:Exit→Act→World→Prop} (hend:∀ listed E a w p sk M,RI ρ P vars nt ops n0 T G L1 E0 s0 w0 a0 listed E a w p sk M→(∀ i,i<ops.size→listed.getD i false=true)→Q .normal a w) :
  ∀ (fuel:Nat) (listed:Array Bool) (E:Env) (a:Act) (w:World) (p:Nat) (sk:St) (M:Vm.M),RI ρ P vars nt ops n0 T G L1 E0 s0 w0 a0 listed E a w p sk M→cntF (fun i=>!listed.getD i false) ops.size≤fuel→wpAny P .any ops Q fuel listed a w:=by
 intro fuel
 induction fuel with
 | zero =>
  intro listed E a w p sk M h hc
  have hall:∀ i,i<ops.size→listed.getD i false=true:=by
   intro i hi
   cases hl:listed.getD i false with
   | true=>rfl
   | false =>
    have:=cntF_lt (p:=fun _=>false) (q:=fun i=>!listed.getD i false) (n:=ops.size) (fun _ _ h=>by cases h) i hi (by simp[hl]) rfl
    omega
  refine ⟨?_,hend listed E a w p sk M h hall⟩
  cases hr:Region.ready .any ops listed with
  | nil=>rfl
  | cons i r =>
   obtain ⟨hin,hil,_⟩:=ready_mem (show i∈Region.ready .any ops listed by rw[hr]; exact List.mem_cons_self) h.lsz
   rw[hall i hin] at hil; cases hil
 | succ fuel ih =>
  intro listed E a w p sk M h hc
  refine ⟨fun hr=>hend listed E a w p sk M h (all_done R h hr),fun i hi=>?_⟩
  obtain ⟨hin,hil,o,ho,_⟩:=ready_mem hi h.lsz
  refine step_ok hbd hcall R hn0 hF h hi ho fun E' a' w' p' sk' M' hR=>ih _ E' a' w' p' sk' M' hR ?_
  have hsz:i<listed.size:=by rw[h.lsz]; exact hin
  have:=cntF_lt (p:=fun j=>!(listed.setIfInBounds i true).getD j false) (q:=fun j=>!listed.getD j false) (n:=ops.size) (fun j _ hj=>by
   cases hl:listed.getD j false with
   | false=>rfl
   | true =>
    have:=(set_get hsz j).2 (.inl hl)
    rw[this] at hj; cases hj) i hin (by simp[hil]) (by rw[(set_get hsz i).2 (.inr rfl)]; rfl)
  omega
end
theorem mapN_get (f:Oper→Nat→Oper):∀ (l:List Oper) (n k:Nat),(mapN f l n)[k]?=(l[k]?).map fun o=>f o (n+k):=by
 intro l
 induction l with
 | nil=>intro n k; simp[mapN]
 | cons o l ih =>
  intro n k
  cases k with
  | zero=>simp[mapN]
  | succ k=>simp only[mapN,List.getElem?_cons_succ,ih]; rw[show n+1+k=n+(k+1) by omega]
theorem mapN_len (f:Oper→Nat→Oper):∀ (l:List Oper) (n:Nat),(mapN f l n).length=l.length:=by
 intro l
 induction l with
 | nil=>intro n; rfl
 | cons o l ih=>intro n; simp[mapN,ih]
theorem swN_ne {i k:Nat} (h:k≠i) (h2:k≠i+1):swN i k=k:=by simp[swN,beq_f h,beq_f h2]
theorem swN_a (i:Nat):swN i i=i+1:=by
 unfold swN
 rw[Nat.beq_refl]
theorem swN_b (i:Nat):swN i (i+1)=i:=by
 unfold swN
 rw[show Nat.beq (i+1) i=false from beq_f (by omega),Nat.beq_refl]
theorem swN_swN (i k:Nat):swN i (swN i k)=k:=by
 by_cases h:k=i
 ·subst h; rw[swN_a,swN_b]
 ·by_cases h2:k=i+1
  ·subst h2; rw[swN_b,swN_a]
  ·rw[swN_ne h h2,swN_ne h h2]
theorem swL_get:∀ (l:List Oper) (i k:Nat),i+1<l.length→(swL l i)[swN i k]?=l[k]?:=by
 intro l
 induction l with
 | nil=>intro i k h; simp at h
 | cons x l ih =>
  intro i k h
  cases i with
  | zero =>
   cases l with
   | nil=>simp at h
   | cons y r =>
    simp only[swL]
    cases k with
    | zero=>rfl
    | succ k =>
     cases k with
     | zero=>rfl
     | succ k=>rw[swN_ne (by omega) (by omega)]; rfl
  | succ i =>
   have hl:i+1<l.length:=by simpa using h
   simp only[swL]
   cases k with
   | zero=>rw[swN_ne (by omega) (by omega)]; rfl
   | succ k =>
    have:swN (i+1) (k+1)=swN i k+1:=by
     by_cases h1:k=i
     ·subst h1; rw[swN_a,swN_a]
     ·by_cases h2:k=i+1
      ·subst h2; rw[swN_b,swN_b]
      ·rw[swN_ne h1 h2,swN_ne (by omega) (by omega)]
    rw[this,List.getElem?_cons_succ,List.getElem?_cons_succ,ih i k hl]
theorem swL_len:∀ (l:List Oper) (i:Nat),(swL l i).length=l.length:=by
 intro l
 induction l with
 | nil=>intro i; cases i <;> rfl
 | cons x l ih =>
  intro i
  cases i with
  | zero=>cases l <;> simp[swL]
  | succ i=>simp[swL,ih]
theorem pairAt_lt:∀ (l:List Oper) (n i:Nat),pairAt l n=some i→n≤i∧i+1<n+l.length:=by
 intro l
 induction l with
 | nil=>intro n i h; cases h
 | cons x l ih =>
  intro n i h
  cases l with
  | nil=>cases h
  | cons y r =>
   unfold pairAt at h
   split at h
   ·cases h; simp
   ·obtain ⟨h1,h2⟩:=ih (n+1) i h
    simp only[List.length_cons] at h2 ⊢
    omega
section
variable {P : Program} {Q : Exit → Act → World → Prop}
theorem after_wp (o:Oper) (x:Array Edge) (a:Act) (w:World) (K:Act→World→Prop):({ o with after:=x }:Oper).wp P a w K Q=o.wp P a w K Q:=by
 have e:execOp a.eval { o with after:=x }=execOp a.eval o:=by
  obtain ⟨d,op,t,p,af,g⟩:=o
  cases op <;> rfl
 unfold Oper.wp
 rw[e]
 rfl
theorem after_asks (o:Oper) (x:Array Edge) (a:Act) (w:World):({ o with after:=x }:Oper).asks P a w=o.asks P a w:=by
 have e:execOp a.eval { o with after:=x }=execOp a.eval o:=by
  obtain ⟨d,op,t,p,af,g⟩:=o
  cases op <;> rfl
 unfold Oper.asks
 rw[e]
structure Like (ops ops':Array Oper) (π:Nat→Nat):Prop where
 inv:∀ k,π (π k)=k
 fwd:∀ (k:Nat) (o:Oper),ops[k]?=some o→o.guard=none∧∃ x,ops'[π k]?=some { o with after:=x }
 bwd:∀ (k:Nat) (o:Oper),ops'[π k]?=some o→∃ o',ops[k]?=some o'
theorem Like.op {ops ops':Array Oper} {π:Nat→Nat} (h:Like ops ops' π) {k:Nat} {K K':Act→World→Prop} {a:Act} {w:World} (hK:∀ a w,K a w→K' a w) (hw:wpOp P ops' Q (π k) K a w):wpOp P ops Q k K' a w:=by
 unfold wpOp at hw ⊢
 cases hk:ops[k]? with
 | none =>
  cases hk':ops'[π k]? with
  | none=>rw[hk'] at hw; exact hK _ _ hw
  | some o=>obtain ⟨o',h'⟩:=h.bwd k o hk'; rw[hk] at h'; cases h'
 | some o =>
  obtain ⟨hg,x,hx⟩:=h.fwd k o hk
  rw[hx] at hw
  dsimp only at hw ⊢
  have e1:∀ o':Oper,o'.guard=none→∀ y,Region.wanted o' y=true:=fun o' ho y=>by simp only[Region.wanted,ho]
  rw[if_pos (e1 _ (by exact hg) _)] at hw
  rw[if_pos (e1 _ hg _)]
  rw[after_wp,after_asks] at hw
  exact hw.imp (Oper.wp_mono hK) id
def Listed (π:Nat→Nat) (l l':Array Bool):Prop:=l'.size=l.size∧∀ k d,l'.getD (π k) d=l.getD k d
theorem Listed.set {π:Nat→Nat} (hi:∀ k,π (π k)=k) {l l':Array Bool} (h:Listed π l l') (k:Nat):Listed π (l.setIfInBounds k true) (l'.setIfInBounds (π k) true):=by
 refine ⟨by simp[h.1],fun j d=>?_⟩
 by_cases hj:j=k
 ·subst hj
  have h1:=h.2 j true
  have h2:=h.2 j false
  rw[Array.getD_eq_getD_getElem?,Array.getD_eq_getD_getElem?] at h1 h2 ⊢
  by_cases ha:j<l.size
  ·by_cases hb:π j<l'.size
   ·rw[Array.getElem?_setIfInBounds_self_of_lt hb,Array.getElem?_setIfInBounds_self_of_lt ha]
   ·rw[Array.getElem?_eq_none (by omega)] at h1 h2
    rw[Array.getElem?_eq_getElem ha] at h1 h2
    simp only[Option.getD_none,Option.getD_some] at h1 h2
    rw[←h1] at h2; cases h2
  ·by_cases hb:π j<l'.size
   ·rw[Array.getElem?_eq_getElem hb,Array.getElem?_eq_none (by omega)] at h1 h2
    simp only[Option.getD_none,Option.getD_some] at h1 h2
    rw[h1] at h2; cases h2
   ·rw[Array.getElem?_eq_none (by simp; omega),Array.getElem?_eq_none (by simp; omega)]
 ·have hne:π k≠π j:=fun e=>hj (by rw[←hi j,←e,hi k])
  rw[getD_set_ne d hne,getD_set_ne d (Ne.symm hj)]
  exact h.2 j d
theorem any_sim {ops ops':Array Oper} {π:Nat→Nat} (h:Like ops ops' π) {c:Nat}
  (hr:∀ l l',Listed π l l'→l.getD c false=true→∀ k,k∈Region.ready .any ops l↔π k∈Region.ready .any ops' l') :
  ∀ (fuel:Nat) (l l':Array Bool) (a:Act) (w:World),Listed π l l'→l.getD c false=true→wpAny P .any ops' Q fuel l' a w→wpAny P .any ops Q fuel l a w:=by
 have nil:∀ l l',Listed π l l'→l.getD c false=true→Region.ready .any ops l=[]→Region.ready .any ops' l'=[]:=by
  intro l l' hl hc h0
  apply List.eq_nil_iff_forall_not_mem.2
  intro k hk
  have:=(hr l l' hl hc (π k)).2 (by rw[h.inv]; exact hk)
  rw[h0] at this; cases this
 have nil':∀ l l',Listed π l l'→l.getD c false=true→Region.ready .any ops' l'=[]→Region.ready .any ops l=[]:=by
  intro l l' hl hc h0
  apply List.eq_nil_iff_forall_not_mem.2
  intro k hk
  have:=(hr l l' hl hc k).1 hk
  rw[h0] at this; cases this
 intro fuel
 induction fuel with
 | zero =>
  intro l l' a w hl hc hw
  exact ⟨nil' l l' hl hc hw.1,hw.2⟩
 | succ fuel ih =>
  intro l l' a w hl hc hw
  refine ⟨fun h0=>hw.1 (nil l l' hl hc h0),fun k hk=>?_⟩
  have:=hw.2 (π k) ((hr l l' hl hc k).1 hk)
  refine h.op (fun a w hK=>ih _ _ a w (hl.set h.inv k) ?_ hK) this
  exact getD_set_true hc
def firstN (i j:Nat):List Nat→Bool
 | []=>true
 | k::r=>if k=i then true else if k=j then false else firstN i j r
theorem firstN_or {i j:Nat} (h:i≠j):∀ l,firstN i j l=false→firstN j i l=true:=by
 intro l
 induction l with
 | nil=>intro e; cases e
 | cons k r ih =>
  intro e
  unfold firstN at e ⊢
  by_cases h1:k=i
  ·rw[if_pos h1] at e; cases e
  ·rw[if_neg h1] at e ⊢
   by_cases h2:k=j
   ·rw[if_pos h2]
   ·rw[if_neg h2] at e ⊢; exact ih e
structure Sim (ops B:Array Oper) (π:Nat→Nat) (i j:Nat):Prop where
 like:Like ops B π
 one:∀ l l',Listed π l l'→l.getD i false=true→∀ k,k∈Region.ready .any ops l↔π k∈Region.ready .any B l'
 to:∀ l l' k,Listed π l l'→k≠j→k∈Region.ready .any ops l→π k∈Region.ready .any B l'
 fro:∀ l l' k,Listed π l l'→π k∈Region.ready .any B l'→k∈Region.ready .any ops l
 lt:i<ops.size
 ne:i≠j
theorem go_first {ops B:Array Oper} {π:Nat→Nat} {i j:Nat} (S:Sim ops B π i j):∀ (fuel t:Nat) (l l':Array Bool) (a:Act) (w:World),l.size=ops.size→Listed π l l' →
  firstN i j (Region.linearise.go .any ops fuel t l [])=true→wpAny P .any B Q fuel l' a w→wpOps P ops Q (Region.linearise.go .any ops fuel t l []) a w:=by
 have nil:∀ l l',Listed π l l'→Region.ready .any ops l=[]→Region.ready .any B l'=[]:=by
  intro l l' hl h0
  apply List.eq_nil_iff_forall_not_mem.2
  intro k hk
  have:=S.fro l l' (π k) hl (by rw[S.like.inv]; exact hk)
  rw[h0] at this; cases this
 intro fuel
 induction fuel with
 | zero=>intro t l l' a w _ _ _ h; simpa [Region.linearise.go,wpOps] using h.2
 | succ fuel ih =>
  intro t l l' a w hs hl hf h
  obtain ⟨h₀,h₁⟩:=h
  simp only[Region.linearise.go] at hf ⊢
  change firstN i j (match (Region.ready .any ops l)[t%(Region.ready .any ops l).length]? with
   | some i=>Region.linearise.go .any ops fuel (t / (Region.ready .any ops l).length) (l.setIfInBounds i true) [i]
   | none=>[].reverse)=true at hf
  change wpOps P ops Q (match (Region.ready .any ops l)[t%(Region.ready .any ops l).length]? with
   | some i=>Region.linearise.go .any ops fuel (t / (Region.ready .any ops l).length) (l.setIfInBounds i true) [i]
   | none=>[].reverse) a w
  cases hi:(Region.ready .any ops l)[t%(Region.ready .any ops l).length]? with
  | none =>
   have hnil:Region.ready .any ops l=[]:=by
    cases hr:Region.ready .any ops l with
    | nil=>rfl
    | cons x xs =>
     rw[hr] at hi
     have hlt:t%(x::xs).length<(x::xs).length:=Nat.mod_lt _ (by simp)
     simp at hi
     simp at hlt
     omega
   simpa [wpOps] using h₀ (nil l l' hl hnil)
  | some k =>
   rw[hi] at hf
   simp only[] at hf ⊢
   rw[linearise_go_acc,List.reverse_singleton,List.singleton_append] at hf ⊢
   rw[wpOps_cons]
   have hk:=List.mem_of_getElem? hi
   unfold firstN at hf
   by_cases hki:k=i
   ·subst hki
    have hst:(l.setIfInBounds k true).getD k false=true:=by
     rw[Array.getD_eq_getD_getElem?,Array.getElem?_setIfInBounds_self_of_lt (by have:=S.lt; omega)]; rfl
    have hmem:π k∈Region.ready .any B l':=S.to l l' k hl S.ne hk
    exact S.like.op (fun a w hK=>wpAny_sound _ _ _ _ _ (any_sim S.like S.one fuel _ _ a w (hl.set S.like.inv k) hst hK)) (h₁ (π k) hmem)
   ·rw[if_neg hki] at hf
    by_cases hkj:k=j
    ·rw[if_pos hkj] at hf; cases hf
    ·rw[if_neg hkj] at hf
     exact S.like.op (fun a w hK=>ih _ _ _ a w (by simpa using hs) (hl.set S.like.inv k) hf hK) (h₁ (π k) (S.to l l' k hl hkj hk))
theorem wp_two {id:Nat} {ops A B:Array Oper} {π:Nat→Nat} {i j:Nat} {a:Act} {w:World} (hm:P.follows .mixedOrders=true) (SA:Sim ops A (fun k=>k) i j) (SB:Sim ops B π j i)
  (hl:Listed π (Array.replicate ops.size false) (Array.replicate B.size false)) (hA:A.size=ops.size) (hB:B.size=ops.size)
  (h1:wpAny P .any A Q A.size (Array.replicate A.size false) a { w with drawn:=w.drawn+1 }) (h2:wpAny P .any B Q B.size (Array.replicate B.size false) a { w with drawn:=w.drawn+1 }):(Code.region id ops true).wp P Q a w :=
 wp_region_draw fun t=>by
  simp only[Region.schedule,hm,Bool.true_or,if_true]
  show wpOps P ops Q (Region.linearise.go .any ops ops.size t (Array.replicate ops.size false) []) a _
  cases hf:firstN i j (Region.linearise.go .any ops ops.size t (Array.replicate ops.size false) []) with
  | true =>
   rw[hA] at h1
   exact go_first SA _ _ _ _ _ _ (by simp) ⟨rfl,fun k d=>rfl⟩ hf h1
  | false =>
   rw[hB] at h2 hl
   exact go_first SB _ _ _ _ _ _ (by simp) hl (firstN_or SA.ne _ hf) h2
theorem sim_of {ops B:Array Oper} {π:Nat→Nat} {i j:Nat} (g:Nat→Oper→Array Edge) (hinv:∀ k,π (π k)=k) (hgd:∀ (k:Nat) (o:Oper),ops[k]?=some o→o.guard=none) (hlt:i<ops.size) (hne:i≠j)
  (hB:∀ k,B[π k]?=(ops[k]?).map fun o=>{ o with after:=g k o })
  (hg:∀ l l',Listed π l l'→∀ k o,(∀ e∈g k o,Region.binds .any e=true→l'.getD e.on false=true)↔(∀ e∈o.after,Region.binds .any e=true→l.getD e.on false=true)∧(k=j→l.getD i false=true)):Sim ops B π i j:=by
 have key:∀ l l',Listed π l l'→∀ k,π k∈Region.ready .any B l'↔k∈Region.ready .any ops l∧(k=j→l.getD i false=true):=by
  intro l l' hl k
  rw[mem_ready,mem_ready,hl.2,hB]
  constructor
  ·rintro ⟨h1,o',h2,h3⟩
   cases hk:ops[k]? with
   | none=>rw[hk] at h2; cases h2
   | some o =>
    rw[hk] at h2
    cases h2
    obtain ⟨h4,h5⟩:=(hg l l' hl k o).1 h3
    exact ⟨⟨h1,o,rfl,h4⟩,h5⟩
  ·rintro ⟨⟨h1,o,h2,h3⟩,h4⟩
   rw[h2]
   exact ⟨h1,_,rfl,(hg l l' hl k o).2 ⟨h3,h4⟩⟩
 refine ⟨⟨hinv,fun k o hk=>⟨hgd k o hk,g k o,by rw[hB,hk]; rfl⟩,fun k o hk=>?_⟩,fun l l' hl hi k=>?_,fun l l' k hl hk h=>?_,fun l l' k hl h=>((key l l' hl k).1 h).1,hlt,hne⟩
 ·rw[hB] at hk
  cases h:ops[k]? with
  | none=>rw[h] at hk; cases hk
  | some o'=>exact ⟨o',rfl⟩
 ·rw[key l l' hl k]
  exact ⟨fun h=>⟨h,fun _=>hi⟩,fun h=>h.1⟩
 ·rw[key l l' hl k]
  exact ⟨h,fun e=>absurd e hk⟩
theorem simA {ops:Array Oper} {i:Nat} (hgd:∀ (k:Nat) (o:Oper),ops[k]?=some o→o.guard=none) (hi:i+1<ops.size):Sim ops (opsA ops i) (fun k=>k) i (i+1):=by
 refine sim_of (fun k o=>(oneL i o k).after) (fun _=>rfl) hgd (by omega) (by omega) (fun k=>?_) fun l l' hl k o=>?_
 ·unfold opsA
  rw[List.getElem?_toArray,mapN_get,Array.getElem?_toList,Nat.zero_add]
  cases ops[k]? with
  | none=>rfl
  | some o =>
   simp only[Option.map_some,Option.some.injEq]
   unfold oneL
   split <;> rfl
 ·by_cases hk:k=i+1
  ·subst hk
   have e:(oneL i o (i+1)).after=o.after.push ⟨i,.data⟩:=by unfold oneL; rw[Nat.beq_refl]
   rw[e]
   constructor
   ·intro h
    refine ⟨fun e he hb=>?_,fun _=>?_⟩
    ·rw[←hl.2]; exact h e (Array.mem_push_of_mem _ he) hb
    ·rw[←hl.2]; exact h ⟨i,.data⟩ (Array.mem_push_self) rfl
   ·rintro ⟨h1,h2⟩ e he hb
    rcases Array.mem_push.1 he with h | h
    ·have:=h1 e h hb; rw[←hl.2] at this; exact this
    ·subst h; have:=h2 rfl; rw[←hl.2] at this; exact this
  ·have e:(oneL i o k).after=o.after:=by unfold oneL; rw[beq_f hk]
   rw[e]
   constructor
   ·intro h
    exact ⟨fun e he hb=>by rw[←hl.2]; exact h e he hb,fun e=>absurd e hk⟩
   ·rintro ⟨h1,_⟩ e he hb
    have:=h1 e he hb; rw[←hl.2] at this; exact this
theorem simB {ops:Array Oper} {i:Nat} (hgd:∀ (k:Nat) (o:Oper),ops[k]?=some o→o.guard=none) (hi:i+1<ops.size):Sim ops (opsB ops i) (swN i) (i+1) i:=by
 refine sim_of (fun k o=>(oneL i (swO i o 0) (swN i k)).after) (swN_swN i) hgd hi (by omega) (fun k=>?_) fun l l' hl k o=>?_
 ·unfold opsB
  rw[List.getElem?_toArray,mapN_get,swL_get _ _ _ (by rw[mapN_len]; simpa using hi),mapN_get,Array.getElem?_toList,Nat.zero_add]
  cases ops[k]? with
  | none=>rfl
  | some o =>
   simp only[Option.map_some,Option.some.injEq]
   unfold oneL
   split <;> rfl
 ·have hsw:(∀ e∈(swO i o 0).after,Region.binds .any e=true→l'.getD e.on false=true)↔(∀ e∈o.after,Region.binds .any e=true→l.getD e.on false=true):=by
   unfold swO
   simp only[List.mem_toArray,List.mem_map,Array.mem_toList_iff]
   constructor
   ·intro h e he hb
    have:=h (swE i e) ⟨e,he,rfl⟩ hb
    rw[←hl.2]; exact this
   ·rintro h e' ⟨e,he,rfl⟩ hb
    have:=h e he hb
    rw[←hl.2] at this; exact this
  by_cases hk:k=i
  ·subst hk
   have e:(oneL k (swO k o 0) (swN k k)).after=(swO k o 0).after.push ⟨k,.data⟩:=by unfold oneL; rw[swN_a,Nat.beq_refl]
   have hl':l'.getD k false=l.getD (k+1) false:=by rw[←hl.2,swN_b]
   rw[e,←hsw]
   constructor
   ·intro h
    refine ⟨fun e he hb=>h e (Array.mem_push_of_mem _ he) hb,fun _=>?_⟩
    rw[←hl']; exact h ⟨k,.data⟩ (Array.mem_push_self) rfl
   ·rintro ⟨h1,h2⟩ e he hb
    rcases Array.mem_push.1 he with h | h
    ·exact h1 e h hb
    ·subst h; have:=h2 rfl; rw[←hl'] at this; exact this
  ·have e:(oneL i (swO i o 0) (swN i k)).after=(swO i o 0).after:=by
    unfold oneL
    rw[beq_f]
    intro h
    exact hk (by rw[←swN_swN i k,h,swN_b])
   rw[e,←hsw]
   exact ⟨fun h=>⟨h,fun e=>absurd e hk⟩,fun h=>h.1⟩
end
section
variable {ρ : Nat → Int} {bd : Bd} (hbd : BdOk ρ bd) {P : Program} {call : FuncId → List AV → St → Out} (hcall : CallsOk ρ P call) {vars : List Nat} {F : LF} {nt : Nat}
include hbd hcall in
theorem draw_any {ops:Array Oper} {Q:Exit→Act→World→Prop} {F':LF} {E:Env} {a:Act} {s s':St} {w:World} {e:Ex} {fu:Nat} {c:VC} (hD:coD P vars nt ops=some c) (hF:FrOk ρ E vars nt F a) (hH:HR ρ E s.m w)
  (h:exec bd call fu c F s = .ok e F' s') (hQ:∀ E' a' w',Step ρ E s.m w E' s'.m w'→FrOk ρ E' vars nt F' a'→Q .normal a' w'):wpAny P .any ops Q ops.size (Array.replicate ops.size false) a w.drew:=by
 obtain ⟨rfl,hchk⟩:=coD_some hD
 have hlen:(clOf P vars nt ops).length=ops.size:=by simp[clOf,vsOf,coIs_len]
 have fx:Fix ops (clOf P vars nt ops) (bitsOf ops):=fix_ok hchk
 have h':endR F (keepOf (endE vars nt false ops.toList 0 []).1 (endE vars nt false ops.toList 0 []).2 vars 0)
   (drwF bd call F s.next (vsOf P vars nt ops) (winsOf (clOf P vars nt ops) (bitsOf ops)) 0 [] 0 ⟨s.heap,s.next+cntF (isFresh (clOf P vars nt ops)) ops.size⟩ [] [] []) = .ok e F' s':=h
 cases hr:drwF bd call F s.next (vsOf P vars nt ops) (winsOf (clOf P vars nt ops) (bitsOf ops)) 0 [] 0 ⟨s.heap,s.next+cntF (isFresh (clOf P vars nt ops)) ops.size⟩ [] [] [] with
 | bad n t=>rw[hr] at h'; cases h'
 | ok L1 s1 =>
 rw[hr] at h'
 simp only[endE_get] at h'
 cases h'
 obtain ⟨Lx,Tx,T,G,sl,m,e1,e2,e3,e4,e5,e6,e7,e8,e9,e10,e11⟩:=drwF_ok _ _ _ _ _ _ _ _ _ _ _ hr rfl rfl (by simp) (by simp)
 have hvl:(vsOf P vars nt ops).length=ops.size:=by simp[vsOf,coIs_len]
 have hL:L1.length=ops.size:=by rw[e1]; simp[e2,hvl]
 have R:Reg bd call F P vars nt ops s.next T G L1:=by
  refine ⟨fx,fun i vi hv=>?_,e9,fun f hf=>?_,hL⟩
  ·obtain ⟨w',fs,g1,g2,g3⟩:=e11 i vi hv
   have hi:i<ops.size:=by rw[←hvl]; exact lt_of_getL hv
   have hw:w'=winOf (clOf P vars nt ops) (bitsOf ops) i:=by
    unfold winsOf at g1
    rw[List.getElem?_map,List.getElem?_range (by rw[hlen]; exact hi)] at g1
    cases g1; rfl
   subst hw
   refine ⟨fs,fun f=>by rw[g2]; simp,?_⟩
   rw[Nat.zero_add,Nat.zero_add,winOf_bits,hvl,lc_eq] at g3
   exact g3
  ·rcases e8 f hf with h | ⟨_,h⟩
   ·cases h
   ·rw[hvl] at h; omega
 have hT0:T[0]?=some ⟨s.heap,s.next+cntF (isFresh (clOf P vars nt ops)) ops.size⟩:=by rw[e3]; simp
 refine any_ok hbd hcall R (s0:=s) rfl hF (E0:=E) (w0:=w) (fun listed E' a' w' p sk M h hall=>?_) ops.size (Array.replicate ops.size false) E a w.drew 0 ⟨s.heap,s.next+cntF (isFresh (clOf P vars nt ops)) ops.size⟩ ⟨s.heap.get,s.next+cntF (isFresh (clOf P vars nt ops)) ops.size⟩ ?_ ?_
 ·-- the end
  have hk:cntF (isLoud (clOf P vars nt ops)) p=m:=by
   rw[e4,Nat.zero_add,lc_eq,hvl]
   apply Nat.le_antisymm
   ·exact cntF_le_of_lt h.pn
   ·rw[←cntF_cut h.pn]
    refine cntF_mono fun e he hl=>?_
    simp only[Bool.and_eq_true,Nat.blt_eq]
    exact ⟨hl,(h.cut e he hl).1 (hall e he)⟩
  have hsk:sk=sl:=by
   have:=h.stg
   rw[hk,e5] at this; cases this; rfl
  subst hsk
  obtain ⟨s1',s2,s3,s4⟩:=addE_spec m G sk
  have hsub:∀ b x,(addE m G sk).m.g b=some x→M.g b=some x:=by
   intro b x hb
   rcases s2 b x hb with h' | ⟨f,f1,f2,f3,f4⟩
   ·exact h.sub b x h'
   ·have:=h.inn f f1 (hall f.i (R.gl f f1)) (by rw[hk]; exact f2)
    rw[f3,f4] at this; exact this
  have hthin:Thin M (addE m G sk).m:=by
   refine ⟨fun b c k hb=>⟨c,k,hsub b _ hb,Nat.le_refl _,fun _ _ h=>h,fun e=>⟨e,rfl⟩,fun e=>e⟩,fun b es hb=>hsub b _ hb,fun b b' c c' k k' hne h1 h2 h3 h4=>?_,s1'.trans h.n.symm⟩
   obtain ⟨d1,h3⟩:=h3
   obtain ⟨d2,h4⟩:=h4
   rw[hsub _ _ h1] at h3; cases h3
   rw[hsub _ _ h2] at h4; cases h4
   exact ⟨rfl,rfl⟩
  have hS:=h.step.thin hthin
  rw[←e6] at hS
  have hI:Inv ρ E' vars nt ops.size (ceG ops.toList 0 [] ops.size) L1 F a':=by
   refine ⟨fun x od hx v hv=>?_,fun k n hk=>?_,h.size,h.defers⟩
   ·by_cases htmp:∃ k,x = .tmp k
    ·obtain ⟨k,rfl⟩:=htmp
     have hlook:=ceG_look ops.toList 0 [] ops.size k (by simp)
     rcases coO_tmp hx with ⟨r,h1,rfl⟩ | ⟨h1,i',h2,rfl⟩
     ·rcases hlook with ⟨j,oj,g1,g2,g3,g4⟩ | ⟨_,g4⟩
      ·rw[h1] at g4; cases g4
       have e:(Rf.p (0+j)).od ops.size = .t (ops.size-1-j):=by simp[Rf.od]
       rw[e] at hv
       exact h.t1 j oj k (hall j g1) (by simpa using g2) g3 v hv
      ·rw[h1] at g4; cases g4
     ·rcases hlook with ⟨j,oj,g1,g2,g3,g4⟩ | ⟨g1,_⟩
      ·rw[h1] at g4; cases g4
      ·rw[h.t2 k fun j oj hj hoj hd=>g1 j oj (lt_of_get hoj) (by simpa using hoj) hd]
       exact (hF.ok k i' v h2 hv).mono h.step.le
    ·obtain ⟨c,rfl,h1,h2⟩:=coO_rest (fun k e=>htmp ⟨k,e⟩) hx [] F a a'
     rw[h2]
     exact (hF.inv.ok x (.c c) (h1 _ _) v hv).mono h.step.le
   ·rcases ceG_look ops.toList 0 [] ops.size k (by simp) with ⟨j,oj,g1,g2,g3,g4⟩ | ⟨_,g4⟩
    ·rw[hk] at g4; cases g4; omega
    ·rw[hk] at g4; cases g4
  have hfr:=hI.fr
  have hszl:ops.toList.length=ops.size:=by simp
  exact hQ E' a' w' hS (by simpa [hszl] using hfr)
 ·-- the start
  have hl0:∀ j,(Array.replicate ops.size false).getD j false=false:=by
   intro j
   rw[Array.getD_eq_getD_getElem?,Array.getElem?_replicate]
   split <;> rfl
  refine ⟨by simp,fun j i hj=>?_,fun e he hl=>?_,Nat.zero_le _,hF.size,hF.defers,fun j oj d hj=>?_,fun k _=>rfl,hT0,Nat.le_refl _,rfl,fun b x hb=>hb,fun f hf hl=>?_,fun b x hb => .inl hb,fun f hf hk=>?_,?_,fun j hj hf hl=>?_⟩
  ·rw[hl0] at hj; cases hj
  ·rw[hl0]; simp
  ·rw[hl0] at hj; cases hj
  ·rw[hl0] at hl; cases hl
  ·show s.m.g f.id=none
   cases hg:s.m.g f.id with
   | none=>rfl
   | some x =>
    have:=hH.live_lt hg
    obtain ⟨_,g2,_⟩:=R.g hf
    have e:s.m.n=s.next:=rfl
    omega
  ·refine ⟨.refl _,⟨hH.cells,hH.maps,hH.apart,hH.mapart,fun b hb=>hH.dom b (by have e:s.m.n=s.next:=rfl; dsimp only at hb; omega)⟩,fun _ _ _=>rfl,fun _ h => .inl h,rfl,rfl,rfl,Nat.le_refl _,by show s.next≤s.next+_; omega,fun _ _=>⟨rfl,rfl⟩,fun _ _ h=>h,fun _ _ h=>h⟩
  ·exact hH.dom _ (by show s.next≤_; omega)
 ·refine Nat.le_trans (cntF_mono (q:=fun _=>true) fun _ _ _=>rfl) ?_
  unfold cntF
  exact Nat.le_trans (List.length_filter_le _ _) (by simp)
theorem put_thin {s:St} {n:Nat}:Thin s.m (s.put n none).m:=by
 have hsub:∀ b x,(s.put n none).m.g b=some x→s.m.g b=some x:=by
  intro b x hb
  rw[St.m_put] at hb
  split at hb
  ·cases hb
  ·exact hb
 refine ⟨fun b c k hb=>⟨c,k,hsub b _ hb,Nat.le_refl _,fun _ _ h=>h,fun e=>⟨e,rfl⟩,fun e=>e⟩,fun b es hb=>hsub b _ hb,fun b b' c c' k k' hne h1 h2 h3 h4=>?_,rfl⟩
 obtain ⟨d1,h3⟩:=h3
 obtain ⟨d2,h4⟩:=h4
 rw[hsub _ _ h1] at h3; cases h3
 rw[hsub _ _ h2] at h4; cases h4
 exact ⟨rfl,rfl⟩
theorem opsA_size {ops:Array Oper} {i:Nat}:(opsA ops i).size=ops.size:=by simp[opsA,mapN_len]
theorem opsB_size {ops:Array Oper} {i:Nat}:(opsB ops i).size=ops.size:=by simp[opsB,mapN_len,swL_len]
include hbd hcall in
theorem draw_ok (hm:P.follows .mixedOrders=true):DrawOk ρ bd P call vars nt:=by
 intro id ops Q F F' E a s s' w e fu hF hH h hQ
 simp only[coC] at h
 split at h
 ·rename_i c hc
  exact wp_region_any hm (draw_any hbd hcall hc hF hH h hQ)
 ·split at h
  ·rename_i i hg hp
   split at h
   ·rename_i x y hx hy
    change Rs.two s.next (exec bd call fu x F s) (exec bd call fu y F s)=_ at h
    obtain ⟨rfl,s1,s2,h1,h2,e1,e3,e4⟩:=two_ok h
    have e2:s'.m=(s2.put s.next none).m:=by
     rw[e1]
     show (⟨_,_⟩ : M)=⟨_,_⟩
     congr 1
     funext b
     show (s1.put s.next none).m.g b=(s2.put s.next none).m.g b
     rw[St.m_put,St.m_put]
     by_cases hb:b=s.next
     ·rw[if_pos hb,if_pos hb]
     ·rw[if_neg hb,if_neg hb]; exact e4 b hb
    have hi:i+1<ops.size:=by have:=(pairAt_lt _ _ _ hp).2; simpa using this
    have hgd:∀ (k:Nat) (o:Oper),ops[k]?=some o→o.guard=none:=by
     intro k o hk
     have:=List.all_eq_true.1 hg o (by simpa using Array.mem_of_getElem? hk)
     cases ho:o.guard with
     | none=>rfl
     | some g=>rw[ho] at this; cases this
    refine wp_two hm (simA hgd hi) (simB hgd hi) ⟨by simp[opsB_size],fun k d=>?_⟩ opsA_size opsB_size
     (draw_any hbd hcall hx hF hH h1 fun E' a' w' hS hF'=>hQ E' a' w' (by rw[e1]; exact hS.thin put_thin) hF')
     (draw_any hbd hcall hy hF hH h2 fun E' a' w' hS hF'=>hQ E' a' w' (by rw[e2]; exact hS.thin put_thin) hF')
    rw[opsB_size,Array.getD_eq_getD_getElem?,Array.getD_eq_getD_getElem?,Array.getElem?_replicate,Array.getElem?_replicate]
    have:swN i k<ops.size↔k<ops.size:=by
     by_cases h1:k=i
     ·subst h1; rw[swN_a]; omega
     ·by_cases h2:k=i+1
      ·subst h2; rw[swN_b]; omega
      ·rw[swN_ne h1 h2]
    by_cases hk:k<ops.size
    ·rw[if_pos hk,if_pos (this.2 hk)]
    ·rw[if_neg hk,if_neg fun h=>hk (this.1 h)]
   ·cases h
  ·cases h
include hbd in
theorem calls_ok (hm:P.follows .mixedOrders=true) {tab:Nat→Option VF} (htab:∀ f v,tab f=some v→EntryOk ρ P f v) (fu n:Nat):CallsOk ρ P (callF bd tab fu n) :=
 callF_ok hbd htab (fun call vars nt hcall=>draw_ok hbd hcall hm) fu n
end
end Go.Vm
namespace Go.Vm
open Go.RowKit
noncomputable def yes (o:Out):Bool:=match o with
 | .v x _=>x.onBool (fun b=>b) false
 | _=>false
theorem yes_ok {o:Out} (h:yes o=true):∃ s,o = .v (.bool true) s:=by
 cases o with
 | v x s =>
  cases x <;> simp only[yes,AV.onBool,Bool.false_eq_true] at h
  subst h
  exact ⟨s,rfl⟩
 | u s=>cases h
 | bad n t=>cases h
def env0:Env:=⟨fun _=>none,fun _=>none⟩
def st0:St:=⟨.e,0⟩
theorem st0_get (j:Nat):st0.m.g j=none:=rfl
theorem hr0 (ρ:Nat→Int) (w:World):HR ρ env0 st0.m w:=by
 refine ⟨fun b c k h=>?_,fun b es h=>?_,fun b b' c c' k k' _ _ _ _ _ _ h=>?_,fun b b' es es' _ _ h=>?_,fun _ _=>⟨rfl,rfl⟩⟩ <;> (rw[st0_get] at h; cases h)
def TrAll {α:Type}:Tr α→(Nat→α→Prop)→Prop
 | .e,_=>True
 | .n l v r,Q=>(∀ x,v=some x→Q 0 x)∧TrAll l (fun k=>Q (2*k+1))∧TrAll r (fun k=>Q (2*k+2))
theorem TrAll.get {α:Type}:∀ {t:Tr α} {Q:Nat→α→Prop},TrAll t Q→∀ k x,t.get k=some x→Q k x:=by
 intro t
 induction t with
 | e=>intro Q _ k x h; cases h
 | n l v r ihl ihr =>
  intro Q h k x hx
  obtain ⟨h0,h1,h2⟩:=h
  cases k with
  | zero=>exact h0 x hx
  | succ k =>
   rw[Tr.get_succ] at hx
   split at hx
   ·have:=ihl h1 _ x hx
    rw[show 2*(k / 2)+1=k+1 by omega] at this
    exact this
   ·have:=ihr h2 _ x hx
    rw[show 2*(k / 2)+2=k+1 by omega] at this
    exact this
theorem all_e {α:Type} {Q:Nat→α→Prop}:TrAll .e Q:=trivial
theorem all_0 {α:Type} {Q:Nat→α→Prop} {l r:Tr α} (hl:TrAll l (fun k=>Q (2*k+1))) (hr:TrAll r (fun k=>Q (2*k+2))):TrAll (.n l none r) Q:=⟨fun x h=>(by cases h),hl,hr⟩
theorem all_1 {α:Type} {Q:Nat→α→Prop} {l r:Tr α} {x:α} (hx:Q 0 x) (hl:TrAll l (fun k=>Q (2*k+1))) (hr:TrAll r (fun k=>Q (2*k+2))):TrAll (.n l (some x) r) Q:=⟨fun y h=>(by cases h; exact hx),hl,hr⟩
end Go.Vm
namespace Go.Vm
section
variable {ρ : Nat → Int} {P : Program} {f : Nat} {fn : Func}
theorem ext_run (hf:P.funcs[f]?=some fn) (hb:fn.body=none) (hg:(fn.name == "runtime.NumGoroutine")=false) (hx:(Extern.findNext fn).isNone=true) {e:Array Value→Sem Value} (hn:Extern.find fn=some e) {vals:Array Value} {w w':World} {x:Value} (h:(e vals).run P w = .ok x w') :
  (callFunc f vals).run P w = .ok (.value x) w':=by
 have hx':Extern.findNext fn=none:=Option.isNone_iff_eq_none.1 hx
 have hg':¬fn.name = "runtime.NumGoroutine":=by simpa using hg
 simp[callFunc,program,Sem.run,mark,hf,hb,hg',hx',hn,h]
theorem store_at {A:Addr} {x:Value} {w w':World} (ho:A.spot=none) (h:(storeCells A [x]).run P w = .ok () w') (m:Mode) (hc:∃ v,w.cell? A=some v):(store A x m).run P w = .ok () w':=by
 obtain ⟨v,hv⟩:=hc
 obtain ⟨b,o,s⟩:=A
 simp only at ho
 subst ho
 have e:Addr.add ⟨b,o,none⟩ 0=⟨b,o,none⟩:=addr_add b o 0
 cases x <;> simp[storeCells,store,Sem.run,e,hv] at h ⊢ <;> (split at h <;> simp_all)
theorem atomF2 {vs:List AV} {s:St}:(∃ b o d n m s',vs=[.ptr b o,.int .i64 d]∧rd1 s b o=some (.int .i64 n)∧arith .add .i64 n d=some m∧wr s b o [.int .i64 m]=some s'∧atomF 2 vs s = .v (.int .i64 m) s')∨∃ n t,atomF 2 vs s = .bad n t:=by
 cases vs with
 | nil=>exact .inr ⟨_,_,rfl⟩
 | cons v l =>
  cases l with
  | nil=>cases v <;> exact .inr ⟨_,_,rfl⟩
  | cons v' l =>
   cases l with
   | cons _ _=>cases v <;> (try cases v') <;> (try (rename_i k _; cases k)) <;> exact .inr ⟨_,_,rfl⟩
   | nil =>
    cases v with
    | ptr b o =>
     cases v' with
     | int k d =>
      cases k with
      | i64 =>
       have e:atomF 2 [.ptr b o,.int .i64 d] s=match rd1 s b o with
        | some (.int .i64 n)=>match arith .add .i64 n d with
         | some m=>match wr s b o [.int .i64 m] with
          | some s' => .v (.int .i64 m) s'
          | none => .bad 102 []
         | none => .bad 103 []
        | _ => .bad 104 []:=rfl
       rw[e]
       split
       ·rename_i n h
        split
        ·rename_i m hm
         split
         ·rename_i s' hs; exact .inl ⟨b,o,d,n,m,s',rfl,h,hm,hs,rfl⟩
         ·exact .inr ⟨_,_,rfl⟩
        ·exact .inr ⟨_,_,rfl⟩
       ·exact .inr ⟨_,_,rfl⟩
      | _=>exact .inr ⟨_,_,rfl⟩
     | _=>exact .inr ⟨_,_,rfl⟩
    | _=>exact .inr ⟨_,_,rfl⟩
theorem atom2_ok (hf:P.funcs[f]?=some fn) (hb:fn.body=none) (hg:(fn.name == "runtime.NumGoroutine")=false) (hx:(Extern.findNext fn).isNone=true) (hn:Extern.find fn=some (Extern.Atomic.update (Op.intArith .add) .i64 true)):EntryOk ρ P f (.atom 2):=by
 intro E vs vals s w hH hv
 rcases atomF2 (vs:=vs) (s:=s) with ⟨b,o,d,n,m,s',rfl,hr,hm,hw,e⟩ | ⟨n,t,e⟩
 ·rw[e]
  cases hv with | cons h1 h2 =>
  cases h2 with | cons h2 h3 =>
  cases h3
  cases h1 with | ptr hb' =>
  cases h2 with | int hd =>
  rename_i B δ z y
  obtain ⟨u,u1,u2,u3⟩:=rd1_ok hH hb' hr
  cases u2 with | int hi =>
  rename_i x
  obtain ⟨q,hq,hrun⟩:=arith_ok (P:=P) hi hd hm
  have hq':q=IntKind.i64.wrap (x+y):=by
   have:=hq w 0
   simp[binOp,Op.intArith] at this
   exact this.symm
  subst hq'
  obtain ⟨w',w1,w2⟩:=wr_ok hH hb' (.cons (.int hrun) .nil) (by simp[AV.scalar]) hw
  have hst:=store_at (P:=P) rfl (w1 P) .atomic ⟨_,u1⟩
  refine .inr ⟨_,E,w',ext_run hf hb hg hx hn ?_,.int hrun,w2⟩
  change (asAddr (.pointer (some ⟨B,o+δ,none⟩)) >>= fun a=>Extern.Atomic.read (.int .i64) a >>= fun old=>asInt old >>= fun i=>asInt (.int .i64 y) >>= fun j=>Op.intArith .add .i64 i j >>= fun new=>store a new .atomic >>= fun _=>pure new).run P w=_
  simp[asAddr,Extern.Atomic.read,load,Sem.run,u1,asInt,asIntOf,Op.intArith,hst]
 ·rw[e]; trivial
end
end Go.Vm
namespace Go.Vm
open Go.RowKit
theorem own0 (k:Nat):¬Own env0 st0.m k:=by
 rintro ⟨b,⟨c,k,δ,z,h,_⟩ | ⟨es,h,_⟩⟩
 ·rw[st0_get] at h; cases h
 ·rw[st0_get] at h; cases h
theorem law_okE {ρ:Nat→Int} {bd:Bd} (hbd:BdOk ρ bd) {P:Program} (hm:P.follows .mixedOrders=true) {t:Tr VF} (ht:TrAll t (EntryOk ρ P)) {fu n f:Nat} {np:Nat} {vs:List Nat} {c:VC} {r:List RV} (hc:t.get f=some (.code np vs c r))
  {args:List AV} {vals:List Value} {E:Env} {st:St} {w:World} (hH:HR ρ E st.m w) (hO:∀ k,¬Own E st.m k) (hv:VRs ρ E args vals) (hrun:yes (callF bd t.get fu n f args st)=true) :
  Calls P f vals.toArray w fun e w'=>e = .returned (.bool true)∧Below w.heap.size w w':=by
 obtain ⟨s',hs⟩:=yes_ok hrun
 have hG:=calls_ok hbd hm (tab:=t.get) ht.get fu n E f args vals st w hH hv
 rw[hs] at hG
 have hE:=ht.get f _ hc
 obtain ⟨fn,hf,hco⟩:=hE
 have hbn:fn.body.isNone=false∧(fn.name == "runtime.NumGoroutine")=false:=by
  unfold coFn at hco
  split at hco
  ·rename_i b hb
   dsimp only at hco
   split at hco
   ·rename_i hchk
    simp only[Bool.and_eq_true,Bool.not_eq_true'] at hchk
    exact ⟨by rw[hb]; rfl,hchk.1.2⟩
   ·cases hco
  ·cases hco
 have hent:(callFunc f vals.toArray).run P w = .ok (.enter f vals.toArray) w:=by
  simp only[callFunc,program,Sem.run_bind,Sem.run,Result.andThen_ok,hf,hbn.2,hbn.1,Bool.false_eq_true,if_false,Sem.run_pure]
 rcases hG with ⟨_,h⟩ | ⟨x,E',w',h,_⟩
 ·refine h.mono ?_
  rintro e w' ⟨x,E',rfl,hx,hS⟩
  cases hx
  exact ⟨rfl,hS.os,hS.tape,hS.output,hS.size,fun k hk=>hS.frame k hk (hO k)⟩
 ·rw[hent] at h; cases h
theorem enter_ok {P:Program} {f:Nat} {fn:Func} (hf:P.funcs[f]?=some fn) (hb:fn.body.isNone=false) (hn:(fn.name == "runtime.NumGoroutine")=false):∀ vals w,(callFunc f vals).run P w = .ok (.enter f vals) w:=by
 intro vals w
 simp only[callFunc,program,Sem.run_bind,Sem.run,Result.andThen_ok,hf,hn,hb,Bool.false_eq_true,if_false]; rfl
def IsRow8 (w:World) (a:Option Addr) (len cap:Nat) (zs:List Int):Prop :=
 (a=none∧len=0∧cap=0∧zs=[]) ∨
 ∃ x,a=some x∧len≤cap∧cap≤maxLen∧zs.length=cap∧(∀ i,i<zs.length→w.cell? (x.add i)=some (.int .u8 (zs.getD i 0)))∧∀ n∈zs,(Lit.int .u8 n).wf=true
theorem row8_bytes {w:World} {a:Option Addr} {len cap:Nat} {zs:List Int} (h:IsRow8 w a len cap zs):∀ i,0≤zs.getD i 0∧zs.getD i 0≤255:=by
 intro i
 have h0:∀ n∈zs,(Lit.int .u8 n).wf=true:=by
  rcases h with ⟨_,_,_,rfl⟩ | ⟨_,_,_,_,_,_,h⟩
  ·intro n hn; cases hn
  ·exact h
 by_cases hi:i<zs.length
 ·have e:zs.getD i 0=zs[i]:=by simp[List.getD,hi]
  have:=h0 _ (List.getElem_mem hi)
  rw[e]
  simpa [Lit.wf,IntKind.min,IntKind.max,IntKind.signed,IntKind.bits] using this
 ·have e:zs.getD i 0=0:=by simp[List.getD,List.getElem?_eq_none (Nat.le_of_not_lt hi)]
  rw[e]; decide
theorem row_block {w:World} {a:Addr} {zs:List Int} (h0:0<zs.length) (hc:∀ i,i<zs.length→w.cell? (a.add i)=some (.int .u8 (zs.getD i 0))) :
  ∃ B δ cs t fz,a=⟨B,δ,none⟩∧w.heap[B]?=some (.cells cs t fz)∧δ+zs.length≤cs.size∧∀ i,i<zs.length→cs[i+δ]?=some (.int .u8 (zs.getD i 0)):=by
 obtain ⟨B,δ,sp⟩:=a
 have hb:=hc 0 h0
 unfold World.cell? at hb hc
 have e0:(Addr.add ⟨B,δ,sp⟩ 0)=⟨B,δ,sp⟩:=rfl
 rw[e0] at hb
 dsimp only at hb
 split at hb
 ·rename_i cs t fz hw
  have hsp:sp=none:=by
   cases sp with
   | none=>rfl
   | some x=>simp at hb
  subst hsp
  have ad:∀ i,(Addr.add ⟨B,δ,none⟩ i).block=B∧(Addr.add ⟨B,δ,none⟩ i).off=δ+i∧(Addr.add ⟨B,δ,none⟩ i).spot=none:=fun i=>by rw[addr_add]; exact ⟨rfl,rfl,rfl⟩
  have hall:∀ i,i<zs.length→cs[i+δ]?=some (.int .u8 (zs.getD i 0)):=by
   intro i hi
   have h1:=hc i hi
   rw[(ad i).1,hw] at h1
   simp only[(ad i).2.1,(ad i).2.2,Option.isSome_none,Bool.false_eq_true,if_false] at h1
   rw[Nat.add_comm]; exact h1
  refine ⟨B,δ,cs,t,fz,rfl,hw,?_,hall⟩
  have:=lt_of_get (hall (zs.length-1) (by omega))
  omega
 ·cases hb
theorem vr_sl0 {ρ:Nat→Int} {E:Env} {b len B δ z cap:Nat} (hb:E.blk b=some (B,δ,z)) (h1:len≤cap) (h2:δ+cap≤z):VR ρ E (.sl b 0 len len false 1) (.slice (some ⟨B,δ,none⟩) len cap):=by
 have:=VR.sl (ρ:=ρ) (off:=0) (len:=len) (lo:=len) (ex:=false) (sz:=1) (cap:=cap) hb (Nat.le_refl _) h1 (by simp) (by omega)
 rwa [Nat.zero_add] at this
end Go.Vm
