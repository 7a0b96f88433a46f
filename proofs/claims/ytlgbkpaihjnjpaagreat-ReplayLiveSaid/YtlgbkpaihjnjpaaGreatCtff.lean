/- What functions of the program compute, one by one (6). -/
import Derived.Test.YtlgbkpaihjnjpaaGreatCtee
set_option linter.unusedVariables false
set_option linter.unusedSimpArgs false
set_option linter.unusedSectionVars false
set_option linter.constructorNameAsVariable false
set_option linter.defProp false
namespace Go.Proofs.YtlgbkpaihjnjpaaGreat.ctr
open Go Go.Vm Go.RowKit Go.Ranges
structure PT.Kk (t:PT):Prop where
 g:t.G.Ok
 w:t.W.Ok
 s:0≤t.sent∧t.sent≤65536
 f:(t.F.length:Int)≤t.sent
 a:∀ o∈t.F,0≤o.2.2.2∧o.2.2.2≤1048576
 r:∀ o∈t.F,o.2.2.1≤4097
def EN.sum (X:EN):Int:=(X.P.map PT.sent).sum
structure EN.Ok (X:EN) (k:Int):Prop where
 n:X.P.length≤3
 due:X.due.length=X.P.length
 P:∀ t∈X.P,t.Kk
 now:0≤X.now∧X.now≤1048576
 lim:0≤X.limit∧X.limit≤4496
 fi:0≤X.c.fi∧X.c.fi≤64
 bl:X.o.b.length≤4096
 bu:0≤X.o.buffer∧X.o.buffer≤400
 ac:0≤X.o.acked∧X.o.acked≤X.o.places
 b8:∀ x∈X.o.b,In8 x
 wf:WFr 0 X.pl
 pl:∀ r∈X.pl,r.2≤4097
 ps:0≤X.ps∧X.ps≤4097
 ig:X.i.Good
 il:∀ r∈X.i.l,r.2≤4096
 i8:∀ x∈X.i.b,In8 x
 lg:∀ x∈X.log,x.Ft
 ln:(X.log.length:Int)≤k+X.sum
 k:k≤500000
theorem sum_set:∀ {l:List PT} {i:Nat} {t t':PT},l[i]?=some t→((l.set i t').map PT.sent).sum=(l.map PT.sent).sum+t'.sent-t.sent
 | [],i,t,t',h=>by simp at h
 | u::l,0,t,t',h=>by simp at h; subst h; simp only[List.set_cons_zero,List.map_cons,List.sum_cons]; omega
 | u::l,i+1,t,t',h=>by
  simp at h
  have:=sum_set (t':=t') h
  simp only[List.set_cons_succ,List.map_cons,List.sum_cons,this]; omega
theorem sum_bd:∀ {l:List PT},(∀ t∈l,t.Kk)→0≤(l.map PT.sent).sum∧(l.map PT.sent).sum≤65536*l.length
 | [],_=>by simp
 | u::l,h=>by
  have h1:=(h u (by simp)).s
  have h2:=sum_bd (l:=l) fun t ht=>h t (by simp[ht])
  simp only[List.map_cons,List.sum_cons,List.length_cons]; omega
theorem EN.Ok.sum_bd {X:EN} {k:Int} (h:X.Ok k):0≤X.sum∧X.sum≤196608:=by
 have:=ctr.sum_bd h.P
 have:=h.n
 unfold EN.sum; omega
theorem EN.Ok.log {X:EN} {k:Int} (h:X.Ok k):X.log.length<1000000:=by
 have:=h.sum_bd
 have:=h.ln
 have:=h.k
 omega
theorem EN.Ok.pll {X:EN} {k:Int} (h:X.Ok k):X.pl.length≤2100:=by
 have:=wf_len h.wf h.pl (by omega)
 omega
theorem EN.Ok.plc {X:EN} {k:Int} (h:X.Ok k):X.o.places≤4097:=by
 have:=X.o.places_bd
 have:=h.bl
 omega
theorem EN.Ok.at {X:EN} {k:Int} (h:X.Ok k) {i:Nat} {t:PT} (ht:X.P[i]?=some t):t.Kk:=h.P t (List.mem_of_getElem? ht)
theorem mem_set_P {l:List PT} {i:Nat} {t u:PT} {Q:PT→Prop} (h:∀ x∈l,Q x) (hu:Q u):∀ x∈l.set i u,Q x:=fun x hx=>by
 rcases List.mem_or_eq_of_mem_set hx with hx | rfl
 ·exact h x hx
 ·exact hu
theorem addF_len (o:O) (l:List O):(addF o l).length≤l.length+1:=by unfold addF; split <;> simp
theorem addF_mem {o x:O} {l:List O} (h:x∈addF o l):x∈l∨x=o:=by
 unfold addF at h
 split at h
 ·simpa using h
 ·exact .inl h
theorem EN.Ok.note {X : EN} {k : Int} (h : X.Ok k) {x : EvV} (hx : x.Ft) (hk : k + 1 ≤ 500000) : (X.note x).Ok (k + 1) :=
  { h with
    lg := fun y hy => by
      rcases List.mem_append.1 (show y ∈ X.log ++ [x] from hy) with hy | hy
      · exact h.lg y hy
      · simp at hy; subst hy; exact hx
    ln := by
      have := h.ln
      show ((X.log ++ [x]).length : Int) ≤ k + 1 + X.sum
      rw [List.length_append, List.length_singleton]; omega
    k := hk }
theorem say_at {X:EN} {p:PkV} {t:PT} (ht:X.P[p.pt.toNat]?=some t):X.say p=if t.sent≤65535 then EN.note { X with P:=X.P.set p.pt.toNat { t with sent:=t.sent+1 } } (snt { p with nr:=t.sent }) else X:=by unfold EN.say; rw[ht]
theorem EN.Ok.set {X : EN} {k : Int} (h : X.Ok k) {i : Nat} {t u : PT} (ht : X.P[i]? = some t) (hu : u.Kk) (hs : u.sent = t.sent) : EN.Ok { X with P := X.P.set i u } k :=
  { h with
    n := by show (X.P.set i u).length ≤ 3; rw [List.length_set]; exact h.n
    due := by show X.due.length = (X.P.set i u).length; rw [List.length_set]; exact h.due
    P := mem_set_P (t := t) h.P hu
    ln := by
      have := h.ln
      have e := sum_set (t' := u) ht
      show (X.log.length : Int) ≤ k + ((X.P.set i u).map PT.sent).sum
      rw [e]; unfold EN.sum at this; omega }
theorem EN.Ok.say {X:EN} {k:Int} (h:X.Ok k) {p:PkV} {t:PT} (ht:X.P[p.pt.toNat]?=some t) (hp:p.d.length≤1000000) (h8:∀ x∈p.d,In8 x):(X.say p).Ok k:=by
 rw[say_at ht]
 have hk:=h.at ht
 split
 ·rename_i hl
  exact { h with
   n:=by show (X.P.set _ _).length≤3; rw[List.length_set]; exact h.n
   due:=by show X.due.length=(X.P.set _ _).length; rw[List.length_set]; exact h.due
   P:=mem_set_P (t:=t) h.P ⟨hk.g,hk.w,⟨by have:=hk.s; show 0≤t.sent+1; omega,by show t.sent+1≤65536; omega⟩,by have:=hk.f; show (t.F.length:Int)≤t.sent+1; omega,hk.a,hk.r⟩
   lg:=fun y hy=>by
    rcases List.mem_append.1 (show y∈X.log++[snt { p with nr:=t.sent }] from hy) with hy | hy
    ·exact h.lg y hy
    ·simp at hy; subst hy; exact ⟨by simp[snt],hp,by simp[snt],h8⟩
   ln:=by
    have:=h.ln
    have e:=sum_set (t':={ t with sent:=t.sent+1 }) ht
    show ((X.log++[snt { p with nr:=t.sent }]).length:Int)≤k+((X.P.set p.pt.toNat { t with sent:=t.sent+1 }).map PT.sent).sum
    rw[e,List.length_append,List.length_singleton]; unfold EN.sum at this; dsimp only; omega }
 ·exact h
theorem pc_in {o:OB} {a b:Int} (h8:∀ x∈o.b,In8 x):(∀ x∈(o.pc a b).1,In8 x)∧(o.pc a b).1.length≤o.b.length:=by
 unfold OB.pc
 split
 ·exact ⟨fun x hx=>h8 x (List.mem_of_mem_take (List.mem_of_mem_drop hx)),by simp; omega⟩
 ·exact ⟨by simp,by simp⟩
theorem data_at {X:EN} {i:Nat} {a b:Int} {t:PT} (ht:X.P[i]?=some t):X.data i a b=if t.sent≤65535 then { EN.note { X with P:=X.P.set i { t with sent:=t.sent+1 } } (snt { dtaP X.o i a b with nr:=t.sent }) with P:=X.P.set i { t with sent:=t.sent+1,F:=addF (t.sent,a,b,X.now) t.F } } else X:=by
 have ht':X.P[(dtaP X.o i a b).pt.toNat]?=some t:=by simpa [dtaP] using ht
 have hi:(dtaP X.o i a b).pt.toNat=i:=by simp[dtaP]
 have hok:X.ok i=decide (t.sent≤65535):=by unfold EN.ok; rw[Int.toNat_natCast,ht]
 have hnr:X.nr i=if t.sent≤65535 then t.sent else 0:=by unfold EN.nr; rw[Int.toNat_natCast,ht]
 unfold EN.data
 rw[hok,hnr,say_at ht',hi]
 by_cases hl:t.sent≤65535
 ·rw[if_pos (by simpa using hl),if_pos hl,if_pos hl,if_pos hl]
  have ht2:(X.P.set i { t with sent:=t.sent+1 })[i]?=some { t with sent:=t.sent+1 }:=by simp[(List.getElem?_eq_some_iff.1 ht).1]
  dsimp only[EN.note]
  rw[updP_eq ht2,List.set_set]
 ·rw[if_neg (by simpa using hl),if_neg hl,if_neg hl]
theorem EN.Ok.data {X:EN} {k:Int} (h:X.Ok k) {i:Nat} {t:PT} {a b:Int} (ht:X.P[i]?=some t) (hb:b≤4097):(X.data i a b).Ok k:=by
 have hs:=h.say (p:=dtaP X.o i a b) (t:=t) (by simpa [dtaP] using ht) (by have:=(pc_in (a:=a) (b:=b) h.b8).2; have:=h.bl; show (X.o.pc a b).1.length≤1000000; omega) (pc_in h.b8).1
 rw[say_at (t:=t) (by simpa [dtaP] using ht),show (dtaP X.o i a b).pt.toNat=i by simp[dtaP]] at hs
 rw[data_at ht]
 have hk:=h.at ht
 by_cases hl:t.sent≤65535
 ·rw[if_pos hl] at hs ⊢
  have ht2:(X.P.set i { t with sent:=t.sent+1 })[i]?=some { t with sent:=t.sent+1 }:=by simp[(List.getElem?_eq_some_iff.1 ht).1]
  have hs2:=hs.set (i:=i) (t:={ t with sent:=t.sent+1 }) (u:={ t with sent:=t.sent+1,F:=addF (t.sent,a,b,X.now) t.F }) ht2 ⟨hk.g,hk.w,⟨by have:=hk.s; show 0≤t.sent+1; omega,by show t.sent+1≤65536; omega⟩,by have:=hk.f; have:=addF_len (t.sent,a,b,X.now) t.F; show ((addF (t.sent,a,b,X.now) t.F).length:Int)≤t.sent+1; omega,
   fun o ho=>by
    rcases addF_mem ho with ho | rfl
    ·exact hk.a o ho
    ·exact h.now,fun o ho=>by
    rcases addF_mem ho with ho | rfl
    ·exact hk.r o ho
    ·exact hb⟩ rfl
  dsimp only[EN.note] at hs2 ⊢
  rw[List.set_set] at hs2
  exact hs2
 ·rw[if_neg hl]; exact h
theorem data_len {X:EN} {i:Nat} {a b:Int} {t:PT} (ht:X.P[i]?=some t):(X.data i a b).P.length=X.P.length:=by
 rw[data_at ht]
 split
 ·simp
 ·rfl
theorem data_sum {X:EN} {i:Nat} {a b:Int} {t:PT} (ht:X.P[i]?=some t):(X.data i a b).sum=if t.sent≤65535 then X.sum+1 else X.sum:=by
 rw[data_at ht]
 split
 ·show ((X.P.set i _).map PT.sent).sum=(X.P.map PT.sent).sum+1
  rw[sum_set ht]; dsimp only; omega
 ·rfl
def EN.datas (X:EN) (l:List Int) (a b:Int):EN:=l.foldl (fun X i=>X.data i.toNat a b) X
theorem datas_ok:∀ {l:List Int} {X:EN} {k a b:Int},X.Ok k→b≤4097→(∀ x∈l,∃ i:Nat,x=(i:Int)∧i<X.P.length)→(X.datas l a b).Ok k∧(X.datas l a b).P.length=X.P.length∧X.sum≤(X.datas l a b).sum
 | [],X,k,a,b,h,_,_=>⟨h,rfl,Int.le_refl _⟩
 | x::l,X,k,a,b,h,hb,hl=>by
  obtain ⟨i,rfl,hi⟩:=hl x (by simp)
  obtain ⟨t,ht⟩ : ∃ t,X.P[i]?=some t:=⟨_,List.getElem?_eq_getElem hi⟩
  have h1:=h.data (a:=a) ht hb
  have h2:=data_len (a:=a) (b:=b) ht
  have h3:=data_sum (a:=a) (b:=b) ht
  obtain ⟨q1,q2,q3⟩:=datas_ok (l:=l) (a:=a) h1 hb fun x hx=>by rw[h2]; exact hl x (by simp[hx])
  show ((X.data i a b).datas l a b).Ok k∧((X.data i a b).datas l a b).P.length=_∧_≤((X.data i a b).datas l a b).sum
  refine ⟨q1,q2.trans h2,?_⟩
  split at h3 <;> omega
theorem bst_mem (ms:List Int):∀ (l:List Int) (b:Int),l.foldl (bst ms) b=b∨l.foldl (bst ms) b∈l
 | [],b => .inl rfl
 | p::l,b=>by
  rcases bst_mem ms l (bst ms b p) with h | h
  ·show l.foldl (bst ms) (bst ms b p)=b∨_
   rw[List.foldl_cons,h]
   unfold bst
   split
   ·right; simp
   ·left; rfl
  ·right
   rw[List.foldl_cons]
   exact List.mem_cons_of_mem _ h
theorem pickS_sub {k nx:Int} {ms:List Int}:∀ x∈(pickS k nx ms).1,x∈usx ms ms.length:=by
 intro x hx
 unfold pickS at hx
 split at hx
 ·exact hx
 ·rename_i hne
  have hl:usx ms ms.length≠[]:=fun h=>hne (.inl h)
  have hl0:0<(usx ms ms.length).length:=List.length_pos_iff.2 hl
  generalize usx ms ms.length=l at *
  split at hx
  ·simp only[List.mem_singleton] at hx
   subst hx
   have:=frs_bd nx l 0 (by omega)
   have hlt:(max 0 (frs nx l 0)).toNat<l.length:=by omega
   rw[List.getD_eq_getElem?_getD,List.getElem?_eq_getElem hlt]
   exact List.getElem_mem hlt
  ·simp only[List.mem_singleton] at hx
   subst hx
   rcases bst_mem ms l (l.headD 0) with h | h
   ·rw[h]
    cases l with
    | nil=>exact absurd rfl hl
    | cons a l=>simp
   ·exact h
theorem pickS_ne {k nx:Int} {ms:List Int} (h:usx ms ms.length≠[]):(pickS k nx ms).1≠[]:=by
 unfold pickS
 split
 ·exact h
 ·split <;> simp
theorem usx_ne {l:List Int} {i:Nat} {v:Int} (h:l[i]?=some v) (h0:0≤v):usx l l.length≠[]:=by
 unfold usx
 intro he
 rw[List.map_eq_nil_iff] at he
 have hi:=(List.getElem?_eq_some_iff.1 h).1
 have:i∈((List.range l.length).filter fun i=>decide (0≤l.getD i (-1))):=by
  rw[List.mem_filter]
  exact ⟨List.mem_range.2 hi,by rw[List.getD_eq_getElem?_getD,h]; simpa using h0⟩
 rw[he] at this
 simp at this
theorem pick_P (X:EN):X.pick.2.P=X.P∧X.pick.2.sum=X.sum:=by
 unfold EN.pick
 split <;> exact ⟨rfl,rfl⟩
theorem EN.Ok.pick {X:EN} {k:Int} (h:X.Ok k):X.pick.2.Ok k:=by
 unfold EN.pick
 split
 ·exact h
 ·exact { h with }
theorem pick_in {X:EN}:∀ x∈X.pick.1,∃ (i:Nat) (t:PT),x=(i:Int)∧X.P[i]?=some t∧t.free=true:=by
 intro x hx
 have hx2:x∈usx X.mns X.mns.length:=by
  unfold EN.pick at hx
  split at hx
  ·exact hx
  ·exact pickS_sub x hx
 obtain ⟨i,rfl,hi,h0⟩:=usx_in hx2
 have hml:X.mns.length=X.P.length:=by unfold EN.mns; rw[List.length_map]
 obtain ⟨t,ht⟩ : ∃ t,X.P[i]?=some t:=⟨_,List.getElem?_eq_getElem (by omega)⟩
 refine ⟨i,t,rfl,ht,?_⟩
 have hm:X.mns[i]?=some (mn1 X.beh t):=by unfold EN.mns; rw[List.getElem?_map,ht]; rfl
 rw[List.getD_eq_getElem?_getD,hm] at h0
 simp only[Option.getD_some] at h0
 unfold mn1 at h0
 cases hf:t.free
 ·rw[hf] at h0; simp at h0
 ·rfl
theorem pick_ne {X:EN} {k:Int} (h:X.Ok k) (ha:X.able=true):X.pick.1≠[]:=by
 have key:∀ t∈X.P,(t.free&&(X.beh||!t.bh))=true→usx X.mns X.mns.length≠[]:=fun t ht hf=>by
  obtain ⟨i,hi⟩:=List.getElem?_of_mem ht
  have hm:X.mns[i]?=some (mn1 X.beh t):=by unfold EN.mns; rw[List.getElem?_map,hi]; rfl
  refine usx_ne hm ?_
  unfold mn1
  rw[if_pos hf]
  exact (h.P t ht).g.me.1
 unfold EN.pick
 cases hb:X.beh
 ·have:X.P.any fsh=true:=by unfold EN.beh at hb; simpa using hb
  obtain ⟨t,ht,hf⟩:=List.any_eq_true.1 this
  simp only[Bool.false_eq_true,if_false]
  refine pickS_ne (key t ht ?_)
  unfold fsh at hf
  rw[hb]; simpa using hf
 ·obtain ⟨t,ht,hf⟩:=List.any_eq_true.1 ha
  simp only[if_true]
  exact key t ht (by rw[hb,hf]; rfl)
theorem pieceM_bd {len f to c:Int} {cl:Bool} (h1:f<to) (hc:1≤c):pieceM len cl f to c≤to∧f<pieceM len cl f to c:=by
 unfold pieceM
 split
 ·omega
 ·split <;> omega
theorem cut_le {f t M:Int} {l:List R} (h:∀ r∈l,r.2≤M):∀ r∈cutC f t l,r.2≤M:=by
 intro r hr
 unfold cutC at hr
 split at hr
 ·unfold cutR at hr
  obtain ⟨q,hq,hr⟩:=List.mem_flatMap.1 hr
  have:=h q hq
  unfold cut1 at hr
  rcases List.mem_append.1 hr with hr | hr
  ·split at hr
   ·simp at hr; subst hr; dsimp only; omega
   ·simp at hr
  ·split at hr
   ·simp at hr; subst hr; dsimp only; omega
   ·simp at hr
 ·exact h r hr
theorem add_le {f t M:Int} {l:List R} (h:∀ r∈l,r.2≤M) (ht:t≤M):∀ r∈addC f t l,r.2≤M:=by
 unfold addC
 split
 ·exact addR_le h (by omega)
 ·exact h
def EN.next (X:EN):NX:=nextP X.o X.limit X.c.ch X.pl X.ps
def EN.nexted (X:EN):EN:={ X with pl:=X.next.l,ps:=X.next.t }
theorem EN.Ok.nexted {X:EN} {k:Int} (h:X.Ok k):X.nexted.Ok k∧X.next.b≤4097:=by
 have hc:=cut_le (f:=0) (t:=X.o.acked) h.pl
 have hw:=cutC_wf (f:=0) (t:=X.o.acked) h.wf
 have ho:=X.o.open_bd (limit:=X.limit)
 have hbl:=h.bl
 have hps:=h.ps
 have hcl:1≤clampC X.c.ch:=by unfold clampC; omega
 have hn:X.next=nextP X.o X.limit X.c.ch X.pl X.ps:=rfl
 unfold nextP at hn
 split at hn
 ·split at hn
  ·rw[show X.nexted={ X with pl:=[],ps:=X.ps } by unfold EN.nexted; rw[hn],hn]
   exact ⟨{ h with wf:=trivial,pl:=by simp },by show (0:Int)≤4097; omega⟩
  ·rename_i hlt
   obtain ⟨p1,p2⟩:=pieceM_bd (len:=X.o.b.length) (f:=X.ps) (to:=X.o.open_ X.limit) (cl:=X.o.closed) (by omega) hcl
   rw[show X.nexted={ X with pl:=[],ps:=pieceM X.o.b.length X.o.closed X.ps (X.o.open_ X.limit) (clampC X.c.ch) } by unfold EN.nexted; rw[hn],hn]
   exact ⟨{ h with wf:=trivial,pl:=by simp,ps:=⟨by dsimp only; omega,by dsimp only; omega⟩ },by dsimp only; omega⟩
 ·rename_i hne
  obtain ⟨r,hr⟩ : ∃ r,(cutC 0 X.o.acked X.pl).headD (0,0)=r:=⟨_,rfl⟩
  have hrm:r∈cutC 0 X.o.acked X.pl:=by
   rw[←hr]
   cases hh:cutC 0 X.o.acked X.pl with
   | nil=>exact absurd hh hne
   | cons a l=>simp
  have hlb:=hw.lb r hrm
  have hrc:=hc r hrm
  rw[hr] at hn
  obtain ⟨p1,p2⟩:=pieceM_bd (len:=X.o.b.length) (f:=r.1) (to:=r.2) (cl:=X.o.closed) hlb.2.1 hcl
  rw[show X.nexted={ X with pl:=cutC r.1 (pieceM X.o.b.length X.o.closed r.1 r.2 (clampC X.c.ch)) (cutC 0 X.o.acked X.pl),ps:=X.ps } by unfold EN.nexted; rw[hn],hn]
  exact ⟨{ h with wf:=cutC_wf hw,pl:=cut_le hc },by dsimp only; omega⟩
def EN.pumpN:Nat→EN→EN
 | 0,X=>X
 | n+1,X=>if X.able then (if X.next.ok then pumpN n (X.nexted.pick.2.datas X.nexted.pick.1 X.next.a X.next.b) else X.nexted) else X
def EN.pump (X:EN):EN:=X.pumpN 200000
theorem pumpN_s (n:Nat) (X:EN):X.pumpN (n+1)=if X.able then (if X.next.ok then EN.pumpN n (X.nexted.pick.2.datas X.nexted.pick.1 X.next.a X.next.b) else X.nexted) else X:=rfl
theorem datas_step {X:EN} {k:Int} (h:X.Ok k) (ha:X.able=true):(X.nexted.pick.2.datas X.nexted.pick.1 X.next.a X.next.b).Ok k∧(X.nexted.pick.2.datas X.nexted.pick.1 X.next.a X.next.b).P.length=X.P.length∧X.sum<(X.nexted.pick.2.datas X.nexted.pick.1 X.next.a X.next.b).sum:=by
 obtain ⟨h1,hb⟩:=h.nexted
 have h2:=h1.pick
 obtain ⟨hP,hs⟩:=pick_P X.nexted
 have hin:=pick_in (X:=X.nexted)
 have hne:=pick_ne h1 (show X.nexted.able=true from ha)
 generalize X.nexted.pick.1=l at *
 cases l with
 | nil=>exact absurd rfl hne
 | cons x l =>
  obtain ⟨i,t,rfl,ht,hf⟩:=hin x (by simp)
  have ht':X.nexted.pick.2.P[i]?=some t:=by rw[hP]; exact ht
  have hsent:t.sent≤65535:=by unfold PT.free at hf; simp only[Bool.and_eq_true,decide_eq_true_eq] at hf; exact hf.2
  have k1:=h2.data (a:=X.next.a) ht' hb
  have k2:=data_len (a:=X.next.a) (b:=X.next.b) ht'
  have k3:=data_sum (a:=X.next.a) (b:=X.next.b) ht'
  rw[if_pos hsent,hs] at k3
  obtain ⟨q1,q2,q3⟩:=datas_ok (l:=l) (a:=X.next.a) k1 hb fun y hy=>by
   obtain ⟨j,u,rfl,hu,_⟩:=hin y (by simp[hy])
   exact ⟨j,rfl,by rw[k2,hP]; exact (List.getElem?_eq_some_iff.1 hu).1⟩
  refine ⟨q1,q2.trans (k2.trans (by rw[hP]; rfl)),?_⟩
  have:X.nexted.sum=X.sum:=rfl
  show _<((X.nexted.pick.2.data i X.next.a X.next.b).datas l X.next.a X.next.b).sum
  omega
section
variable {bd : Bd} {h : VF} {fu : Nat} {gv : AV × List Nat}
theorem d_next (n:Nat) {s0:St} (s:St) (p q:Nat) (l:List R) (t:Int) (o:OB) (limit chunk:Int) (Ps:List Obj) (hS:Sep s0 s (oP p l t::oO q o::Ps)) (hw:WFr 0 l) (hlen:2*l.length<fu) (hfu:10<fu) (hl:l.length<40000) (hb:o.b.length<1000000) (hL:-1000000000≤limit∧limit≤1000000000) (ht:0≤t∧t≤1000000000) :
  OutOk (callF bd (tab h).get fu (n+3) 80 [.ptr p 0,.ptr q 0,num limit,num chunk] s) (fun x s'=>Is x (.tup [num (nextP o limit chunk l t).a,num (nextP o limit chunk l t).b,.bool (nextP o limit chunk l t).ok])∧Sep s0 s' (oP p (nextP o limit chunk l t).l (nextP o limit chunk l t).t::oO q o::Ps)):=by
 obtain ⟨f,g,k1,k2,k3,up⟩:=hS.hd2
 exact (p_next n s p q l t o f g limit chunk k1 k2 k3 hw hlen hfu hl hb hL ht).mono fun x s' ⟨f',r1,r2,r3,r4⟩=>⟨r1,up (oP p _ _) r2 r3 r4⟩
set_option maxHeartbeats 1000000 in
theorem n_pump (n:Nat) {s0:St} (s:St) (e:Nat) (X:EN) (k:Int) (Ps:List Obj) (hE:EndS gv s0 s e X Ps) (hX:X.Ok k) (hfu:250000<fu) :
  OutOk (callF bd (tab h).get fu (n+7) 32 [.ptr e 0] s) (fun y s'=>EndS gv s0 s' e X.pump Ps):=by
 refine call_code (t32 h) rfl ?_
 simp (disch:=omega) only [vm0,vm1,vm2,vm3,vm4,vm5,vm6,vm7,vmF,vmT,evo,wr,wrC,frame,Nat.reduceAdd,Nat.reduceMul,Nat.reduceSub,beq_self_eq_true,List.cons_append,List.nil_append,beq_dec,vmI,vc32]
 refine x_loop (fun m F s'=>∃ (Y:EN) (j:Nat),∃ x1 x2 x3 x4 x5 x6 x7 x8 x9 x10,m=(196608-Y.sum).toNat∧F=[some (.ptr e 0),x1,x2,x3,x4,x5,x6,x7,x8,x9,x10]∧Y.Ok k∧EndS gv s0 s' e Y Ps∧Y.pumpN j=X.pump∧196608-Y.sum<j) (196608-X.sum).toNat (by have:=hX.sum_bd; omega) ?_ ?_
 ·exact ⟨X,200000,_,_,_,_,_,_,_,_,_,_,rfl,rfl,hX,hE,rfl,by have:=hX.sum_bd; omega⟩
 ·rintro m F s1 ⟨Y,j,x1,x2,x3,x4,x5,x6,x7,x8,x9,x10,rfl,rfl,hY,hE1,hj,hjl⟩ hm
  have hsb:=hY.sum_bd
  have hn:=hY.n
  obtain ⟨j,rfl⟩ : ∃ i,j=i+1:=⟨j-1,by omega⟩
  rw[pumpN_s] at hj
  simp (disch:=omega) only [vm0,vm1,vm2,vm3,vm4,vm5,vm6,vm7,vmF,vmT,evo,wr,wrC,frame,Nat.reduceAdd,Nat.reduceMul,Nat.reduceSub,beq_self_eq_true,List.cons_append,List.nil_append,beq_dec,vmI]
  refine call_ok rfl rfl (n_usable n s1 e Y Ps hE1 (by omega) (by omega)) ?_
  rintro y s2 ⟨rfl,rfl⟩
  cases ha:Y.able
  ·rw[ha] at hj
   simp only[Bool.false_eq_true,if_false] at hj
   simp (disch:=omega) only [vm0,vm1,vm2,vm3,vm4,vm5,vm6,vm7,vmF,vmT,evo,wr,wrC,frame,Nat.reduceAdd,Nat.reduceMul,Nat.reduceSub,beq_self_eq_true,List.cons_append,List.nil_append,beq_dec,vmI]
   rw[←hj]
   exact hE1
  rw[ha] at hj
  simp only[if_true] at hj
  obtain ⟨hN,hbN⟩:=hY.nexted
  obtain ⟨q1,q2,q3⟩:=datas_step hY ha
  have hqb:=q1.sum_bd
  have hpl:=hY.pll
  have hbl:=hY.bl
  have hlim:=hY.lim
  have hps:=hY.ps
  obtain ⟨H,hnp,hS⟩:=hE1
  have g1:=hS.getC
  dsimp only[EN.cells] at g1
  have hnx:nextP Y.o Y.limit Y.c.ch Y.pl Y.ps=Y.next:=rfl
  simp (disch:=omega) only [vm0,vm1,vm2,vm3,vm4,vm5,vm6,vm7,vmF,vmT,evo,wr,wrC,frame,Nat.reduceAdd,Nat.reduceMul,Nat.reduceSub,beq_self_eq_true,List.cons_append,List.nil_append,beq_dec,vmI,g1]
  refine call_ok rfl rfl (d_next (n+3) s2 H.pb H.ob Y.pl Y.ps Y.o Y.limit Y.c.ch _ (((hS.re ((List.perm_middle (l₁:=[_,_,_,_,_])).trans (.cons _ ((List.perm_middle (l₁:=[_,_,_,_])).trans (.cons _ (.refl _)))))))) hY.wf (by omega) (by omega) (by omega) (by omega) (by omega) (by omega)) ?_
  rintro y s3 ⟨rfl,hS3⟩
  rw[hnx] at *
  have hE3:EndS gv s0 s3 e Y.nexted Ps:=⟨H,hnp,((hS3.re ((List.perm_middle (l₁:=[_,_])).trans (.cons _ ((List.perm_middle (l₁:=[_,_])).trans (.cons _ ((List.perm_middle (l₁:=[_,_])).trans (.cons _ ((List.perm_middle (l₁:=[_,_])).trans (.cons _ ((List.perm_middle (l₁:=[_])).trans (.cons _ (.refl _)))))))))))))⟩
  cases hok:Y.next.ok
  ·rw[hok] at hj
   simp only[Bool.false_eq_true,if_false] at hj
   simp (disch:=omega) only [vm0,vm1,vm2,vm3,vm4,vm5,vm6,vm7,vmF,vmT,evo,wr,wrC,frame,Nat.reduceAdd,Nat.reduceMul,Nat.reduceSub,beq_self_eq_true,List.cons_append,List.nil_append,beq_dec,vmI,g1]
   rw[←hj]
   exact hE3
  ·rw[hok] at hj
   simp only[if_true] at hj
   simp (disch:=omega) only [vm0,vm1,vm2,vm3,vm4,vm5,vm6,vm7,vmF,vmT,evo,wr,wrC,frame,Nat.reduceAdd,Nat.reduceMul,Nat.reduceSub,beq_self_eq_true,List.cons_append,List.nil_append,beq_dec,vmI,g1]
   refine call_ok rfl rfl (n_pick (n+1) s3 e Y.nexted Ps hE3 (by show Y.P.length<fu; omega) (by show Y.P.length<100000; omega)) ?_
   rintro v s4 hE4
   have hP2:=(pick_P Y.nexted).1
   have hin:=pick_in (X:=Y.nexted)
   have hO2:=hN.pick
   have hvl:=(EndJ.tail hE4).rdW.lenV
   have hll:Y.nexted.pick.1.length<100000:=by
    have hsub:Y.nexted.pick.1.length≤Y.nexted.mns.length:=by
     unfold EN.pick
     split
     ·exact usx_len _ _
     ·unfold pickS
      split
      ·exact usx_len _ _
      ·have h0:usx Y.nexted.mns Y.nexted.mns.length≠[]:=by rename_i h; exact fun hh=>h (.inl hh)
       have:=List.length_pos_iff.2 h0
       have:=usx_len Y.nexted.mns Y.nexted.mns.length
       split <;> (simp; omega)
    have:Y.nexted.mns.length=Y.P.length:=by unfold EN.mns; rw[List.length_map]; rfl
    omega
   simp (disch:=omega) only [vm0,vm1,vm2,vm3,vm4,vm5,vm6,vm7,vmF,vmT,evo,wr,wrC,frame,Nat.reduceAdd,Nat.reduceMul,Nat.reduceSub,beq_self_eq_true,List.cons_append,List.nil_append,beq_dec,vmI,hvl]
   generalize hL:Y.nexted.pick.1=l at *
   generalize hZ0:Y.nexted.pick.2=Z0 at *
   have hZn:Z0.P.length=Y.P.length:=by rw[hP2]; rfl
   refine x_loop (fun m F s'=>∃ i:Nat,∃ z x6 x8 x2,m=l.length-i∧i≤l.length∧z=(i:Int)∧F=[some (.ptr e 0),some (num z),x2,some (.bool true),some (.bool false),some (num (l.length:Int)),x6,some v,x8,some (num Y.next.a),some (num Y.next.b)]∧EndS gv s0 s' e (Z0.datas (l.take i) Y.next.a Y.next.b) (oW v 1 encI l::Ps)) l.length (by omega) ?_ ?_
   ·exact ⟨0,0,_,_,_,by omega,by omega,rfl,rfl,hE4⟩
   ·rintro m F s5 ⟨i,_,x6,x8,x2,rfl,hi,rfl,rfl,hE5⟩ hm
    by_cases hlt:i<l.length
    ·obtain ⟨x,hx⟩ : ∃ x,l[i]?=some x:=⟨_,List.getElem?_eq_getElem hlt⟩
     obtain ⟨a,t,rfl,ht,hfr⟩:=hin x (List.mem_of_getElem? hx)
     have hv1:=(EndJ.tail hE5).rdW
     have e1:=hv1.ia hx
     have e2:=hv1.at1 (f:=num) hx
     obtain ⟨r1,r2,r3⟩:=datas_ok (l:=l.take i) (a:=Y.next.a) hO2 hbN fun y hy=>by
      obtain ⟨b,u,rfl,hu,_⟩:=hin y (List.mem_of_mem_take hy)
      exact ⟨b,rfl,by rw[hP2]; exact (List.getElem?_eq_some_iff.1 hu).1⟩
     have hst:Z0.datas (l.take (i+1)) Y.next.a Y.next.b=(Z0.datas (l.take i) Y.next.a Y.next.b).data a Y.next.a Y.next.b:=by
      unfold EN.datas
      rw[List.take_add_one,hx,List.foldl_append]; simp
     generalize Z0.datas (l.take i) Y.next.a Y.next.b=Z at *
     have hal:a<Z.P.length:=by rw[r2,hZn]; exact (List.getElem?_eq_some_iff.1 ht).1
     obtain ⟨t2,ht2⟩ : ∃ t,Z.P[a]?=some t:=⟨_,List.getElem?_eq_getElem hal⟩
     have hk:=r1.at ht2
     have hks:=hk.s
     have hkf:=hk.f
     have hlog:=r1.log
     have hbl2:=r1.bl
     simp (disch:=omega) only [vm0,vm1,vm2,vm3,vm4,vm5,vm6,vm7,vmF,vmT,evo,wr,wrC,frame,Nat.reduceAdd,Nat.reduceMul,Nat.reduceSub,beq_self_eq_true,List.cons_append,List.nil_append,beq_dec,vmI,e1,e2]
     refine call_ok rfl rfl (n_data n s5 e Z a t2 Y.next.a Y.next.b _ hE5 ht2 hks (by omega) (by omega) (by omega) (by omega)) ?_
     rintro y s6 hE6
     rw[←hst] at hE6
     simp (disch:=omega) only [vm0,vm1,vm2,vm3,vm4,vm5,vm6,vm7,vmF,vmT,evo,wr,wrC,frame,Nat.reduceAdd,Nat.reduceMul,Nat.reduceSub,beq_self_eq_true,List.cons_append,List.nil_append,beq_dec,vmI]
     exact ⟨l.length-(i+1),by omega,i+1,(i:Int)+1,_,_,_,rfl,by omega,by omega,rfl,hE6⟩
    ·obtain rfl:i=l.length:=by omega
     rw[List.take_length] at hE5
     simp (disch:=omega) only [vm0,vm1,vm2,vm3,vm4,vm5,vm6,vm7,vmF,vmT,evo,wr,wrC,frame,Nat.reduceAdd,Nat.reduceMul,Nat.reduceSub,beq_self_eq_true,List.cons_append,List.nil_append,beq_dec,vmI]
     obtain ⟨H5,hnp5,hS5⟩:=hE5
     exact ⟨(196608-(Z0.datas l Y.next.a Y.next.b).sum).toNat,by omega,Z0.datas l Y.next.a Y.next.b,j,_,_,_,_,_,_,_,_,_,_,rfl,rfl,q1,⟨H5,hnp5,((hS5.re ((List.perm_middle (l₁:=[_,_,_,_,_,_,_,_,_])).trans (.cons _ (.refl _)))).drop)⟩,hj,by omega⟩
end
theorem pumpN_ok:∀ (n:Nat) {X:EN} {k:Int},X.Ok k→(X.pumpN n).Ok k∧(X.pumpN n).P.length=X.P.length
 | 0,X,k,h=>⟨h,rfl⟩
 | n+1,X,k,h=>by
  rw[pumpN_s]
  cases ha:X.able
  ·exact ⟨h,rfl⟩
  ·simp only[if_true]
   obtain ⟨q1,q2,q3⟩:=datas_step h ha
   cases X.next.ok
   ·exact ⟨h.nexted.1,rfl⟩
   ·simp only[if_true]
    obtain ⟨r1,r2⟩:=pumpN_ok n q1
    exact ⟨r1,r2.trans q2⟩
theorem EN.Ok.pump {X:EN} {k:Int} (h:X.Ok k):X.pump.Ok k∧X.pump.P.length=X.P.length:=pumpN_ok _ h
def EN.probe (X:EN):EN:=if X.able then X.pick.2.datas X.pick.1 X.o.acked X.o.acked else X
theorem EN.Ok.probe {X:EN} {k:Int} (h:X.Ok k):X.probe.Ok k∧X.probe.P.length=X.P.length:=by
 unfold EN.probe
 have hac:=h.ac
 have hpl:=h.plc
 have hP:=(pick_P X).1
 split
 ·obtain ⟨r1,r2,r3⟩:=datas_ok (l:=X.pick.1) (a:=X.o.acked) h.pick (show X.o.acked≤4097 by omega) fun y hy=>by
   obtain ⟨b,u,rfl,hu,_⟩:=pick_in y hy
   exact ⟨b,rfl,by rw[hP]; exact (List.getElem?_eq_some_iff.1 hu).1⟩
  exact ⟨r1,by rw[r2,hP]⟩
 ·exact ⟨h,rfl⟩
def joP (i:Nat):PkV:=⟨1,i,0,0,0,[],false,0,0⟩
def EN.join (X:EN) (i:Nat):EN:={ X.say (joP i) with due:=X.due.set i (X.now+X.c.fi) }
theorem EN.Ok.join {X:EN} {k:Int} (h:X.Ok k) {i:Nat} {t:PT} (ht:X.P[i]?=some t):(X.join i).Ok k∧(X.join i).P.length=X.P.length:=by
 have ht':X.P[(joP i).pt.toNat]?=some t:=by simpa [joP] using ht
 have h1:=h.say ht' (by simp[joP]) (by simp[joP])
 have h2:(X.say (joP i)).P.length=X.P.length:=by
  rw[say_at ht']
  split
  ·simp[EN.note]
  ·rfl
 exact ⟨{ h1 with due:=by show (X.due.set i _).length=(X.say (joP i)).P.length; rw[List.length_set,h.due,h2] },h2⟩
def EN.lost (X:EN) (l:List O):EN:=l.foldl (fun X o=>{ X with pl:=addC o.2.1 o.2.2.1 X.pl }) X
theorem EN.Ok.lost:∀ {l:List O} {X:EN} {k:Int},X.Ok k→(∀ o∈l,o.2.2.1≤4097)→(X.lost l).Ok k∧(X.lost l).P=X.P
 | [],X,k,h,_=>⟨h,rfl⟩
 | o::l,X,k,h,hl=>by
  have h1:EN.Ok { X with pl:=addC o.2.1 o.2.2.1 X.pl } k:={ h with wf:=addC_wf h.wf,pl:=add_le h.pl (hl o (by simp)) }
  obtain ⟨r1,r2⟩:=EN.Ok.lost (l:=l) h1 fun x hx=>hl x (by simp[hx])
  exact ⟨r1,r2⟩
section
variable {bd : Bd} {h : VF} {fu : Nat} {gv : AV × List Nat}
theorem d_lost (hs:SortOk h) (n:Nat) {s0:St} (s:St) (p:Nat) (l:List R) (t a b:Int) (Ps:List Obj) (hS:Sep s0 s (oP p l t::Ps)) (hw:WFr 0 l) (hlen:l.length<fu) (hl:l.length<50000) :
  OutOk (callF bd (tab h).get fu (n+3) 84 [.ptr p 0,num a,num b] s) (fun x s'=>Sep s0 s' (oP p (addC a b l) t::Ps)):=by
 obtain ⟨f,k1,up⟩:=hS.hd
 exact (p_lost hs n s p l t f a b k1 hw hlen (by omega)).mono fun x s' ⟨f',r1,r2,r3⟩=>up (oP p _ _) r1 r2 r3
theorem n_probe (n:Nat) {s0:St} (s:St) (e:Nat) (X:EN) (k:Int) (Ps:List Obj) (hE:EndS gv s0 s e X Ps) (hX:X.Ok k) (hfu:250000<fu) :
  OutOk (callF bd (tab h).get fu (n+7) 40 [.ptr e 0] s) (fun y s'=>EndS gv s0 s' e X.probe Ps):=by
 refine call_code (t40 h) rfl ?_
 have hn:=hX.n
 simp (disch:=omega) only [vm0,vm1,vm2,vm3,vm4,vm5,vm6,vm7,vmF,vmT,evo,wr,wrC,frame,Nat.reduceAdd,Nat.reduceMul,Nat.reduceSub,beq_self_eq_true,List.cons_append,List.nil_append,beq_dec,vmI,vc40]
 refine call_ok rfl rfl (n_usable n s e X Ps hE (by omega) (by omega)) ?_
 rintro y s2 ⟨rfl,rfl⟩
 unfold EN.probe
 cases ha:X.able
 ·simp (disch:=omega) only [vm0,vm1,vm2,vm3,vm4,vm5,vm6,vm7,vmF,vmT,evo,wr,wrC,frame,Nat.reduceAdd,Nat.reduceMul,Nat.reduceSub,beq_self_eq_true,List.cons_append,List.nil_append,beq_dec,vmI]
  exact hE
 simp only[if_true]
 simp (disch:=omega) only [vm0,vm1,vm2,vm3,vm4,vm5,vm6,vm7,vmF,vmT,evo,wr,wrC,frame,Nat.reduceAdd,Nat.reduceMul,Nat.reduceSub,beq_self_eq_true,List.cons_append,List.nil_append,beq_dec,vmI]
 refine call_ok rfl rfl (n_pick (n+1) s2 e X Ps hE (by omega) (by omega)) ?_
 rintro v s4 hE4
 have hac:=hX.ac
 have hpc:=hX.plc
 have hP2:=(pick_P X).1
 have hin:=pick_in (X:=X)
 have hO2:=hX.pick
 have hvl:=(EndJ.tail hE4).rdW.lenV
 have hll:X.pick.1.length<100000:=by
  have hsub:X.pick.1.length≤max 1 X.mns.length:=by
   unfold EN.pick
   split
   ·have:=usx_len X.mns X.mns.length; dsimp only; omega
   ·unfold pickS
    split
    ·have:=usx_len X.mns X.mns.length; dsimp only; omega
    ·split <;> (dsimp only[List.length_cons,List.length_nil]; omega)
  have:X.mns.length=X.P.length:=by unfold EN.mns; rw[List.length_map]
  omega
 have hoe:X.pick.2.o=X.o:=by unfold EN.pick; split <;> rfl
 simp (disch:=omega) only [vm0,vm1,vm2,vm3,vm4,vm5,vm6,vm7,vmF,vmT,evo,wr,wrC,frame,Nat.reduceAdd,Nat.reduceMul,Nat.reduceSub,beq_self_eq_true,List.cons_append,List.nil_append,beq_dec,vmI,hvl]
 generalize hL:X.pick.1=l at *
 generalize hZ0:X.pick.2=Z0 at *
 obtain ⟨A,hA⟩ : ∃ A,X.o.acked=A:=⟨_,rfl⟩
 rw[hA] at hac ⊢
 refine x_loop (fun m F s'=>∃ i:Nat,∃ z x4 x6,m=l.length-i∧i≤l.length∧z=(i:Int)∧F=[some (.ptr e 0),some (num z),some (.bool false),some (num (l.length:Int)),x4,some v,x6]∧EndS gv s0 s' e (Z0.datas (l.take i) A A) (oW v 1 encI l::Ps)∧(Z0.datas (l.take i) A A).o=X.o) l.length (by omega) ?_ ?_
 ·exact ⟨0,0,_,_,by omega,by omega,rfl,rfl,hE4,hoe⟩
 ·rintro m F s5 ⟨i,_,x4,x6,rfl,hi,rfl,rfl,hE5,ho⟩ hm
  by_cases hlt:i<l.length
  ·obtain ⟨x,hx⟩ : ∃ x,l[i]?=some x:=⟨_,List.getElem?_eq_getElem hlt⟩
   obtain ⟨a,t,rfl,ht,hfr⟩:=hin x (List.mem_of_getElem? hx)
   have hv1:=(EndJ.tail hE5).rdW
   have e1:=hv1.ia hx
   have e2:=hv1.at1 (f:=num) hx
   obtain ⟨r1,r2,r3⟩:=datas_ok (l:=l.take i) (a:=A) (b:=A) hO2 (by omega) fun y hy=>by
    obtain ⟨b,u,rfl,hu,_⟩:=hin y (List.mem_of_mem_take hy)
    exact ⟨b,rfl,by rw[hP2]; exact (List.getElem?_eq_some_iff.1 hu).1⟩
   have hst:Z0.datas (l.take (i+1)) A A=(Z0.datas (l.take i) A A).data a A A:=by
    unfold EN.datas
    rw[List.take_add_one,hx,List.foldl_append]; simp
   generalize Z0.datas (l.take i) A A=Z at *
   have hal:a<Z.P.length:=by rw[r2,hP2]; exact (List.getElem?_eq_some_iff.1 ht).1
   obtain ⟨t2,ht2⟩ : ∃ t,Z.P[a]?=some t:=⟨_,List.getElem?_eq_getElem hal⟩
   have hk:=r1.at ht2
   have hks:=hk.s
   have hkf:=hk.f
   have hlog:=r1.log
   have hbl2:=r1.bl
   have hod:(Z.data a A A).o=X.o:=by
    rw[data_at ht2]
    split <;> exact ho
   obtain ⟨H,hnp,hS⟩:=id hE5
   have g1:=hS.getC
   dsimp only[EN.cells] at g1
   have hac2:Z.o.acked=A:=by rw[ho,hA]
   simp (disch:=omega) only [vm0,vm1,vm2,vm3,vm4,vm5,vm6,vm7,vmF,vmT,evo,wr,wrC,frame,Nat.reduceAdd,Nat.reduceMul,Nat.reduceSub,beq_self_eq_true,List.cons_append,List.nil_append,beq_dec,vmI,e1,e2,g1]
   refine call_ok rfl rfl (d_acked (n+5) s5 H.ob Z.o _ hS.up4) ?_
   rintro y s6 ⟨rfl,rfl⟩
   rw[hac2]
   simp (disch:=omega) only [vm0,vm1,vm2,vm3,vm4,vm5,vm6,vm7,vmF,vmT,evo,wr,wrC,frame,Nat.reduceAdd,Nat.reduceMul,Nat.reduceSub,beq_self_eq_true,List.cons_append,List.nil_append,beq_dec,vmI,e1,e2,g1]
   refine call_ok rfl rfl (d_acked (n+5) s6 H.ob Z.o _ hS.up4) ?_
   rintro y s7 ⟨rfl,rfl⟩
   rw[hac2]
   simp (disch:=omega) only [vm0,vm1,vm2,vm3,vm4,vm5,vm6,vm7,vmF,vmT,evo,wr,wrC,frame,Nat.reduceAdd,Nat.reduceMul,Nat.reduceSub,beq_self_eq_true,List.cons_append,List.nil_append,beq_dec,vmI,e1,e2,g1]
   refine call_ok rfl rfl (n_data n s7 e Z a t2 A A _ hE5 ht2 hks (by omega) (by omega) (by omega) (by omega)) ?_
   rintro y s8 hE6
   rw[←hst] at hE6 hod
   obtain ⟨H8,hnp8,hS8⟩:=id hE6
   have g8:=hS8.getC
   dsimp only[EN.cells] at g8
   simp (disch:=omega) only [vm0,vm1,vm2,vm3,vm4,vm5,vm6,vm7,vmF,vmT,evo,wr,wrC,frame,Nat.reduceAdd,Nat.reduceMul,Nat.reduceSub,beq_self_eq_true,List.cons_append,List.nil_append,beq_dec,vmI,g1,g8]
   exact ⟨l.length-(i+1),by omega,i+1,(i:Int)+1,_,_,rfl,by omega,by omega,rfl,hE6,hod⟩
  ·obtain rfl:i=l.length:=by omega
   rw[List.take_length] at hE5
   simp (disch:=omega) only [vm0,vm1,vm2,vm3,vm4,vm5,vm6,vm7,vmF,vmT,evo,wr,wrC,frame,Nat.reduceAdd,Nat.reduceMul,Nat.reduceSub,beq_self_eq_true,List.cons_append,List.nil_append,beq_dec,vmI]
   obtain ⟨H5,hnp5,hS5⟩:=hE5
   exact ⟨H5,hnp5,((hS5.re ((List.perm_middle (l₁:=[_,_,_,_,_,_,_,_,_])).trans (.cons _ (.refl _)))).drop)⟩
set_option maxHeartbeats 1000000 in
theorem n_join (n:Nat) {s0:St} (s:St) (e:Nat) (X:EN) (k:Int) (i:Nat) (t:PT) (Ps:List Obj) (hE:EndS gv s0 s e X Ps) (hX:X.Ok k) (ht:X.P[i]?=some t) :
  OutOk (callF bd (tab h).get fu (n+6) 36 [.ptr e 0,num (i:Int)] s) (fun y s'=>EndS gv s0 s' e (X.join i) Ps):=by
 refine call_code (t36 h) rfl ?_
 have ht':X.P[(joP i).pt.toNat]?=some t:=by simpa [joP] using ht
 have hfi:=hX.fi
 have hnow:=hX.now
 have hlog:=hX.log
 have hdl:i<X.due.length:=by rw[hX.due]; exact (List.getElem?_eq_some_iff.1 ht).1
 simp (disch:=omega) only [vm0,vm1,vm2,vm3,vm4,vm5,vm6,vm7,vmF,vmT,evo,wr,wrC,frame,Nat.reduceAdd,Nat.reduceMul,Nat.reduceSub,beq_self_eq_true,List.cons_append,List.nil_append,beq_dec,vmI,vc36]
 refine call_ok rfl rfl (n_say n s e X (joP i) t .nils Ps hE (by simp[joP]) ht' (hX.at ht).s (fun s' _ => .nil encB_w (by omega)) (by simp[joP]) (by omega)) ?_
 rintro y s1 ⟨rfl,H,hnp,hS⟩
 have hY:(X.say (joP i)).due=X.due∧(X.say (joP i)).now=X.now∧(X.say (joP i)).c=X.c:=by
  rw[say_at ht']
  split <;> exact ⟨rfl,rfl,rfl⟩
 unfold EN.join
 generalize X.say (joP i)=Y at *
 obtain ⟨hd1,hd2,hd3⟩:=hY
 rw[←hd1,←hd2,←hd3]
 rw[←hd1] at hdl
 rw[←hd2] at hnow
 rw[←hd3] at hfi
 obtain ⟨d,hx⟩ : ∃ d,Y.due[i]?=some d:=⟨_,List.getElem?_eq_getElem hdl⟩
 have g1:=hS.getC
 have svd:=Sep.sameW (((hS.re ((List.perm_middle (l₁:=[_,_,_])).trans (.cons _ (.refl _))))))
 obtain ⟨f,ho,up⟩:=Sep.hd (((hS.re ((List.perm_middle (l₁:=[_,_,_])).trans (.cons _ (.refl _))))))
 have e1:=ho.rd.ia hx
 obtain ⟨s2,f2,w1,w2,w3,w4,w5⟩:=ho.set hx (j:=0) (y:=num (Y.now+Y.c.fi)) (x':=Y.now+Y.c.fi) (by omega) rfl
 rw[Nat.add_zero] at w1
 have hS2:=up (oW H.vd 1 encI (Y.due.set i (Y.now+Y.c.fi))) w2 w3 (fun b hb => .inl (w5 b hb))
 have g2:=hS2.swap.getC
 dsimp only[EN.cells] at g1 g2
 simp (disch:=omega) only [vm0,vm1,vm2,vm3,vm4,vm5,vm6,vm7,vmF,vmT,evo,frame,Nat.reduceAdd,Nat.reduceMul,Nat.reduceSub,beq_self_eq_true,List.cons_append,List.nil_append,beq_dec,g1,e1,w1,svd,vmI]
 exact ⟨H,hnp,((hS2.re ((List.perm_middle (l₁:=[_])).trans (.cons _ ((List.perm_middle (l₁:=[_])).trans (.cons _ ((List.perm_middle (l₁:=[_])).trans (.cons _ (.refl _)))))))))⟩
theorem n_asks (n:Nat) {s0:St} (s:St) (e:Nat) (X:EN) (i:Nat) (t:PT) (Ps:List Obj) (hE:EndS gv s0 s e X Ps) (ht:X.P[i]?=some t) :
  OutOk (callF bd (tab h).get fu (n+2) 35 [.ptr e 0,num (i:Int)] s) (fun x s'=>Is x (.bool (decide (X.side=0)&&t.up&&!t.jn))∧Is s' s):=by
 obtain ⟨H,hnp,hS⟩:=hE
 refine call_code (t35 h) rfl ?_
 have g1:=hS.getC
 obtain ⟨p,t',R,ht2,hp,hT,e1,e2⟩:=EndS.at hnp hS (List.getElem?_eq_some_iff.1 ht).1
 rw[ht] at ht2
 obtain rfl:t=t':=by simpa using ht2
 dsimp only[EN.cells] at g1
 by_cases h0:X.side=0
 ·simp (disch:=omega) only [vm0,vm1,vm2,vm3,vm4,vm5,vm6,vm7,vmF,vmT,evo,wr,wrC,frame,Nat.reduceAdd,Nat.reduceMul,Nat.reduceSub,beq_self_eq_true,List.cons_append,List.nil_append,beq_dec,vmI,vc35,vmU,g1,e1,e2]
  refine call_ok rfl rfl (m_isup n s p t _ hT) ?_
  rintro y s1 ⟨rfl,rfl⟩
  cases hu:t.up
  ·simp (disch:=omega) only [vm0,vm1,vm2,vm3,vm4,vm5,vm6,vm7,vmF,vmT,evo,wr,wrC,frame,Nat.reduceAdd,Nat.reduceMul,Nat.reduceSub,beq_self_eq_true,List.cons_append,List.nil_append,beq_dec,vmI,vmU,g1]
   exact ⟨by cases t.jn <;> rfl,rfl⟩
  ·simp (disch:=omega) only [vm0,vm1,vm2,vm3,vm4,vm5,vm6,vm7,vmF,vmT,evo,wr,wrC,frame,Nat.reduceAdd,Nat.reduceMul,Nat.reduceSub,beq_self_eq_true,List.cons_append,List.nil_append,beq_dec,vmI,vmU,g1,e1,e2]
   refine call_ok rfl rfl (m_joined n s1 p t _ hT) ?_
   rintro y s2 ⟨rfl,rfl⟩
   cases t.jn
   ·simp (disch:=omega) only [vm0,vm1,vm2,vm3,vm4,vm5,vm6,vm7,vmF,vmT,evo,wr,wrC,frame,Nat.reduceAdd,Nat.reduceMul,Nat.reduceSub,beq_self_eq_true,List.cons_append,List.nil_append,beq_dec,vmI,vmU]
    exact ⟨rfl,rfl⟩
   ·simp (disch:=omega) only [vm0,vm1,vm2,vm3,vm4,vm5,vm6,vm7,vmF,vmT,evo,wr,wrC,frame,Nat.reduceAdd,Nat.reduceMul,Nat.reduceSub,beq_self_eq_true,List.cons_append,List.nil_append,beq_dec,vmI,vmU]
    exact ⟨rfl,rfl⟩
 ·rw[decide_eq_false h0]
  simp (disch:=omega) only [vm0,vm1,vm2,vm3,vm4,vm5,vm6,vm7,vmF,vmT,evo,wr,wrC,frame,Nat.reduceAdd,Nat.reduceMul,Nat.reduceSub,beq_self_eq_true,List.cons_append,List.nil_append,beq_dec,vmI,vc35,vmU,g1]
  exact ⟨rfl,rfl⟩
theorem n_is (n:Nat) {s0:St} (s:St) (e:Nat) (X:EN) (z:Int) (Ps:List Obj) (hE:EndS gv s0 s e X Ps) :
  OutOk (callF bd (tab h).get fu (n+1) 41 [.ptr e 0,num z] s) (fun x s'=>Is x (.bool (decide (0≤z∧z<X.P.length)))∧Is s' s):=by
 obtain ⟨H,hnp,hS⟩:=hE
 refine call_code (t41 h) rfl ?_
 have g1:=hS.getC
 have hvl:=(Sep.rdV (((hS.re ((List.perm_middle (l₁:=[_,_])).trans (.cons _ (.refl _))))))).lenV
 rw[hnp] at hvl
 dsimp only[EN.cells] at g1
 by_cases h0:0≤z
 ·by_cases h1:z<X.P.length
  ·rw[decide_eq_true ⟨h0,h1⟩]
   simp (disch:=omega) only [vm0,vm1,vm2,vm3,vm4,vm5,vm6,vm7,vmF,vmT,evo,wr,wrC,frame,Nat.reduceAdd,Nat.reduceMul,Nat.reduceSub,beq_self_eq_true,List.cons_append,List.nil_append,beq_dec,vmI,vc41,vmU,g1,hvl]
   exact ⟨rfl,rfl⟩
  ·rw[decide_eq_false (fun h=>h1 h.2)]
   simp (disch:=omega) only [vm0,vm1,vm2,vm3,vm4,vm5,vm6,vm7,vmF,vmT,evo,wr,wrC,frame,Nat.reduceAdd,Nat.reduceMul,Nat.reduceSub,beq_self_eq_true,List.cons_append,List.nil_append,beq_dec,vmI,vc41,vmU,g1,hvl]
   exact ⟨rfl,rfl⟩
 ·rw[decide_eq_false (fun h=>h0 h.1)]
  simp (disch:=omega) only [vm0,vm1,vm2,vm3,vm4,vm5,vm6,vm7,vmF,vmT,evo,wr,wrC,frame,Nat.reduceAdd,Nat.reduceMul,Nat.reduceSub,beq_self_eq_true,List.cons_append,List.nil_append,beq_dec,vmI,vc41,vmU,g1,hvl]
  exact ⟨rfl,rfl⟩
set_option maxHeartbeats 1000000 in
theorem n_lost (hs:SortOk h) (n:Nat) {s0:St} (s:St) (e:Nat) (X:EN) (k:Int) (v:AV) (l:List O) (Ps:List Obj) (hE:EndS gv s0 s e X (oW v 4 encO l::Ps)) (hX:X.Ok k) (hl:∀ o∈l,o.2.2.1≤4097) (hll:l.length<100000) (hfu:250000<fu) :
  OutOk (callF bd (tab h).get fu (n+4) 37 [.ptr e 0,v] s) (fun y s'=>EndS gv s0 s' e (X.lost l) Ps):=by
 refine call_code (t37 h) rfl ?_
 have hvl:=(EndJ.tail hE).rdW.lenV
 simp (disch:=omega) only [vm0,vm1,vm2,vm3,vm4,vm5,vm6,vm7,vmF,vmT,evo,wr,wrC,frame,Nat.reduceAdd,Nat.reduceMul,Nat.reduceSub,beq_self_eq_true,List.cons_append,List.nil_append,beq_dec,vmI,vc37,hvl]
 refine x_loop (fun m F s'=>∃ i:Nat,∃ z x3 x5,m=l.length-i∧i≤l.length∧z=(i:Int)∧F=[some (.ptr e 0),some v,some (num z),x3,some (num (l.length:Int)),x5,some v]∧EndS gv s0 s' e (X.lost (l.take i)) (oW v 4 encO l::Ps)) l.length (by omega) ?_ ?_
 ·exact ⟨0,0,_,_,by omega,by omega,rfl,rfl,hE⟩
 ·rintro m F s1 ⟨i,_,x3,x5,rfl,hi,rfl,rfl,H,hnp,hS⟩ hm
  by_cases hlt:i<l.length
  ·obtain ⟨⟨a,b,c,d⟩,hx⟩ : ∃ x,l[i]?=some x:=⟨_,List.getElem?_eq_getElem hlt⟩
   obtain ⟨r1,r2⟩:=EN.Ok.lost (l:=l.take i) hX fun o ho=>hl o (List.mem_of_mem_take ho)
   have hst:X.lost (l.take (i+1))={ X.lost (l.take i) with pl:=addC b c (X.lost (l.take i)).pl }:=by
    unfold EN.lost
    rw[List.take_add_one,hx,List.foldl_append]; rfl
   generalize X.lost (l.take i)=Z at *
   have hpl:=r1.pll
   have hv1:=Sep.rdW (((hS.re ((List.perm_middle (l₁:=[_,_,_,_,_,_,_,_,_])).trans (.cons _ (.refl _))))))
   have e1:=hv1.ia hx
   have e2:=hv1.at hx
   dsimp only[encO] at e2
   have hS1:=hS.cell [num 0,num 0,num 0,num 0] [num a,num b,num c,num d]
   have g1:=hS1.getC
   have g2:=hS1.swap.getC
   dsimp only[EN.cells] at g2
   simp (disch:=omega) only [vm0,vm1,vm2,vm3,vm4,vm5,vm6,vm7,vmF,vmT,evo,wr,wrC,frame,Nat.reduceAdd,Nat.reduceMul,Nat.reduceSub,beq_self_eq_true,List.cons_append,List.nil_append,beq_dec,vmI,e1,e2]
   generalize (s1.new (.cells [num 0,num 0,num 0,num 0] .own)).put s1.next (some (.cells [num a,num b,num c,num d] .own))=s2 at *
   simp (disch:=omega) only [vm0,vm1,vm2,vm3,vm4,vm5,vm6,vm7,vmF,vmT,evo,wr,wrC,frame,Nat.reduceAdd,Nat.reduceMul,Nat.reduceSub,beq_self_eq_true,List.cons_append,List.nil_append,beq_dec,vmI,g1,g2]
   refine call_ok rfl rfl (d_lost hs n s2 H.pb Z.pl Z.ps b c _ (Sep.up6 hS1) r1.wf (by omega) (by omega)) ?_
   rintro y s3 hS3
   have g3:=Sep.getC (((hS3.re ((List.perm_middle (l₁:=[_,_])).trans (.cons _ (.refl _))))))
   dsimp only[EN.cells] at g3
   simp (disch:=omega) only [vm0,vm1,vm2,vm3,vm4,vm5,vm6,vm7,vmF,vmT,evo,wr,wrC,frame,Nat.reduceAdd,Nat.reduceMul,Nat.reduceSub,beq_self_eq_true,List.cons_append,List.nil_append,beq_dec,vmI,g1,g2,g3]
   obtain ⟨ms2,m2,hm3,hm4,hL2⟩:=Sep.openLg (((hS3.re ((List.perm_middle (l₁:=[_,_,_,_,_,_,_,_,_])).trans (.cons _ (.refl _))))))
   refine call_ok rfl rfl (mt_add n s3 H.mb 7 7 1 _ (((hL2.re ((List.perm_middle (l₁:=[_,_,_])).trans (.cons _ (.refl _)))))) rfl (by omega) (by omega)) ?_
   rintro y s4 hL4
   have hL5:=Sep.closeLg (j:=0) hm3 hm4 (((hL4.re ((List.perm_middle (l₁:=[_])).trans (.cons _ ((List.perm_middle (l₁:=[_])).trans (.cons _ ((List.perm_middle (l₁:=[_])).trans (.cons _ (.refl _))))))))))
   simp (disch:=omega) only [vm0,vm1,vm2,vm3,vm4,vm5,vm6,vm7,vmF,vmT,evo,wr,wrC,frame,Nat.reduceAdd,Nat.reduceMul,Nat.reduceSub,beq_self_eq_true,List.cons_append,List.nil_append,beq_dec,vmI]
   exact ⟨l.length-(i+1),by omega,i+1,(i:Int)+1,_,_,rfl,by omega,by omega,rfl,by rw[hst]; exact ⟨H,hnp,((hL5.re ((List.perm_middle (l₁:=[_,_])).trans (.cons _ ((List.perm_middle (l₁:=[_,_])).trans (.cons _ ((List.perm_middle (l₁:=[_,_])).trans (.cons _ ((List.perm_middle (l₁:=[_,_])).trans (.cons _ ((List.perm_middle (l₁:=[_,_])).trans (.cons _ ((List.perm_middle (l₁:=[_,_])).trans (.cons _ ((List.perm_middle (l₁:=[_])).trans (.cons _ ((List.perm_middle (l₁:=[_])).trans (.cons _ ((List.perm_middle (l₁:=[_])).trans (.cons _ (.refl _)))))))))))))))))))).drop)⟩⟩
  ·obtain rfl:i=l.length:=by omega
   rw[List.take_length] at hS hnp
   simp (disch:=omega) only [vm0,vm1,vm2,vm3,vm4,vm5,vm6,vm7,vmF,vmT,evo,wr,wrC,frame,Nat.reduceAdd,Nat.reduceMul,Nat.reduceSub,beq_self_eq_true,List.cons_append,List.nil_append,beq_dec,vmI]
   exact ⟨H,hnp,((hS.re ((List.perm_middle (l₁:=[_,_,_,_,_,_,_,_,_])).trans (.cons _ (.refl _)))).drop)⟩
end
def evD (k:Int) (l:List Int):EvV:=⟨k,0,l,pk0⟩
def evN (k n:Int):EvV:=⟨k,n,[],pk0⟩
theorem evD_ft {k:Int} {l:List Int} (hl:l.length≤1000000) (h8:∀ x∈l,In8 x):(evD k l).Ft:=⟨hl,by simp[evD,pk0],h8,by simp[evD,pk0]⟩
theorem evN_ft {k n:Int}:(evN k n).Ft:=⟨by simp[evN],by simp[evN,pk0],by simp[evN],by simp[evN,pk0]⟩
theorem EndS.met {gv:AV×List Nat} {s0 s:St} {e:Nat} {X:EN} {Ps:List Obj} (hE:EndS gv s0 s e X Ps) {bd:Bd} {h:VF} {fu:Nat}:∃ H:EH,s.heap.get e=some (.cells (X.cells H) .own) ∧
  ∀ (n k:Nat) (z a:Int),z=(k:Int)→k<8→0≤a∧a≤2147483647→OutOk (callF bd (tab h).get fu (n+3) 31 [.ptr H.mb 0,num z,num a] s) (fun y s'=>EndS gv s0 s' e X Ps):=by
 obtain ⟨H,hnp,hS⟩:=hE
 refine ⟨H,hS.getC,fun n k z a hz hk ha=>?_⟩
 obtain ⟨ms2,m2,hm3,hm4,hL2⟩:=(Sep.up8 hS).openLg
 refine (mt_add n s H.mb k z a _ (((hL2.re ((List.perm_middle (l₁:=[_,_,_])).trans (.cons _ (.refl _)))))) hz hk ha).mono fun y s' hL4=>?_
 exact ⟨H,hnp,Sep.dn8 (Sep.closeLg (j:=0) hm3 hm4 (((hL4.re ((List.perm_middle (l₁:=[_])).trans (.cons _ ((List.perm_middle (l₁:=[_])).trans (.cons _ ((List.perm_middle (l₁:=[_])).trans (.cons _ (.refl _)))))))))))⟩
theorem room_bd (o:OB) (l:List Int):0≤o.room l.length∧o.room l.length≤l.length∧(o.b.length≤4096→o.b.length+o.room l.length≤4096):=by
 unfold OB.room
 split
 ·omega
 ·omega
def EN.write (X:EN) (l:List Int):EN:=if X.o.room l.length=0 then X else EN.pump (EN.note { X with o:=X.o.write l } (evD 1 (l.take (X.o.room l.length).toNat)))
theorem write_0 {o:OB} {l:List Int} (h:o.room l.length=0):o.write l=o:=by
 unfold OB.write
 rw[h]; simp
theorem EN.Ok.written {X:EN} {k:Int} (h:X.Ok k) {l:List Int} (h8:∀ x∈l,In8 x):EN.Ok { X with o:=X.o.write l } k:=by
 obtain ⟨r1,r2,r3⟩:=room_bd X.o l
 have hb:=r3 h.bl
 have hlen:((X.o.write l).b.length:Int)=X.o.b.length+X.o.room l.length:=by
  unfold OB.write
  dsimp only
  rw[List.length_append,List.length_take]; omega
 have hpl:X.o.places≤(X.o.write l).places:=by
  unfold OB.places
  rw[hlen]
  show _≤_+(if X.o.closed=true then (1:Int) else 0)
  omega
 exact { h with
  bl:=by show (X.o.write l).b.length≤4096; omega
  bu:=h.bu
  ac:=⟨h.ac.1,Int.le_trans h.ac.2 hpl⟩
  b8:=fun x hx=>by
   rcases List.mem_append.1 (show x∈X.o.b++l.take (X.o.room l.length).toNat from hx) with hx | hx
   ·exact h.b8 x hx
   ·exact h8 x (List.mem_of_mem_take hx) }
theorem EN.Ok.write {X:EN} {k:Int} (h:X.Ok k) {l:List Int} (h8:∀ x∈l,In8 x) (hk:k+1≤500000):(X.write l).Ok (k+1):=by
 unfold EN.write
 obtain ⟨r1,r2,r3⟩:=room_bd X.o l
 have hb:=r3 h.bl
 split
 ·exact { h with ln:=by have:=h.ln; omega,k:=hk }
 ·exact ((h.written h8).note (evD_ft (by rw[List.length_take]; omega) fun x hx=>h8 x (List.mem_of_mem_take hx)) hk).pump.1
def EN.close (X:EN):EN:=if X.o.closed then X else EN.pump (EN.note { X with o:={ X.o with closed:=true } } (evN 6 0))
theorem EN.Ok.closed {X : EN} {k : Int} (h : X.Ok k) : EN.Ok { X with o := { X.o with closed := true } } k :=
  { h with
    bl := h.bl
    bu := h.bu
    ac := ⟨h.ac.1, Int.le_trans h.ac.2 (by unfold OB.places; dsimp only; simp only [if_true]; split <;> omega)⟩
    b8 := h.b8 }
theorem EN.Ok.close {X:EN} {k:Int} (h:X.Ok k) (hk:k+1≤500000):X.close.Ok (k+1):=by
 unfold EN.close
 split
 ·exact { h with ln:=by have:=h.ln; omega,k:=hk }
 ·exact (h.closed.note evN_ft hk).pump.1
theorem front_le {M:Int} (hM:0≤M):∀ {l:List R},(∀ r∈l,r.2≤M)→frontR l≤M
 | [],_=>by simpa [frontR] using hM
 | r::l,h=>by
  rw[front_cons]
  have:=h r (by simp)
  split <;> omega
def EN.read (X:EN) (z:Int):EN:=if X.i.out z=[] then X else EN.note { X with i:=X.i.read z } (evD 2 (X.i.out z))
theorem out_len {X:EN} {k:Int} (h:X.Ok k) (z:Int):((X.i.out z).length:Int)=X.i.n_ z∧X.i.n_ z≤4096:=by
 obtain ⟨h1,h2,h3⟩:=h.ig.n_bd z
 have hf:=front_le (by omega) h.il
 have ht:=h.ig.tk
 unfold IB.out
 rw[List.length_drop,List.length_take]
 omega
theorem read_0 {X:EN} {k:Int} (h:X.Ok k) {z:Int} (ho:X.i.out z=[]):X.i.read z=X.i:=by
 have:=(out_len h z).1
 rw[ho] at this
 unfold IB.read
 rw[←this]; simp
theorem EN.Ok.readI {X:EN} {k:Int} (h:X.Ok k) (z:Int):EN.Ok { X with i:=X.i.read z } k:=by
 obtain ⟨h1,h2,h3⟩:=h.ig.n_bd z
 have hf:=front_le (by omega) h.il
 have hw:=h.ig.w
 exact { h with ig:=h.ig.read z (by omega),il:=h.il,i8:=h.i8 }
theorem out_in8 {X:EN} {k:Int} (h:X.Ok k) (z:Int):∀ x∈X.i.out z,In8 x:=fun x hx=>h.i8 x (List.mem_of_mem_take (List.mem_of_mem_drop hx))
theorem EN.Ok.read {X:EN} {k:Int} (h:X.Ok k) (z:Int) (hk:k+1≤500000):(X.read z).Ok (k+1):=by
 unfold EN.read
 have:=out_len h z
 split
 ·exact { h with ln:=by have:=h.ln; omega,k:=hk }
 ·exact (h.readI z).note (evD_ft (by omega) (out_in8 h z)) hk
section
variable {bd : Bd} {h : VF} {fu : Nat} {gv : AV × List Nat}
set_option maxHeartbeats 1000000 in
theorem n_write (n:Nat) {s0:St} (s:St) (e:Nat) (X:EN) (k:Int) (v:AV) (l:List Int) (Ps:List Obj) (hE:EndS gv s0 s e X Ps) (hX:X.Ok k) (hk:k+1≤500000) (hv:∀ s',Sep s0 s' Ps→RdE s' v 1 encB l) (h8:∀ x∈l,In8 x) (hll:l.length≤1000000) (hfu:250000<fu) :
  OutOk (callF bd (tab h).get fu (n+8) 7 [.ptr e 0,v] s) (fun y s'=>Is y (num (X.o.room l.length))∧EndS gv s0 s' e (X.write l) Ps):=by
 refine call_code (t7 h) rfl ?_
 obtain ⟨H,hnp,hS⟩:=hE
 have g1:=hS.getC
 have hbl:=hX.bl
 have hbu:=hX.bu
 have hac:=hX.ac
 have hpc:=hX.plc
 dsimp only[EN.cells] at g1
 simp (disch:=omega) only [vm0,vm1,vm2,vm3,vm4,vm5,vm6,vm7,vmF,vmT,evo,wr,wrC,frame,Nat.reduceAdd,Nat.reduceMul,Nat.reduceSub,beq_self_eq_true,List.cons_append,List.nil_append,beq_dec,vmI,vc7,g1]
 refine call_ok rfl rfl (d_write (n+4) s H.ob X.o v l _ hS.up4 (hv s (((hS.re (.refl _)).drop.drop.drop.drop.drop.drop.drop.drop.drop))) (by omega) (by omega) (by omega) (by omega) (by omega)) ?_
 rintro y s1 ⟨rfl,hS1⟩
 obtain ⟨r1,r2,r3⟩:=room_bd X.o l
 have hw0:=@write_0 X.o l
 have hO:=hX.written h8
 have hn:X.write l=if X.o.room l.length=0 then X else EN.pump (EN.note { X with o:=X.o.write l } (evD 1 (l.take (X.o.room l.length).toNat))):=rfl
 rw[hn]
 generalize X.o.room l.length=m at *
 have hE1:EndS gv s0 s1 e { X with o:=X.o.write l } Ps:=⟨H,hnp,Sep.dn4 hS1⟩
 by_cases h0:m=0
 ·rw[if_pos h0]
  rw[hw0 h0] at hE1
  simp (disch:=omega) only [vm0,vm1,vm2,vm3,vm4,vm5,vm6,vm7,vmF,vmT,evo,wr,wrC,frame,Nat.reduceAdd,Nat.reduceMul,Nat.reduceSub,beq_self_eq_true,List.cons_append,List.nil_append,beq_dec,vmI]
  exact ⟨by rw[h0]; rfl,hE1⟩
 rw[if_neg h0]
 have hv1:=hv s1 (EndJ.tail hE1)
 obtain ⟨u,q1,q2⟩:=hv1.sliH (b:=m) (by omega) (by omega)
 have huc:=cells1 q2.rd.sl
 simp (disch:=omega) only [vm0,vm1,vm2,vm3,vm4,vm5,vm6,vm7,vmF,vmT,evo,wr,wrC,frame,Nat.reduceAdd,Nat.reduceMul,Nat.reduceSub,beq_self_eq_true,List.cons_append,List.nil_append,beq_dec,vmI,q1,huc]
 refine call_ok rfl rfl (n_note (n+3) 0 s1 e _ (evD 1 (l.take m.toNat)) u .nils Ps hE1 q2 (.nil encB_w (by omega)) (by simp[evD]; omega) (by simp[evD,pk0]) hO.log) ?_
 rintro y s2 hE2
 obtain ⟨H2,g2,hmt⟩:=EndS.met (bd:=bd) (h:=h) (fu:=fu) hE2
 dsimp only[EN.cells,EN.note] at g2
 simp (disch:=omega) only [vm0,vm1,vm2,vm3,vm4,vm5,vm6,vm7,vmF,vmT,evo,wr,wrC,frame,Nat.reduceAdd,Nat.reduceMul,Nat.reduceSub,beq_self_eq_true,List.cons_append,List.nil_append,beq_dec,vmI,g2]
 refine call_ok rfl rfl (hmt (n+4) 5 5 m rfl (by omega) (by omega)) ?_
 rintro y s3 hE3
 simp (disch:=omega) only [vm0,vm1,vm2,vm3,vm4,vm5,vm6,vm7,vmF,vmT,evo,wr,wrC,frame,Nat.reduceAdd,Nat.reduceMul,Nat.reduceSub,beq_self_eq_true,List.cons_append,List.nil_append,beq_dec,vmI]
 refine call_ok rfl rfl (n_pump n s3 e _ (k+1) Ps hE3 (hO.note (evD_ft (by rw[List.length_take]; omega) fun x hx=>h8 x (List.mem_of_mem_take hx)) hk) hfu) ?_
 rintro y s4 hE4
 simp (disch:=omega) only [vm0,vm1,vm2,vm3,vm4,vm5,vm6,vm7,vmF,vmT,evo,wr,wrC,frame,Nat.reduceAdd,Nat.reduceMul,Nat.reduceSub,beq_self_eq_true,List.cons_append,List.nil_append,beq_dec,vmI]
 exact ⟨rfl,hE4⟩
theorem n_close (n:Nat) {s0:St} (s:St) (e:Nat) (X:EN) (k:Int) (Ps:List Obj) (hE:EndS gv s0 s e X Ps) (hX:X.Ok k) (hk:k+1≤500000) (hfu:250000<fu) :
  OutOk (callF bd (tab h).get fu (n+8) 15 [.ptr e 0] s) (fun y s'=>Is y (.bool (!X.o.closed))∧EndS gv s0 s' e X.close Ps):=by
 refine call_code (t15 h) rfl ?_
 obtain ⟨H,hnp,hS⟩:=hE
 have g1:=hS.getC
 dsimp only[EN.cells] at g1
 simp (disch:=omega) only [vm0,vm1,vm2,vm3,vm4,vm5,vm6,vm7,vmF,vmT,evo,wr,wrC,frame,Nat.reduceAdd,Nat.reduceMul,Nat.reduceSub,beq_self_eq_true,List.cons_append,List.nil_append,beq_dec,vmI,vc15,g1]
 refine call_ok rfl rfl (d_close (n+6) s H.ob X.o _ hS.up4) ?_
 rintro y s1 ⟨rfl,hS1⟩
 have hE1:EndS gv s0 s1 e { X with o:={ X.o with closed:=true } } Ps:=⟨H,hnp,Sep.dn4 hS1⟩
 have hO:=hX.closed
 unfold EN.close
 cases hc:X.o.closed
 ·simp only[Bool.false_eq_true,if_false,Bool.not_false]
  simp (disch:=omega) only [vm0,vm1,vm2,vm3,vm4,vm5,vm6,vm7,vmF,vmT,evo,wr,wrC,frame,Nat.reduceAdd,Nat.reduceMul,Nat.reduceSub,beq_self_eq_true,List.cons_append,List.nil_append,beq_dec,vmI]
  refine call_ok rfl rfl (n_note (n+3) 0 s1 e _ (evN 6 0) .nils .nils Ps hE1 (.nil encB_w (by omega)) (.nil encB_w (by omega)) (by simp[evN]) (by simp[evN,pk0]) hO.log) ?_
  rintro y s2 hE2
  simp (disch:=omega) only [vm0,vm1,vm2,vm3,vm4,vm5,vm6,vm7,vmF,vmT,evo,wr,wrC,frame,Nat.reduceAdd,Nat.reduceMul,Nat.reduceSub,beq_self_eq_true,List.cons_append,List.nil_append,beq_dec,vmI]
  refine call_ok rfl rfl (n_pump n s2 e _ (k+1) Ps hE2 (hO.note evN_ft hk) hfu) ?_
  rintro y s3 hE3
  simp (disch:=omega) only [vm0,vm1,vm2,vm3,vm4,vm5,vm6,vm7,vmF,vmT,evo,wr,wrC,frame,Nat.reduceAdd,Nat.reduceMul,Nat.reduceSub,beq_self_eq_true,List.cons_append,List.nil_append,beq_dec,vmI]
  exact ⟨rfl,hE3⟩
 ·simp only[if_true,Bool.not_true]
  have he:({ X with o:={ X.o with closed:=true } }:EN)=X:=by rw[←hc]
  rw[he] at hE1
  simp (disch:=omega) only [vm0,vm1,vm2,vm3,vm4,vm5,vm6,vm7,vmF,vmT,evo,wr,wrC,frame,Nat.reduceAdd,Nat.reduceMul,Nat.reduceSub,beq_self_eq_true,List.cons_append,List.nil_append,beq_dec,vmI]
  exact ⟨rfl,hE1⟩
theorem n_read (n:Nat) {s0:St} (s:St) (e:Nat) (X:EN) (k z:Int) (Ps:List Obj) (hE:EndS gv s0 s e X Ps) (hX:X.Ok k) :
  OutOk (callF bd (tab h).get fu (n+6) 9 [.ptr e 0,num z] s) (fun x s'=>EndS gv s0 s' e (X.read z) (oW x 1 encB (X.i.out z)::Ps)):=by
 refine call_code (t9 h) rfl ?_
 obtain ⟨H,hnp,hS⟩:=hE
 have g1:=hS.getC
 dsimp only[EN.cells] at g1
 simp (disch:=omega) only [vm0,vm1,vm2,vm3,vm4,vm5,vm6,vm7,vmF,vmT,evo,wr,wrC,frame,Nat.reduceAdd,Nat.reduceMul,Nat.reduceSub,beq_self_eq_true,List.cons_append,List.nil_append,beq_dec,vmI,vc9,g1]
 refine call_ok rfl rfl (e_read n s H.ib X.i _ z hS.up6 hX.ig) ?_
 rintro x s1 ⟨_,hS1⟩
 have hE1:EndS gv s0 s1 e { X with i:=X.i.read z } (oW x 1 encB (X.i.out z)::Ps):=⟨H,hnp,((hS1.re ((List.perm_middle (l₁:=[_,_])).trans (.cons _ ((List.perm_middle (l₁:=[_,_])).trans (.cons _ ((List.perm_middle (l₁:=[_,_])).trans (.cons _ ((List.perm_middle (l₁:=[_,_])).trans (.cons _ ((List.perm_middle (l₁:=[_,_])).trans (.cons _ ((List.perm_middle (l₁:=[_,_])).trans (.cons _ ((List.perm_middle (l₁:=[_])).trans (.cons _ ((List.perm_middle (l₁:=[_])).trans (.cons _ ((List.perm_middle (l₁:=[_])).trans (.cons _ (.refl _)))))))))))))))))))))⟩
 have hr0:=@read_0 X k hX z
 have hO:=hX.readI z
 have hol:=out_len hX z
 have h8:=out_in8 hX z
 have hxr:=hS1.rdW
 have hxl:=hxr.lenV
 have hxc:=cells1 hxr.rd.sl
 have hn:X.read z=if X.i.out z=[] then X else EN.note { X with i:=X.i.read z } (evD 2 (X.i.out z)):=rfl
 rw[hn]
 generalize X.i.out z=l at *
 by_cases h0:l=[]
 ·rw[if_pos h0]
  rw[hr0 h0] at hE1
  subst h0
  simp (disch:=omega) only [vm0,vm1,vm2,vm3,vm4,vm5,vm6,vm7,vmF,vmT,evo,wr,wrC,frame,Nat.reduceAdd,Nat.reduceMul,Nat.reduceSub,beq_self_eq_true,List.cons_append,List.nil_append,beq_dec,vmI,hxl,List.length_nil,Int.natCast_zero]
  exact hE1
 rw[if_neg h0]
 have hl0:=List.length_pos_iff.2 h0
 simp (disch:=omega) only [vm0,vm1,vm2,vm3,vm4,vm5,vm6,vm7,vmF,vmT,evo,wr,wrC,frame,Nat.reduceAdd,Nat.reduceMul,Nat.reduceSub,beq_self_eq_true,List.cons_append,List.nil_append,beq_dec,vmI,hxl,hxc]
 refine call_ok rfl rfl (n_note (n+1) 0 s1 e _ (evD 2 l) x .nils _ hE1 hxr (.nil encB_w (by omega)) (by simp[evD]; omega) (by simp[evD,pk0]) hO.log) ?_
 rintro y s2 hE2
 obtain ⟨H2,g2,hmt⟩:=EndS.met (bd:=bd) (h:=h) (fu:=fu) hE2
 have hxl2:=(EndJ.tail hE2).rdW.lenV
 dsimp only[EN.cells,EN.note] at g2
 simp (disch:=omega) only [vm0,vm1,vm2,vm3,vm4,vm5,vm6,vm7,vmF,vmT,evo,wr,wrC,frame,Nat.reduceAdd,Nat.reduceMul,Nat.reduceSub,beq_self_eq_true,List.cons_append,List.nil_append,beq_dec,vmI,g2,hxl2]
 refine call_ok rfl rfl (hmt (n+2) 6 6 l.length rfl (by omega) (by omega)) ?_
 rintro y s3 hE3
 simp (disch:=omega) only [vm0,vm1,vm2,vm3,vm4,vm5,vm6,vm7,vmF,vmT,evo,wr,wrC,frame,Nat.reduceAdd,Nat.reduceMul,Nat.reduceSub,beq_self_eq_true,List.cons_append,List.nil_append,beq_dec,vmI]
 exact hE3
end
theorem PT.Kk.late {t:PT} (h:t.Kk) (now:Int):(t.late now).Kk∧(t.late now).sent=t.sent∧(∀ o∈t.lates now,o.2.2.1≤4097)∧(t.lates now).length≤t.F.length:=by
 have hf:=h.f
 have hl:=List.length_filter_le (fun o=>!lateO now t.G.wait o) t.F
 refine ⟨?_,?_,fun o ho=>h.r o (List.mem_filter.1 ho).1,List.length_filter_le ..⟩
 ·unfold PT.late
  split
  ·exact ⟨h.g,h.w,h.s,by dsimp only; omega,fun o ho=>h.a o (List.mem_filter.1 ho).1,fun o ho=>h.r o (List.mem_filter.1 ho).1⟩
  ·exact ⟨h.g.late,h.w.loss,h.s,by dsimp only; omega,fun o ho=>h.a o (List.mem_filter.1 ho).1,fun o ho=>h.r o (List.mem_filter.1 ho).1⟩
 ·unfold PT.late
  split <;> rfl
def EN.tickP (now:Int) (X:EN) (i:Nat):EN:=match X.P[i]? with
 | some t=>if (decide (X.side=0)&&t.up&&!t.jn)=true∧X.due.getD i 0≤now then X.join i else EN.lost { X with P:=X.P.set i (t.late now) } (t.lates now)
 | none=>X
theorem EN.Ok.tickP {X:EN} {k:Int} (h:X.Ok k) (now:Int) (i:Nat):(X.tickP now i).Ok k∧(X.tickP now i).P.length=X.P.length:=by
 unfold EN.tickP
 split
 ·rename_i t ht
  split
  ·exact h.join ht
  ·obtain ⟨k1,k2,k3,k4⟩:=(h.at ht).late now
   have h1:=h.set ht k1 k2
   obtain ⟨r1,r2⟩:=EN.Ok.lost h1 k3
   exact ⟨r1,by rw[r2]; simp⟩
 ·exact ⟨h,rfl⟩
def EN.tickA (X:EN) (now:Int):EN:=(EN.note { X with now:=now } (evN 3 now))
def EN.tickB (X:EN) (now:Int) (k:Nat):EN:=(List.range k).foldl (EN.tickP now) (X.tickA now)
def EN.tickC (X:EN):EN:=if X.pump.idle then X.pump.probe else X.pump
def EN.mayT (X:EN) (now:Int):Bool:=decide (X.now<now∧now≤1048576)
def EN.tick (X:EN) (now:Int):EN:=if X.mayT now then (X.tickB now X.P.length).tickC else X
theorem EN.Ok.tickA {X:EN} {k:Int} (h:X.Ok k) {now:Int} (hm:X.mayT now=true) (hk:k+1≤500000):(X.tickA now).Ok (k+1):=by
 unfold EN.mayT at hm
 simp only[decide_eq_true_eq] at hm
 have:=h.now
 exact EN.Ok.note (X:={ X with now:=now }) { h with now:=⟨by dsimp only; omega,by dsimp only; omega⟩ } evN_ft hk
theorem tickB_s (X:EN) (now:Int) (k:Nat):X.tickB now (k+1)=(X.tickB now k).tickP now k:=by
 unfold EN.tickB
 rw[List.range_succ,List.foldl_append]; rfl
theorem EN.Ok.tickB {X:EN} {k:Int} (h:X.Ok k) {now:Int} (hm:X.mayT now=true) (hk:k+1≤500000):∀ j:Nat,(X.tickB now j).Ok (k+1)∧(X.tickB now j).P.length=X.P.length
 | 0=>⟨h.tickA hm hk,rfl⟩
 | j+1=>by
  rw[tickB_s]
  obtain ⟨h1,h2⟩:=EN.Ok.tickB h hm hk j
  obtain ⟨h3,h4⟩:=h1.tickP now j
  exact ⟨h3,h4.trans h2⟩
theorem EN.Ok.tickC {X:EN} {k:Int} (h:X.Ok k):X.tickC.Ok k:=by
 unfold EN.tickC
 split
 ·exact h.pump.1.probe.1
 ·exact h.pump.1
theorem EN.Ok.tick {X:EN} {k:Int} (h:X.Ok k) (now:Int) (hk:k+1≤500000):(X.tick now).Ok (k+1):=by
 unfold EN.tick
 split
 ·rename_i hm
  exact (h.tickB hm hk _).1.tickC
 ·exact { h with ln:=by have:=h.ln; omega,k:=hk }
def EN.setP (X:EN) (i:Nat) (u:PT):EN:={ X with P:=X.P.set i u }
def EN.upA (X:EN) (i:Nat) (t:PT):EN:=EN.setP (X.note (evN 7 i)) i { t with up:=true }
def EN.mayU (X:EN) (z:Int):Bool:=decide (0≤z∧z<X.P.length)&&(match X.P[z.toNat]? with | some t=>!t.up | none=>false)
def EN.up (X:EN) (z:Int):EN:=if X.mayU z then (match X.P[z.toNat]? with
 | some t=>if (decide (X.side=0)&&!t.jn)=true then (X.upA z.toNat t).join z.toNat else (X.upA z.toNat t).pump
 | none=>X) else X
theorem EN.Ok.upA {X:EN} {k:Int} (h:X.Ok k) {i:Nat} {t:PT} (ht:X.P[i]?=some t) (hk:k+1≤500000):(X.upA i t).Ok (k+1) :=
 have hK:=h.at ht
 (h.note (evN_ft (k:=7) (n:=i)) hk).set (u:={ t with up:=true }) ht ⟨hK.g,hK.w,hK.s,hK.f,hK.a,hK.r⟩ rfl
theorem EN.Ok.up {X:EN} {k:Int} (h:X.Ok k) (z:Int) (hk:k+1≤500000):(X.up z).Ok (k+1):=by
 have h0:X.Ok (k+1):={ h with ln:=by have:=h.ln; omega,k:=hk }
 unfold EN.up
 split
 ·split
  ·rename_i t ht
   have h1:=h.upA ht hk
   split
   ·have ht2:(X.upA z.toNat t).P[z.toNat]?=some { t with up:=true }:=by simp[EN.upA,EN.setP,EN.note,(List.getElem?_eq_some_iff.1 ht).1]
    exact (h1.join ht2).1
   ·exact h1.pump.1
  ·exact h0
 ·exact h0
def EN.downA (X:EN) (i:Nat) (t:PT):EN:=EN.lost (EN.setP (X.note (evN 8 i)) i { t with up:=false,F:=[] }) t.F
def EN.mayD (X:EN) (z:Int):Bool:=decide (0≤z∧z<X.P.length)&&(match X.P[z.toNat]? with | some t=>t.up | none=>false)
def EN.down (X:EN) (z:Int):EN:=if X.mayD z then (match X.P[z.toNat]? with
 | some t=>(X.downA z.toNat t).pump
 | none=>X) else X
theorem EN.Ok.downA {X:EN} {k:Int} (h:X.Ok k) {i:Nat} {t:PT} (ht:X.P[i]?=some t) (hk:k+1≤500000):(X.downA i t).Ok (k+1):=by
 have hK:=h.at ht
 have hs:=hK.s
 have h1:=(h.note (evN_ft (k:=8) (n:=i)) hk).set (u:={ t with up:=false,F:=[] }) ht ⟨hK.g,hK.w,hK.s,by show ((([]:List O).length:Nat):Int)≤t.sent; simp; omega,by simp,by simp⟩ rfl
 exact (EN.Ok.lost h1 hK.r).1
theorem EN.Ok.down {X:EN} {k:Int} (h:X.Ok k) (z:Int) (hk:k+1≤500000):(X.down z).Ok (k+1):=by
 have h0:X.Ok (k+1):={ h with ln:=by have:=h.ln; omega,k:=hk }
 unfold EN.down
 split
 ·split
  ·rename_i t ht
   exact (h.downA ht hk).pump.1
  ·exact h0
 ·exact h0
section
variable {bd : Bd} {h : VF} {fu : Nat} {gv : AV × List Nat}
set_option maxHeartbeats 1000000 in
theorem n_tick (hs:SortOk h) (n:Nat) {s0:St} (s:St) (e:Nat) (X:EN) (k now:Int) (Ps:List Obj) (hE:EndS gv s0 s e X Ps) (hX:X.Ok k) (hk:k+1≤500000) (hfu:250000<fu) :
  OutOk (callF bd (tab h).get fu (n+8) 10 [.ptr e 0,num now] s) (fun y s'=>Is y (.bool (X.mayT now))∧EndS gv s0 s' e (X.tick now) Ps):=by
 refine call_code (t10 h) rfl ?_
 obtain ⟨H,hnp,hS⟩:=id hE
 have g1:=hS.getC
 have hX1:=hX.now
 have hT:X.tick now=if X.mayT now then (X.tickB now X.P.length).tickC else X:=rfl
 dsimp only[EN.cells] at g1
 by_cases h1:now≤X.now
 ·have hm:X.mayT now=false:=decide_eq_false (by omega)
  rw[hT,hm]
  simp (disch:=omega) only [vm0,vm1,vm2,vm3,vm4,vm5,vm6,vm7,vmF,vmT,evo,wr,wrC,frame,Nat.reduceAdd,Nat.reduceMul,Nat.reduceSub,beq_self_eq_true,List.cons_append,List.nil_append,beq_dec,vmI,vc10,vmU,g1]
  exact ⟨rfl,hE⟩
 by_cases h2:1048576<now
 ·have hm:X.mayT now=false:=decide_eq_false (by omega)
  rw[hT,hm]
  simp (disch:=omega) only [vm0,vm1,vm2,vm3,vm4,vm5,vm6,vm7,vmF,vmT,evo,wr,wrC,frame,Nat.reduceAdd,Nat.reduceMul,Nat.reduceSub,beq_self_eq_true,List.cons_append,List.nil_append,beq_dec,vmI,vc10,vmU,g1]
  exact ⟨rfl,hE⟩
 have hm:X.mayT now=true:=decide_eq_true (by omega)
 rw[hT,hm]
 simp only[if_true]
 have hA:=EN.Ok.tickA hX hm hk
 have hS1:=hS.setC [num X.c.pa,num X.c.bu,num X.c.wi,num X.c.ch,num X.c.mo,num X.c.fi,num X.c.sc,num X.side,num now,H.vp,H.vd,num X.limit,.ptr H.ob 0,.ptr H.pb 0,.ptr H.ib 0,.ptr H.sb 0,H.vs,H.vl,.ptr H.mb 0]
 simp (disch:=omega) only [vm0,vm1,vm2,vm3,vm4,vm5,vm6,vm7,vmF,vmT,evo,wr,wrC,frame,Nat.reduceAdd,Nat.reduceMul,Nat.reduceSub,beq_self_eq_true,List.cons_append,List.nil_append,beq_dec,vmI,vc10,vmU,g1]
 generalize s.put e (some (.cells [num X.c.pa,num X.c.bu,num X.c.wi,num X.c.ch,num X.c.mo,num X.c.fi,num X.c.sc,num X.side,num now,H.vp,H.vd,num X.limit,.ptr H.ob 0,.ptr H.pb 0,.ptr H.ib 0,.ptr H.sb 0,H.vs,H.vl,.ptr H.mb 0] .own))=s1 at *
 have hE1:EndS gv s0 s1 e { X with now:=now } Ps:=⟨H,hnp,hS1⟩
 refine call_ok rfl rfl (n_note (n+3) 0 s1 e _ (evN 3 now) .nils .nils Ps hE1 (.nil encB_w (by omega)) (.nil encB_w (by omega)) (by simp[evN]) (by simp[evN,pk0]) hX.log) ?_
 rintro y s2 ⟨H2,hnp2,hS2⟩
 have g2:=hS2.getC
 have hvl:=(Sep.rdV (((hS2.re ((List.perm_middle (l₁:=[_,_])).trans (.cons _ (.refl _))))))).lenV
 rw[hnp2] at hvl
 dsimp only[EN.cells,EN.note] at g2
 simp (disch:=omega) only [vm0,vm1,vm2,vm3,vm4,vm5,vm6,vm7,vmF,vmT,evo,wr,wrC,frame,Nat.reduceAdd,Nat.reduceMul,Nat.reduceSub,beq_self_eq_true,List.cons_append,List.nil_append,beq_dec,vmI,g2,hvl]
 have hvp:=(Sep.eqV (((hS2.re ((List.perm_middle (l₁:=[_,_])).trans (.cons _ (.refl _))))))).1
 have hB:=fun j=>EN.Ok.tickB hX hm hk j
 have hE2:EndS gv s0 s2 e (X.tickB now 0) Ps:=⟨H2,hnp2,hS2⟩
 rw[hvp]
 clear hS2 g2 hvl hvp hE1 hS1 hS g1 hE
 refine x_loop (fun m F s'=>∃ i:Nat,∃ z x3 x4 x6 x8 x9 x10,m=X.P.length-i∧i≤X.P.length∧z=(i:Int)∧F=[some (.ptr e 0),some (num now),some (num z),x3,x4,some (num (X.P.length:Int)),x6,some gv.1,x8,x9,x10,some (.bool false)]∧EndS gv s0 s' e (X.tickB now i) Ps) X.P.length (by have:=hX.n; omega) ?_ ?_
 ·exact ⟨0,0,_,_,_,_,_,_,by omega,by omega,rfl,rfl,hE2⟩
 ·clear hE2
  rintro m F s3 ⟨i,_,x3,x4,x6,x8,x9,x10,rfl,hi,rfl,rfl,hE3⟩ hm3
  obtain ⟨hO,hlen⟩:=hB i
  by_cases hlt:i<X.P.length
  ·have hst:=tickB_s X now i
   have hn3:=hX.n
   generalize X.tickB now i=Z at *
   obtain ⟨H,hnp,hS⟩:=id hE3
   obtain ⟨p,t,R,ht,hp,hT,e1,e2⟩:=EndS.at hnp hS (i:=i) (by omega)
   have hvp:=(Sep.eqV (((hS.re ((List.perm_middle (l₁:=[_,_])).trans (.cons _ (.refl _))))))).1
   rw[hvp] at e1 e2
   have hK:=hO.at ht
   have hks:=hK.s
   have hkf:=hK.f
   obtain ⟨d,hd⟩ : ∃ d,Z.due[i]?=some d:=⟨_,List.getElem?_eq_getElem (by rw[hO.due]; omega)⟩
   have hdr:=Sep.rdW (((hS.re ((List.perm_middle (l₁:=[_,_,_])).trans (.cons _ (.refl _))))))
   have e3:=hdr.ia hd
   have e4:=hdr.at1 (f:=num) hd
   have g1:=hS.getC
   dsimp only[EN.cells] at g1
   have hst2:Z.tickP now i=if (decide (Z.side=0)&&t.up&&!t.jn)=true∧d≤now then Z.join i else EN.lost { Z with P:=Z.P.set i (t.late now) } (t.lates now):=by
    unfold EN.tickP
    rw[ht]
    dsimp only
    rw[List.getD_eq_getElem?_getD,hd]; rfl
   obtain ⟨k1,k2,k3,k4⟩:=hK.late now
   simp (disch:=omega) only [vm0,vm1,vm2,vm3,vm4,vm5,vm6,vm7,vmF,vmT,evo,wr,wrC,frame,Nat.reduceAdd,Nat.reduceMul,Nat.reduceSub,beq_self_eq_true,List.cons_append,List.nil_append,beq_dec,vmI,e1,e2]
   refine call_ok rfl rfl (n_asks (n+5) s3 e Z i t Ps hE3 ht) ?_
   rintro y s4 ⟨rfl,rfl⟩
   cases ha:(decide (Z.side=0)&&t.up&&!t.jn)
   ·rw[ha,if_neg (by simp)] at hst2
    obtain ⟨Rr,hFo,back⟩:=Sep.focus (((hS.re ((List.perm_middle (l₁:=[_])).trans (.cons _ (.refl _)))))) hp ht
    simp (disch:=omega) only [vm0,vm1,vm2,vm3,vm4,vm5,vm6,vm7,vmF,vmT,evo,wr,wrC,frame,Nat.reduceAdd,Nat.reduceMul,Nat.reduceSub,beq_self_eq_true,List.cons_append,List.nil_append,beq_dec,vmI,vmU]
    refine call_ok rfl rfl (m_late (n+4) s4 p t now _ hFo hK.g hK.w (by omega) (by omega) (by omega)) ?_
    rintro y s5 hS5
    have hS6:=back (((hS5.re ((List.perm_middle (l₁:=[_])).trans (.cons _ ((List.perm_middle (l₁:=[_])).trans (.cons _ (.refl _))))))))
    have hE6:EndS gv s0 s5 e { Z with P:=Z.P.set i (t.late now) } (oW y 4 encO (t.lates now)::Ps):=⟨H,by rw[hnp]; simp,((hS6.re ((List.perm_middle (l₁:=[_,_])).trans (.cons _ (.cons _ ((List.perm_middle (l₁:=[_])).trans (.cons _ ((List.perm_middle (l₁:=[_])).trans (.cons _ ((List.perm_middle (l₁:=[_])).trans (.cons _ ((List.perm_middle (l₁:=[_])).trans (.cons _ ((List.perm_middle (l₁:=[_])).trans (.cons _ ((List.perm_middle (l₁:=[_])).trans (.cons _ ((List.perm_middle (l₁:=[_])).trans (.cons _ (.refl _))))))))))))))))))))⟩
    simp (disch:=omega) only [vm0,vm1,vm2,vm3,vm4,vm5,vm6,vm7,vmF,vmT,evo,wr,wrC,frame,Nat.reduceAdd,Nat.reduceMul,Nat.reduceSub,beq_self_eq_true,List.cons_append,List.nil_append,beq_dec,vmI]
    refine call_ok rfl rfl (n_lost hs (n+3) s5 e _ (k+1) y (t.lates now) Ps hE6 (hO.set ht k1 k2) k3 (by omega) hfu) ?_
    rintro y s6 hE7
    simp (disch:=omega) only [vm0,vm1,vm2,vm3,vm4,vm5,vm6,vm7,vmF,vmT,evo,wr,wrC,frame,Nat.reduceAdd,Nat.reduceMul,Nat.reduceSub,beq_self_eq_true,List.cons_append,List.nil_append,beq_dec,vmI]
    exact ⟨X.P.length-(i+1),by omega,i+1,(i:Int)+1,_,_,_,_,_,_,rfl,by omega,by omega,rfl,by rw[hst,hst2]; exact hE7⟩
   ·by_cases hdn:d≤now
    ·rw[ha,if_pos ⟨rfl,hdn⟩] at hst2
     simp (disch:=omega) only [vm0,vm1,vm2,vm3,vm4,vm5,vm6,vm7,vmF,vmT,evo,wr,wrC,frame,Nat.reduceAdd,Nat.reduceMul,Nat.reduceSub,beq_self_eq_true,List.cons_append,List.nil_append,beq_dec,vmI,vmU,g1,e3,e4]
     refine call_ok rfl rfl (n_join (n+1) s4 e Z (k+1) i t Ps hE3 hO ht) ?_
     rintro y s5 hE5
     simp (disch:=omega) only [vm0,vm1,vm2,vm3,vm4,vm5,vm6,vm7,vmF,vmT,evo,wr,wrC,frame,Nat.reduceAdd,Nat.reduceMul,Nat.reduceSub,beq_self_eq_true,List.cons_append,List.nil_append,beq_dec,vmI]
     exact ⟨X.P.length-(i+1),by omega,i+1,(i:Int)+1,_,_,_,_,_,_,rfl,by omega,by omega,rfl,by rw[hst,hst2]; exact hE5⟩
    ·rw[ha,if_neg (fun h=>hdn h.2)] at hst2
     obtain ⟨Rr,hFo,back⟩:=Sep.focus (((hS.re ((List.perm_middle (l₁:=[_])).trans (.cons _ (.refl _)))))) hp ht
     simp (disch:=omega) only [vm0,vm1,vm2,vm3,vm4,vm5,vm6,vm7,vmF,vmT,evo,wr,wrC,frame,Nat.reduceAdd,Nat.reduceMul,Nat.reduceSub,beq_self_eq_true,List.cons_append,List.nil_append,beq_dec,vmI,vmU,g1,e3,e4]
     refine call_ok rfl rfl (m_late (n+4) s4 p t now _ hFo hK.g hK.w (by omega) (by omega) (by omega)) ?_
     rintro y s5 hS5
     have hS6:=back (((hS5.re ((List.perm_middle (l₁:=[_])).trans (.cons _ ((List.perm_middle (l₁:=[_])).trans (.cons _ (.refl _))))))))
     have hE6:EndS gv s0 s5 e { Z with P:=Z.P.set i (t.late now) } (oW y 4 encO (t.lates now)::Ps):=⟨H,by rw[hnp]; simp,((hS6.re ((List.perm_middle (l₁:=[_,_])).trans (.cons _ (.cons _ ((List.perm_middle (l₁:=[_])).trans (.cons _ ((List.perm_middle (l₁:=[_])).trans (.cons _ ((List.perm_middle (l₁:=[_])).trans (.cons _ ((List.perm_middle (l₁:=[_])).trans (.cons _ ((List.perm_middle (l₁:=[_])).trans (.cons _ ((List.perm_middle (l₁:=[_])).trans (.cons _ ((List.perm_middle (l₁:=[_])).trans (.cons _ (.refl _))))))))))))))))))))⟩
     simp (disch:=omega) only [vm0,vm1,vm2,vm3,vm4,vm5,vm6,vm7,vmF,vmT,evo,wr,wrC,frame,Nat.reduceAdd,Nat.reduceMul,Nat.reduceSub,beq_self_eq_true,List.cons_append,List.nil_append,beq_dec,vmI]
     refine call_ok rfl rfl (n_lost hs (n+3) s5 e _ (k+1) y (t.lates now) Ps hE6 (hO.set ht k1 k2) k3 (by omega) hfu) ?_
     rintro y s6 hE7
     simp (disch:=omega) only [vm0,vm1,vm2,vm3,vm4,vm5,vm6,vm7,vmF,vmT,evo,wr,wrC,frame,Nat.reduceAdd,Nat.reduceMul,Nat.reduceSub,beq_self_eq_true,List.cons_append,List.nil_append,beq_dec,vmI]
     exact ⟨X.P.length-(i+1),by omega,i+1,(i:Int)+1,_,_,_,_,_,_,rfl,by omega,by omega,rfl,by rw[hst,hst2]; exact hE7⟩
  ·obtain rfl:i=X.P.length:=by omega
   unfold EN.tickC
   generalize X.tickB now X.P.length=Z at *
   have hn:=hX.n
   simp (disch:=omega) only [vm0,vm1,vm2,vm3,vm4,vm5,vm6,vm7,vmF,vmT,evo,wr,wrC,frame,Nat.reduceAdd,Nat.reduceMul,Nat.reduceSub,beq_self_eq_true,List.cons_append,List.nil_append,beq_dec,vmI]
   refine call_ok rfl rfl (n_pump n s3 e Z (k+1) Ps hE3 hO hfu) ?_
   rintro y s4 hE4
   obtain ⟨hO4,hl4⟩:=hO.pump
   have hbl4:=hO4.bl
   simp (disch:=omega) only [vm0,vm1,vm2,vm3,vm4,vm5,vm6,vm7,vmF,vmT,evo,wr,wrC,frame,Nat.reduceAdd,Nat.reduceMul,Nat.reduceSub,beq_self_eq_true,List.cons_append,List.nil_append,beq_dec,vmI]
   refine call_ok rfl rfl (n_idle (n+1) s4 e Z.pump Ps hE4 (by omega) (by omega) (by omega)) ?_
   rintro y s5 ⟨rfl,rfl⟩
   cases hid:Z.pump.idle
   ·simp (disch:=omega) only [vm0,vm1,vm2,vm3,vm4,vm5,vm6,vm7,vmF,vmT,evo,wr,wrC,frame,Nat.reduceAdd,Nat.reduceMul,Nat.reduceSub,beq_self_eq_true,List.cons_append,List.nil_append,beq_dec,vmI]
    exact ⟨rfl,hE4⟩
   ·simp (disch:=omega) only [vm0,vm1,vm2,vm3,vm4,vm5,vm6,vm7,vmF,vmT,evo,wr,wrC,frame,Nat.reduceAdd,Nat.reduceMul,Nat.reduceSub,beq_self_eq_true,List.cons_append,List.nil_append,beq_dec,vmI]
    refine call_ok rfl rfl (n_probe n s5 e Z.pump (k+1) Ps hE4 hO4 hfu) ?_
    rintro y s6 hE6
    simp (disch:=omega) only [vm0,vm1,vm2,vm3,vm4,vm5,vm6,vm7,vmF,vmT,evo,wr,wrC,frame,Nat.reduceAdd,Nat.reduceMul,Nat.reduceSub,beq_self_eq_true,List.cons_append,List.nil_append,beq_dec,vmI]
    exact ⟨rfl,hE6⟩
set_option maxHeartbeats 1000000 in
theorem n_up (n:Nat) {s0:St} (s:St) (e:Nat) (X:EN) (k z:Int) (Ps:List Obj) (hE:EndS gv s0 s e X Ps) (hX:X.Ok k) (hk:k+1≤500000) (hfu:250000<fu) :
  OutOk (callF bd (tab h).get fu (n+8) 12 [.ptr e 0,num z] s) (fun y s'=>Is y (.bool (X.mayU z))∧EndS gv s0 s' e (X.up z) Ps):=by
 refine call_code (t12 h) rfl ?_
 simp (disch:=omega) only [vm0,vm1,vm2,vm3,vm4,vm5,vm6,vm7,vmF,vmT,evo,wr,wrC,frame,Nat.reduceAdd,Nat.reduceMul,Nat.reduceSub,beq_self_eq_true,List.cons_append,List.nil_append,beq_dec,vmI,vc12]
 refine call_ok rfl rfl (n_is (n+6) s e X z Ps hE) ?_
 rintro y s1 ⟨rfl,rfl⟩
 by_cases hz:0≤z∧z<X.P.length
 case neg =>
  have hm:X.mayU z=false:=by unfold EN.mayU; rw[decide_eq_false hz]; rfl
  have hu:X.up z=X:=by unfold EN.up; rw[hm]; rfl
  rw[hm,hu,decide_eq_false hz]
  simp (disch:=omega) only [vm0,vm1,vm2,vm3,vm4,vm5,vm6,vm7,vmF,vmT,evo,wr,wrC,frame,Nat.reduceAdd,Nat.reduceMul,Nat.reduceSub,beq_self_eq_true,List.cons_append,List.nil_append,beq_dec,vmI,vmU]
  exact ⟨rfl,hE⟩
 obtain ⟨i,rfl⟩ : ∃ i:Nat,z=(i:Int):=⟨z.toNat,by omega⟩
 obtain ⟨H,hnp,hS⟩:=id hE
 have hil:i<X.P.length:=by omega
 obtain ⟨p,t,R,ht,hp,hT,e1,e2⟩:=EndS.at hnp hS hil
 have g1:=hS.getC
 dsimp only[EN.cells] at g1
 have hmu:X.mayU (i:Int)=!t.up:=by unfold EN.mayU; rw[decide_eq_true hz,Int.toNat_natCast,ht]; rfl
 have hup:X.up (i:Int)=if t.up then X else if (decide (X.side=0)&&!t.jn)=true then (X.upA i t).join i else (X.upA i t).pump:=by
  unfold EN.up
  rw[hmu,Int.toNat_natCast,ht]
  cases t.up <;> rfl
 rw[decide_eq_true hz,hmu,hup]
 simp (disch:=omega) only [vm0,vm1,vm2,vm3,vm4,vm5,vm6,vm7,vmF,vmT,evo,wr,wrC,frame,Nat.reduceAdd,Nat.reduceMul,Nat.reduceSub,beq_self_eq_true,List.cons_append,List.nil_append,beq_dec,vmI,vmU,g1,e1,e2]
 refine call_ok rfl rfl (m_isup (n+6) s1 p t _ hT) ?_
 rintro y s2 ⟨rfl,rfl⟩
 cases hu:t.up
 case true =>
  simp (disch:=omega) only [vm0,vm1,vm2,vm3,vm4,vm5,vm6,vm7,vmF,vmT,evo,wr,wrC,frame,Nat.reduceAdd,Nat.reduceMul,Nat.reduceSub,beq_self_eq_true,List.cons_append,List.nil_append,beq_dec,vmI,vmU]
  exact ⟨rfl,hE⟩
 simp only[Bool.false_eq_true,if_false]
 have hO:=hX.upA ht hk
 simp (disch:=omega) only [vm0,vm1,vm2,vm3,vm4,vm5,vm6,vm7,vmF,vmT,evo,wr,wrC,frame,Nat.reduceAdd,Nat.reduceMul,Nat.reduceSub,beq_self_eq_true,List.cons_append,List.nil_append,beq_dec,vmI,vmU]
 refine call_ok rfl rfl (n_note (n+3) 0 s2 e _ (evN 7 i) .nils .nils Ps hE (.nil encB_w (by omega)) (.nil encB_w (by omega)) (by simp[evN]) (by simp[evN,pk0]) hX.log) ?_
 rintro y s3 hE3
 obtain ⟨H3,hnp3,hS3⟩:=id hE3
 obtain ⟨p3,t3,R3,ht3,hp3,hT3,e3,e4⟩:=EndS.at (i:=i) hnp3 hS3 hil
 have htt:t3=t:=by
  have:X.P[i]?=some t3:=ht3
  rw[ht] at this; simpa using this.symm
 subst htt
 have g3:=hS3.getC
 dsimp only[EN.cells,EN.note] at g3
 simp (disch:=omega) only [vm0,vm1,vm2,vm3,vm4,vm5,vm6,vm7,vmF,vmT,evo,wr,wrC,frame,Nat.reduceAdd,Nat.reduceMul,Nat.reduceSub,beq_self_eq_true,List.cons_append,List.nil_append,beq_dec,vmI,g3,e3,e4]
 obtain ⟨Rr,hFo,back⟩:=Sep.focus (((hS3.re ((List.perm_middle (l₁:=[_])).trans (.cons _ (.refl _)))))) hp3 ht3
 refine call_ok rfl rfl (m_up (n+6) s3 p3 t3 _ hFo) ?_
 rintro y s4 hS4
 have hS5:=back hS4
 have hE5:EndS gv s0 s4 e (X.upA i t3) Ps:=⟨H3,by rw[hnp3]; simp[EN.upA,EN.setP],hS5.swap⟩
 have ht5:(X.upA i t3).P[i]?=some { t3 with up:=true }:=by simp[EN.upA,EN.setP,EN.note,hil]
 simp (disch:=omega) only [vm0,vm1,vm2,vm3,vm4,vm5,vm6,vm7,vmF,vmT,evo,wr,wrC,frame,Nat.reduceAdd,Nat.reduceMul,Nat.reduceSub,beq_self_eq_true,List.cons_append,List.nil_append,beq_dec,vmI]
 refine call_ok rfl rfl (n_asks (n+5) s4 e _ i _ Ps hE5 ht5) ?_
 rintro y s5 ⟨rfl,rfl⟩
 have hsd:(X.upA i t3).side=X.side:=rfl
 rw[hsd,Bool.and_true]
 cases ha:(decide (X.side=0)&&!t3.jn)
 ·simp only[Bool.false_eq_true,if_false]
  simp (disch:=omega) only [vm0,vm1,vm2,vm3,vm4,vm5,vm6,vm7,vmF,vmT,evo,wr,wrC,frame,Nat.reduceAdd,Nat.reduceMul,Nat.reduceSub,beq_self_eq_true,List.cons_append,List.nil_append,beq_dec,vmI]
  refine call_ok rfl rfl (n_pump n s5 e _ (k+1) Ps hE5 hO hfu) ?_
  rintro y s6 hE6
  simp (disch:=omega) only [vm0,vm1,vm2,vm3,vm4,vm5,vm6,vm7,vmF,vmT,evo,wr,wrC,frame,Nat.reduceAdd,Nat.reduceMul,Nat.reduceSub,beq_self_eq_true,List.cons_append,List.nil_append,beq_dec,vmI]
  exact ⟨rfl,hE6⟩
 ·simp only[if_true]
  simp (disch:=omega) only [vm0,vm1,vm2,vm3,vm4,vm5,vm6,vm7,vmF,vmT,evo,wr,wrC,frame,Nat.reduceAdd,Nat.reduceMul,Nat.reduceSub,beq_self_eq_true,List.cons_append,List.nil_append,beq_dec,vmI]
  refine call_ok rfl rfl (n_join (n+1) s5 e _ (k+1) i _ Ps hE5 hO ht5) ?_
  rintro y s6 hE6
  simp (disch:=omega) only [vm0,vm1,vm2,vm3,vm4,vm5,vm6,vm7,vmF,vmT,evo,wr,wrC,frame,Nat.reduceAdd,Nat.reduceMul,Nat.reduceSub,beq_self_eq_true,List.cons_append,List.nil_append,beq_dec,vmI]
  exact ⟨rfl,hE6⟩
set_option maxHeartbeats 1000000 in
theorem n_down (hs:SortOk h) (n:Nat) {s0:St} (s:St) (e:Nat) (X:EN) (k z:Int) (Ps:List Obj) (hE:EndS gv s0 s e X Ps) (hX:X.Ok k) (hk:k+1≤500000) (hfu:250000<fu) :
  OutOk (callF bd (tab h).get fu (n+8) 16 [.ptr e 0,num z] s) (fun y s'=>Is y (.bool (X.mayD z))∧EndS gv s0 s' e (X.down z) Ps):=by
 refine call_code (t16 h) rfl ?_
 simp (disch:=omega) only [vm0,vm1,vm2,vm3,vm4,vm5,vm6,vm7,vmF,vmT,evo,wr,wrC,frame,Nat.reduceAdd,Nat.reduceMul,Nat.reduceSub,beq_self_eq_true,List.cons_append,List.nil_append,beq_dec,vmI,vc16]
 refine call_ok rfl rfl (n_is (n+6) s e X z Ps hE) ?_
 rintro y s1 ⟨rfl,rfl⟩
 by_cases hz:0≤z∧z<X.P.length
 case neg =>
  have hm:X.mayD z=false:=by unfold EN.mayD; rw[decide_eq_false hz]; rfl
  have hu:X.down z=X:=by unfold EN.down; rw[hm]; rfl
  rw[hm,hu,decide_eq_false hz]
  simp (disch:=omega) only [vm0,vm1,vm2,vm3,vm4,vm5,vm6,vm7,vmF,vmT,evo,wr,wrC,frame,Nat.reduceAdd,Nat.reduceMul,Nat.reduceSub,beq_self_eq_true,List.cons_append,List.nil_append,beq_dec,vmI,vmU]
  exact ⟨rfl,hE⟩
 obtain ⟨i,rfl⟩ : ∃ i:Nat,z=(i:Int):=⟨z.toNat,by omega⟩
 obtain ⟨H,hnp,hS⟩:=id hE
 have hil:i<X.P.length:=by omega
 obtain ⟨p,t,R,ht,hp,hT,e1,e2⟩:=EndS.at hnp hS hil
 have g1:=hS.getC
 dsimp only[EN.cells] at g1
 have hmd:X.mayD (i:Int)=t.up:=by unfold EN.mayD; rw[decide_eq_true hz,Int.toNat_natCast,ht]; rfl
 have hdn:X.down (i:Int)=if t.up then (X.downA i t).pump else X:=by
  unfold EN.down
  rw[hmd,Int.toNat_natCast,ht]
 rw[decide_eq_true hz,hmd,hdn]
 simp (disch:=omega) only [vm0,vm1,vm2,vm3,vm4,vm5,vm6,vm7,vmF,vmT,evo,wr,wrC,frame,Nat.reduceAdd,Nat.reduceMul,Nat.reduceSub,beq_self_eq_true,List.cons_append,List.nil_append,beq_dec,vmI,vmU,g1,e1,e2]
 refine call_ok rfl rfl (m_isup (n+6) s1 p t _ hT) ?_
 rintro y s2 ⟨rfl,rfl⟩
 cases hu:t.up
 case false =>
  simp (disch:=omega) only [vm0,vm1,vm2,vm3,vm4,vm5,vm6,vm7,vmF,vmT,evo,wr,wrC,frame,Nat.reduceAdd,Nat.reduceMul,Nat.reduceSub,beq_self_eq_true,List.cons_append,List.nil_append,beq_dec,vmI,vmU]
  exact ⟨rfl,hE⟩
 simp only[if_true]
 have hO:=hX.downA ht hk
 have hK:=hX.at ht
 have hks:=hK.s
 have hkf:=hK.f
 simp (disch:=omega) only [vm0,vm1,vm2,vm3,vm4,vm5,vm6,vm7,vmF,vmT,evo,wr,wrC,frame,Nat.reduceAdd,Nat.reduceMul,Nat.reduceSub,beq_self_eq_true,List.cons_append,List.nil_append,beq_dec,vmI,vmU]
 refine call_ok rfl rfl (n_note (n+3) 0 s2 e _ (evN 8 i) .nils .nils Ps hE (.nil encB_w (by omega)) (.nil encB_w (by omega)) (by simp[evN]) (by simp[evN,pk0]) hX.log) ?_
 rintro y s3 hE3
 obtain ⟨H3,hnp3,hS3⟩:=id hE3
 obtain ⟨p3,t3,R3,ht3,hp3,hT3,e3,e4⟩:=EndS.at (i:=i) hnp3 hS3 hil
 have htt:t3=t:=by
  have:X.P[i]?=some t3:=ht3
  rw[ht] at this; simpa using this.symm
 subst htt
 have g3:=hS3.getC
 dsimp only[EN.cells,EN.note] at g3
 simp (disch:=omega) only [vm0,vm1,vm2,vm3,vm4,vm5,vm6,vm7,vmF,vmT,evo,wr,wrC,frame,Nat.reduceAdd,Nat.reduceMul,Nat.reduceSub,beq_self_eq_true,List.cons_append,List.nil_append,beq_dec,vmI,g3,e3,e4]
 obtain ⟨Rr,hFo,back⟩:=Sep.focus (((hS3.re ((List.perm_middle (l₁:=[_])).trans (.cons _ (.refl _)))))) hp3 ht3
 refine call_ok rfl rfl (m_down (n+5) s3 p3 t3 _ hFo hu) ?_
 rintro y s4 hS4
 have hS5:=back (((hS4.re ((List.perm_middle (l₁:=[_])).trans (.cons _ ((List.perm_middle (l₁:=[_])).trans (.cons _ (.refl _))))))))
 have hN:=hX.note (evN_ft (k:=8) (n:=i)) hk
 have hN2:=hN.set (i:=i) (t:=t3) (u:={ t3 with up:=false,F:=[] }) ht ⟨hK.g,hK.w,hK.s,by show ((([]:List O).length:Nat):Int)≤t3.sent; simp; omega,by simp,by simp⟩ rfl
 have hE5:EndS gv s0 s4 e (EN.setP (X.note (evN 8 i)) i { t3 with up:=false,F:=[] }) (oW y 4 encO t3.F::Ps):=⟨H3,by rw[hnp3]; simp[EN.setP],((hS5.re ((List.perm_middle (l₁:=[_,_])).trans (.cons _ (.cons _ ((List.perm_middle (l₁:=[_])).trans (.cons _ ((List.perm_middle (l₁:=[_])).trans (.cons _ ((List.perm_middle (l₁:=[_])).trans (.cons _ ((List.perm_middle (l₁:=[_])).trans (.cons _ ((List.perm_middle (l₁:=[_])).trans (.cons _ ((List.perm_middle (l₁:=[_])).trans (.cons _ ((List.perm_middle (l₁:=[_])).trans (.cons _ (.refl _))))))))))))))))))))⟩
 simp (disch:=omega) only [vm0,vm1,vm2,vm3,vm4,vm5,vm6,vm7,vmF,vmT,evo,wr,wrC,frame,Nat.reduceAdd,Nat.reduceMul,Nat.reduceSub,beq_self_eq_true,List.cons_append,List.nil_append,beq_dec,vmI]
 refine call_ok rfl rfl (n_lost hs (n+3) s4 e _ (k+1) y t3.F Ps hE5 hN2 hK.r (by omega) hfu) ?_
 rintro y s5 hE6
 simp (disch:=omega) only [vm0,vm1,vm2,vm3,vm4,vm5,vm6,vm7,vmF,vmT,evo,wr,wrC,frame,Nat.reduceAdd,Nat.reduceMul,Nat.reduceSub,beq_self_eq_true,List.cons_append,List.nil_append,beq_dec,vmI]
 refine call_ok rfl rfl (n_pump n s5 e _ (k+1) Ps hE6 hO hfu) ?_
 rintro y s6 hE7
 simp (disch:=omega) only [vm0,vm1,vm2,vm3,vm4,vm5,vm6,vm7,vmF,vmT,evo,wr,wrC,frame,Nat.reduceAdd,Nat.reduceMul,Nat.reduceSub,beq_self_eq_true,List.cons_append,List.nil_append,beq_dec,vmI]
 exact ⟨rfl,hE7⟩
end
def evP (k:Int) (p:PkV):EvV:=⟨k,0,[],p⟩
def EN.may (X:EN) (p:PkV):Bool:=p.right&&decide (0≤p.pt∧p.pt<X.P.length)&&(match X.P[p.pt.toNat]? with
 | some t=>t.up&&(if p.k=1 then decide (X.side=1) else if p.k=2 then decide (X.side=0)&&decide (p.of_<t.sent) else if p.k=3 then t.jn else decide (p.of_<t.sent)&&decide (p.se≤X.ps))
 | none=>false)
def ansP (k pt of_ se li:Int):PkV:=⟨k,pt,0,of_,0,[],false,se,li⟩
def EN.heard (X:EN) (p:PkV) (t:PT):EN :=
 if p.k=1 then (X.setP p.pt.toNat { t with jn:=true }).say (ansP 2 p.pt p.nr 0 0)
 else if p.k=2 then (X.setP p.pt.toNat { t with jn:=true }).pump
 else if p.k=3 then EN.say { X with i:=X.i.put p.fr p.d p.fin } (ansP 4 p.pt p.nr (X.i.put p.fr p.d p.fin).seen (X.i.put p.fr p.d p.fin).limit)
 else EN.pump { X.setP p.pt.toNat (t.acked p.of_ X.now) with o:=X.o.ack p.se,limit:=max X.limit p.li }
def EN.come (X:EN) (p:PkV):EN:=if X.may p then (match X.P[p.pt.toNat]? with
 | some t=>(X.note (evP 4 p)).heard p t
 | none=>X) else X
theorem right_k {p:PkV} (h:p.right=true):1≤p.k∧p.k≤4∧0≤p.pt∧p.pt≤2∧0≤p.nr∧p.nr≤65535∧p.d.length≤64∧(p.k=3→0≤p.fr∧p.fr≤4096∧p.fr+p.d.length≤4096)∧(p.k=4→0≤p.se∧p.se≤4097∧0≤p.li∧p.li≤4496):=by
 unfold PkV.right at h
 simp only[Bool.and_eq_true,decide_eq_true_eq] at h
 obtain ⟨⟨⟨h1,h2⟩,h3⟩,h4⟩:=h
 refine ⟨h1.1,h1.2.1,h1.2.2.1,h1.2.2.2.1,h1.2.2.2.2.1,h1.2.2.2.2.2,?_,fun hk=>?_,fun hk=>?_⟩
 ·split at h3
  ·simp only[decide_eq_true_eq] at h3; omega
  ·simp only[Bool.and_eq_true,decide_eq_true_eq] at h3; rw[h3.1.2]; simp
 ·rw[if_pos hk] at h3
  simp only[decide_eq_true_eq] at h3; omega
 ·rw[if_pos hk] at h4
  simp only[decide_eq_true_eq] at h4; omega
theorem setB_in8 {b:List Int} {k:Nat} {c:Int} (hb:∀ x∈b,In8 x) (hc:In8 c):∀ x∈setB b k c,In8 x:=fun x hx=>by
 unfold setB at hx
 rcases List.mem_or_eq_of_mem_set hx with hx | rfl
 ·rcases List.mem_append.1 hx with hx | hx
  ·exact hb x hx
  ·obtain ⟨_,rfl⟩:=List.mem_replicate.1 hx
   exact ⟨by omega,by omega⟩
 ·exact hc
theorem feed_ok:∀ (l:List Int) (i:IB) (n f:Int),i.Good→(∀ r∈i.l,r.2≤4096)→(∀ x∈i.b,In8 x)→(∀ x∈l,In8 x)→f+l.length≤4096 →
  (∀ r∈(l.foldl fd (i,n,f)).1.l,r.2≤4096)∧(∀ x∈(l.foldl fd (i,n,f)).1.b,In8 x)
 | [],i,n,f,_,h1,h2,_,_=>⟨h1,h2⟩
 | c::l,i,n,f,hg,h1,h2,h8,hf=>by
  rw[List.foldl_cons]
  simp only[List.length_cons] at hf
  unfold fd
  dsimp only
  by_cases hm:i.may f=true
  ·rw[if_pos hm]
   have hlt:=IB.may_lt hm
   have hlim:=hg.lim
   have hw:=hg.w
   unfold IB.limit at hlt
   refine feed_ok l _ _ _ (hg.put1 hm) ?_ (setB_in8 h2 (h8 c (by simp))) (fun x hx=>h8 x (by simp[hx])) (by omega)
   show ∀ r∈addP f (f+1) i.l,r.2≤4096
   rw[addP_eq hlt.1 (by omega)]
   exact addR_le h1 (by omega)
  ·rw[if_neg hm]
   exact feed_ok l _ _ _ hg h1 h2 (fun x hx=>h8 x (by simp[hx])) (by omega)
theorem put_ok {i:IB} {f:Int} {l:List Int} {fin:Bool} (hg:i.Good) (h1:∀ r∈i.l,r.2≤4096) (h2:∀ x∈i.b,In8 x) (h8:∀ x∈l,In8 x) (hf:f+l.length≤4096):(∀ r∈(i.put f l fin).l,r.2≤4096)∧(∀ x∈(i.put f l fin).b,In8 x):=by
 obtain ⟨r1,r2⟩:=feed_ok l i 0 f hg h1 h2 h8 hf
 unfold IB.put putE
 split
 ·exact ⟨r1,r2⟩
 ·exact ⟨r1,r2⟩
theorem takeF_sub {k:Int} {l:List O}:(takeF k l).length≤l.length∧∀ o∈takeF k l,o∈l:=by
 unfold takeF
 split
 ·exact ⟨Nat.le_refl _,fun o h=>h⟩
 ·exact ⟨List.length_eraseIdx_le ..,fun o h=>List.mem_of_mem_eraseIdx h⟩
theorem PT.Kk.acked {t:PT} (h:t.Kk) (k now:Int):(t.acked k now).Kk∧(t.acked k now).sent=t.sent:=by
 have hf:=h.f
 obtain ⟨h1,h2⟩:=takeF_sub (k:=k) (l:=t.F)
 unfold PT.acked
 split
 ·exact ⟨h,rfl⟩
 ·exact ⟨⟨h.g.sample _,h.w.ack,h.s,by dsimp only; omega,fun o ho=>h.a o (h2 o ho),fun o ho=>h.r o (h2 o ho)⟩,rfl⟩
theorem EN.Ok.up1 {X:EN} {k:Int} (h:X.Ok k) (hk:k+1≤500000):X.Ok (k+1):={ h with ln:=by have:=h.ln; omega,k:=hk }
theorem evP_ft {k:Int} {p:PkV} (hl:p.d.length≤64) (h8:∀ x∈p.d,In8 x):(evP k p).Ft:=⟨by simp[evP],by show p.d.length≤1000000; omega,by simp[evP],h8⟩
theorem EN.Ok.setPt {X:EN} {k:Int} (h:X.Ok k) {i:Nat} {t u:PT} (ht:X.P[i]?=some t) (hu:u.Kk) (hs:u.sent=t.sent):(X.setP i u).Ok k:=h.set ht hu hs
theorem EN.Ok.puts {X:EN} {k:Int} (h:X.Ok k) {f:Int} {l:List Int} {fin:Bool} (h8:∀ x∈l,In8 x) (hf:f+l.length≤4096):EN.Ok { X with i:=X.i.put f l fin } k:=by
 obtain ⟨r1,r2⟩:=put_ok (fin:=fin) h.ig h.il h.i8 h8 hf
 exact { h with ig:=h.ig.put f l fin,il:=r1,i8:=r2 }
theorem EN.Ok.acks {X:EN} {k:Int} (h:X.Ok k) {i:Nat} {u:PT} {t:PT} (ht:X.P[i]?=some t) (hu:u.Kk) (hs:u.sent=t.sent) {se li:Int} (hli:li≤4496):EN.Ok { X.setP i u with o:=X.o.ack se,limit:=max X.limit li } k:=by
 have h1:=h.set ht hu hs
 have hl:=h.lim
 have hac:=h.ac
 have ho:(X.o.ack se).b=X.o.b∧(X.o.ack se).buffer=X.o.buffer∧(X.o.ack se).places=X.o.places∧0≤(X.o.ack se).acked∧(X.o.ack se).acked≤X.o.places:=by
  unfold OB.ack
  split
  ·rename_i hh
   unfold OB.ackOk at hh
   simp only[Bool.and_eq_true,decide_eq_true_eq] at hh
   exact ⟨rfl,rfl,rfl,by dsimp only; omega,by dsimp only; omega⟩
  ·exact ⟨rfl,rfl,rfl,hac.1,hac.2⟩
 exact { h1 with
  lim:=⟨by show 0≤max X.limit li; omega,by show max X.limit li≤4496; omega⟩
  bl:=by show (X.o.ack se).b.length≤4096; rw[ho.1]; exact h.bl
  bu:=by show 0≤(X.o.ack se).buffer∧(X.o.ack se).buffer≤400; rw[ho.2.1]; exact h.bu
  ac:=⟨ho.2.2.2.1,by show (X.o.ack se).acked≤(X.o.ack se).places; rw[ho.2.2.1]; exact ho.2.2.2.2⟩
  b8:=by show ∀ x∈(X.o.ack se).b,In8 x; rw[ho.1]; exact h.b8 }
theorem EN.Ok.heard {X:EN} {k:Int} (h:X.Ok k) {p:PkV} {t:PT} (hr:p.right=true) (h8:∀ x∈p.d,In8 x) (ht:X.P[p.pt.toNat]?=some t):(X.heard p t).Ok k:=by
 obtain ⟨r1,r2,r3,r4,r5,r6,r7,r8,r9⟩:=right_k hr
 have hK:=h.at ht
 have hil:=(List.getElem?_eq_some_iff.1 ht).1
 have hj:PT.Kk { t with jn:=true }:=⟨hK.g,hK.w,hK.s,hK.f,hK.a,hK.r⟩
 have hJ:=h.setPt ht hj rfl
 have htJ:(X.setP p.pt.toNat { t with jn:=true }).P[p.pt.toNat]?=some { t with jn:=true }:=by simp[EN.setP,hil]
 unfold EN.heard
 split
 ·exact hJ.say (p:=ansP 2 p.pt p.nr 0 0) htJ (by simp[ansP]) (by simp[ansP])
 ·split
  ·exact hJ.pump.1
  ·split
   ·rename_i h3
    have:=r8 h3
    exact (h.puts h8 (by omega)).say (p:=ansP 4 p.pt p.nr _ _) (t:=t) ht (by simp[ansP]) (by simp[ansP])
   ·rename_i n1 n2 n3
    have h4:=r9 (by omega)
    obtain ⟨k1,k2⟩:=hK.acked p.of_ X.now
    exact (h.acks ht k1 k2 (by omega)).pump.1
theorem EN.Ok.come {X:EN} {k:Int} (h:X.Ok k) {p:PkV} (h8:∀ x∈p.d,In8 x) (hk:k+1≤500000):(X.come p).Ok (k+1):=by
 unfold EN.come
 split
 ·rename_i hm
  have hr:p.right=true:=by unfold EN.may at hm; simp only[Bool.and_eq_true] at hm; exact hm.1.1
  obtain ⟨r1,r2,r3,r4,r5,r6,r7,r8,r9⟩:=right_k hr
  split
  ·rename_i t ht
   exact (h.note (evP_ft r7 h8) hk).heard hr h8 ht
  ·exact h.up1 hk
 ·exact h.up1 hk
end Go.Proofs.YtlgbkpaihjnjpaaGreat.ctr
