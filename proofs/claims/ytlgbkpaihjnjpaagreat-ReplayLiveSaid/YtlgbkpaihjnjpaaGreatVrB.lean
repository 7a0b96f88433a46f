/- Each of the interpreter's operations that changes no memory gives what the program's own operation gives. -/
import Derived.Test.YtlgbkpaihjnjpaaGreatVrA
import Derived.Lib.Strings
import Derived.Laws.BytesString
set_option linter.unusedVariables false
set_option linter.unusedSimpArgs false
set_option linter.unusedSectionVars false
set_option linter.constructorNameAsVariable false
set_option linter.defProp false
namespace Go.Vm
def Gives (P:Program) (a:Act) (op:Op) (x:Value):Prop :=
 ∀ (w:World) (dst:Option Tmp) (ty:TypeId) (pos:String) (after:Array Edge) (guard:Option (Nat×Bool)),(execOp a.eval ⟨dst,op,ty,pos,after,guard⟩).run P w = .ok (.value x) w
theorem ofScalar_ok {ρ:Nat→Int} {E:Env} {v:Value} {a:AV} (h:ofScalar v=some a):VR ρ E a v∧a.scalar=true:=by
 unfold ofScalar at h
 split at h
 ·cases h; exact ⟨.bool _,rfl⟩
 ·cases h; exact ⟨.int rfl,rfl⟩
 ·cases h
  refine ⟨.str ?_,rfl⟩
  rename_i s
  generalize s.data.toList=l
  induction l with
  | nil=>exact .nil
  | cons b l ih=>exact .cons rfl ih
 ·cases h; exact ⟨.nilp,rfl⟩
 ·split at h
  ·rename_i hh
   simp at hh
   obtain ⟨rfl,rfl⟩:=hh
   cases h
   exact ⟨.nils,rfl⟩
  ·cases h
 ·cases h; exact ⟨.nilm,rfl⟩
 ·cases h; exact ⟨.nilf,rfl⟩
 ·cases h; exact ⟨.nili,rfl⟩
 ·cases h
theorem ofScalars_ok {ρ:Nat→Int} {E:Env} {vs:List Value} {l:List AV} (h:ofScalars vs=some l):VRs ρ E l vs∧∀ c∈l,c.scalar=true:=by
 induction vs generalizing l with
 | nil=>cases h; exact ⟨.nil,by simp⟩
 | cons v vs ih =>
  simp only[ofScalars] at h
  split at h
  ·rename_i x hx
   split at h
   ·rename_i xs hxs
    cases h
    obtain ⟨h1,h2⟩:=ofScalar_ok (ρ:=ρ) (E:=E) hx
    obtain ⟨h3,h4⟩:=ih hxs
    exact ⟨.cons h1 h3,by simpa using ⟨h2,h4⟩⟩
   ·cases h
  ·cases h
theorem ofVal_ok {ρ:Nat→Int} {E:Env} {v:Value} {a:AV} (h:ofVal v=some a):VR ρ E a v:=by
 unfold ofVal at h
 split at h
 ·rename_i cs
  split at h
  ·rename_i xs hxs
   cases h
   obtain ⟨h1,h2⟩:=ofScalars_ok (ρ:=ρ) (E:=E) hxs
   have:=VR.agg h1 h2
   simpa using this
  ·cases h
 ·exact (ofScalar_ok h).1
theorem sizeT_ok {P:Program} {t:TypeId} {n:Nat} (h:sizeT P t=some n):∃ i,P.info? t=some i∧i.size=n:=by
 unfold sizeT at h
 split at h
 ·rename_i i hi; cases h; exact ⟨i,hi,rfl⟩
 ·cases h
theorem run_sizeT {P:Program} {t:TypeId} {n:Nat} (h:sizeT P t=some n) (w:World):(sizeOf t).run P w = .ok n w:=by
 obtain ⟨i,h1,rfl⟩:=sizeT_ok h
 simp[sizeOf,typeInfo,h1]
theorem zeroV_ok {ρ:Nat→Int} {E:Env} {P:Program} {t:TypeId} {z:AV} (h:zeroV P t=some z):∃ v,VR ρ E z v∧∀ w,(zeroValue t).run P w = .ok v w:=by
 unfold zeroV at h
 split at h
 ·rename_i i hi
  split at h
  ·rename_i v hv
   exact ⟨v,ofVal_ok h,fun w=>by simp[zeroValue,typeInfo,hi,hv]⟩
  ·cases h
 ·cases h
theorem zeroC_ok {ρ:Nat→Int} {E:Env} {P:Program} {t:TypeId} {z:List AV} (h:zeroC P t=some z) :
  ∃ v,VRs ρ E z v.cells.toList∧(∀ c∈z,c.scalar=true)∧∀ w,(zeroValue t).run P w = .ok v w:=by
 unfold zeroC at h
 split at h
 ·rename_i a ha
  obtain ⟨v,h1,h2⟩:=zeroV_ok (ρ:=ρ) (E:=E) ha
  obtain ⟨h3,h4⟩:=h1.cells h
  exact ⟨v,h3,h4,h2⟩
 ·cases h
theorem elemT_ok {P:Program} {t e:TypeId} (h:elemT P t=some e):P.underlying t=some (.slice e):=by
 unfold elemT at h
 split at h
 ·rename_i e' hu; cases h; exact hu
 ·cases h
theorem tk_ok {P:Program} {t:TypeId} {k:TK} (h:tk P t=some k):match k with
  | .agg n=>(∀ w,(isAgg t).run P w = .ok true w)∧sizeT P t=some n
  | .cell=>(∀ w,(isAgg t).run P w = .ok false w)∧sizeT P t=some 1:=by
 unfold tk at h
 split at h
 ·rename_i hu
  split at h
  ·rename_i i hi; cases h; exact ⟨fun w=>by simp[isAgg,run_underlying hu],by simp[sizeT,hi]⟩
  ·cases h
 ·rename_i hu
  split at h
  ·rename_i i hi; cases h; exact ⟨fun w=>by simp[isAgg,run_underlying hu],by simp[sizeT,hi]⟩
  ·cases h
 ·rename_i d hs ha hu
  split at h
  ·rename_i i hi
   split at h
   ·rename_i h1
    cases h
    refine ⟨fun w=>?_,by simp[sizeT,hi]; simpa using h1⟩
    unfold isAgg
    rw[Sem.run_bind,run_underlying hu]
    simp only[Result.andThen_ok]
    rfl
   ·cases h
  ·cases h
 ·cases h
theorem run_mapM {α β:Type} {P:Program} (f:α→Sem β) (g:α→β):∀ (l:List α) (w:World),(∀ x∈l,∀ w,(f x).run P w = .ok (g x) w)→(l.mapM f).run P w = .ok (l.map g) w:=by
 intro l
 induction l with
 | nil=>intro w _; simp
 | cons x l ih =>
  intro w h
  simp only[List.mapM_cons,Sem.run_bind,h x (by simp),Result.andThen_ok,ih w (fun y hy=>h y (by simp[hy])),Sem.run_pure,List.map_cons]
section
variable {ρ : Nat → Int} {bd : Bd} (hbd : BdOk ρ bd) {E : Env} {P : Program} {vars : List Nat} {cur : Nat} {C : CE} {L F : LF} {a : Act} (hO : OKs ρ E vars cur C L F a)
include hO
theorem mv_ok {x:Operand} {od:Od} (h:coO vars cur C x=some od) {v:AV} (hv:ev L F od=some v):VR ρ E v (a.eval x)∧Gives P a (.move x) (a.eval x)∧Gives P a (.assign x) (a.eval x) :=
 ⟨hO _ _ h _ hv,fun w _ _ _ _ _=>by simp[execOp],fun w _ _ _ _ _=>by simp[execOp]⟩
theorem pick_ok {c x y:Operand} {oc ox oy:Od} (h1:coO vars cur C c=some oc) (h2:coO vars cur C x=some ox) (h3:coO vars cur C y=some oy) {v:AV} (hv:fPick L F oc ox oy=some v) :
  ∃ u,VR ρ E v u∧Gives P a (.pick c x y) u:=by
 obtain ⟨cv,g1,g2⟩:=ob_eq hv
 obtain ⟨b,rfl,g3⟩:=onBool_some g2
 have hc:=hO _ _ h1 _ g1
 generalize hce:a.eval c=ce at hc
 cases hc
 cases b with
 | true=>exact ⟨_,hO _ _ h2 _ g3,fun w _ _ _ _ _=>by simp[execOp,hce,asBool]⟩
 | false=>exact ⟨_,hO _ _ h3 _ g3,fun w _ _ _ _ _=>by simp[execOp,hce,asBool]⟩
theorem nilc_ok {x:Operand} {od:Od} (h:coO vars cur C x=some od) {v:AV} (hv:fNilc L F od=some v):∃ u,VR ρ E v u∧Gives P a (.nilCheck x) u:=by
 obtain ⟨xv,g1,g2⟩:=ob_eq hv
 have hx:=hO _ _ h _ g1
 generalize hxe:a.eval x=xe at hx
 cases hx <;> simp only[AV.onPtr,AV.onFn,reduceCtorEq,Option.some.injEq] at g2
 ·rename_i hb
  subst g2
  exact ⟨_,.ptr hb,fun w _ _ _ _ _=>by simp[execOp,hxe]⟩
 ·rename_i h1 h2
  subst g2
  exact ⟨_,.fn h1 h2,fun w _ _ _ _ _=>by simp[execOp,hxe]⟩
include hbd in
theorem bin_ok {op:BinOp} {T T':TypeId} {x y:Operand} {ox oy:Od} (h1:coO vars cur C x=some ox) (h2:coO vars cur C y=some oy) {v:AV} (hv:fBin bd L F op ox oy=some v):∃ u,VR ρ E v u∧Gives P a (.binOp op T x y T') u:=by
 obtain ⟨xv,g1,g2⟩:=ob_eq hv
 obtain ⟨yv,g3,g4⟩:=ob_eq g2
 have hcase:(∃ k k' m n,xv = .int k m∧yv = .int k' n∧binI bd op k k' m n=some v)∨(∃ a b,xv = .str a∧yv = .str b∧strI bd op a b=some v):=by
  cases xv <;> simp only[binop,AV.onInt,AV.onStr,reduceCtorEq] at g4
  ·obtain ⟨k',n,rfl,g6⟩:=onInt_some g4
   exact .inl ⟨_,_,_,_,rfl,rfl,g6⟩
  ·obtain ⟨b,rfl,g6⟩:=onStr_some g4
   exact .inr ⟨_,_,rfl,rfl,g6⟩
 rcases hcase with ⟨k,k',m,n,rfl,rfl,g6⟩ | ⟨l,m,rfl,rfl,g6⟩
 case inr =>
  have hx:=hO _ _ h1 _ g1
  have hy:=hO _ _ h2 _ g3
  generalize hxe:a.eval x=xe at hx
  generalize hye:a.eval y=ye at hy
  cases hx with | str hx =>
  cases hy with | str hy =>
  rename_i s t
  have hw:∀ w,(eqGuard op T x y (.string s) (.string t)).run P w = .ok () w:=by intro w; cases op <;> simp[eqGuard]
  cases op <;> simp only[strI,reduceCtorEq] at g6
  obtain ⟨r,g7,g8⟩:=ob_eq g6
  cases g8
  have:=ltAIs_ok hbd hx hy g7
  refine ⟨.bool r,.bool r,fun w _ _ _ _ _=>?_⟩
  simp[execOp,hxe,hye,hw,binOp,Op.stringOp,ByteArray.toList_eq,this]
 have hx:=hO _ _ h1 _ g1
 have hy:=hO _ _ h2 _ g3
 generalize hxe:a.eval x=xe at hx
 generalize hye:a.eval y=ye at hy
 cases hx with | int hx =>
 cases hy with | int hy =>
 rename_i i j
 have hw:∀ w,(eqGuard op T x y (.int k i) (.int k' j)).run P w = .ok () w:=by intro w; cases op <;> simp[eqGuard]
 obtain ⟨u,hr,hu⟩:=binI_ok (E:=E) hbd hx hy g6 (P:=P)
 exact ⟨u,hu,fun w _ _ _ _ _=>by simp[execOp,hxe,hye,hw,hr]⟩
include hbd in
theorem eq_ok {neg:Bool} {T T':TypeId} {k:EK} (hk:ekOf P T=some k) (hi:k ≠ .i) {x y:Operand} {ox oy:Od} (h1:coO vars cur C x=some ox) (h2:coO vars cur C y=some oy) {v:AV} (hv:fEq bd L F neg k ox oy=some v) :
  ∃ u,VR ρ E v u∧Gives P a (.binOp (if neg then .neq else .eql) T x y T') u:=by
 obtain ⟨xv,g1,g2⟩:=ob_eq hv
 obtain ⟨yv,g3,g4⟩:=ob_eq g2
 obtain ⟨r,g5,g6⟩:=ob_eq g4
 cases g6
 obtain ⟨e1,e2⟩:=ekOf_ok hk
 refine ⟨_,.bool _,fun w _ _ _ _ _=>?_⟩
 have:=eqOp_ok hbd (hO _ _ h1 _ g1) (hO _ _ h2 _ g3) g5 e1 e2 hi neg x y w
 simp only[execOp]
 rw[Sem.run_bind,this]
 rfl
theorem un_ok {op:UnOp} {T:TypeId} {x:Operand} {ox:Od} (h1:coO vars cur C x=some ox) {v:AV} (hv:fUn L F op ox=some v):∃ u,VR ρ E v u∧Gives P a (.unOp op T x) u:=by
 obtain ⟨xv,g1,g2⟩:=ob_eq hv
 have hx:=hO _ _ h1 _ g1
 generalize hxe:a.eval x=xe at hx
 cases op <;> simp only[unop] at g2
 ·obtain ⟨k,n,rfl,g3⟩:=onInt_some g2
  cases n with
  | s i d =>
   simp only[Option.some.injEq] at g3
   subst g3
   cases hx with | int hx =>
   have cx:=hx.cong
   simp only[tsOf,dOf] at cx
   refine ⟨_,.int (mkS_ok (n:=0-_) ?_),fun w _ _ _ _ _=>by simp[execOp,hxe,Op.unary,Op.intArith]; rfl⟩
   rw[lin_mulT,emod_sub_cong rfl cx]
   congr 1; omega
  | c m =>
   simp only[Option.some.injEq] at g3
   subst g3
   cases hx with | int hx =>
   simp only[IR] at hx
   subst hx
   exact ⟨_,.int rfl,fun w _ _ _ _ _=>by simp[execOp,hxe,Op.unary,Op.intArith]⟩
 ·cases g2
 ·obtain ⟨b,rfl,g3⟩:=onBool_some g2
  cases g3
  cases hx
  exact ⟨_,.bool _,fun w _ _ _ _ _=>by simp[execOp,hxe,Op.unary]⟩
 ·cases g2
include hbd in
theorem cvi_ok {src dst:TypeId} {k k0:IntKind} (hs:P.underlying src=some (.int k0)) (hd:P.underlying dst=some (.int k)) {x:Operand} {ox:Od} (h1:coO vars cur C x=some ox) {v:AV} (hv:fCvi bd L F k ox=some v) :
  ∃ u,VR ρ E v u∧Gives P a (.convert src dst x) u:=by
 obtain ⟨xv,g1,g2⟩:=ob_eq hv
 have hx:=hO _ _ h1 _ g1
 generalize hxe:a.eval x=xe at hx
 obtain ⟨k',n,rfl,g3⟩:=onInt_some g2
 cases hx with | int hx =>
 rename_i i
 refine ⟨.int k (k.wrap i),?_,fun w _ _ _ _ _=>by simp[execOp,hxe,convert,run_underlying hs,run_underlying hd,Conv.intToInt]⟩
 cases n with
 | c m =>
  simp only[Option.some.injEq] at g3
  subst g3
  simp only[IR] at hx
  subst hx
  exact .int rfl
 | s j d =>
  obtain ⟨r,g4,g5⟩:=ob_eq (show ob (range bd k' (.s j d)) _=some v from g3)
  have hr:=(range_full hbd hx g4).1
  simp only[tsOf,dOf] at hr
  rw[cnd_eq] at g5
  split at g5
  ·cases g5
   subst hr
   exact .int rfl
  ·obtain ⟨g6,g7⟩:=cnd_some g5
   cases g7
   simp at g6
   subst g6
   refine .int (mkS_ok ?_)
   rw[hr]
   show (_:Int)%256=_%256
   have e1:=lin_modT (ρ:=ρ) j
   omega
theorem mki_ok {t:TypeId} (ht:∀ ms,P.underlying t≠some (.interface ms)) (ht':P.underlying t≠none) {x:Operand} {ox:Od} (h1:coO vars cur C x=some ox) {v:AV} (hv:fMki L F t ox=some v):∃ u,VR ρ E v u∧Gives P a (.makeInterface t x) u:=by
 obtain ⟨xv,g1,g2⟩:=ob_eq hv
 cases g2
 refine ⟨_,.iface (hO _ _ h1 _ g1),fun w _ _ _ _ _=>?_⟩
 cases hu:P.underlying t with
 | none=>exact absurd hu ht'
 | some d=>cases d <;> first | exact absurd hu (ht _) | simp[execOp,Instr.makeInterface,run_underlying hu]
theorem mkf_ok {f:FuncId} {xs ys:Array Operand} {ox oy:List Od} (h1:coL vars cur C xs.toList=some ox) (h2:coL vars cur C ys.toList=some oy) {v:AV} (hv:fMkf L F f ox oy=some v):∃ u,VR ρ E v u∧Gives P a (.makeFunc (.func f) xs ys) u:=by
 obtain ⟨l,g1,g2⟩:=ob_eq hv
 obtain ⟨m,g3,g4⟩:=ob_eq g2
 cases g4
 refine ⟨_,.fn (coL_ok hO h1 g1) (coL_ok hO h2 g3),fun w _ _ _ _ _=>?_⟩
 simp only[execOp,Instr.makeFunc]
 have e1:(xs.toList.map a.eval).toArray=xs.map a.eval:=by apply Array.ext'; simp
 have e2:(ys.toList.map a.eval).toArray=ys.map a.eval:=by apply Array.ext'; simp
 rw[e1,e2]
 simp
theorem fa_ok {t:TypeId} {f:Nat} {fs:Array Field} {fd:Field} (hu:P.underlying t=some (.struct fs)) (hf:fs[f]?=some fd) {i:TypeInfo} (hi:P.info? fd.type=some i) (hz:i.size≠0) {x:Operand} {ox:Od} (h1:coO vars cur C x=some ox) {v:AV} (hv:fFa L F fd.offset ox=some v) :
  ∃ u,VR ρ E v u∧Gives P a (.fieldAddr t x f) u:=by
 obtain ⟨xv,g1,g2⟩:=ob_eq hv
 have hx:=hO _ _ h1 _ g1
 obtain ⟨b,o,rfl,g3⟩:=onPtr_some g2
 cases g3
 generalize hxe:a.eval x=xe at hx
 cases hx with | ptr hb =>
 rename_i B δ z
 refine ⟨.pointer (some ⟨B,o+fd.offset+δ,none⟩),.ptr hb,fun w _ _ _ _ _=>?_⟩
 have:(⟨B,o+δ,none⟩ : Addr).add fd.offset=⟨B,o+fd.offset+δ,none⟩:=by rw[addr_add]; congr 1; omega
 simp[execOp,hxe,Instr.fieldAt,run_underlying hu,hf,Instr.sureAddr,fieldPlace,sizeOf,typeInfo,hi,hz,this]
theorem build_struct_ok {t:TypeId} {fs:Array Field} (hu:P.underlying t=some (.struct fs)) (hall:∀ f∈fs.toList,(sizeT P f.type).isSome=true) {z:List AV} (hz:zeroC P t=some z) {ps:Array (Nat×Operand)} {ods:List (Nat×Nat×Od)}
  (hp:coP vars cur C (ps.toList.map fun (i,x)=>((fs[i]?).bind fun f=>(sizeT P f.type).map fun n=>(f.offset,n),x))=some ods) {v:AV} (hv:fBuild L F z ods=some v):∃ u,VR ρ E v u∧Gives P a (.build t ps) u:=by
 obtain ⟨vs,g1,g2⟩:=ob_eq hv
 obtain ⟨cs,g3,g4⟩:=ob_eq g2
 cases g4
 obtain ⟨zv,z1,z2,z3⟩:=zeroC_ok (ρ:=ρ) (E:=E) hz
 obtain ⟨ys,f1,f2,f3,f4⟩:=fill_ok (place:=fun i=>(fs[i]?).bind fun f=>(sizeT P f.type).map fun n=>(f.offset,n)) (coP_ok hO hp g1) (zs:=zv.cells) z1 z2 g3
 have hm:∀ w,(fs.mapM fun (f:Field)=>do pure (f.offset,←sizeOf f.type):Sem (Array (Nat×Nat))).run P w = .ok (fs.map fun (f:Field)=>(f.offset,(sizeT P f.type).getD 0)) w:=by
  intro w
  rw[Array.mapM_eq_mapM_toList,Sem.run_map,run_mapM _ (fun f:Field=>(f.offset,(sizeT P f.type).getD 0)) fs.toList w (fun f hf w=>by
   obtain ⟨n,hn⟩:=Option.isSome_iff_exists.1 (hall f hf)
   simp[run_sizeT hn,hn])]
  simp only[Result.andThen_ok]
  congr 1
  apply Array.ext'
  simp
 refine ⟨.agg ys,by simpa using VR.agg f2 f3,fun w _ _ _ _ _=>?_⟩
 have hplace:(fun (i:Nat)=>((fs.map fun (f:Field)=>(f.offset,(sizeT P f.type).getD 0))[i]?))=fun (i:Nat)=>(fs[i]?).bind fun (f:Field)=>(sizeT P f.type).map fun (n:Nat)=>(f.offset,n):=by
  funext i
  rw[Array.getElem?_map]
  cases hf:fs[i]? with
  | none=>rfl
  | some f =>
   obtain ⟨n,hn⟩:=Option.isSome_iff_exists.1 (hall f (by simpa using Array.mem_of_getElem? hf))
   simp[hn]
 have hpar:(ps.map fun (i,x)=>(i,a.eval x)).toList=ps.toList.map fun (i,x)=>(i,a.eval x):=by simp
 simp only[execOp,Instr.build,Sem.run_bind,z3,Result.andThen_ok,run_underlying hu,hm,hplace,hpar,f1,Sem.run_pure]
theorem build_array_ok {t e:TypeId} {m n:Nat} (hu:P.underlying t=some (.array m e)) (he:sizeT P e=some n) {z:List AV} (hz:zeroC P t=some z) {ps:Array (Nat×Operand)} {ods:List (Nat×Nat×Od)}
  (hp:coP vars cur C (ps.toList.map fun (i,x)=>(some (i*n,n),x))=some ods) {v:AV} (hv:fBuild L F z ods=some v):∃ u,VR ρ E v u∧Gives P a (.build t ps) u:=by
 obtain ⟨vs,g1,g2⟩:=ob_eq hv
 obtain ⟨cs,g3,g4⟩:=ob_eq g2
 cases g4
 obtain ⟨zv,z1,z2,z3⟩:=zeroC_ok (ρ:=ρ) (E:=E) hz
 obtain ⟨ys,f1,f2,f3,f4⟩:=fill_ok (place:=fun i=>some (i*n,n)) (coP_ok hO hp g1) (zs:=zv.cells) z1 z2 g3
 refine ⟨.agg ys,by simpa using VR.agg f2 f3,fun w _ _ _ _ _=>?_⟩
 have hpar:(ps.map fun (i,x)=>(i,a.eval x)).toList=ps.toList.map fun (i,x)=>(i,a.eval x):=by simp
 simp only[execOp,Instr.build,Sem.run_bind,z3,Result.andThen_ok,run_underlying hu,run_sizeT he,hpar,f1,Sem.run_pure]
theorem fld_ok {t:TypeId} {f:Nat} {fs:Array Field} {fd:Field} (hu:P.underlying t=some (.struct fs)) (hf:fs[f]?=some fd) (hk:tk P fd.type=some .cell) {x:Operand} {ox:Od} (h1:coO vars cur C x=some ox) {v:AV} (hv:fFld L F fd.offset ox=some v) :
  ∃ u,VR ρ E v u∧Gives P a (.field t x f) u:=by
 obtain ⟨xv,g1,g2⟩:=ob_eq hv
 have hx:=hO _ _ h1 _ g1
 obtain ⟨l,rfl,g3⟩:=onAgg_some g2
 generalize hxe:a.eval x=xe at hx
 cases hx with | agg hl _ =>
 rename_i xs
 obtain ⟨y,hy,hvy⟩:=hl.get _ _ (by simpa using g3)
 obtain ⟨k1,k2⟩:=tk_ok hk
 exact ⟨y,hvy,fun w _ _ _ _ _=>by simp[execOp,hxe,Instr.field,run_underlying hu,hf,asAgg,part,k1,hy]⟩
theorem flda_ok {t:TypeId} {f n:Nat} {fs:Array Field} {fd:Field} (hu:P.underlying t=some (.struct fs)) (hf:fs[f]?=some fd) (hk:tk P fd.type=some (.agg n)) {x:Operand} {ox:Od} (h1:coO vars cur C x=some ox) {v:AV} (hv:fFlda L F fd.offset n ox=some v) :
  ∃ u,VR ρ E v u∧Gives P a (.field t x f) u:=by
 obtain ⟨xv,g1,g2⟩:=ob_eq hv
 have hx:=hO _ _ h1 _ g1
 obtain ⟨l,rfl,g3⟩:=onAgg_some g2
 obtain ⟨r,g4,g5⟩:=ob_eq g3
 cases g5
 generalize hxe:a.eval x=xe at hx
 cases hx with | agg hl hsc =>
 rename_i xs
 obtain ⟨k1,k2⟩:=tk_ok hk
 refine ⟨.agg ((xs.drop fd.offset).take n).toArray,.agg (hl.sub g4) (fun c hc=>hsc c ?_),fun w _ _ _ _ _=>?_⟩
 ·obtain ⟨_,rfl⟩:=sub_some g4
  exact List.mem_of_mem_drop (List.mem_of_mem_take hc)
 ·have:xs.toArray.extract fd.offset (fd.offset+n)=((xs.drop fd.offset).take n).toArray:=by
   apply Array.ext'
   simp
  simp[execOp,hxe,Instr.field,run_underlying hu,hf,asAgg,part,k1,run_sizeT k2,this]
theorem ia_ok {t e:TypeId} {n:Nat} (hu:P.underlying t=some (.slice e)) (he:sizeT P e=some n) {x i:Operand} {ox oi:Od} (h1:coO vars cur C x=some ox) (h2:coO vars cur C i=some oi) {v:AV} (hv:fIa L F n ox oi=some v) :
  ∃ u,VR ρ E v u∧Gives P a (.indexAddr t x i) u:=by
 obtain ⟨xv,g1,g2⟩:=ob_eq hv
 rcases Classical.em (∃ b n x sz,xv=markV b n x sz) with ⟨b,m,xl,sz',rfl⟩ | hmark
 ·have hx:=hO _ _ h1 _ g1
  generalize hxe:a.eval x=xe at hx
  obtain ⟨B,δ,z,len,cap,rfl,hb,_,l1,l2,l3⟩:=mark_inv hx
  obtain ⟨iv,g4,g5⟩:=ob_eq (show ob (ev L F oi) (fun i=>i.onNat (fun i=>cnd (Nat.beq n sz'&&Nat.blt i m) (some (.ptr b (i*n))) none) none)=some v from g2)
  obtain ⟨kd,j,rfl,g6⟩:=onNat_some g5
  obtain ⟨g7,g8⟩:=cnd_some g6
  cases g8
  simp only[Bool.and_eq_true,Nat.blt_eq] at g7
  have hi:=(hO _ _ h2 _ g4).nat_inv
  have hj2:¬len≤j:=by omega
  have hj:(j:Int)<len:=by omega
  refine ⟨.pointer (some ⟨B,j*n+δ,none⟩),.ptr hb,fun w _ _ _ _ _=>?_⟩
  have:(⟨B,δ,none⟩ : Addr).add (j*n)=⟨B,j*n+δ,none⟩:=by rw[addr_add]; congr 1; omega
  simp[execOp,hxe,hi,Instr.indexAt,asIntOf,run_underlying hu,hj,hj2,run_sizeT he,this]
 rw[argOf_none hmark] at g2
 obtain ⟨b,o,len,lo,ex,sz,rfl,g3⟩:=onSl_some g2
 obtain ⟨iv,g4,g5⟩:=ob_eq g3
 obtain ⟨kd,j,rfl,g6⟩:=onNat_some g5
 obtain ⟨g7,g8⟩:=cnd_some g6
 cases g8
 have hx:=hO _ _ h1 _ g1
 have hi:=(hO _ _ h2 _ g4).nat_inv
 generalize hxe:a.eval x=xe at hx
 cases hx with | sl hb l1 l2 l3 l4 =>
 rename_i B δ z cap
 have hj2:¬len≤j:=by simp[Nat.blt_eq] at g7; omega
 have hj:(j:Int)<len:=by omega
 refine ⟨.pointer (some ⟨B,o+j*n+δ,none⟩),.ptr hb,fun w _ _ _ _ _=>?_⟩
 have:(⟨B,o+δ,none⟩ : Addr).add (j*n)=⟨B,o+j*n+δ,none⟩:=by rw[addr_add]; congr 1; omega
 simp[execOp,hxe,hi,Instr.indexAt,asIntOf,run_underlying hu,hj,hj2,run_sizeT he,this]
theorem iar_ok {t e:TypeId} {m n:Nat} (hu:P.underlying t=some (.array m e)) (he:sizeT P e=some n) {x i:Operand} {ox oi:Od} (h1:coO vars cur C x=some ox) (h2:coO vars cur C i=some oi) {v:AV} (hv:fIar L F m n ox oi=some v) :
  ∃ u,VR ρ E v u∧Gives P a (.indexAddr t x i) u:=by
 obtain ⟨xv,g1,g2⟩:=ob_eq hv
 obtain ⟨b,o,rfl,g3⟩:=onPtr_some g2
 obtain ⟨iv,g4,g5⟩:=ob_eq g3
 obtain ⟨kd,j,rfl,g6⟩:=onNat_some g5
 obtain ⟨g7,g8⟩:=cnd_some g6
 cases g8
 have hx:=hO _ _ h1 _ g1
 have hi:=(hO _ _ h2 _ g4).nat_inv
 generalize hxe:a.eval x=xe at hx
 cases hx with | ptr hb =>
 rename_i B δ z
 have hj2:¬m≤j:=by simp[Nat.blt_eq] at g7; omega
 have hj:(j:Int)<m:=by omega
 refine ⟨.pointer (some ⟨B,o+j*n+δ,none⟩),.ptr hb,fun w _ _ _ _ _=>?_⟩
 have:(⟨B,o+δ,none⟩ : Addr).add (j*n)=⟨B,o+j*n+δ,none⟩:=by rw[addr_add]; congr 1; omega
 simp[execOp,hxe,hi,Instr.indexAt,asIntOf,run_underlying hu,Instr.sureAddr,hj,hj2,run_sizeT he,this]
omit hO in
theorem SR.get {l:List AI} {m:List UInt8} (h:SR ρ l m) (i:Nat) (x:AI) (hx:l[i]?=some x):∃ b,m[i]?=some b∧IR ρ .u8 x (b.toNat:Int):=by
 induction h generalizing i with
 | nil=>simp at hx
 | cons h1 _ ih =>
  cases i with
  | zero=>simp at hx; subst hx; exact ⟨_,rfl,h1⟩
  | succ i=>exact ih i (by simpa using hx)
theorem ixs_ok {t:TypeId} (hu:P.underlying t=some .string) {x i:Operand} {ox oi:Od} (h1:coO vars cur C x=some ox) (h2:coO vars cur C i=some oi) {v:AV} (hv:fIxs L F ox oi=some v) :
  ∃ u,VR ρ E v u∧Gives P a (.index t x i) u:=by
 obtain ⟨xv,g1,g2⟩:=ob_eq hv
 obtain ⟨l,rfl,g3⟩:=onStr_some g2
 obtain ⟨iv,g4,g5⟩:=ob_eq g3
 obtain ⟨kd,j,rfl,g6⟩:=onNat_some g5
 obtain ⟨y,g7,g8⟩:=ob_eq g6
 cases g8
 have hx:=hO _ _ h1 _ g1
 have hi:=(hO _ _ h2 _ g4).nat_inv
 generalize hxe:a.eval x=xe at hx
 cases hx with | str hs =>
 rename_i s
 obtain ⟨c,c1,c2⟩:=SR.get hs j y (by simpa using g7)
 refine ⟨.int .u8 (c.toNat:Int),.int c2,fun w _ _ _ _ _=>?_⟩
 have hc:s[j]?=some c:=by
  have h1:s.data[j]?=some c:=by simpa using c1
  have h2:j<s.size:=lt_of_get h1
  rw[getElem?_pos s j h2]
  have h3:s.data[j]?=some s.data[j]:=Array.getElem?_eq_getElem h2
  rw[h3] at h1
  exact h1
 simp[execOp,hxe,hi,Instr.index,asIntOf,run_underlying hu,hc]
theorem ixa_ok {t e:TypeId} {m:Nat} (hu:P.underlying t=some (.array m e)) (hk:tk P e=some .cell) {x i:Operand} {ox oi:Od} (h1:coO vars cur C x=some ox) (h2:coO vars cur C i=some oi) {v:AV} (hv:fIxa L F m ox oi=some v) :
  ∃ u,VR ρ E v u∧Gives P a (.index t x i) u:=by
 obtain ⟨xv,g1,g2⟩:=ob_eq hv
 obtain ⟨l,rfl,g3⟩:=onAgg_some g2
 obtain ⟨iv,g4,g5⟩:=ob_eq g3
 obtain ⟨kd,j,rfl,g6⟩:=onNat_some g5
 obtain ⟨g7,g8⟩:=cnd_some g6
 have hx:=hO _ _ h1 _ g1
 have hi:=(hO _ _ h2 _ g4).nat_inv
 generalize hxe:a.eval x=xe at hx
 cases hx with | agg hl _ =>
 rename_i xs
 obtain ⟨y,hy,hvy⟩:=hl.get _ _ (by simpa using g8)
 obtain ⟨k1,k2⟩:=tk_ok hk
 have hj2:¬m≤j:=by simp[Nat.blt_eq] at g7; omega
 have hj:(j:Int)<m:=by omega
 exact ⟨y,hvy,fun w _ _ _ _ _=>by simp[execOp,hxe,hi,Instr.index,asIntOf,run_underlying hu,hj,hj2,part,k1,run_sizeT k2,hy]⟩
theorem ext_ok {x:Operand} {i:Nat} {ox:Od} (h1:coO vars cur C x=some ox) {v:AV} (hv:fExt L F i ox=some v):∃ u,VR ρ E v u∧Gives P a (.extract x i) u:=by
 obtain ⟨xv,g1,g2⟩:=ob_eq hv
 obtain ⟨l,rfl,g3⟩:=onTup_some g2
 have hx:=hO _ _ h1 _ g1
 generalize hxe:a.eval x=xe at hx
 cases hx with | tup hl =>
 obtain ⟨y,hy,hvy⟩:=hl.get _ _ (by simpa using g3)
 exact ⟨y,hvy,fun w _ _ _ _ _=>by simp[execOp,hxe,Instr.extract,hy]⟩
omit hO in
theorem sliceBounds_ok (isS:Bool) (len cap:Nat) (low high max:Option Value) (l h m:Nat)
  (hm:(max=none∧m=cap)∨∃ k,max=some (.int k (m:Int))∧m≤cap) (hh:(high=none∧max=none∧h=len)∨∃ k,high=some (.int k (h:Int))∧h≤m)
  (hl:(low=none∧l=0)∨∃ k,low=some (.int k (l:Int))∧l≤h) (w:World):(Instr.sliceBounds isS len cap low high max).run P w = .ok (l,h,m) w:=by
 have sb:∀ (k:IntKind) (i y:Nat) (code:BoundsCode) (w:World),i≤y→(Instr.sliceBound (.int k (i:Int)) y code).run P w = .ok i w:=by
  intro k i y code w hi
  have:=run_sliceBound (P:=P) (w:=w) k (i:Int) y code (by omega) (by omega)
  simpa using this
 unfold Instr.sliceBounds
 rcases hm with ⟨rfl,rfl⟩ | ⟨km,rfl,hm⟩ <;> rcases hh with ⟨rfl,hn,rfl⟩ | ⟨kh,rfl,hh⟩ <;> rcases hl with ⟨rfl,rfl⟩ | ⟨kl,rfl,hl⟩ <;>
  first
   | (cases hn; done)
   | simp[*]
omit hO in
theorem bnd_ok {d n:Nat} {x:Option AV} {y:Option Operand} (hx:(x=none∧y=none)∨∃ u o,x=some u∧y=some o∧VR ρ E u (a.eval o)) (h:bnd d x=some n) :
  (y=none∧n=d)∨∃ k o,y=some o∧a.eval o = .int k (n:Int):=by
 rcases hx with ⟨rfl,rfl⟩ | ⟨u,o,rfl,rfl,hv⟩
 ·cases h; exact .inl ⟨rfl,rfl⟩
 ·obtain ⟨k,m,rfl,h2⟩:=onNat_some (show u.onNat some none=some n from h)
  cases h2
  exact .inr ⟨k,o,rfl,hv.nat_inv⟩
omit hO in
theorem sliL_ok {b off m l h sz B δ z mc:Nat} {ex:Bool} {v:AV} (hb:E.blk b=some (B,δ,z)) (h1:m≤mc) (h2:ex=true→mc=m) (h3:off+δ+mc*sz≤z) (hv:sliL b off ex m l h sz=some v) :
  l≤h∧h≤m∧VR ρ E v (.slice (if mc=l then some ⟨B,off+δ,none⟩ else (some (⟨B,off+δ,none⟩ : Addr)).map (·.add (l*sz))) (h-l) (mc-l)):=by
 unfold sliL at hv
 obtain ⟨g1,g2⟩:=cnd_some hv
 simp at g1
 obtain ⟨g3,g4⟩:=g1
 have hmul:l*sz+(mc-l)*sz=mc*sz:=by rw[←Nat.add_mul]; congr 1; omega
 refine ⟨g3,g4,?_⟩
 rw[cnd_eq] at g2
 split at g2
 ·rename_i hlm
  simp at hlm
  subst hlm
  obtain rfl:h=l:=by omega
  rw[Nat.sub_self]
  cases ex with
  | true =>
   simp only[cnd_true,Option.some.injEq] at g2
   subst g2
   rw[if_pos (h2 rfl),h2 rfl,Nat.sub_self]
   exact .sl hb (Nat.le_refl _) (Nat.le_refl _) (fun _=>rfl) (by omega)
  | false =>
   simp only[cnd_false] at g2
   rw[cnd_eq] at g2
   split at g2
   ·rename_i h0
    simp at h0
    subst h0
    cases g2
    have:(if mc=0 then some (⟨B,off+δ,none⟩ : Addr) else (some (⟨B,off+δ,none⟩ : Addr)).map (·.add (0*sz)))=some ⟨B,off+δ,none⟩:=by
     split
     ·rfl
     ·simp[addr_add]
    rw[this]
    exact .sl hb (Nat.le_refl _) (Nat.zero_le _) (by simp) (by simpa using h3)
   ·cases g2
    split
    ·exact .emp
    ·exact .emp
 ·rename_i hlm
  simp at hlm
  cases g2
  rw[if_neg (by omega)]
  simp only[Option.map_some,addr_add]
  rw[show off+δ+l*sz=off+l*sz+δ by omega]
  exact .sl hb (by omega) (by omega) (fun e=>by rw[h2 e]) (by omega)
theorem sli_ok {t e:TypeId} {sz:Nat} (hu:P.underlying t=some (.slice e)) (he:sizeT P e=some sz) {x:Operand} {lo hi mx:Option Operand} {ox:Od} {olo ohi omx:Option Od}
  (h1:coO vars cur C x=some ox) (h2:coF vars cur C lo=some olo) (h3:coF vars cur C hi=some ohi) (h4:coF vars cur C mx=some omx) (h5:mx.isSome=true→hi.isSome=true)
  {v:AV} (hv:fSli L F sz ox olo ohi omx=some v):∃ u,VR ρ E v u∧Gives P a (.slice t x lo hi mx) u:=by
 obtain ⟨xv,g1,g2⟩:=ob_eq hv
 obtain ⟨vlo,g3,g4⟩:=ob_eq g2
 obtain ⟨vhi,g5,g6⟩:=ob_eq g4
 obtain ⟨vmx,g7,g8⟩:=ob_eq g6
 have hx:=hO _ _ h1 _ g1
 have clo:=coF_ok hO h2 g3
 have chi:=coF_ok hO h3 g5
 have cmx:=coF_ok hO h4 g7
 generalize hxe:a.eval x=xe at hx
 have run:∀ (A:Option Addr) (len cap l h m:Nat) (w:World),(Instr.sliceBounds true len cap (lo.map a.eval) (hi.map a.eval) (mx.map a.eval)).run P w = .ok (l,h,m) w →
   (Instr.sliceAt t (.slice A len cap) (lo.map a.eval) (hi.map a.eval) (mx.map a.eval)).run P w = .ok (.slice (if m=l then A else A.map (·.add (l*sz))) (h-l) (m-l)) w:=by
  intro A len cap l h m w hb
  simp[Instr.sliceAt,Instr.slice,run_underlying hu,hb,run_sizeT he]
 have clos:∀ {n:Nat} {y:Option Operand} {d:Nat},((y=none∧n=d)∨∃ k o,y=some o∧a.eval o = .int k (n:Int))→((y.map a.eval=none∧n=d)∨∃ k,y.map a.eval=some (.int k (n:Int))):=by
  intro n y d h
  rcases h with ⟨rfl,rfl⟩ | ⟨k,o,rfl,h⟩
  ·exact .inl ⟨rfl,rfl⟩
  ·exact .inr ⟨k,by simp[h]⟩
 have zrs:∀ {u:Option AV} {y:Option Operand},((u=none∧y=none)∨∃ p o,u=some p∧y=some o∧VR ρ E p (a.eval o))→zr u=true→(y.map a.eval=none∨∃ k,y.map a.eval=some (.int k 0)):=by
  intro u y h hz
  rcases h with ⟨rfl,rfl⟩ | ⟨p,o,rfl,rfl,hp⟩
  ·exact .inl rfl
  ·simp only[zr] at hz
   cases p <;> simp only[AV.onNat,AV.onInt,Bool.false_eq_true] at hz
   rename_i k n
   cases n with
   | s i d=>simp[AI.onC] at hz
   | c m =>
    cases m with
    | negSucc m=>simp[AI.onC] at hz
    | ofNat m =>
     simp[AI.onC] at hz
     subst hz
     exact .inr ⟨k,by have:=hp.nat_inv; simp[this]⟩
 rcases Classical.em (∃ b n x sz,xv=markV b n x sz) with ⟨b,n,xl,sz',rfl⟩ | hmark
 ·obtain ⟨B,δ,z,len,cap,rfl,hb,_,l1,l2,l3⟩:=mark_inv hx
  obtain ⟨g9,g10⟩:=cnd_some (show cnd (Nat.beq sz sz'&&zr vlo) _ none=some v from g8)
  simp only[Bool.and_eq_true] at g9
  obtain rfl:=Nat.eq_of_beq_eq_true g9.1
  rcases chi with ⟨rfl,rfl⟩ | ⟨u,y,rfl,rfl,hu'⟩
  ·cases g10
  ·obtain ⟨kd,h,rfl,g11⟩:=onNat_some g10
   rcases cmx with ⟨rfl,rfl⟩ | ⟨u',y',rfl,rfl,_⟩
   ·obtain ⟨g12,g13⟩:=cnd_some g11
    cases g13
    simp only[Bool.and_eq_true,Nat.blt_eq,Nat.ble_eq] at g12
    have a1:=zrs clo g9.2
    have hh:=hu'.nat_inv
    have hb':∀ w,(Instr.sliceBounds true len cap (lo.map a.eval) ((some y).map a.eval) ((none:Option Operand).map a.eval)).run P w = .ok (0,h,cap) w:=by
     intro w
     refine sliceBounds_ok true len cap _ _ _ 0 h cap (.inl ⟨rfl,rfl⟩) (.inr ⟨kd,by simp[hh],by omega⟩) ?_ w
     rcases a1 with h | ⟨k,h⟩
     ·exact .inl ⟨h,rfl⟩
     ·exact .inr ⟨k,h,Nat.zero_le _⟩
    have hr:=fun w=>run (some ⟨B,δ,none⟩) len cap 0 h cap w (hb' w)
    have hv:=VR.sl (ρ:=ρ) (off:=0) (len:=h) (lo:=h) (ex:=false) (sz:=sz) (cap:=cap) hb (Nat.le_refl _) (by omega) (by simp) (by omega)
    rw[Nat.zero_add] at hv
    refine ⟨_,hv,fun w _ _ _ _ _=>?_⟩
    have hr:=hr w
    rw[if_neg (by omega)] at hr
    simp only[Option.map_some,addr_add,Nat.zero_mul,Nat.add_zero,Nat.sub_zero] at hr
    simp only[Option.map_some,Option.map_none] at hr
    simp[execOp,hxe,hr]
   ·cases g11
 replace g8:xv.onSlice (cnd (zr vlo&&zr vhi&&zr vmx) (some .nils) none)
  (fun b off len cl ex sz'=>cnd (Nat.beq sz sz') (ob (bnd 0 vlo) fun l=>ob (bnd len vhi) fun h=>Option.casesOn vmx (sliL b off ex cl l h sz)
   fun v=>v.onNat (fun m=>cnd (Nat.ble m cl) (sliL b off true m l h sz) none) none) none)
  (cnd (zr vlo&&zr vhi) (Option.casesOn vmx (some .emp) fun _=>none) none) none=some v:=by
  unfold sliceV at g8
  rw[argOf_none hmark] at g8
  exact g8
 cases hx <;> simp only[AV.onSlice,reduceCtorEq] at g8
 ·-- nil
  obtain ⟨g9,g10⟩:=cnd_some g8
  cases g10
  simp at g9
  have a1:=zrs clo g9.1.1
  have a2:=zrs chi g9.1.2
  have a3:=zrs cmx g9.2
  have hb:∀ w,(Instr.sliceBounds true 0 0 (lo.map a.eval) (hi.map a.eval) (mx.map a.eval)).run P w = .ok (0,0,0) w:=by
   intro w
   refine sliceBounds_ok true 0 0 _ _ _ 0 0 0 ?_ ?_ ?_ w
   ·rcases a3 with h | ⟨k,h⟩
    ·exact .inl ⟨h,rfl⟩
    ·exact .inr ⟨k,h,Nat.le_refl _⟩
   ·rcases a2 with h | ⟨k,h⟩
    ·refine .inl ⟨h,?_,rfl⟩
     cases hi with
     | none=>cases mx with
      | none=>rfl
      | some m=>simp at h5
     | some y=>simp at h
    ·exact .inr ⟨k,h,Nat.le_refl _⟩
   ·rcases a1 with h | ⟨k,h⟩
    ·exact .inl ⟨h,rfl⟩
    ·exact .inr ⟨k,h,Nat.le_refl _⟩
  exact ⟨_,.nils,fun w _ _ _ _ _=>by simp[execOp,hxe,run none 0 0 0 0 0 w (hb w)]⟩
 ·-- one that is known
  rename_i b off len cl ex sz' B δ z cap hb l1 l2 l3 l4
  obtain ⟨g9,g10⟩:=cnd_some g8
  simp at g9
  subst g9
  obtain ⟨l,g11,g12⟩:=ob_eq g10
  obtain ⟨h,g13,g14⟩:=ob_eq g12
  have blo:=clos (bnd_ok clo g11)
  have bhi:=clos (bnd_ok chi g13)
  have hmx:∃ m mc ex',sliL b off ex' m l h sz=some v∧m≤mc∧(ex'=true→mc=m)∧off+δ+mc*sz≤z∧mc≤cap∧((mx.map a.eval=none∧mc=cap)∨∃ k,mx.map a.eval=some (.int k (mc:Int))∧mc≤cap):=by
   rcases cmx with ⟨rfl,rfl⟩ | ⟨u,y,rfl,rfl,hu'⟩
   ·exact ⟨cl,cap,ex,g14,l2,l3,l4,Nat.le_refl _,.inl ⟨rfl,rfl⟩⟩
   ·obtain ⟨k,m,rfl,g15⟩:=onNat_some (show u.onNat (fun m=>cnd (Nat.ble m cl) (sliL b off true m l h sz) none) none=some v from g14)
    obtain ⟨g16,g17⟩:=cnd_some g15
    simp at g16
    have hmul:m*sz≤cap*sz:=Nat.mul_le_mul_right _ (by omega)
    exact ⟨m,m,true,g17,Nat.le_refl _,fun _=>rfl,by omega,by omega,.inr ⟨k,by have:=hu'.nat_inv; simp[this],by omega⟩⟩
  obtain ⟨m,mc,ex',q1,q2,q3,q4,q5,q6⟩:=hmx
  obtain ⟨r1,r2,r3⟩:=sliL_ok (ρ:=ρ) hb q2 q3 q4 q1
  refine ⟨_,r3,fun w _ _ _ _ _=>?_⟩
  have hbd:(Instr.sliceBounds true len cap (lo.map a.eval) (hi.map a.eval) (mx.map a.eval)).run P w = .ok (l,h,mc) w:=by
   refine sliceBounds_ok true len cap _ _ _ l h mc q6 ?_ ?_ w
   ·rcases bhi with ⟨e1,e2⟩ | ⟨k,e⟩
    ·refine .inl ⟨e1,?_,e2⟩
     cases hi with
     | none=>cases mx with
      | none=>rfl
      | some m=>simp at h5
     | some y=>simp at e1
    ·exact .inr ⟨k,e,by omega⟩
   ·rcases blo with ⟨e1,e2⟩ | ⟨k,e⟩
    ·exact .inl ⟨e1,e2⟩
    ·exact .inr ⟨k,e,r1⟩
  simp[execOp,hxe,run (some ⟨B,off+δ,none⟩) len cap l h mc w hbd]
 ·-- an empty one
  rename_i A cap
  obtain ⟨g9,g10⟩:=cnd_some g8
  simp at g9
  rcases cmx with ⟨rfl,rfl⟩ | ⟨u,y,rfl,rfl,hu'⟩
  ·cases g10
   have a1:=zrs clo g9.1
   have a2:=zrs chi g9.2
   have hb:∀ w,(Instr.sliceBounds true 0 cap (lo.map a.eval) (hi.map a.eval) ((none:Option Operand).map a.eval)).run P w = .ok (0,0,cap) w:=by
    intro w
    refine sliceBounds_ok true 0 cap _ _ _ 0 0 cap (.inl ⟨rfl,rfl⟩) ?_ ?_ w
    ·rcases a2 with h | ⟨k,h⟩
     ·exact .inl ⟨h,rfl,rfl⟩
     ·exact .inr ⟨k,h,Nat.zero_le _⟩
    ·rcases a1 with h | ⟨k,h⟩
     ·exact .inl ⟨h,rfl⟩
     ·exact .inr ⟨k,h,Nat.le_refl _⟩
   have hr:=fun w=>run (some A) 0 cap 0 0 cap w (hb w)
   by_cases hc:cap=0
   ·subst hc
    exact ⟨_,.emp (a:=A) (cap:=0),fun w _ _ _ _ _=>by simp[execOp,hxe] at hr ⊢; simp[hr w]⟩
   ·exact ⟨_,.emp (a:=A.add 0) (cap:=cap),fun w _ _ _ _ _=>by simp[execOp,hxe,hc] at hr ⊢; simp[hr w]⟩
  ·cases g10
theorem sls_ok {t:TypeId} (hu:P.underlying t=some .string) {x:Operand} {lo hi:Option Operand} {ox:Od} {olo ohi:Option Od}
  (h1:coO vars cur C x=some ox) (h2:coF vars cur C lo=some olo) (h3:coF vars cur C hi=some ohi) {v:AV} (hv:fSls L F ox olo ohi=some v):∃ u,VR ρ E v u∧Gives P a (.slice t x lo hi none) u:=by
 obtain ⟨xv,g1,g2⟩:=ob_eq hv
 obtain ⟨vlo,g3,g4⟩:=ob_eq g2
 obtain ⟨vhi,g5,g6⟩:=ob_eq g4
 have hx:=hO _ _ h1 _ g1
 have clo:=coF_ok hO h2 g3
 have chi:=coF_ok hO h3 g5
 obtain ⟨l,rfl,g7⟩:=onStr_some g6
 obtain ⟨i,g8,g9⟩:=ob_eq g7
 obtain ⟨j,g10,g11⟩:=ob_eq g9
 obtain ⟨g12,g13⟩:=cnd_some g11
 cases g13
 simp at g12
 generalize hxe:a.eval x=xe at hx
 cases hx with | str hs =>
 rename_i s
 have hlen:s.size=l.length:=by
  have:∀ {l:List AI} {m:List UInt8},SR ρ l m→m.length=l.length:=by
   intro l m h; induction h with
   | nil=>rfl
   | cons _ _ ih=>simp[ih]
  have:=this hs
  simpa using this
 have hsr:∀ {l:List AI} {m:List UInt8} (i n:Nat),SR ρ l m→SR ρ ((l.drop i).take n) ((m.drop i).take n):=by
  intro l m i n h
  induction h generalizing i n with
  | nil=>simp; exact .nil
  | cons h1 h2 ih =>
   cases i with
   | zero=>cases n with
    | zero=>simp; exact .nil
    | succ n=>simp; exact .cons h1 (by simpa using ih 0 n)
   | succ i=>simpa using ih i n
 refine ⟨.string (s.extract i j),.str ?_,fun w _ _ _ _ _=>?_⟩
 ·rw[Lib.extract_data]; exact hsr _ _ hs
 ·have blo:=bnd_ok clo g8
  have bhi:=bnd_ok chi g10
  have hb:(Instr.sliceBounds false s.size s.size (lo.map a.eval) (hi.map a.eval) none).run P w = .ok (i,j,s.size) w:=by
   refine sliceBounds_ok false _ _ _ _ _ i j s.size (.inl ⟨rfl,rfl⟩) ?_ ?_ w
   ·rcases bhi with ⟨rfl,e⟩ | ⟨k,o,rfl,e⟩
    ·exact .inl ⟨rfl,rfl,by rw[e,hlen]; simp⟩
    ·exact .inr ⟨k,by simp[e],by omega⟩
   ·rcases blo with ⟨rfl,e⟩ | ⟨k,o,rfl,e⟩
    ·exact .inl ⟨rfl,e⟩
    ·exact .inr ⟨k,by simp[e],by omega⟩
  simp[execOp,hxe,Instr.sliceAt,Instr.slice,run_underlying hu,hb]
theorem len_ok {t ty:TypeId} {e:TypeId} (hu:P.underlying t=some (.slice e)) {x:Operand} {at_:Array TypeId} (hat:at_[0]?=some t) {ox:Od} (h1:coO vars cur C x=some ox) {v:AV} (hv:fLen L F ox=some v) :
  ∃ u,VR ρ E v u∧Gives P a (.call ⟨.builtin .len,#[x],at_⟩) u:=by
 obtain ⟨xv,g1,g2⟩:=ob_eq hv
 have hx:=hO _ _ h1 _ g1
 generalize hxe:a.eval x=xe at hx
 rcases Classical.em (∃ b n x sz,xv=markV b n x sz) with ⟨b,n,xl,sz',rfl⟩ | hmark
 ·obtain ⟨B,δ,z,len,cap,rfl,hb,hl,l1,l2,l3⟩:=mark_inv hx
  cases (show some (AV.int .i64 xl)=some v from g2)
  exact ⟨_,.int hl,fun w _ _ _ _ _=>by simp[execOp,resolve,invoke,builtin,Builtin.len_,hxe,hat,run_underlying hu,goInt]⟩
 rw[argOf_none hmark] at g2
 cases hx <;> simp only[AV.onSlice,reduceCtorEq,Option.some.injEq] at g2 <;> subst g2 <;>
  exact ⟨_,.int rfl,fun w _ _ _ _ _=>by simp[execOp,resolve,invoke,builtin,Builtin.len_,hxe,hat,run_underlying hu,goInt]⟩
theorem lens_ok {t:TypeId} (hu:P.underlying t=some .string) {x:Operand} {at_:Array TypeId} (hat:at_[0]?=some t) {ox:Od} (h1:coO vars cur C x=some ox) {v:AV} (hv:fLens L F ox=some v) :
  ∃ u,VR ρ E v u∧Gives P a (.call ⟨.builtin .len,#[x],at_⟩) u:=by
 obtain ⟨xv,g1,g2⟩:=ob_eq hv
 have hx:=hO _ _ h1 _ g1
 obtain ⟨l,rfl,g3⟩:=onStr_some g2
 cases g3
 generalize hxe:a.eval x=xe at hx
 cases hx with | str hs =>
 rename_i s
 have hlen:s.size=l.length:=by
  have:∀ {l:List AI} {m:List UInt8},SR ρ l m→m.length=l.length:=by
   intro l m h; induction h with
   | nil=>rfl
   | cons _ _ ih=>simp[ih]
  have:=this hs
  simpa using this
 exact ⟨_,.int rfl,fun w _ _ _ _ _=>by simp[execOp,resolve,invoke,builtin,Builtin.len_,hxe,hat,run_underlying hu,goInt,hlen]⟩
theorem cap_ok {t:TypeId} {e:TypeId} (hu:P.underlying t=some (.slice e)) {x:Operand} {at_:Array TypeId} (hat:at_[0]?=some t) {ox:Od} (h1:coO vars cur C x=some ox) {v:AV} (hv:fCap L F ox=some v) :
  ∃ u,VR ρ E v u∧Gives P a (.call ⟨.builtin .cap,#[x],at_⟩) u:=by
 obtain ⟨xv,g1,g2⟩:=ob_eq hv
 have hx:=hO _ _ h1 _ g1
 generalize hxe:a.eval x=xe at hx
 cases hx <;> simp only[AV.onSlice,reduceCtorEq,Option.some.injEq] at g2
 ·subst g2
  exact ⟨_,.int rfl,fun w _ _ _ _ _=>by simp[execOp,resolve,invoke,builtin,Builtin.cap_,hxe,hat,run_underlying hu,goInt]⟩
 ·obtain ⟨g3,g4⟩:=cnd_some g2
  cases g4
  rename_i hb l1 l2 l3 l4
  have:=l3 g3
  subst this
  exact ⟨_,.int rfl,fun w _ _ _ _ _=>by simp[execOp,resolve,invoke,builtin,Builtin.cap_,hxe,hat,run_underlying hu,goInt]⟩
end
section
variable {ρ : Nat → Int} {bd : Bd} (hbd : BdOk ρ bd) {E : Env} {P : Program} {vars : List Nat} {cur : Nat} {C : CE} {L F : LF} {a : Act} (hO : OKs ρ E vars cur C L F a)
include hbd
theorem mm0_ok {mx:Bool} {k:IntKind} {x y z:AI} {i j:Int} (hx:IR ρ k x i) (hy:IR ρ k y j) (h:mm0 bd mx k x y=some z) :
  ∃ n,IR ρ k z n∧∀ w,((if mx then Builtin.max2 else Builtin.min2) (.int k i) (.int k j)).run P w = .ok (.int k n) w:=by
 unfold mm0 at h
 cases h1:leI bd k x y with
 | some r =>
  rw[h1] at h
  cases h
  have:=leI_ok hbd hx hy h1
  cases mx <;> cases r <;> simp at this <;> simp only[beq_self_eq_true,cnd_true,cnd_false,Bool.true_eq_false,Bool.false_eq_true,if_true,if_false,reduceCtorEq,beq_iff_eq,Bool.not_true,Bool.not_false]
  ·exact ⟨j,hy,fun w=>by simp[Builtin.min2,this]⟩
  ·exact ⟨i,hx,fun w=>by
    simp only[Builtin.min2]
    by_cases hh:j<i
    ·omega
    ·simp[hh]⟩
  ·exact ⟨i,hx,fun w=>by
    simp only[Builtin.max2]
    by_cases hh:j>i
    ·omega
    ·simp[hh]⟩
  ·exact ⟨j,hy,fun w=>by
    simp only[Builtin.max2]
    by_cases hh:j>i
    ·simp[hh]
    ·have:i=j:=by omega
     simp[hh,this]⟩
 | none =>
  rw[h1] at h
  obtain ⟨r,h3,h4⟩:=ob_eq h
  cases h4
  have:=leI_ok hbd hy hx h3
  cases mx <;> cases r <;> simp at this <;> simp only[beq_self_eq_true,cnd_true,cnd_false,Bool.true_eq_false,Bool.false_eq_true,if_true,if_false,reduceCtorEq,beq_iff_eq,Bool.not_true,Bool.not_false]
  ·exact ⟨i,hx,fun w=>by
    simp only[Builtin.min2]
    by_cases hh:j<i
    ·omega
    ·simp[hh]⟩
  ·exact ⟨j,hy,fun w=>by
    simp only[Builtin.min2]
    by_cases hh:j<i
    ·simp[hh]
    ·have:i=j:=by omega
     simp[hh,this]⟩
  ·exact ⟨j,hy,fun w=>by
    simp only[Builtin.max2]
    by_cases hh:j>i
    ·simp[hh]
    ·omega⟩
  ·exact ⟨i,hx,fun w=>by
    simp only[Builtin.max2]
    by_cases hh:j>i
    ·omega
    ·simp[hh]⟩
theorem mm_ok {mx:Bool} {k:IntKind} {x y z:AI} {i j:Int} (hx:IR ρ k x i) (hy:IR ρ k y j) (h:mm bd mx k x y=some z) :
  ∃ n,IR ρ k z n∧∀ w,((if mx then Builtin.max2 else Builtin.min2) (.int k i) (.int k j)).run P w = .ok (.int k n) w:=by
 rcases orA_some h with h | h
 ·exact mm0_ok hbd hx hy h
 ·obtain ⟨h1,h2⟩:=cnd_some' h
  obtain rfl:k = .i64:=ik_inj (k := .i64) h1
  cases mx with
  | true =>
   obtain ⟨⟨op,ex,ey,er⟩,e1,e2,rfl,rfl,rfl⟩:=orc_mem h2
   simp only[cnd_true] at e2
   subst e2
   have:=hbd.o _ _ e1 i j hx hy
   refine ⟨_,this,fun w=>?_⟩
   simp only[if_true,Builtin.max2]
   by_cases hh:j>i
   ·rw[if_pos (by omega:i≤j)]; simp[hh]
   ·by_cases he:i=j
    ·subst he; simp
    ·rw[if_neg (by omega:¬i≤j)]; simp[hh]
  | false =>
   obtain ⟨⟨op,ex,ey,er⟩,e1,e2,rfl,rfl,rfl⟩:=orc_mem h2
   simp only[cnd_false] at e2
   subst e2
   have:=hbd.o _ _ e1 i j hx hy
   refine ⟨_,this,fun w=>?_⟩
   simp only[Bool.false_eq_true,if_false,Builtin.min2]
   by_cases hh:j<i
   ·rw[if_neg (by omega:¬i≤j)]; simp[hh]
   ·rw[if_pos (by omega:i≤j)]; simp[hh]
theorem mms_ok {mx:Bool} {k:IntKind}:∀ {r:List AV} {x:AI} {v:AV} {i:Int} {vs:List Value},IR ρ k x i→VRs ρ E r vs→mms bd mx k x r=some v →
  ∃ u,VR ρ E v u∧∀ w,(vs.foldlM (if mx then Builtin.max2 else Builtin.min2) (.int k i)).run P w = .ok u w:=by
 intro r
 induction r with
 | nil =>
  intro x v i vs hx hr h
  cases hr
  cases h
  exact ⟨_,.int hx,fun w=>by simp⟩
 | cons y r ih =>
  intro x v i vs hx hr h
  cases hr with | cons hy hr =>
  obtain ⟨k',b,rfl,h1⟩:=onInt_some (show y.onInt _ none=some v from h)
  obtain ⟨h2,h3⟩:=cnd_some h1
  obtain rfl:=ik_inj h2
  obtain ⟨c,h4,h5⟩:=ob_eq h3
  cases hy with | int hy =>
  obtain ⟨n,h6,h7⟩:=mm_ok hbd hx hy h4 (P:=P)
  obtain ⟨u,h8,h9⟩:=ih h6 hr h5
  exact ⟨u,h8,fun w=>by simp only[List.foldlM_cons,Sem.run_bind,h7,Result.andThen_ok,h9]⟩
include hO
theorem mx_ok {mx:Bool} {xs:Array Operand} {at_:Array TypeId} {ods:List Od} (h1:coL vars cur C xs.toList=some ods) {v:AV} (hv:fMM bd L F mx ods=some v) :
  ∃ u,VR ρ E v u∧Gives P a (.call ⟨.builtin (if mx then .max else .min),xs,at_⟩) u:=by
 obtain ⟨l,g1,g2⟩:=ob_eq hv
 have hl:=coL_ok hO h1 g1
 cases l with
 | nil=>cases g2
 | cons x r =>
  obtain ⟨k,n,rfl,g3⟩:=onInt_some (show x.onInt _ none=some v from g2)
  generalize hxs:xs.toList.map a.eval=ys at hl
  cases hl with | cons hx hr =>
  cases hx with | int hx =>
  obtain ⟨u,h2,h3⟩:=mms_ok hbd hx hr g3 (P:=P)
  refine ⟨u,h2,fun w _ _ _ _ _=>?_⟩
  cases mx <;> simp only[if_true,if_false,Bool.false_eq_true] at h3 ⊢
  ·simp[execOp,resolve,invoke,builtin,Builtin.min_,hxs,h3]
  ·simp[execOp,resolve,invoke,builtin,Builtin.max_,hxs,h3]
theorem pure_ok {op:Op} {o:VO} (h:coOp1 P vars cur C op=some o) {v:AV} (hv:pureOp bd L F o=some v):∃ u,VR ρ E v u∧Gives P a op u:=by
 cases op with
 | move x =>
  obtain ⟨ox,h1,h2⟩:=bind_some h
  cases h2
  obtain ⟨a1,a2,a3⟩:=mv_ok (P:=P) hO h1 hv
  exact ⟨_,a1,a2⟩
 | assign x =>
  obtain ⟨ox,h1,h2⟩:=bind_some h
  cases h2
  obtain ⟨a1,a2,a3⟩:=mv_ok (P:=P) hO h1 hv
  exact ⟨_,a1,a3⟩
 | pick c x y =>
  obtain ⟨oc,h1,h⟩:=bind_some h
  obtain ⟨ox,h2,h⟩:=bind_some h
  obtain ⟨oy,h3,h⟩:=bind_some h
  cases h
  exact pick_ok hO h1 h2 h3 hv
 | alloc t=>obtain ⟨z,h1,h⟩:=bind_some h; cases h; cases hv
 | box t x=>obtain ⟨z,h1,h⟩:=bind_some h; cases h; cases hv
 | build t ps =>
  obtain ⟨z,h1,h⟩:=bind_some h
  split at h
  ·rename_i fs hu
   split at h
   ·cases h
   ·rename_i hall
    obtain ⟨ods,h2,h⟩:=bind_some h
    cases h
    exact build_struct_ok hO hu (List.all_eq_true.1 (by cases hb:(fs.toList.all fun f=>(sizeT P f.type).isSome) with | true=>rfl | false=>exact absurd (by rw[hb]; rfl) hall)) h1 h2 hv
  ·rename_i m e hu
   split at h
   ·rename_i n hn
    obtain ⟨ods,h2,h⟩:=bind_some h
    cases h
    exact build_array_ok hO hu hn h1 h2 hv
   ·cases h
  ·cases h
 | buildSlice t n ps =>
  obtain ⟨e,h1,h⟩:=bind_some h
  obtain ⟨n',h2,h⟩:=bind_some h
  obtain ⟨z,h3,h⟩:=bind_some h
  split at h
  ·cases h
  ·obtain ⟨ods,h4,h⟩:=bind_some h
   cases h; cases hv
 | insert t m k x =>
  simp only[coOp1] at h
  split at h
  ·obtain ⟨e,h1,h⟩:=bind_some h
   obtain ⟨e,h1,h⟩:=bind_some h
   obtain ⟨e,h1,h⟩:=bind_some h
   obtain ⟨e,h1,h⟩:=bind_some h
   cases h; cases hv
  ·cases h
 | load t x =>
  obtain ⟨e,h1,h⟩:=bind_some h
  split at h <;> (obtain ⟨e,h1,h⟩:=bind_some h; cases h; cases hv)
 | store t x y =>
  obtain ⟨e,h1,h⟩:=bind_some h
  obtain ⟨e,h1,h⟩:=bind_some h
  obtain ⟨e,h1,h⟩:=bind_some h
  cases h; cases hv
 | nilCheck x =>
  obtain ⟨ox,h1,h⟩:=bind_some h
  cases h
  exact nilc_ok hO h1 hv
 | binOp op T x y T' =>
  obtain ⟨ox,h1,h⟩:=bind_some h
  obtain ⟨oy,h2,h⟩:=bind_some h
  split at h
  ·cases h
   exact bin_ok hbd hO h1 h2 hv
  ·rename_i neg hneg
   obtain ⟨k,h3,h⟩:=bind_some h
   split at h
   ·cases h
    exact bin_ok hbd hO h1 h2 hv
   ·rename_i hk
    cases h
    have hop:op=if neg then .neq else .eql:=by
     unfold isEq at hneg
     split at hneg <;> first | (cases hneg; rfl) | cases hneg
    rw[hop]
    exact eq_ok hbd hO h3 hk h1 h2 hv
 | unOp op T x =>
  obtain ⟨ox,h1,h⟩:=bind_some h
  cases h
  exact un_ok hO h1 hv
 | convert src dst x =>
  obtain ⟨ox,h1,h⟩:=bind_some h
  split at h
  ·rename_i k0 k hs hd
   cases h
   exact cvi_ok hbd hO hs hd h1 hv
  ·split at h <;> cases h; cases hv
  ·split at h <;> cases h; cases hv
  ·split at h <;> cases h; cases hv
  ·cases h
 | makeInterface t x =>
  simp only[coOp1] at h
  split at h
  ·cases h
  ·cases h
  ·rename_i d hi hu
   obtain ⟨ox,h1,h⟩:=bind_some h
   cases h
   exact mki_ok hO (fun ms hm=>hi ms (by rw[hu] at hm; exact Option.some.inj hm)) (by rw[hu]; simp) h1 hv
 | makeFunc fn xs ys =>
  cases fn with
  | func f =>
   obtain ⟨ox,h1,h⟩:=bind_some h
   obtain ⟨oy,h2,h⟩:=bind_some h
   cases h
   exact mkf_ok hO h1 h2 hv
  | _=>cases h
 | makeMap t r=>cases r <;> cases h; cases hv
 | makeSlice t l c =>
  obtain ⟨e,h1,h⟩:=bind_some h
  obtain ⟨z,h2,h⟩:=bind_some h
  obtain ⟨n,h3,h⟩:=bind_some h
  split at h
  ·cases h
  ·obtain ⟨e,h1,h⟩:=bind_some h
   obtain ⟨e,h1,h⟩:=bind_some h
   obtain ⟨e,h1,h⟩:=bind_some h
   obtain ⟨e,h1,h⟩:=bind_some h
   cases h; cases hv
 | slice t x lo hi mx =>
  obtain ⟨ox,h1,h⟩:=bind_some h
  obtain ⟨olo,h2,h⟩:=bind_some h
  obtain ⟨ohi,h3,h⟩:=bind_some h
  obtain ⟨omx,h4,h⟩:=bind_some h
  split at h
  ·cases h
  ·rename_i hmh
   split at h
   ·rename_i hu
    split at h
    ·cases h
    ·rename_i hm
     cases h
     have:mx=none:=by
      cases mx with
      | none=>rfl
      | some m =>
       simp only[coF] at h4
       split at h4
       ·cases h4; simp at hm
       ·cases h4
     subst this
     exact sls_ok hO hu h1 h2 h3 hv
   ·rename_i e hu
    obtain ⟨sz,h5,h⟩:=bind_some h
    cases h
    refine sli_ok hO hu h5 h1 h2 h3 h4 (fun hm=>?_) hv
    cases mx with
    | none=>simp at hm
    | some m =>
     simp only[coF] at h4
     split at h4
     ·cases h4
      cases hi with
      | some y=>rfl
      | none=>cases h3; simp at hmh
     ·cases h4
   ·cases h
 | fieldAddr t x f =>
  obtain ⟨fd,h1,h⟩:=bind_some h
  obtain ⟨n,h2,h⟩:=bind_some h
  split at h
  ·cases h
  ·rename_i hn
   obtain ⟨ox,h3,h⟩:=bind_some h
   cases h
   unfold fieldT at h1
   split at h1
   ·rename_i fs hu
    obtain ⟨i,hi,hi2⟩:=sizeT_ok h2
    exact fa_ok hO hu h1 hi (by omega) h3 hv
   ·cases h1
 | field t x f =>
  obtain ⟨fd,h1,h⟩:=bind_some h
  obtain ⟨k,h2,h⟩:=bind_some h
  unfold fieldT at h1
  split at h1
  ·rename_i fs hu
   split at h
   ·obtain ⟨ox,h3,h⟩:=bind_some h
    cases h
    exact flda_ok hO hu h1 h2 h3 hv
   ·obtain ⟨ox,h3,h⟩:=bind_some h
    cases h
    exact fld_ok hO hu h1 h2 h3 hv
  ·cases h1
 | indexAddr t x i =>
  simp only[coOp1] at h
  split at h
  ·rename_i n e hu
   obtain ⟨sz,h1,h⟩:=bind_some h
   obtain ⟨ox,h2,h⟩:=bind_some h
   obtain ⟨oi,h3,h⟩:=bind_some h
   cases h
   exact iar_ok hO hu h1 h2 h3 hv
  ·rename_i e hu
   obtain ⟨sz,h1,h⟩:=bind_some h
   obtain ⟨ox,h2,h⟩:=bind_some h
   obtain ⟨oi,h3,h⟩:=bind_some h
   cases h
   exact ia_ok hO hu h1 h2 h3 hv
  ·cases h
 | index t x i =>
  simp only[coOp1] at h
  split at h
  ·rename_i hu
   obtain ⟨ox,h2,h⟩:=bind_some h
   obtain ⟨oi,h3,h⟩:=bind_some h
   cases h
   exact ixs_ok hO hu h2 h3 hv
  ·rename_i n e hu
   obtain ⟨k,h1,h⟩:=bind_some h
   split at h
   ·obtain ⟨ox,h2,h⟩:=bind_some h
    obtain ⟨oi,h3,h⟩:=bind_some h
    cases h
    exact ixa_ok hO hu h1 h2 h3 hv
   ·cases h
  ·cases h
 | lookup t m k ok =>
  simp only[coOp1] at h
  split at h
  ·obtain ⟨e,h1,h⟩:=bind_some h
   obtain ⟨e,h1,h⟩:=bind_some h
   obtain ⟨e,h1,h⟩:=bind_some h
   obtain ⟨e,h1,h⟩:=bind_some h
   cases h; cases hv
  ·cases h
 | mapUpdate t m k x =>
  simp only[coOp1] at h
  split at h
  ·obtain ⟨e,h1,h⟩:=bind_some h
   obtain ⟨e,h1,h⟩:=bind_some h
   obtain ⟨e,h1,h⟩:=bind_some h
   obtain ⟨e,h1,h⟩:=bind_some h
   cases h; cases hv
  ·cases h
 | extract x i =>
  obtain ⟨ox,h1,h⟩:=bind_some h
  cases h
  exact ext_ok hO h1 hv
 | call c =>
  obtain ⟨callee,args,argTypes⟩:=c
  cases callee with
  | value f =>
   obtain ⟨e,h1,h⟩:=bind_some h
   obtain ⟨e,h1,h⟩:=bind_some h
   cases h; cases hv
  | invoke r n=>cases h
  | builtin b =>
   obtain ⟨ods,h1,h⟩:=bind_some h
   obtain ⟨t,h2,h⟩:=bind_some h
   have one:∀ {o:Od},ods=[o]→∃ x,args=#[x]∧coO vars cur C x=some o:=by
    intro o ho
    subst ho
    obtain ⟨args⟩:=args
    cases args with
    | nil=>cases h1
    | cons x r =>
     simp only[coL] at h1
     split at h1
     ·rename_i o' ho'
      split at h1
      ·rename_i os hos
       cases r with
       | nil=>cases hos; cases h1; exact ⟨x,rfl,ho'⟩
       | cons y r =>
        simp only[coL] at hos
        split at hos
        ·split at hos
         ·cases hos; cases h1
         ·cases hos
        ·cases hos
      ·cases h1
     ·cases h1
   generalize hu:P.underlying t=d at h
   split at h
   ·cases h
    obtain ⟨x,rfl,hx⟩:=one rfl
    exact lens_ok hO hu h2 hx hv
   ·cases h
    obtain ⟨x,rfl,hx⟩:=one rfl
    exact len_ok (ty:=0) hO hu h2 hx hv
   ·cases h
    obtain ⟨x,rfl,hx⟩:=one rfl
    exact cap_ok hO hu h2 hx hv
   ·cases h
    exact mx_ok (mx:=true) hbd hO h1 hv
   ·cases h
    exact mx_ok (mx:=false) hbd hO h1 hv
   ·obtain ⟨e,h3,h⟩:=bind_some h
    obtain ⟨e,h3,h⟩:=bind_some h
    obtain ⟨e,h3,h⟩:=bind_some h
    split at h
    ·obtain ⟨e,h3,h⟩:=bind_some h
     split at h
     ·obtain ⟨e,h3,h⟩:=bind_some h
      cases h; cases hv
     ·cases h
    ·obtain ⟨e,h3,h⟩:=bind_some h
     split at h
     ·cases h; cases hv
     ·cases h
    ·cases h
   ·obtain ⟨e,h3,h⟩:=bind_some h
    obtain ⟨e,h3,h⟩:=bind_some h
    split at h
    ·obtain ⟨e,h3,h⟩:=bind_some h
     obtain ⟨e,h3,h⟩:=bind_some h
     cases h; cases hv
    ·cases h
   ·obtain ⟨e,h3,h⟩:=bind_some h
    cases h; cases hv
   ·cases h
 | _=>cases h
end
section
variable {ρ : Nat → Int} {bd : Bd} (hbd : BdOk ρ bd) {E : Env} {P : Program} {vars : List Nat} {cur : Nat} {C : CE} {L F : LF} {a : Act} (hO : OKs ρ E vars cur C L F a)
def Gives1 (P:Program) (a:Act) (op:Op) (x:Value) (w w':World):Prop :=
 ∀ (dst:Option Tmp) (ty:TypeId) (pos:String) (after:Array Edge) (guard:Option (Nat×Bool)),(execOp a.eval ⟨dst,op,ty,pos,after,guard⟩).run P w = .ok (.value x) w'
theorem onSlice_some {α:Type} {v:AV} {n e:Option α} {k:Nat→Nat→Nat→Nat→Bool→Nat→Option α} {r:α} (h:v.onSlice n k e none=some r) :
  (v = .nils∧n=some r)∨(∃ b o l c x s,v = .sl b o l c x s∧k b o l c x s=some r)∨(v = .emp∧e=some r):=by
 cases v <;> simp only[AV.onSlice,reduceCtorEq] at h
 ·exact .inl ⟨rfl,h⟩
 ·exact .inr (.inl ⟨_,_,_,_,_,_,rfl,h⟩)
 ·exact .inr (.inr ⟨rfl,h⟩)
theorem onMap_some {α:Type} {v:AV} {n:Option α} {k:Nat→Option α} {r:α} (h:v.onMap n k none=some r):(v = .nilm∧n=some r)∨(∃ m,v = .mapr m∧k m=some r):=by
 cases v <;> simp only[AV.onMap,reduceCtorEq] at h
 ·exact .inr ⟨_,rfl,h⟩
 ·exact .inl ⟨rfl,h⟩
theorem wrap_u8 (n:Int):0≤IntKind.u8.wrap n∧IntKind.u8.wrap n≤255:=by
 unfold IntKind.wrap
 simp[IntKind.signed,IntKind.bits]
 omega
theorem okB_ok {n:AI} {x:Int} (h:okB n=true) (hx:IR ρ .u8 n x):0≤x∧x≤255:=by
 cases n with
 | c m=>simp only[IR] at hx; subst hx; simpa [okB] using h
 | s i d=>simp only[IR] at hx; subst hx; exact wrap_u8 _
theorem bytesOf_ok {cs:List AV} {xs:List Value} (h:VRs ρ E cs xs) {l:List AI} (hl:bytesOf cs=some l):∃ ns:List Int,xs=ns.map (fun n => .int .u8 n)∧SR ρ l (ns.map fun n=>UInt8.ofNat n.toNat):=by
 induction cs generalizing xs l with
 | nil=>cases h; cases hl; exact ⟨[],rfl,.nil⟩
 | cons c cs ih =>
  cases h with | cons h1 h2 =>
  obtain ⟨k,n,rfl,h3⟩:=onInt_some (show c.onInt _ none=some l from hl)
  obtain ⟨h4,h5⟩:=cnd_some h3
  obtain ⟨m,h6,h7⟩:=ob_eq h5
  cases h7
  simp at h4
  obtain ⟨h4,h8⟩:=h4
  subst h4
  cases h1 with | int hi =>
  obtain ⟨ns,rfl,e1⟩:=ih h2 h6
  rename_i x
  refine ⟨x::ns,rfl,.cons ?_ e1⟩
  obtain ⟨b1,b2⟩:=okB_ok h8 hi
  have:((UInt8.ofNat x.toNat).toNat:Int)=x:=by
   rw[UInt8.toNat_ofNat']
   omega
  rw[this]
  exact hi
theorem push_data (ns:List Int):∀ s:ByteArray,(ns.foldl (fun r n=>r.push (UInt8.ofNat n.toNat)) s).data.toList=s.data.toList++ns.map fun n=>UInt8.ofNat n.toNat:=by
 induction ns with
 | nil=>intro s; simp
 | cons n ns ih =>
  intro s
  simp only[List.foldl_cons,ih]
  show (s.data.push _).toList++_=_
  simp
include hO
theorem ld_ok {t:TypeId} (ht:tk P t=some .cell) {x:Operand} {ox:Od} (h1:coO vars cur C x=some ox) {s:St} {w:World} (h:HR ρ E s.m w) {v:AV} (hv:fLd L F s ox=some v) :
  ∃ u,VR ρ E v u∧Gives1 P a (.load t x) u w w:=by
 obtain ⟨xv,g1,g2⟩:=ob_eq hv
 obtain ⟨b,o,rfl,g3⟩:=onPtr_some g2
 have hx:=hO _ _ h1 _ g1
 generalize hxe:a.eval x=xe at hx
 cases hx with | ptr hb =>
 obtain ⟨u,u1,u2,u3⟩:=rd1_ok h hb g3
 obtain ⟨k1,k2⟩:=tk_ok ht
 exact ⟨u,u2,fun _ _ _ _ _=>by simp[execOp,hxe,Instr.loadAt,Instr.sureAddr,loadVar,k1,load,Sem.run,u1]⟩
theorem lda_ok {t:TypeId} {n:Nat} (ht:tk P t=some (.agg n)) {x:Operand} {ox:Od} (h1:coO vars cur C x=some ox) {s:St} {w:World} (h:HR ρ E s.m w) {v:AV} (hv:fLda L F s n ox=some v) :
  ∃ u,VR ρ E v u∧Gives1 P a (.load t x) u w w:=by
 obtain ⟨xv,g1,g2⟩:=ob_eq hv
 obtain ⟨b,o,rfl,g3⟩:=onPtr_some g2
 obtain ⟨cs,g4,g5⟩:=ob_eq g3
 cases g5
 have hx:=hO _ _ h1 _ g1
 generalize hxe:a.eval x=xe at hx
 cases hx with | ptr hb =>
 obtain ⟨xs,u1,u2,u3⟩:=rd_ok h hb g4
 obtain ⟨k1,k2⟩:=tk_ok ht
 exact ⟨.agg xs.toArray,.agg u1 u2,fun _ _ _ _ _=>by simp[execOp,hxe,Instr.loadAt,Instr.sureAddr,loadVar,k1,run_sizeT k2,u3 P w rfl]⟩
theorem cvs_ok {src dst e:TypeId} (hs:P.underlying src=some (.slice e)) (he:isU8 P e=true) (hd:P.underlying dst=some .string) {x:Operand} {ox:Od} (h1:coO vars cur C x=some ox) {s:St} {w:World} (h:HR ρ E s.m w) {v:AV} (hv:fCvs L F s ox=some v) :
  ∃ u,VR ρ E v u∧Gives1 P a (.convert src dst x) u w w:=by
 have he':P.underlying e=some (.int .u8):=by
  unfold isU8 at he
  split at he
  ·assumption
  ·cases he
 obtain ⟨xv,g1,g2⟩:=ob_eq hv
 have hx:=hO _ _ h1 _ g1
 generalize hxe:a.eval x=xe at hx
 rcases onSlice_some g2 with ⟨rfl,g3⟩ | ⟨b,o,len,c,ex,sz,rfl,g3⟩ | ⟨rfl,g3⟩
 ·cases g3
  cases hx
  exact ⟨.string .empty,.str .nil,fun _ _ _ _ _=>by simp[execOp,hxe,convert,run_underlying hs,run_underlying hd,run_underlying he',Conv.bytesToString]⟩
 ·obtain ⟨cs,g4,g5⟩:=ob_eq g3
  obtain ⟨l,g6,g7⟩:=ob_eq g5
  cases g7
  cases hx with | sl hb l1 l2 l3 l4 =>
  obtain ⟨xs,u1,u2,u3⟩:=rd_ok h hb g4
  obtain ⟨ns,rfl,n1⟩:=bytesOf_ok u1 g6
  refine ⟨_,.str (s:=ns.foldl (fun r n=>r.push (UInt8.ofNat n.toNat)) ByteArray.empty) ?_,fun _ _ _ _ _=>?_⟩
  ·rw[push_data]; simpa using n1
  ·simp only[execOp,hxe]
   rw[Sem.run_bind,run_convert_bytes_string w src dst e _ _ _ hs he' hd,run_bytesToString w _ _ _ ns (u3 P w rfl)]
   rfl
 ·cases g3
  cases hx
  exact ⟨.string .empty,.str .nil,fun _ _ _ _ _=>by simp[execOp,hxe,convert,run_underlying hs,run_underlying hd,run_underlying he',Conv.bytesToString,loadCells,loadCellsFrom]⟩
omit hO in
theorem freeze_ok {s:St} {w:World} (h:HR ρ E s.m w) {b B δ z:Nat} {c:List AV} {k:BK} (hg:s.m.g b=some (.cells c k)) (hk:k ≠ .ro) (hb:E.blk b=some (B,δ,z)) {o:Nat} (A:Addr) (hA:A.block=B) :
  ∃ w',(markStringish A).run P w = .ok () w'∧Step ρ E s.m w E s.m w':=by
 obtain ⟨B',δ',z',cs,t,fz,e1,e2,e3,e4,e5,e6⟩:=h.cells b c k hg
 rw[hb] at e1
 obtain ⟨rfl,rfl,rfl⟩ : B=B'∧δ=δ'∧z=z':=by simpa using e1
 let fz':Nat×Nat:=if fz.1==fz.2 then (cs.size,cs.size+1) else (min fz.1 cs.size,max fz.2 (cs.size+1))
 have hlt:=lt_of_get e2
 have hfz:fz'.1=fz'.2∨cs.size≤fz'.1:=by
  have h4:=e4.resolve_left hk
  by_cases hh:fz.1=fz.2
  ·exact .inr (by simp[fz',hh])
  ·exact .inr (by simp[fz',hh]; omega)
 refine ⟨wB w B (.cells cs t fz'),?_,?_⟩
 ·have hs:w.shape? A.block=some (t,cs.size):=by rw[hA]; simp[World.shape?,e2]
  have hf:w.freeze { block:=A.block,off:=cs.size } 1=wB w B (.cells cs t fz'):=by
   unfold World.freeze wB
   rw[if_neg (by decide)]
   congr 1
   apply Array.ext_getElem?
   intro j
   simp only[hA]
   rw[Array.getElem?_modify]
   by_cases e:B=j
   ·subst e
    rw[if_pos rfl,e2]
    simp[hlt,fz']
   ·rw[if_neg e,Array.getElem?_setIfInBounds_ne e]
  simp only[markStringish,shape,freeze,Sem.run_bind,Sem.run,hs,Result.andThen_ok,hf]
 ·refine ⟨.refl _,⟨?_,?_,h.apart,h.mapart,h.dom⟩,?_,fun _ h => .inl h,rfl,rfl,rfl,by simp[wB],Nat.le_refl _,fun _ _=>⟨rfl,rfl⟩,fun _ _ h=>h,fun _ _ h=>h⟩
  ·intro b2 c2 k2 h2
   obtain ⟨B2,δ2,z2,ca2,t2,fz2,f1,f2,f3,f4,f5⟩:=h.cells b2 c2 k2 h2
   by_cases hB:B2=B
   ·subst hB
    rw[e2] at f2
    obtain ⟨rfl,rfl,rfl⟩ : cs=ca2∧t=t2∧fz=fz2:=by simpa using f2
    exact ⟨B2,δ2,z2,cs,t,fz',f1,wB_same e2,f3,.inr (by rw[←f3]; exact hfz),f5⟩
   ·exact ⟨B2,δ2,z2,ca2,t2,fz2,f1,by rw[wB_other (Ne.symm hB)]; exact f2,f3,f4,f5⟩
  ·intro b2 es h2
   obtain ⟨R,en,cl,f1,f2,f3⟩:=h.maps b2 es h2
   have hR:R≠B:=by intro e; subst e; rw[e2] at f2; cases f2
   exact ⟨R,en,cl,f1,by rw[wB_other (Ne.symm hR)]; exact f2,f3⟩
  ·intro B2 hB2 hno
   refine wB_other fun e=>hno ?_
   subst e
   exact ⟨b,.inl ⟨c,k,δ,z,hg,hk,hb⟩⟩
theorem cve_ok {src e:TypeId} (hs:P.underlying src=some (.slice e)) (he:isU8 P e=true) {x:Operand} {ox:Od} (h1:coO vars cur C x=some ox) {s:St} {w:World} (h:HR ρ E s.m w) {v:AV} (hv:fCve L F s ox=some v) :
  ∃ u w',VR ρ E v u∧Gives1 P a (.convert src src x) u w w'∧Step ρ E s.m w E s.m w':=by
 have he':P.underlying e=some (.int .u8):=by
  unfold isU8 at he
  split at he
  ·assumption
  ·cases he
 obtain ⟨xv,g1,g2⟩:=ob_eq hv
 obtain ⟨b,o,len,lo,ex,sz,rfl,g3⟩:=onSl_some g2
 obtain ⟨y,g4,g5⟩:=ob_eq g3
 have hx:=hO _ _ h1 _ g1
 generalize hxe:a.eval x=xe at hx
 cases y with
 | map es=>cases g5
 | cells c k =>
  have hk:k ≠ .ro∧v = .sl b o len lo ex sz:=by
   cases k with
   | own=>cases g5; exact ⟨by simp,rfl⟩
   | mate m=>cases g5; exact ⟨by simp,rfl⟩
   | ro=>cases g5
  obtain ⟨hk,rfl⟩:=hk
  have hx':=hx
  cases hx with | sl hb l1 l2 l3 l4 =>
  rename_i B δ z cap
  obtain ⟨w',q1,q2⟩:=freeze_ok (P:=P) (o:=o) h g4 hk hb ⟨B,o+δ,none⟩ rfl
  exact ⟨_,w',hx',fun _ _ _ _ _=>by simp[execOp,hxe,convert,run_underlying hs,run_underlying he',q1],q2⟩
end
section
variable {ρ : Nat → Int} {bd : Bd} (hbd : BdOk ρ bd) {E : Env} {P : Program} {vars : List Nat} {cur : Nat} {C : CE} {L F : LF} {a : Act} (hO : OKs ρ E vars cur C L F a)
include hbd
theorem val1 {n:Nat} {x y:AV} {a b:Value} (hx:VR ρ E x a) (hy:VR ρ E y b) (h:eq1 bd n x y=some true):a=b:=by
 unfold eq1 at h
 rw[cnd_eq] at h
 split at h
 ·obtain ⟨k,i,rfl,h1⟩:=onInt_some h
  obtain ⟨k',j,rfl,h2⟩:=onInt_some h1
  obtain ⟨h3,h4⟩:=cnd_some h2
  obtain rfl:=ik_inj h3
  cases hx with | int hx =>
  cases hy with | int hy =>
  have:=eqI_ok hbd hx hy h4
  simp at this
  rw[this]
 ·rw[cnd_eq] at h
  split at h
  ·obtain ⟨p,rfl,h1⟩:=onBool_some h
   obtain ⟨q,rfl,h2⟩:=onBool_some h1
   cases hx; cases hy
   simp at h2
   rw[h2]
  ·obtain ⟨p,rfl,h1⟩:=onStr_some h
   obtain ⟨q,rfl,h2⟩:=onStr_some h1
   cases hx with | str hx =>
   cases hy with | str hy =>
   rename_i s t
   have:=eqAIs_ok hbd hx hy h2
   simp at this
   obtain ⟨⟨s⟩⟩:=s
   obtain ⟨⟨t⟩⟩:=t
   simp at this
   rw[this]
theorem valFs:∀ {ns:List Nat} {l m:List AV} {as bs:List Value},VRs ρ E l as→VRs ρ E m bs→eqFs bd ns l m=some true→as=bs:=by
 intro ns
 induction ns with
 | nil =>
  intro l m as bs h1 h2 h
  cases l with
  | nil=>cases m with
   | nil=>cases h1; cases h2; rfl
   | cons y m=>cases h
  | cons x l=>cases h
 | cons n ns ih =>
  intro l m as bs h1 h2 h
  cases h1 with
  | nil=>cases h
  | cons hx h1 =>
   rename_i x a l as
   cases h2 with
   | nil=>cases h
   | cons hy h2 =>
    rename_i y b m bs
    obtain ⟨e,g1,g2⟩:=ob_eq (show ob (eq1 bd n x y) (fun b=>cnd b (eqFs bd ns l m) (some false))=some true from h)
    cases e with
    | false=>cases g2
    | true=>rw[val1 hbd hx hy g1,ih h1 h2 g2]
theorem eq1_self {n:Nat} {x:AV} {a:Value} (hx:VR ρ E x a) {r:Bool} (h:eq1 bd n x x=some r):r=true:=by
 unfold eq1 at h
 rw[cnd_eq] at h
 split at h
 ·obtain ⟨k,i,rfl,h1⟩:=onInt_some h
  obtain ⟨k',j,h0,h2⟩:=onInt_some h1
  cases h0
  obtain ⟨h3,h4⟩:=cnd_some h2
  cases hx with | int hx =>
  have:=eqI_ok hbd hx hx h4
  rw[←this]; simp
 ·rw[cnd_eq] at h
  split at h
  ·obtain ⟨p,rfl,h1⟩:=onBool_some h
   obtain ⟨q,h0,h2⟩:=onBool_some h1
   cases h0
   simp at h2
   rw[h2]
  ·obtain ⟨p,rfl,h1⟩:=onStr_some h
   obtain ⟨q,h0,h2⟩:=onStr_some h1
   cases h0
   cases hx with | str hx =>
   have:=eqAIs_ok hbd hx hx h2
   rw[←this]; simp
theorem eqFs_self:∀ {ns:List Nat} {l:List AV} {as:List Value},VRs ρ E l as→∀ {r:Bool},eqFs bd ns l l=some r→eqFs bd ns l l=some true:=by
 intro ns
 induction ns with
 | nil =>
  intro l as h1 r h
  cases l with
  | nil=>rfl
  | cons x l=>cases h
 | cons n ns ih =>
  intro l as h1 r h
  cases h1 with
  | nil=>cases h
  | cons hx h1 =>
   rename_i x a l as
   obtain ⟨e,g1,g2⟩:=ob_eq (show ob (eq1 bd n x x) (fun b=>cnd b (eqFs bd ns l l) (some false))=some r from h)
   obtain rfl:=eq1_self hbd hx g1
   have:=ih h1 g2
   show ob (eq1 bd n x x) (fun b=>cnd b (eqFs bd ns l l) (some false))=some true
   rw[g1]
   exact this
def keyK (k:EK):Prop:=match k with
 | .p | .l=>False
 | _=>True
theorem valE {k:EK} (hk:keyK k) {x y:AV} {a b:Value} (hx:VR ρ E x a) (hy:VR ρ E y b) (h:eqE bd k x y=some true):a=b:=by
 cases k with
 | i=>exact val1 hbd hx hy h
 | b=>exact val1 hbd hx hy h
 | s=>exact val1 hbd hx hy h
 | p=>exact hk.elim
 | l=>exact hk.elim
 | st ns =>
  obtain ⟨l,rfl,h1⟩:=onAgg_some (show x.onAgg _ none=some true from h)
  obtain ⟨m,rfl,h2⟩:=onAgg_some h1
  cases hx with | agg hx _ =>
  cases hy with | agg hy _ =>
  rw[valFs hbd hx hy h2]
omit hbd in
theorem ekKey_key {t:TypeId} {k:EK} (h:ekKey P t=some k):keyK k:=by
 unfold ekKey at h
 split at h <;> first | (cases h; trivial) | (split at h <;> cases h; trivial) | cases h
omit hbd in
theorem check1 {n:Nat} {t:TypeId} (hk:kindIs P n t) (em:Bool) (d:Nat) (v:Value) (w:World):(Instr.checkKey em (d+1) t v).run P w = .ok () w:=by
 match n,hk with
 | 0,⟨k,hk⟩=>simp[Instr.checkKey,run_underlying hk]
 | 1,hk=>simp[Instr.checkKey,run_underlying (show P.underlying t=_ from hk)]
 | n+2,hk=>simp[Instr.checkKey,run_underlying (show P.underlying t=_ from hk)]
theorem checkFs (em:Bool) (d:Nat) (xs:Array Value):∀ (ns:List Nat) (l m:List AV) (as:List Value) (i:Nat) (fs:List Field) (r:Bool) (w:World),VRs ρ E l as→flatIs P fs i ns →
  (∀ j v,as[j]?=some v→xs[i+j]?=some v)→eqFs bd ns l m=some true →
  (forIn fs PUnit.unit (fun f _=>if f.name ≠ "_" then (do let c ←part f.type xs f.offset; Instr.checkKey em (d+1) f.type c; pure (ForInStep.yield PUnit.unit)) else pure (ForInStep.yield PUnit.unit):Field→PUnit→Sem (ForInStep PUnit))).run P w = .ok PUnit.unit w:=by
 intro ns
 induction ns with
 | nil =>
  intro l m as i fs r w hl hf h1 h
  cases fs with
  | nil=>simp
  | cons f fs=>exact hf.elim
 | cons n ns ih =>
  intro l m as i fs r w hl hf h1 h
  cases fs with
  | nil=>exact hf.elim
  | cons f fs =>
   obtain ⟨ho,hn,hk,hf⟩:=hf
   cases hl with
   | nil=>cases h
   | cons hx hl =>
    rename_i x a l as
    cases m with
    | nil=>cases h
    | cons y m =>
     obtain ⟨e,g1,g2⟩:=ob_eq (show ob (eq1 bd n x y) (fun b=>cnd b (eqFs bd ns l m) (some false))=some true from h)
     cases e with
     | false=>cases g2
     | true =>
      have p1:=part_kind (P:=P) hk (h1 0 a rfl) w
      simp only[Nat.add_zero] at p1
      simp only[List.forIn_cons,if_pos hn,Sem.run_bind,ho,p1,Result.andThen_ok,check1 hk,Sem.run_pure]
      exact ih l m as (i+1) fs r w hl hf (fun j v hv=>by have:=h1 (j+1) v (by simpa using hv); rwa [show i+(j+1)=i+1+j by omega] at this) g2
theorem check_ok {k:EK} {t:TypeId} (hk:ekIs P k t) (hkk:keyK k) {x:AV} {v:Value} (hx:VR ρ E x v) {r:Bool} (h:eqE bd k x x=some r) (em:Bool) (w:World):(Instr.checkKey em 10000 t v).run P w = .ok () w:=by
 show (Instr.checkKey em (9998+1+1) t v).run P w=_
 cases k with
 | i=>exact check1 (n:=0) hk em 9999 v w
 | b=>exact check1 (n:=1) hk em 9999 v w
 | s=>exact check1 (n:=2) hk em 9999 v w
 | p=>exact hkk.elim
 | l=>exact hkk.elim
 | st ns =>
  obtain ⟨fs,hu,hf,hp⟩:=hk
  obtain ⟨l,rfl,h1⟩:=onAgg_some (show x.onAgg _ none=some r from h)
  obtain ⟨m,hm,h2⟩:=onAgg_some h1
  cases hm
  cases hx with | agg hx hsc =>
  rename_i xs
  have ht:eqFs bd ns l l=some true:=eqFs_self hbd hx h2
  have:=checkFs hbd (P:=P) em 9998 xs.toArray ns l l xs 0 fs.toList true w hx hf (fun j v hv=>by simpa using hv) ht
  unfold Instr.checkKey
  simp only[Sem.run_bind,run_underlying hu,Result.andThen_ok]
  rw[←Array.forIn_toList,this]
  simp
def Where (es:List (AV×AV)) (ents:List MapEntry) (x y:AV) (b:Value) (r:Option (Nat×Value)) (j:Nat) (es':List (AV×AV)):Prop :=
 (r=none∧es'=es++[(x,y)])∨∃ i e,r=some (j+i,e.val)∧ents[i]?=some e∧e.key=b∧es'=es.set i (x,y)
theorem find_ok {k:EK} {t:TypeId} (hk:ekIs P k t) (hkk:keyK k) {x:AV} {b:Value} (hx:VR ρ E x b):∀ {es:List (AV×AV)} {ents:List MapEntry} (j:Nat),ER ρ E es ents →
  (∀ v,look bd k es x=some v→∃ r,(∀ w,(Instr.findAsking t b ents j).run P w = .ok r w)∧((v=none∧r=none)∨∃ y i u,v=some y∧r=some (i,u)∧VR ρ E y u)) ∧
  (∀ y es',upd bd k es x y=some es'→∃ r,(∀ w,(Instr.findAsking t b ents j).run P w = .ok r w)∧Where es ents x y b r j es'):=by
 intro es
 induction es with
 | nil =>
  intro ents j h
  cases h
  refine ⟨fun v hv=>⟨none,fun w=>by simp[Instr.findAsking],?_⟩,fun y es' hu=>⟨none,fun w=>by simp[Instr.findAsking],?_⟩⟩
  ·cases hv; exact .inl ⟨rfl,rfl⟩
  ·cases hu; exact .inl ⟨rfl,rfl⟩
 | cons e es ih =>
  intro ents j h
  cases h with
  | cons h1 h2 h3 =>
   rename_i k0 v0 e0 m
   obtain ⟨i1,i2⟩:=ih (j+1) h3
   have step:∀ z,eqE bd k x k0=some z→∀ w,(Op.equal t b e0.key).run P w = .ok z w:=fun z hz w=>eqE_ok hbd hx h1 hz hk w
   constructor
   ·intro v hv
    obtain ⟨z,g1,g2⟩:=ob_eq (show ob (eqE bd k x k0) (fun b=>cnd b (some (some v0)) (look bd k es x))=some v from hv)
    cases z with
    | true =>
     cases g2
     exact ⟨some (j,e0.val),fun w=>by simp[Instr.findAsking,step true g1],.inr ⟨_,_,_,rfl,rfl,h2⟩⟩
    | false =>
     obtain ⟨r,r1,r2⟩:=i1 v g2
     exact ⟨r,fun w=>by simp[Instr.findAsking,step false g1,r1],r2⟩
   ·intro y es' hu
    obtain ⟨z,g1,g2⟩:=ob_eq (show ob (eqE bd k x k0) (fun b=>cnd b (some ((x,y)::es)) (ob (upd bd k es x y) fun r'=>some ((k0,v0)::r')))=some es' from hu)
    cases z with
    | true =>
     cases g2
     exact ⟨some (j,e0.val),fun w=>by simp[Instr.findAsking,step true g1],.inr ⟨0,e0,rfl,rfl,(valE hbd hkk hx h1 g1).symm,rfl⟩⟩
    | false =>
     obtain ⟨es1,g3,g4⟩:=ob_eq g2
     cases g4
     obtain ⟨r,r1,r2⟩:=i2 y es1 g3
     refine ⟨r,fun w=>by simp[Instr.findAsking,step false g1,r1],?_⟩
     rcases r2 with ⟨rfl,rfl⟩ | ⟨i,e,rfl,q1,q2,rfl⟩
     ·exact .inl ⟨rfl,rfl⟩
     ·exact .inr ⟨i+1,e,by congr 2; omega,by simpa using q1,q2,rfl⟩
theorem findNow_ok {k:EK} {t:TypeId} {d:TypeDesc} (hd:P.underlying t=some d) (hk:ekIs P k t) (hkk:keyK k) {x:AV} {b:Value} (hx:VR ρ E x b):∀ {es:List (AV×AV)} {ents:List MapEntry} (j:Nat),ER ρ E es ents →
  (∀ r,(∀ w,(Instr.findAsking t b ents j).run P w = .ok r w)→((∃ v,look bd k es x=some v)∨∃ y es',upd bd k es x y=some es')→∀ r',Instr.findNow d b ents j=some r'→r'=r):=by
 intro es
 induction es with
 | nil =>
  intro ents j h r hr _ r' hr'
  cases h
  have:=hr default
  simp[Instr.findAsking] at this
  cases hr'
  exact this
 | cons e es ih =>
  intro ents j h r hr hl r' hr'
  cases h with
  | cons h1 h2 h3 =>
   rename_i k0 v0 e0 m
   have hz:∃ z,eqE bd k x k0=some z∧(z=false→(∃ v,look bd k es x=some v)∨∃ y es',upd bd k es x y=some es'):=by
    rcases hl with ⟨v,hv⟩ | ⟨y,es',hu⟩
    ·obtain ⟨z,g1,g2⟩:=ob_eq (show ob (eqE bd k x k0) (fun b=>cnd b (some (some v0)) (look bd k es x))=some v from hv)
     exact ⟨z,g1,fun e=>by subst e; exact .inl ⟨v,g2⟩⟩
    ·obtain ⟨z,g1,g2⟩:=ob_eq (show ob (eqE bd k x k0) (fun b=>cnd b (some ((x,y)::es)) (ob (upd bd k es x y) fun r'=>some ((k0,v0)::r')))=some es' from hu)
     refine ⟨z,g1,fun e=>?_⟩
     subst e
     obtain ⟨es1,g3,g4⟩:=ob_eq g2
     exact .inr ⟨y,es1,g3⟩
   obtain ⟨z,g1,g2⟩:=hz
   have step:∀ w,(Op.equal t b e0.key).run P w = .ok z w:=fun w=>eqE_ok hbd hx h1 g1 hk w
   have same:∀ q,Instr.sameNow d b e0.key=some q→q=z:=by
    intro q hq
    have s1:(Op.equalIn (9999+1) t b e0.key).run P default = .ok z default:=step default
    unfold Instr.sameNow at hq
    generalize e0.key=kv at hq s1
    split at hq
    ·split at hq
     ·rename_i hkk'
      subst hkk'
      cases hq
      rw[run_equalIn_int (P:=P) default 9999 t _ _ _ _ hd] at s1
      simpa using s1
     ·cases hq
    ·cases hq
     rw[run_equalIn_string (P:=P) default 9999 t _ _ hd] at s1
     rw[beq_toListBytes]
     simpa using s1
    ·cases hq
     rw[run_equalIn_bool' (P:=P) default 9999 t _ _ hd] at s1
     simpa using s1
    ·cases hq
   simp only[Instr.findNow] at hr'
   split at hr'
   ·rename_i hs
    have:=same _ hs
    subst this
    cases hr'
    have:=hr default
    simp[Instr.findAsking,step] at this
    exact this
   ·rename_i hs
    have:=same _ hs
    subst this
    refine ih (j+1) h3 r (fun w=>?_) (g2 rfl) r' hr'
    have:=hr w
    simpa [Instr.findAsking,step] using this
   ·cases hr'
theorem findKey_ok {k:EK} {t:TypeId} (hk:ekIs P k t) (hkk:keyK k) {x:AV} {b:Value} (hx:VR ρ E x b) {es:List (AV×AV)} {ents:List MapEntry} (h:ER ρ E es ents) {r:Option (Nat×Value)}
  (hr:∀ w,(Instr.findAsking t b ents 0).run P w = .ok r w) (hl:(∃ v,look bd k es x=some v)∨∃ y es',upd bd k es x y=some es') (w:World):(Instr.findKey t b ents).run P w = .ok r w:=by
 have hd:∃ d,P.underlying t=some d:=by
  cases k with
  | i=>obtain ⟨q,hq⟩:=hk; exact ⟨_,hq⟩
  | b=>exact ⟨_,hk⟩
  | s=>exact ⟨_,hk⟩
  | p=>exact hkk.elim
  | l=>exact hkk.elim
  | st ns=>obtain ⟨fs,hq,_⟩:=hk; exact ⟨_,hq⟩
 obtain ⟨d,hd⟩:=hd
 unfold Instr.findKey
 simp only[Sem.run_bind,run_underlying hd,Result.andThen_ok]
 cases hf:Instr.findNow d b ents 0 with
 | none=>exact hr w
 | some r' =>
  have:=findNow_ok hbd hd hk hkk hx 0 h r hr hl r' hf
  subst this
  simp
include hO
theorem lkp_ok {t kt et:TypeId} (ht:P.underlying t=some (.map kt et)) {e:EK} (he:ekKey P kt=some e) {z:AV} (hz:zeroV P et=some z) {ok:Bool} {x k:Operand} {ox okk:Od} (h1:coO vars cur C x=some ox) (h2:coO vars cur C k=some okk)
  {s:St} {w:World} (h:HR ρ E s.m w) {v:AV} (hv:fLkp bd L F s e z ok ox okk=some v):∃ u,VR ρ E v u∧Gives1 P a (.lookup t x k ok) u w w:=by
 obtain ⟨xv,g1,g2⟩:=ob_eq hv
 obtain ⟨kv,g3,g4⟩:=ob_eq g2
 obtain ⟨q,g5,g6⟩:=ob_eq g4
 have hx:=hO _ _ h1 _ g1
 have hk:=hO _ _ h2 _ g3
 have hek:=ekKey_ok he
 have hkk:=ekKey_key he
 obtain ⟨zv,z1,z2⟩:=zeroV_ok (ρ:=ρ) (E:=E) hz
 generalize hxe:a.eval x=xe at hx
 have okv_ok:∀ {y:AV} {u:Value} (b:Bool),VR ρ E y u→VR ρ E (okv ok y b) (if ok then .tuple #[u,.bool b] else u):=by
  intro y u b hy
  cases ok with
  | true=>exact .tup (.cons hy (.cons (.bool b) .nil))
  | false=>exact hy
 rcases onMap_some g6 with ⟨rfl,g7⟩ | ⟨r,rfl,g7⟩
 ·cases g7
  cases hx
  have hc:=check_ok hbd hek hkk hk g5 true w
  obtain ⟨f1,f2⟩:=find_ok hbd hek hkk hk (P:=P) (es:=[]) (ents:=[]) 0 .nil
  obtain ⟨r0,r1,r2⟩:=f1 none rfl
  have hf:=findKey_ok hbd hek hkk hk .nil r1 (.inl ⟨none,rfl⟩) w
  have:r0=none:=by rcases r2 with ⟨_,h⟩ | ⟨y,i,u,h,_⟩; exact h; cases h
  subst this
  exact ⟨_,okv_ok false z1,fun _ _ _ _ _=>by simp[execOp,hxe,Instr.lookup,run_underlying ht,hc,hf,z2]⟩
 ·obtain ⟨y,g8,g9⟩:=ob_eq g7
  cases y with
  | cells c kk=>cases g9
  | map es =>
   obtain ⟨vo,g10,g11⟩:=ob_eq (show ob (look bd e es kv) _=some v from g9)
   cases hx with | mapr hr =>
   rename_i R0
   obtain ⟨R,ents,clock,m1,m2,m3⟩:=h.maps r es g8
   rw[hr] at m1
   have hRR:R=R0:=by simpa using m1.symm
   rw[←hRR] at hxe
   have hc:=check_ok hbd hek hkk hk g5 ents.isEmpty w
   obtain ⟨f1,f2⟩:=find_ok hbd hek hkk hk (P:=P) 0 m3
   obtain ⟨r0,r1,r2⟩:=f1 vo g10
   have hf:=findKey_ok hbd hek hkk hk m3 r1 (.inl ⟨vo,g10⟩) w
   have hg:(getObj R).run P w = .ok (.map ents clock) w:=by simp[getObj,Sem.run,m2]
   rcases r2 with ⟨rfl,rfl⟩ | ⟨y,i,u,rfl,rfl,hu⟩
   ·cases g11
    exact ⟨_,okv_ok false z1,fun _ _ _ _ _=>by simp[execOp,hxe,Instr.lookup,run_underlying ht,hg,hc,hf,z2]⟩
   ·cases g11
    exact ⟨_,okv_ok true hu,fun _ _ _ _ _=>by simp[execOp,hxe,Instr.lookup,run_underlying ht,hg,hc,hf]⟩
theorem read_ok {op:Op} {o:VO} (h:coOp1 P vars cur C op=some o) {s:St} {w:World} (hH:HR ρ E s.m w) {v:AV} (hv:readOp bd L F s o=some v):∃ u w',VR ρ E v u∧Gives1 P a op u w w'∧Step ρ E s.m w E s.m w':=by
 cases op with
 | load t x =>
  obtain ⟨k,h1,h⟩:=bind_some h
  split at h
  ·obtain ⟨ox,h2,h⟩:=bind_some h
   cases h
   obtain ⟨u,u1,u2⟩:=lda_ok hO h1 h2 hH hv
   exact ⟨u,w,u1,u2,.refl hH⟩
  ·obtain ⟨ox,h2,h⟩:=bind_some h
   cases h
   obtain ⟨u,u1,u2⟩:=ld_ok hO h1 h2 hH hv
   exact ⟨u,w,u1,u2,.refl hH⟩
 | convert src dst x =>
  obtain ⟨ox,h1,h⟩:=bind_some h
  generalize hs:P.underlying src=d1 at h
  generalize hd:P.underlying dst=d2 at h
  split at h
  ·cases h; cases hv
  ·split at h <;> cases h; cases hv
  ·split at h
   ·rename_i he
    cases h
    obtain ⟨u,u1,u2⟩:=cvs_ok hO hs he hd h1 hH hv
    exact ⟨u,w,u1,u2,.refl hH⟩
   ·cases h
  ·split at h
   ·rename_i he
    cases h
    simp at he
    obtain ⟨rfl,he⟩:=he
    rw[hs] at hd
    cases hd
    exact cve_ok hO hs he h1 hH hv
   ·cases h
  ·cases h
 | lookup t m k ok =>
  simp only[coOp1] at h
  split at h
  ·rename_i kt et ht
   obtain ⟨e,h1,h⟩:=bind_some h
   obtain ⟨z,h2,h⟩:=bind_some h
   obtain ⟨om,h3,h⟩:=bind_some h
   obtain ⟨okk,h4,h⟩:=bind_some h
   cases h
   obtain ⟨u,u1,u2⟩:=lkp_ok hbd hO ht h1 h2 h3 h4 hH hv
   exact ⟨u,w,u1,u2,.refl hH⟩
  ·cases h
 | move x=>obtain ⟨e,h1,h⟩:=bind_some h; cases h; cases hv
 | assign x=>obtain ⟨e,h1,h⟩:=bind_some h; cases h; cases hv
 | pick c x y=>obtain ⟨e,h1,h⟩:=bind_some h; obtain ⟨e,h1,h⟩:=bind_some h; obtain ⟨e,h1,h⟩:=bind_some h; cases h; cases hv
 | alloc t=>obtain ⟨z,h1,h⟩:=bind_some h; cases h; cases hv
 | box t x=>obtain ⟨z,h1,h⟩:=bind_some h; cases h; cases hv
 | build t ps =>
  obtain ⟨z,h1,h⟩:=bind_some h
  split at h
  ·split at h
   ·cases h
   ·obtain ⟨ods,h2,h⟩:=bind_some h
    cases h; cases hv
  ·split at h
   ·obtain ⟨ods,h2,h⟩:=bind_some h
    cases h; cases hv
   ·cases h
  ·cases h
 | buildSlice t n ps =>
  obtain ⟨e,h1,h⟩:=bind_some h
  obtain ⟨n',h2,h⟩:=bind_some h
  obtain ⟨z,h3,h⟩:=bind_some h
  split at h
  ·cases h
  ·obtain ⟨ods,h4,h⟩:=bind_some h
   cases h; cases hv
 | insert t m k x =>
  simp only[coOp1] at h
  split at h
  ·obtain ⟨e,h1,h⟩:=bind_some h
   obtain ⟨e,h1,h⟩:=bind_some h
   obtain ⟨e,h1,h⟩:=bind_some h
   obtain ⟨e,h1,h⟩:=bind_some h
   cases h; cases hv
  ·cases h
 | store t x y =>
  obtain ⟨e,h1,h⟩:=bind_some h
  obtain ⟨e,h1,h⟩:=bind_some h
  obtain ⟨e,h1,h⟩:=bind_some h
  cases h; cases hv
 | nilCheck x=>obtain ⟨ox,h1,h⟩:=bind_some h; cases h; cases hv
 | binOp op T x y T' =>
  obtain ⟨ox,h1,h⟩:=bind_some h
  obtain ⟨oy,h2,h⟩:=bind_some h
  split at h
  ·cases h; cases hv
  ·obtain ⟨k,h3,h⟩:=bind_some h
   split at h <;> cases h <;> cases hv
 | unOp op T x=>obtain ⟨ox,h1,h⟩:=bind_some h; cases h; cases hv
 | makeInterface t x =>
  simp only[coOp1] at h
  split at h
  ·cases h
  ·cases h
  ·obtain ⟨ox,h1,h⟩:=bind_some h
   cases h; cases hv
 | makeFunc fn xs ys =>
  cases fn with
  | func f =>
   obtain ⟨ox,h1,h⟩:=bind_some h
   obtain ⟨oy,h2,h⟩:=bind_some h
   cases h; cases hv
  | _=>cases h
 | makeMap t r=>cases r <;> cases h; cases hv
 | makeSlice t l c =>
  obtain ⟨e,h1,h⟩:=bind_some h
  obtain ⟨z,h2,h⟩:=bind_some h
  obtain ⟨n,h3,h⟩:=bind_some h
  split at h
  ·cases h
  ·obtain ⟨e,h1,h⟩:=bind_some h
   obtain ⟨e,h1,h⟩:=bind_some h
   obtain ⟨e,h1,h⟩:=bind_some h
   obtain ⟨e,h1,h⟩:=bind_some h
   cases h; cases hv
 | slice t x lo hi mx =>
  obtain ⟨ox,h1,h⟩:=bind_some h
  obtain ⟨olo,h2,h⟩:=bind_some h
  obtain ⟨ohi,h3,h⟩:=bind_some h
  obtain ⟨omx,h4,h⟩:=bind_some h
  split at h
  ·cases h
  ·split at h
   ·split at h <;> cases h; cases hv
   ·obtain ⟨sz,h5,h⟩:=bind_some h
    cases h; cases hv
   ·cases h
 | fieldAddr t x f =>
  obtain ⟨fd,h1,h⟩:=bind_some h
  obtain ⟨n,h2,h⟩:=bind_some h
  split at h
  ·cases h
  ·obtain ⟨ox,h3,h⟩:=bind_some h
   cases h; cases hv
 | field t x f =>
  obtain ⟨fd,h1,h⟩:=bind_some h
  obtain ⟨k,h2,h⟩:=bind_some h
  split at h <;> (obtain ⟨ox,h3,h⟩:=bind_some h; cases h; cases hv)
 | indexAddr t x i =>
  simp only[coOp1] at h
  split at h
  ·obtain ⟨sz,h1,h⟩:=bind_some h
   obtain ⟨ox,h2,h⟩:=bind_some h
   obtain ⟨oi,h3,h⟩:=bind_some h
   cases h; cases hv
  ·obtain ⟨sz,h1,h⟩:=bind_some h
   obtain ⟨ox,h2,h⟩:=bind_some h
   obtain ⟨oi,h3,h⟩:=bind_some h
   cases h; cases hv
  ·cases h
 | index t x i =>
  simp only[coOp1] at h
  split at h
  ·obtain ⟨ox,h2,h⟩:=bind_some h
   obtain ⟨oi,h3,h⟩:=bind_some h
   cases h; cases hv
  ·obtain ⟨k,h1,h⟩:=bind_some h
   split at h
   ·obtain ⟨ox,h2,h⟩:=bind_some h
    obtain ⟨oi,h3,h⟩:=bind_some h
    cases h; cases hv
   ·cases h
  ·cases h
 | mapUpdate t m k x =>
  simp only[coOp1] at h
  split at h
  ·obtain ⟨e,h1,h⟩:=bind_some h
   obtain ⟨e,h1,h⟩:=bind_some h
   obtain ⟨e,h1,h⟩:=bind_some h
   obtain ⟨e,h1,h⟩:=bind_some h
   cases h; cases hv
  ·cases h
 | extract x i=>obtain ⟨ox,h1,h⟩:=bind_some h; cases h; cases hv
 | call c =>
  obtain ⟨callee,args,argTypes⟩:=c
  cases callee with
  | value f =>
   obtain ⟨e,h1,h⟩:=bind_some h
   obtain ⟨e,h1,h⟩:=bind_some h
   cases h; cases hv
  | invoke r n=>cases h
  | builtin b =>
   obtain ⟨ods,h1,h⟩:=bind_some h
   obtain ⟨t,h2,h⟩:=bind_some h
   split at h
   ·cases h; cases hv
   ·cases h; cases hv
   ·cases h; cases hv
   ·cases h; cases hv
   ·cases h; cases hv
   ·obtain ⟨e,h3,h⟩:=bind_some h
    obtain ⟨e,h3,h⟩:=bind_some h
    obtain ⟨e,h3,h⟩:=bind_some h
    split at h
    ·obtain ⟨e,h3,h⟩:=bind_some h
     split at h
     ·obtain ⟨e,h3,h⟩:=bind_some h
      cases h; cases hv
     ·cases h
    ·obtain ⟨e,h3,h⟩:=bind_some h
     split at h
     ·cases h; cases hv
     ·cases h
    ·cases h
   ·obtain ⟨e,h3,h⟩:=bind_some h
    obtain ⟨e,h3,h⟩:=bind_some h
    split at h
    ·obtain ⟨e,h3,h⟩:=bind_some h
     obtain ⟨e,h3,h⟩:=bind_some h
     cases h; cases hv
    ·cases h
   ·obtain ⟨e,h3,h⟩:=bind_some h
    cases h; cases hv
   ·cases h
 | _=>cases h
end
def Made (ρ:Nat→Int) (E:Env) (id:Nat) (v:AV) (b:AB) (u:Value) (o:Obj) (B:Nat):Prop :=
 (∃ (c:List AV) (cs:Array Value) (t:TypeId) (fz:Nat×Nat),b = .cells c .own∧o = .cells cs t fz∧(fz.1=fz.2∨cs.size≤fz.1)∧c.length≤cs.size∧(∀ (i:Nat) (y:AV),c[i]?=some y→∃ x,cs[i]?=some x∧VR ρ E y x∧y.scalar=true) ∧
  ∀ E':Env,E'.blk id=some (B,0,cs.size)→VR ρ E' v u) ∨
 (∃ clock,b = .map []∧o = .map #[] clock∧∀ E':Env,E'.mp id=some B→VR ρ E' v u)
theorem made_ok {ρ:Nat→Int} {E:Env} {id:Nat} {v:AV} {b:AB} {u:Value} {o:Obj} {w w':World} {m m1:M} (h:HR ρ E m w) (hm:Made ρ E id v b u o w.heap.size) (hw:w'.heap=w.heap.push o)
  (e1:E.blk id=none) (e2:E.mp id=none) (hid:id<m1.n) (hn:m.n≤m1.n) (hg:∀ j,m1.g j=if j=id then some b else m.g j) :
  ∃ E':Env,E.le E'∧HR ρ E' m1 w'∧VR ρ E' v u∧(∀ j,j≠id→E'.blk j=E.blk j∧E'.mp j=E.mp j)∧(∀ B,Own E' m1 B→Own E m B∨w.heap.size≤B):=by
 have hold:∀ (B:Nat) (x:Obj),w.heap[B]?=some x→w'.heap[B]?=some x:=by
  intro B x hB
  rw[hw,Array.getElem?_push,if_neg (by have:=lt_of_get hB; omega)]
  exact hB
 have hnew:w'.heap[w.heap.size]?=some o:=by rw[hw]; simp
 have hdead:m.g id=none:=by
  cases hg':m.g id with
  | none=>rfl
  | some x =>
   cases x with
   | cells c k=>obtain ⟨B,δ,z,cs,t,fz,q,_⟩:=h.cells id c k hg'; rw[e1] at q; cases q
   | map es=>obtain ⟨R,en,cl,q,_⟩:=h.maps id es hg'; rw[e2] at q; cases q
 have other:∀ j x,j≠id→m1.g j=some x→m.g j=some x:=by
  intro j x hj hx; rw[hg,if_neg hj] at hx; exact hx
 rcases hm with ⟨c,cs,t,fz,rfl,rfl,hfz,hl,hc,hv⟩ | ⟨clock,rfl,rfl,hv⟩
 ·let E':Env:=⟨fun j=>if j=id then some (w.heap.size,0,cs.size) else E.blk j,E.mp⟩
  have hle:E.le E':=⟨fun j x hj=>by
   show (if j=id then _ else _)=_
   rw[if_neg (fun e=>by subst e; rw[e1] at hj; cases hj)]; exact hj,fun _ _ h=>h⟩
  have hE:E'.blk id=some (w.heap.size,0,cs.size):=if_pos rfl
  have hE':∀ j,j≠id→E'.blk j=E.blk j:=fun j hj=>if_neg hj
  have lt:∀ j c k B δ z,m.g j=some (.cells c k)→E.blk j=some (B,δ,z)→B<w.heap.size:=by
   intro j c k B δ z hj hb
   obtain ⟨B',δ',z',cs',t',fz',f1,f2,_⟩:=h.cells j c k hj
   rw[hb] at f1; cases f1
   exact lt_of_get f2
  refine ⟨E',hle,⟨?_,?_,?_,?_,?_⟩,hv E' hE,fun j hj=>⟨hE' j hj,rfl⟩,?_⟩
  ·intro j c' k' hj
   by_cases e:j=id
   ·subst e
    rw[hg,if_pos rfl] at hj
    cases hj
    exact ⟨_,0,cs.size,cs,t,fz,hE,hnew,rfl,.inr hfz,by omega,fun i y hy=>by
     obtain ⟨x,x1,x2,x3⟩:=hc i y hy
     exact ⟨x,x1,x2.mono hle,x3⟩⟩
   ·obtain ⟨B,δ,z,cs',t',fz',f1,f2,f3,f4,f5,f6⟩:=h.cells j c' k' (other j _ e hj)
    exact ⟨B,δ,z,cs',t',fz',by rw[hE' j e]; exact f1,hold _ _ f2,f3,f4,f5,fun i y hy=>by
     obtain ⟨x,x1,x2,x3⟩:=f6 i y hy
     exact ⟨x,x1,x2.mono hle,x3⟩⟩
  ·intro j es hj
   have e:j≠id:=fun e=>by subst e; rw[hg,if_pos rfl] at hj; cases hj
   obtain ⟨R,en,cl,f1,f2,f3⟩:=h.maps j es (other j _ e hj)
   exact ⟨R,en,cl,f1,hold _ _ f2,f3.mono hle⟩
  ·intro j j' c1 c2 k1 k2 B δ z δ' z' hne h1 h2 f1 f2 hk
   by_cases e:j=id
   ·subst e
    rw[hE] at f1; cases f1
    have:=lt j' c2 k2 _ _ _ (other j' _ (Ne.symm hne) h2) (by rw[←hE' j' (Ne.symm hne)]; exact f2)
    omega
   ·by_cases e':j'=id
    ·subst e'
     rw[hE] at f2; cases f2
     have:=lt j c1 k1 _ _ _ (other j _ e h1) (by rw[←hE' j e]; exact f1)
     omega
    ·rw[hE' j e] at f1; rw[hE' j' e'] at f2
     exact h.apart j j' _ _ _ _ _ _ _ _ _ hne (other j _ e h1) (other j' _ e' h2) f1 f2 hk
  ·intro j j' es es' B hne h1 h2 f1
   have e:j≠id:=fun e=>by subst e; rw[hg,if_pos rfl] at h1; cases h1
   have e':j'≠id:=fun e=>by subst e; rw[hg,if_pos rfl] at h2; cases h2
   exact h.mapart j j' es es' B hne (other j _ e h1) (other j' _ e' h2) f1
  ·intro j hj
   rw[hE' j (by omega)]
   exact h.dom j (by omega)
  ·rintro B ⟨j,⟨c',k',δ,z,g1,g2,g3⟩ | ⟨es,g1,g2⟩⟩
   ·by_cases e:j=id
    ·subst e
     rw[hE] at g3; cases g3
     exact .inr (Nat.le_refl _)
    ·exact .inl ⟨j,.inl ⟨c',k',δ,z,other j _ e g1,g2,by rw[←hE' j e]; exact g3⟩⟩
   ·have e:j≠id:=fun e=>by subst e; rw[hg,if_pos rfl] at g1; cases g1
    exact .inl ⟨j,.inr ⟨es,other j _ e g1,g2⟩⟩
 ·let E':Env:=⟨E.blk,fun j=>if j=id then some w.heap.size else E.mp j⟩
  have hle:E.le E':=⟨fun _ _ h=>h,fun j x hj=>by
   show (if j=id then _ else _)=_
   rw[if_neg (fun e=>by subst e; rw[e2] at hj; cases hj)]; exact hj⟩
  have hE:E'.mp id=some w.heap.size:=if_pos rfl
  have hE':∀ j,j≠id→E'.mp j=E.mp j:=fun j hj=>if_neg hj
  have lt:∀ j es B,m.g j=some (.map es)→E.mp j=some B→B<w.heap.size:=by
   intro j es B hj hb
   obtain ⟨R,en,cl,f1,f2,_⟩:=h.maps j es hj
   rw[hb] at f1; cases f1
   exact lt_of_get f2
  refine ⟨E',hle,⟨?_,?_,?_,?_,?_⟩,hv E' hE,fun j hj=>⟨rfl,hE' j hj⟩,?_⟩
  ·intro j c' k' hj
   have e:j≠id:=fun e=>by subst e; rw[hg,if_pos rfl] at hj; cases hj
   obtain ⟨B,δ,z,cs',t',fz',f1,f2,f3,f4,f5,f6⟩:=h.cells j c' k' (other j _ e hj)
   exact ⟨B,δ,z,cs',t',fz',f1,hold _ _ f2,f3,f4,f5,fun i y hy=>by
    obtain ⟨x,x1,x2,x3⟩:=f6 i y hy
    exact ⟨x,x1,x2.mono hle,x3⟩⟩
  ·intro j es hj
   by_cases e:j=id
   ·subst e
    rw[hg,if_pos rfl] at hj
    cases hj
    exact ⟨_,#[],clock,hE,hnew,.nil⟩
   ·obtain ⟨R,en,cl,f1,f2,f3⟩:=h.maps j es (other j _ e hj)
    exact ⟨R,en,cl,by rw[hE' j e]; exact f1,hold _ _ f2,f3.mono hle⟩
  ·intro j j' c1 c2 k1 k2 B δ z δ' z' hne h1 h2 f1 f2 hk
   have e:j≠id:=fun e=>by subst e; rw[hg,if_pos rfl] at h1; cases h1
   have e':j'≠id:=fun e=>by subst e; rw[hg,if_pos rfl] at h2; cases h2
   exact h.apart j j' _ _ _ _ _ _ _ _ _ hne (other j _ e h1) (other j' _ e' h2) f1 f2 hk
  ·intro j j' es es' B hne h1 h2 f1 f2
   by_cases e:j=id
   ·subst e
    rw[hE] at f1; cases f1
    have:=lt j' es' _ (other j' _ (Ne.symm hne) h2) (by rw[←hE' j' (Ne.symm hne)]; exact f2)
    omega
   ·by_cases e':j'=id
    ·subst e'
     rw[hE] at f2; cases f2
     have:=lt j es _ (other j _ e h1) (by rw[←hE' j e]; exact f1)
     omega
    ·rw[hE' j e] at f1; rw[hE' j' e'] at f2
     exact h.mapart j j' es es' B hne (other j _ e h1) (other j' _ e' h2) f1 f2
  ·intro j hj
   rw[hE' j (by omega)]
   exact h.dom j (by omega)
  ·rintro B ⟨j,⟨c',k',δ,z,g1,g2,g3⟩ | ⟨es,g1,g2⟩⟩
   ·have e:j≠id:=fun e=>by subst e; rw[hg,if_pos rfl] at g1; cases g1
    exact .inl ⟨j,.inl ⟨c',k',δ,z,other j _ e g1,g2,g3⟩⟩
   ·by_cases e:j=id
    ·subst e
     rw[hE] at g2; cases g2
     exact .inr (Nat.le_refl _)
    ·exact .inl ⟨j,.inr ⟨es,other j _ e g1,by rw[←hE' j e]; exact g2⟩⟩
theorem new_ok {ρ:Nat→Int} {E:Env} {v:AV} {b:AB} {u:Value} {o:Obj} {w w':World} {s:St} (h:HR ρ E s.m w) (hm:Made ρ E s.next v b u o w.heap.size) (hw:w'.heap=w.heap.push o)
  (h1:w'.os=w.os) (h2:w'.tape=w.tape) (h3:w'.output=w.output):∃ E',VR ρ E' v u∧Step ρ E s.m w E' (s.new b).m w':=by
 obtain ⟨d1,d2⟩:=h.dom s.next (Nat.le_refl _)
 obtain ⟨E',a1,a2,a3,a4,a5⟩:=made_ok h hm hw d1 d2 (m1:=(s.new b).m) (Nat.lt_succ_self _) (Nat.le_succ _) (fun j=>St.m_new s b j)
 refine ⟨E',a3,a1,a2,?_,a5,h1,h2,h3,by rw[hw]; simp,Nat.le_succ _,fun j hj=>a4 j (Nat.ne_of_lt hj),fun j hj h0=>?_,fun j c hj=>?_⟩
 ·intro B hB _
  rw[hw,Array.getElem?_push,if_neg (by omega)]
 ·rw[St.m_new,if_neg (show j≠s.next from Nat.ne_of_lt hj)]; exact h0
 ·rw[St.m_new] at hj
  split at hj
  ·rcases hm with ⟨c',cs,t,fz,rfl,_⟩ | ⟨cl,rfl,_⟩ <;> cases hj
  ·exact hj
section
variable {ρ : Nat → Int} {bd : Bd} (hbd : BdOk ρ bd) {E : Env} {P : Program} {vars : List Nat} {cur : Nat} {C : CE} {L F : LF} {a : Act} (hO : OKs ρ E vars cur C L F a)
def Makes (ρ:Nat→Int) (E:Env) (P:Program) (a:Act) (op:Op) (id:Nat) (v:AV) (b:AB) (w:World):Prop :=
 ∃ u w' o,Gives1 P a op u w w'∧w'.heap=w.heap.push o∧w'.os=w.os∧w'.tape=w.tape∧w'.output=w.output∧Made ρ E id v b u o w.heap.size
theorem cells_made {c:List AV} {xs:List Value} (h:VRs ρ E c xs) (hs:∀ y∈c,y.scalar=true):∀ (i:Nat) (y:AV),c[i]?=some y→∃ x,xs.toArray[i]?=some x∧VR ρ E y x∧y.scalar=true:=by
 intro i y hy
 obtain ⟨x,x1,x2⟩:=h.get i y hy
 exact ⟨x,by simpa using x1,x2,hs y (List.mem_of_getElem? hy)⟩
theorem new_makes {t:TypeId} {z:List AV} (hz:zeroC P t=some z) (id:Nat) (w:World):Makes ρ E P a (.alloc t) id (.ptr id 0) (.cells z .own) w:=by
 obtain ⟨zv,z1,z2,z3⟩:=zeroC_ok (ρ:=ρ) (E:=E) hz
 refine ⟨.pointer (some ⟨w.heap.size,0,none⟩),w.alloc (.cells zv.cells t),.cells zv.cells t,fun _ _ _ _ _=>?_,rfl,rfl,rfl,rfl,Or.inl ⟨z,zv.cells,t,(0,0),rfl,rfl,.inl rfl,?_,?_,?_⟩⟩
 ·simp[execOp,Instr.alloc,z3,newVar,newRow,newObj,Sem.run]
 ·have:=z1.length; simp at this; omega
 ·have:=cells_made z1 z2; simpa using this
 ·intro E' hE; exact .ptr (δ:=0) hE
include hO in
theorem box_makes {t:TypeId} {x:Operand} {ox:Od} (h1:coO vars cur C x=some ox) {id:Nat} {v:AV} {b:AB} (hv:fBox L F id ox=some (v,b)) (w:World):Makes ρ E P a (.box t x) id v b w:=by
 obtain ⟨xv,g1,g2⟩:=ob_eq hv
 obtain ⟨cs,g3,g4⟩:=ob_eq g2
 cases g4
 obtain ⟨c1,c2⟩:=(hO _ _ h1 _ g1).cells g3
 refine ⟨.pointer (some ⟨w.heap.size,0,none⟩),w.alloc (.cells (a.eval x).cells t),.cells (a.eval x).cells t,fun _ _ _ _ _=>?_,rfl,rfl,rfl,rfl,Or.inl ⟨cs,_,t,(0,0),rfl,rfl,.inl rfl,?_,?_,?_⟩⟩
 ·simp[execOp,Instr.box,newVar,newRow,newObj,Sem.run]
 ·have:=c1.length; simp at this; omega
 ·have:=cells_made c1 c2; simpa using this
 ·intro E' hE; exact .ptr (δ:=0) hE
theorem mkm_makes {t:TypeId} (id:Nat) (w:World):Makes ρ E P a (.makeMap t none) id (.mapr id) (.map []) w:=by
 refine ⟨.map (some w.heap.size),w.alloc (.map #[] 0),.map #[] 0,fun _ _ _ _ _=>?_,rfl,rfl,rfl,rfl,Or.inr ⟨0,rfl,rfl,fun E' hE => .mapr hE⟩⟩
 simp[execOp,Instr.makeMap,newObj,Sem.run]
theorem rep_get (z:List AV):∀ (n j:Nat),0<z.length→(Vm.rep n z)[j]?=if j<n*z.length then z[j%z.length]? else none:=by
 intro n
 induction n with
 | zero=>intro j h; simp[Vm.rep]
 | succ n ih =>
  intro j h
  simp only[Vm.rep]
  by_cases hj:j<z.length
  ·rw[List.getElem?_append_left hj,if_pos (by rw[Nat.succ_mul]; omega),Nat.mod_eq_of_lt hj]
  ·rw[List.getElem?_append_right (by omega),ih _ h]
   by_cases hh:j-z.length<n*z.length
   ·rw[if_pos hh,if_pos (by rw[Nat.succ_mul]; omega),show j%z.length=(j-z.length)%z.length from Nat.mod_eq_sub_mod (by omega)]
   ·rw[if_neg hh,if_neg (by rw[Nat.succ_mul]; omega)]
theorem zeros_ok {z:List AV} {zs:Array Value} (h:VRs ρ E z zs.toList) (hs:∀ y∈z,y.scalar=true) (n m:Nat) (hm:m=n*z.length) :
  VRs ρ E (Vm.rep n z) (((Array.range m).map fun i=>((if m=0 then #[] else zs))[i%(if m=0 then #[] else zs).size]!).toList)∧∀ y∈Vm.rep n z,y.scalar=true:=by
 subst hm
 have hl:=h.length
 simp at hl
 refine ⟨VRs.of_get (by simp[rep_length]) fun i y hy=>?_,?_⟩
 ·by_cases hz:z.length=0
  ·have:z=[]:=List.length_eq_zero_iff.1 hz
   subst this
   have:∀ n,Vm.rep n ([]:List AV)=[]:=by intro n; induction n with | zero=>rfl | succ n ih=>simp[Vm.rep,ih]
   rw[this] at hy
   simp at hy
  ·rw[rep_get z n i (by omega)] at hy
   split at hy
   ·rename_i hi
    have hne:n*z.length≠0:=by omega
    obtain ⟨x,x1,x2⟩:=h.get _ _ hy
    refine ⟨x,?_,x2⟩
    have hsz:zs.size=z.length:=by omega
    have hlt:i%z.length<zs.size:=by rw[hsz]; exact Nat.mod_lt _ (by omega)
    simp only[if_neg hne,Array.toList_map,Array.toList_range,List.getElem?_map,List.getElem?_range hi,Option.map_some,hsz]
    simp only[Array.getElem?_toList] at x1
    rw[getElem!_pos zs (i%z.length) hlt]
    rw[Array.getElem?_eq_getElem hlt] at x1
    exact x1
   ·cases hy
 ·intro y hy
  obtain ⟨i,hi⟩:=List.mem_iff_getElem?.1 hy
  by_cases hz:z.length=0
  ·have:z=[]:=List.length_eq_zero_iff.1 hz
   subst this
   have:∀ n,Vm.rep n ([]:List AV)=[]:=by intro n; induction n with | zero=>rfl | succ n ih=>simp[Vm.rep,ih]
   rw[this] at hi
   simp at hi
  ·rw[rep_get z n i (by omega)] at hi
   split at hi
   ·exact hs y (List.mem_of_getElem? hi)
   ·cases hi
include hO in
theorem bsl_makes {t e:TypeId} {len n:Nat} (he:elemT P t=some e) (hn:sizeT P e=some n) {z:List AV} (hz:zeroC P e=some z) (hb:¬(len*n>2^24∨z.length≠n)) {ps:Array (Nat×Operand)} {ods:List (Nat×Nat×Od)}
  (hp:coP vars cur C (ps.toList.map fun (i,x)=>(some (i*n,n),x))=some ods) {id:Nat} {v:AV} {b:AB} (hv:fBsl L F id (Vm.rep len z) len n ods=some (v,b)) (w:World):Makes ρ E P a (.buildSlice t len ps) id v b w:=by
 obtain ⟨vs,g1,g2⟩:=ob_eq hv
 obtain ⟨cs,g3,g4⟩:=ob_eq g2
 cases g4
 obtain ⟨zv,z1,z2,z3⟩:=zeroC_ok (ρ:=ρ) (E:=E) hz
 have hzl:z.length=n:=by
  rcases Nat.lt_trichotomy z.length n with h | h | h
  ·exact absurd (.inr (by omega)) hb
  ·exact h
  ·exact absurd (.inr (by omega)) hb
 obtain ⟨k1,k2⟩:=zeros_ok z1 z2 len (len*n) (by rw[hzl])
 obtain ⟨ys,f1,f2,f3,f4⟩:=fill_ok (place:=fun i=>some (i*n,n)) (coP_ok hO hp g1) k1 k2 g3
 have hys:ys.size=len*n:=by rw[f4]; simp
 refine ⟨.slice (some ⟨w.heap.size,0,none⟩) len len,w.alloc (.cells ys e),.cells ys e,fun _ _ _ _ _=>?_,rfl,rfl,rfl,rfl,Or.inl ⟨cs,ys,e,(0,0),rfl,rfl,.inl rfl,?_,?_,?_⟩⟩
 ·have hle:¬(16777216<len*n):=fun h=>hb (.inl h)
  by_cases hz0:len*n=0
  ·simp[hz0] at f1
   simp[execOp,Instr.buildSlice,run_underlying (elemT_ok he),run_sizeT hn,hle,hz0,f1,newRow,newObj,Sem.run]
  ·simp[hz0] at f1
   simp[execOp,Instr.buildSlice,run_underlying (elemT_ok he),run_sizeT hn,hle,hz0,z3,f1,newRow,newObj,Sem.run]
 ·have:=f2.length; simp at this; omega
 ·have:=cells_made f2 f3; simpa using this
 ·intro E' hE
  exact .sl (δ:=0) hE (Nat.le_refl _) (Nat.le_refl _) (fun _=>rfl) (by rw[hys]; omega)
include hO hbd in
theorem mks_makes {t e:TypeId} {n bs:Nat} (he:elemT P t=some e) (hn:sizeT P e=some n) (hbs:bytesT P e=some bs) {z:List AV} (hz:zeroC P e=some z) (hzl:¬z.length≠n) {l c:Operand} {ol oc:Od} (h1:coO vars cur C l=some ol) (h2:coO vars cur C c=some oc)
  {id:Nat} {v:AV} {b:AB} (hv:fMks L F id bd z n bs ol oc=some (v,b)) (w:World):Makes ρ E P a (.makeSlice t l c) id v b w:=by
 obtain ⟨lv,g1,g2⟩:=ob_eq hv
 obtain ⟨cv,g4,g3⟩:=ob_eq g2
 obtain ⟨k1,x,rfl,g3⟩:=onInt_some g3
 cases x with
 | s ts d =>
  obtain ⟨k2,y,rfl,g5⟩:=onInt_some g3
  obtain ⟨g6,g7⟩:=cnd_some g5
  obtain ⟨g8,g9⟩:=cnd_some (show cnd (sameS (.s ts d) y) _ none=some (v,b) from g7)
  obtain ⟨r,g10,g11⟩:=ob_eq g9
  obtain ⟨g12,g13⟩:=cnd_some g11
  cases g13
  simp only[Bool.and_eq_true,decide_eq_true_eq] at g6 g12
  obtain ⟨⟨r1,r2⟩,r3⟩:=g12
  obtain rfl:k1 = .i64:=ik_inj (k := .i64) g6.1
  obtain rfl:k2 = .i64:=ik_inj (k := .i64) g6.2
  have hl:=hO _ _ h1 _ g1
  have hc:=hO _ _ h2 _ g4
  generalize hle:a.eval l=lx at hl
  generalize hce:a.eval c=cx at hc
  cases hl with | int hl =>
  cases hc with | int hc =>
  rename_i i j
  obtain rfl:=sameS_ok hl hc g8
  obtain ⟨_,b1,b2⟩:=range_full hbd hl g10
  obtain ⟨ln,rfl⟩ : ∃ ln:Nat,i=ln:=⟨i.toNat,by omega⟩
  obtain ⟨zv,z1,z2,z3⟩:=zeroC_ok (ρ:=ρ) (E:=E) hz
  have hzl':z.length=n:=by omega
  have hb:∃ i,P.info? e=some i∧i.bytes=bs:=by
   unfold bytesT at hbs
   split at hbs
   ·rename_i i hi; cases hbs; exact ⟨i,hi,rfl⟩
   ·cases hbs
  obtain ⟨i,hi,rfl⟩:=hb
  have hbl:(i.bytes:Int)*(ln:Int)≤281474976710656:=Int.le_trans (Int.mul_le_mul_of_nonneg_left b2 (Int.natCast_nonneg _)) r2
  have g8':i.bytes*ln≤281474976710656:=by
   have:((i.bytes*ln:Nat):Int)≤281474976710656:=by push_cast; exact hbl
   omega
  have g9':ln≤281474976710656:=by omega
  refine ⟨.slice (some ⟨w.heap.size,0,none⟩) ln ln,w.alloc (.cells ((Array.range (ln*n)).map fun i=>((if ln*n=0 then #[] else zv.cells))[i%(if ln*n=0 then #[] else zv.cells).size]!) e),_,fun _ _ _ _ _=>?_,rfl,rfl,rfl,rfl,
   Or.inl ⟨_,_,e,(0,0),rfl,rfl,.inl rfl,?_,?_,?_⟩⟩
  ·have w1:IntKind.i64.wrap (ln:Int)=ln:=wrap_in (by simp[IntKind.min,IntKind.signed,IntKind.bits] <;> omega) (by simp[IntKind.max,IntKind.signed,IntKind.bits] <;> omega)
   have t1:¬(281474976710656<(i.bytes:Int)*(ln:Int)):=by omega
   have t2:¬((ln:Int)<0):=by omega
   have t3:¬((ln:Int)<(ln:Int)):=by omega
   have hroom:∀ w,(askRoom (ln*i.bytes)).run P w = .ok () w:=by
    intro w; unfold askRoom; split <;> simp[mark,Sem.run]
   by_cases hz0:ln*n=0
   ·simp[execOp,Instr.makeSlice,run_underlying (elemT_ok he),asInt,asIntOf,hle,hce,typeInfo,hi,w1,t1,t2,t3,hroom,run_sizeT hn,hz0,newRow,newObj,Sem.run]
   ·simp[execOp,Instr.makeSlice,run_underlying (elemT_ok he),asInt,asIntOf,hle,hce,typeInfo,hi,w1,t1,t2,t3,hroom,run_sizeT hn,hz0,z3,newRow,newObj,Sem.run]
  ·exact Nat.zero_le _
  ·intro j y hy; simp at hy
  ·intro E' hE
   exact .arg hE hl (Nat.zero_le _) (Nat.le_refl _) (by simp)
 | c m =>
 obtain ⟨kk,ln,hlv,g3⟩:=onNat_some (show (AV.int k1 (.c m)).onNat (fun l=>cv.onNat (fun c =>
  cnd (Nat.ble l c&&Nat.ble (bs*c) 281474976710656&&Nat.ble c 281474976710656) (some (AV.sl id 0 l c true n,AB.cells (rep c z) .own)) none) none) none=some (v,b) from g3)
 rw[hlv] at g1
 obtain ⟨k2,cn,rfl,g6⟩:=onNat_some g3
 obtain ⟨g7,g8⟩:=cnd_some g6
 cases g8
 simp at g7
 obtain ⟨⟨g7,g8⟩,g9⟩:=g7
 have hl:=(hO _ _ h1 _ g1).nat_inv
 have hc:=(hO _ _ h2 _ g4).nat_inv
 obtain ⟨zv,z1,z2,z3⟩:=zeroC_ok (ρ:=ρ) (E:=E) hz
 have hzl':z.length=n:=by omega
 obtain ⟨q1,q2⟩:=zeros_ok z1 z2 cn (cn*n) (by rw[hzl'])
 have hb:∃ i,P.info? e=some i∧i.bytes=bs:=by
  unfold bytesT at hbs
  split at hbs
  ·rename_i i hi; cases hbs; exact ⟨i,hi,rfl⟩
  ·cases hbs
 obtain ⟨i,hi,rfl⟩:=hb
 refine ⟨.slice (some ⟨w.heap.size,0,none⟩) ln cn,w.alloc (.cells ((Array.range (cn*n)).map fun i=>((if cn*n=0 then #[] else zv.cells))[i%(if cn*n=0 then #[] else zv.cells).size]!) e),_,fun _ _ _ _ _=>?_,rfl,rfl,rfl,rfl,
  Or.inl ⟨_,_,e,(0,0),rfl,rfl,.inl rfl,?_,?_,?_⟩⟩
 ·have w1:IntKind.i64.wrap (ln:Int)=ln:=wrap_in (by simp[IntKind.min,IntKind.signed,IntKind.bits] <;> omega) (by simp[IntKind.max,IntKind.signed,IntKind.bits] <;> omega)
  have w2:IntKind.i64.wrap (cn:Int)=cn:=wrap_in (by simp[IntKind.min,IntKind.signed,IntKind.bits] <;> omega) (by simp[IntKind.max,IntKind.signed,IntKind.bits] <;> omega)
  have t1:¬(281474976710656<(i.bytes:Int)*(cn:Int)):=by
   have:((i.bytes*cn:Nat):Int)≤281474976710656:=by omega
   push_cast at this
   omega
  have t2:¬((ln:Int)<0):=by omega
  have t3:¬((cn:Int)<(ln:Int)):=by omega
  have t4:¬((cn:Int)<0):=by omega
  have hroom:∀ w,(askRoom (cn*i.bytes)).run P w = .ok () w:=by
   intro w; unfold askRoom; split <;> simp[mark,Sem.run]
  by_cases hz0:cn*n=0
  ·simp[execOp,Instr.makeSlice,run_underlying (elemT_ok he),asInt,asIntOf,hl,hc,typeInfo,hi,w1,w2,t1,t2,t3,t4,g7,hroom,run_sizeT hn,hz0,newRow,newObj,Sem.run]
  ·simp[execOp,Instr.makeSlice,run_underlying (elemT_ok he),asInt,asIntOf,hl,hc,typeInfo,hi,w1,w2,t1,t2,t3,t4,g7,hroom,run_sizeT hn,hz0,z3,newRow,newObj,Sem.run]
 ·have:=q1.length; simp[rep_length] at this ⊢; rw[hzl']; omega
 ·intro j y hy
  obtain ⟨x,x1,x2,x3⟩:=cells_made q1 q2 j y hy
  exact ⟨x,by rw[Array.toArray_toList] at x1; exact x1,x2,x3⟩
 ·intro E' hE
  exact .sl (δ:=0) hE g7 (Nat.le_refl _) (fun _=>rfl) (by simp)
include hO in
theorem cvb_makes {src dst e:TypeId} (hs:P.underlying src=some .string) (hd:P.underlying dst=some (.slice e)) (he:isU8 P e=true) {x:Operand} {ox:Od} (h1:coO vars cur C x=some ox)
  {id:Nat} {v:AV} {b:AB} (hv:fCvb L F id ox=some (v,b)) (w:World):Makes ρ E P a (.convert src dst x) id v b w:=by
 have he':P.underlying e=some (.int .u8):=by
  unfold isU8 at he
  split at he
  ·assumption
  ·cases he
 obtain ⟨xv,g1,g2⟩:=ob_eq hv
 obtain ⟨l,rfl,g3⟩:=onStr_some g2
 cases g3
 have hx:=hO _ _ h1 _ g1
 generalize hxe:a.eval x=xe at hx
 cases hx with | str hsr =>
 rename_i s
 have hlen:s.size=l.length:=by
  have:∀ {l:List AI} {m:List UInt8},SR ρ l m→m.length=l.length:=by
   intro l m h; induction h with
   | nil=>rfl
   | cons _ _ ih=>simp[ih]
  have:=this hsr
  simpa using this
 let cap:Nat:=s.size+w.tape w.drawn (.appendCap s.size 0 e)%(2^63-s.size)
 let arr:Array Value:=(s.data.map fun b=>Value.int .u8 (b.toNat:Int))++Array.replicate (cap-s.size) (.int .u8 0)
 have hsd:s.data.size=s.size:=rfl
 have harr:arr.size=cap:=by
  have:s.size≤cap:=Nat.le_add_right _ _
  simp[arr,hsd]; omega
 refine ⟨.slice (some ⟨w.heap.size,0,none⟩) s.size cap,{ w.drew with heap:=w.heap.push (.cells arr e (arr.size,arr.size+1)) },.cells arr e (arr.size,arr.size+1),fun _ _ _ _ _=>?_,rfl,rfl,rfl,rfl,
  Or.inl ⟨_,arr,e,_,rfl,rfl,.inr (Nat.le_refl _),?_,?_,?_⟩⟩
 ·have hf:(w.drew.alloc (.cells arr e)).freeze { block:=w.heap.size,off:=arr.size } 1={ w.drew with heap:=w.heap.push (.cells arr e (arr.size,arr.size+1)) }:=by
   unfold World.freeze
   rw[if_neg (by decide)]
   show World.mk ((w.heap.push (.cells arr e)).modify w.heap.size _) w.tape (w.drawn+1) w.os w.output=World.mk (w.heap.push (.cells arr e (arr.size,arr.size+1))) w.tape (w.drawn+1) w.os w.output
   congr 1
   apply Array.ext_getElem?
   intro j
   rw[Array.getElem?_modify]
   by_cases hj:w.heap.size=j
   ·subst hj; simp
   ·rw[if_neg hj]
    simp only[Array.getElem?_push]
    rw[if_neg (fun h=>hj h.symm),if_neg (fun h=>hj h.symm)]
  have hm:(markStringish ⟨w.heap.size,0,none⟩).run P (w.drew.alloc (.cells arr e)) = .ok () { w.drew with heap:=w.heap.push (.cells arr e (arr.size,arr.size+1)) }:=by
   have hs':(w.drew.alloc (.cells arr e)).shape? w.heap.size=some (e,arr.size):=by
    have:(w.drew.alloc (.cells arr e)).heap[w.heap.size]?=some (.cells arr e):=by
     show (w.heap.push (.cells arr e))[w.heap.size]?=_
     simp
    unfold World.shape?
    rw[this]
   simp only[markStringish,shape,freeze,Sem.run_bind,Sem.run,hs',Result.andThen_ok,hf]
  simp only[execOp,hxe,convert,Sem.run_bind,run_underlying hs,run_underlying hd,Result.andThen_ok,run_underlying he',Conv.stringToBytes,choose,Sem.run,Question.forced,Question.cut,newRow,newObj]
  simp only[Bool.false_eq_true,↓reduceIte,Result.andThen_ok,Sem.run_pure]
  change (((Sem.run P (markStringish ⟨w.heap.size,0,none⟩) (w.drew.alloc (.cells arr e))).andThen fun _ w'=>Result.ok (Value.slice (some ⟨w.heap.size,0,none⟩) s.size cap) w').andThen fun a w'=>Result.ok (Next.value a) w')=_
  rw[hm]
  rfl
 ·have:(ofBytes l).length=l.length:=by
   clear hsr hlen g1 hv g2
   induction l with
   | nil=>rfl
   | cons n l ih=>simp[ofBytes,ih]
  rw[this,harr]; exact Nat.le_trans (Nat.le_of_eq hlen.symm) (Nat.le_add_right _ _)
 ·intro i y hy
  have key:∀ {l:List AI} {m:List UInt8},SR ρ l m→∀ (i:Nat) (y:AV),(ofBytes l)[i]?=some y→∃ c,m[i]?=some c∧VR ρ E y (.int .u8 (c.toNat:Int))∧y.scalar=true:=by
   intro l m h
   induction h with
   | nil=>intro i y hy; simp[ofBytes] at hy
   | cons h1 _ ih =>
    intro i y hy
    cases i with
    | zero=>simp[ofBytes] at hy; subst hy; exact ⟨_,rfl,.int h1,rfl⟩
    | succ i=>exact ih i y (by simpa [ofBytes] using hy)
  obtain ⟨c,c1,c2,c3⟩:=key hsr i y hy
  have c1':s.data[i]?=some c:=by simpa using c1
  have hi:i<s.data.size:=lt_of_get c1'
  refine ⟨.int .u8 (c.toNat:Int),?_,c2,c3⟩
  simp only[arr]
  rw[Array.getElem?_append_left (by simpa using hi)]
  simp[c1']
 ·intro E' hE
  rw[lenL_eq,←hlen]
  exact .sl (δ:=0) hE (Nat.le_refl _) (Nat.le_add_right _ _) (by simp) (by simp[harr])
include hbd in
theorem fresh_ok (hO:OKs ρ E vars cur C L F a) {op:Op} {o:VO} (h:coOp1 P vars cur C op=some o) {id:Nat} {v:AV} {b:AB} (hv:freshOp bd L F id o=some (v,b)) (w:World):Makes ρ E P a op id v b w:=by
 cases op with
 | alloc t=>obtain ⟨z,h1,h⟩:=bind_some h; cases h; cases hv; exact new_makes h1 _ w
 | box t x=>obtain ⟨z,h1,h⟩:=bind_some h; cases h; exact box_makes hO h1 hv w
 | buildSlice t n ps =>
  obtain ⟨e,h1,h⟩:=bind_some h
  obtain ⟨n',h2,h⟩:=bind_some h
  obtain ⟨z,h3,h⟩:=bind_some h
  split at h
  ·cases h
  ·rename_i hb
   obtain ⟨ods,h4,h⟩:=bind_some h
   cases h
   exact bsl_makes hO h1 h2 h3 hb h4 hv w
 | convert src dst x =>
  obtain ⟨ox,h1,h⟩:=bind_some h
  generalize hs:P.underlying src=d1 at h
  generalize hd:P.underlying dst=d2 at h
  split at h
  ·cases h; cases hv
  ·split at h
   ·rename_i he
    cases h
    exact cvb_makes hO hs hd he h1 hv w
   ·cases h
  ·split at h <;> cases h; cases hv
  ·split at h <;> cases h; cases hv
  ·cases h
 | makeMap t r=>cases r <;> cases h; cases hv; exact mkm_makes _ w
 | makeSlice t l c =>
  obtain ⟨e,h1,h⟩:=bind_some h
  obtain ⟨z,h2,h⟩:=bind_some h
  obtain ⟨n,h3,h⟩:=bind_some h
  split at h
  ·cases h
  ·rename_i hz
   obtain ⟨n',h4,h⟩:=bind_some h
   obtain ⟨bs,h5,h⟩:=bind_some h
   obtain ⟨ol,h6,h⟩:=bind_some h
   obtain ⟨oc,h7,h⟩:=bind_some h
   cases h
   have:n=n':=by rw[h3] at h4; exact Option.some.inj h4
   subst this
   exact mks_makes hbd hO h1 h3 h5 h2 hz h6 h7 hv w
 | move x=>obtain ⟨e,h1,h⟩:=bind_some h; cases h; cases hv
 | assign x=>obtain ⟨e,h1,h⟩:=bind_some h; cases h; cases hv
 | pick c x y=>obtain ⟨e,h1,h⟩:=bind_some h; obtain ⟨e,h1,h⟩:=bind_some h; obtain ⟨e,h1,h⟩:=bind_some h; cases h; cases hv
 | build t ps =>
  obtain ⟨z,h1,h⟩:=bind_some h
  split at h
  ·split at h
   ·cases h
   ·obtain ⟨ods,h2,h⟩:=bind_some h
    cases h; cases hv
  ·split at h
   ·obtain ⟨ods,h2,h⟩:=bind_some h
    cases h; cases hv
   ·cases h
  ·cases h
 | insert t m k x =>
  simp only[coOp1] at h
  split at h
  ·obtain ⟨e,h1,h⟩:=bind_some h
   obtain ⟨e,h1,h⟩:=bind_some h
   obtain ⟨e,h1,h⟩:=bind_some h
   obtain ⟨e,h1,h⟩:=bind_some h
   cases h; cases hv
  ·cases h
 | load t x =>
  obtain ⟨e,h1,h⟩:=bind_some h
  split at h <;> (obtain ⟨e,h1,h⟩:=bind_some h; cases h; cases hv)
 | store t x y =>
  obtain ⟨e,h1,h⟩:=bind_some h
  obtain ⟨e,h1,h⟩:=bind_some h
  obtain ⟨e,h1,h⟩:=bind_some h
  cases h; cases hv
 | nilCheck x=>obtain ⟨ox,h1,h⟩:=bind_some h; cases h; cases hv
 | binOp op T x y T' =>
  obtain ⟨ox,h1,h⟩:=bind_some h
  obtain ⟨oy,h2,h⟩:=bind_some h
  split at h
  ·cases h; cases hv
  ·obtain ⟨k,h3,h⟩:=bind_some h
   split at h <;> cases h <;> cases hv
 | unOp op T x=>obtain ⟨ox,h1,h⟩:=bind_some h; cases h; cases hv
 | makeInterface t x =>
  simp only[coOp1] at h
  split at h
  ·cases h
  ·cases h
  ·obtain ⟨ox,h1,h⟩:=bind_some h
   cases h; cases hv
 | makeFunc fn xs ys =>
  cases fn with
  | func f =>
   obtain ⟨ox,h1,h⟩:=bind_some h
   obtain ⟨oy,h2,h⟩:=bind_some h
   cases h; cases hv
  | _=>cases h
 | slice t x lo hi mx =>
  obtain ⟨ox,h1,h⟩:=bind_some h
  obtain ⟨olo,h2,h⟩:=bind_some h
  obtain ⟨ohi,h3,h⟩:=bind_some h
  obtain ⟨omx,h4,h⟩:=bind_some h
  split at h
  ·cases h
  ·split at h
   ·split at h <;> cases h; cases hv
   ·obtain ⟨sz,h5,h⟩:=bind_some h
    cases h; cases hv
   ·cases h
 | fieldAddr t x f =>
  obtain ⟨fd,h1,h⟩:=bind_some h
  obtain ⟨n,h2,h⟩:=bind_some h
  split at h
  ·cases h
  ·obtain ⟨ox,h3,h⟩:=bind_some h
   cases h; cases hv
 | field t x f =>
  obtain ⟨fd,h1,h⟩:=bind_some h
  obtain ⟨k,h2,h⟩:=bind_some h
  split at h <;> (obtain ⟨ox,h3,h⟩:=bind_some h; cases h; cases hv)
 | indexAddr t x i =>
  simp only[coOp1] at h
  split at h
  ·obtain ⟨sz,h1,h⟩:=bind_some h
   obtain ⟨ox,h2,h⟩:=bind_some h
   obtain ⟨oi,h3,h⟩:=bind_some h
   cases h; cases hv
  ·obtain ⟨sz,h1,h⟩:=bind_some h
   obtain ⟨ox,h2,h⟩:=bind_some h
   obtain ⟨oi,h3,h⟩:=bind_some h
   cases h; cases hv
  ·cases h
 | index t x i =>
  simp only[coOp1] at h
  split at h
  ·obtain ⟨ox,h2,h⟩:=bind_some h
   obtain ⟨oi,h3,h⟩:=bind_some h
   cases h; cases hv
  ·obtain ⟨k,h1,h⟩:=bind_some h
   split at h
   ·obtain ⟨ox,h2,h⟩:=bind_some h
    obtain ⟨oi,h3,h⟩:=bind_some h
    cases h; cases hv
   ·cases h
  ·cases h
 | lookup t m k ok =>
  simp only[coOp1] at h
  split at h
  ·obtain ⟨e,h1,h⟩:=bind_some h
   obtain ⟨e,h1,h⟩:=bind_some h
   obtain ⟨e,h1,h⟩:=bind_some h
   obtain ⟨e,h1,h⟩:=bind_some h
   cases h; cases hv
  ·cases h
 | mapUpdate t m k x =>
  simp only[coOp1] at h
  split at h
  ·obtain ⟨e,h1,h⟩:=bind_some h
   obtain ⟨e,h1,h⟩:=bind_some h
   obtain ⟨e,h1,h⟩:=bind_some h
   obtain ⟨e,h1,h⟩:=bind_some h
   cases h; cases hv
  ·cases h
 | extract x i=>obtain ⟨ox,h1,h⟩:=bind_some h; cases h; cases hv
 | call c =>
  obtain ⟨callee,args,argTypes⟩:=c
  cases callee with
  | value f =>
   obtain ⟨e,h1,h⟩:=bind_some h
   obtain ⟨e,h1,h⟩:=bind_some h
   cases h; cases hv
  | invoke r n=>cases h
  | builtin b =>
   obtain ⟨ods,h1,h⟩:=bind_some h
   obtain ⟨t,h2,h⟩:=bind_some h
   split at h
   ·cases h; cases hv
   ·cases h; cases hv
   ·cases h; cases hv
   ·cases h; cases hv
   ·cases h; cases hv
   ·obtain ⟨e,h3,h⟩:=bind_some h
    obtain ⟨e,h3,h⟩:=bind_some h
    obtain ⟨e,h3,h⟩:=bind_some h
    split at h
    ·obtain ⟨e,h3,h⟩:=bind_some h
     split at h
     ·obtain ⟨e,h3,h⟩:=bind_some h
      cases h; cases hv
     ·cases h
    ·obtain ⟨e,h3,h⟩:=bind_some h
     split at h
     ·cases h; cases hv
     ·cases h
    ·cases h
   ·obtain ⟨e,h3,h⟩:=bind_some h
    obtain ⟨e,h3,h⟩:=bind_some h
    split at h
    ·obtain ⟨e,h3,h⟩:=bind_some h
     obtain ⟨e,h3,h⟩:=bind_some h
     cases h; cases hv
    ·cases h
   ·obtain ⟨e,h3,h⟩:=bind_some h
    cases h; cases hv
   ·cases h
 | _=>cases h
end
end Go.Vm
