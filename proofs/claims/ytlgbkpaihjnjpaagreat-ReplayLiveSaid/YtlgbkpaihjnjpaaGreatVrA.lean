/- An interpreter over a memory of which part is known, the function that compiles the program's code for it, and what its values and memory stand for. -/
import GoSem.Dispatch
import Derived.Orders
import Derived.Laws.Sem
import Derived.Laws.World
import Derived.Below
import Derived.LoopN
import Derived.Laws.Cells
import Derived.RowKit
import Derived.Laws.StructEq
import Derived.Laws.Entries
import Derived.Calls
import Derived.Laws.Slices
set_option linter.unusedVariables false
set_option linter.unusedSimpArgs false
set_option linter.unusedSectionVars false
set_option linter.constructorNameAsVariable false
set_option linter.defProp false
namespace Go.Vm
inductive Tr (α:Type) where
 | e
 | n (l:Tr α) (v:Option α) (r:Tr α)
noncomputable def Tr.get {α:Type} (t:Tr α) (k:Nat):Option α :=
 Tr.rec (motive:=fun _=>Nat→Option α) (fun _=>none)
  (fun _ v _ il ir k=>Nat.rec (motive:=fun _=>Option α) v (fun j _=>Nat.rec (motive:=fun _=>Option α) (il (Nat.div j 2)) (fun _ _=>ir (Nat.div j 2)) (Nat.land j 1)) k) t k
noncomputable def Tr.set {α:Type} (x:Option α) (f:Nat):Tr α→Nat→Tr α :=
 Nat.rec (motive:=fun _=>Tr α→Nat→Tr α) (fun t _=>t)
  (fun _ ih t k=>Tr.rec (motive:=fun _=>Tr α)
   (Nat.rec (motive:=fun _=>Tr α) (.n .e x .e) (fun j _=>Nat.rec (motive:=fun _=>Tr α) (.n (ih .e (Nat.div j 2)) none .e) (fun _ _ => .n .e none (ih .e (Nat.div j 2))) (Nat.land j 1)) k)
   (fun l v r _ _=>Nat.rec (motive:=fun _=>Tr α) (.n l x r) (fun j _=>Nat.rec (motive:=fun _=>Tr α) (.n (ih l (Nat.div j 2)) v r) (fun _ _ => .n l v (ih r (Nat.div j 2))) (Nat.land j 1)) k) t) f
inductive AI where
 | c (n:Int)
 | s (ts:List (Nat×Int)) (d:Int)
inductive AV where
 | bool (b:Bool)
 | int (k:IntKind) (n:AI)
 | str (s:List AI)
 | nilp
 | ptr (b off:Nat)
 | nils
 | sl (b off len lo:Nat) (ex:Bool) (sz:Nat)
 | emp
 | mapr (r:Nat)
 | nilm
 | fn (f:FuncId) (first captured:List AV)
 | nilf
 | iface (t:TypeId) (v:AV)
 | nili
 | agg (cs:List AV)
 | tup (vs:List AV)
inductive BK where
 | own
 | mate (m:Nat)
 | ro
 deriving DecidableEq
inductive AB where
 | cells (c:List AV) (k:BK)
 | map (es:List (AV×AV))
structure St where
 heap:Tr AB
 next:Nat
section
variable {α : Type}
noncomputable def AV.onBool (v:AV) (k:Bool→α) (d:α):α:=AV.casesOn (motive_1:=fun _=>α) v k (fun _ _=>d) (fun _=>d) d (fun _ _=>d) d (fun _ _ _ _ _ _=>d) d (fun _=>d) d (fun _ _ _=>d) d (fun _ _=>d) d (fun _=>d) (fun _=>d)
noncomputable def AV.onInt (v:AV) (k:IntKind→AI→α) (d:α):α:=AV.casesOn (motive_1:=fun _=>α) v (fun _=>d) k (fun _=>d) d (fun _ _=>d) d (fun _ _ _ _ _ _=>d) d (fun _=>d) d (fun _ _ _=>d) d (fun _ _=>d) d (fun _=>d) (fun _=>d)
noncomputable def AV.onStr (v:AV) (k:List AI→α) (d:α):α:=AV.casesOn (motive_1:=fun _=>α) v (fun _=>d) (fun _ _=>d) k d (fun _ _=>d) d (fun _ _ _ _ _ _=>d) d (fun _=>d) d (fun _ _ _=>d) d (fun _ _=>d) d (fun _=>d) (fun _=>d)
noncomputable def AV.onPtr (v:AV) (k:Nat→Nat→α) (d:α):α:=AV.casesOn (motive_1:=fun _=>α) v (fun _=>d) (fun _ _=>d) (fun _=>d) d k d (fun _ _ _ _ _ _=>d) d (fun _=>d) d (fun _ _ _=>d) d (fun _ _=>d) d (fun _=>d) (fun _=>d)
noncomputable def AV.onSl (v:AV) (k:Nat→Nat→Nat→Nat→Bool→Nat→α) (d:α):α:=AV.casesOn (motive_1:=fun _=>α) v (fun _=>d) (fun _ _=>d) (fun _=>d) d (fun _ _=>d) d k d (fun _=>d) d (fun _ _ _=>d) d (fun _ _=>d) d (fun _=>d) (fun _=>d)
noncomputable def AV.onSlice (v:AV) (n:α) (k:Nat→Nat→Nat→Nat→Bool→Nat→α) (e:α) (d:α):α:=AV.casesOn (motive_1:=fun _=>α) v (fun _=>d) (fun _ _=>d) (fun _=>d) d (fun _ _=>d) n k e (fun _=>d) d (fun _ _ _=>d) d (fun _ _=>d) d (fun _=>d) (fun _=>d)
noncomputable def AV.onMap (v:AV) (n:α) (k:Nat→α) (d:α):α:=AV.casesOn (motive_1:=fun _=>α) v (fun _=>d) (fun _ _=>d) (fun _=>d) d (fun _ _=>d) d (fun _ _ _ _ _ _=>d) d k n (fun _ _ _=>d) d (fun _ _=>d) d (fun _=>d) (fun _=>d)
noncomputable def AV.onFn (v:AV) (k:FuncId→List AV→List AV→α) (d:α):α:=AV.casesOn (motive_1:=fun _=>α) v (fun _=>d) (fun _ _=>d) (fun _=>d) d (fun _ _=>d) d (fun _ _ _ _ _ _=>d) d (fun _=>d) d k d (fun _ _=>d) d (fun _=>d) (fun _=>d)
noncomputable def AV.onAgg (v:AV) (k:List AV→α) (d:α):α:=AV.casesOn (motive_1:=fun _=>α) v (fun _=>d) (fun _ _=>d) (fun _=>d) d (fun _ _=>d) d (fun _ _ _ _ _ _=>d) d (fun _=>d) d (fun _ _ _=>d) d (fun _ _=>d) d k (fun _=>d)
noncomputable def AV.onTup (v:AV) (k:List AV→α) (d:α):α:=AV.casesOn (motive_1:=fun _=>α) v (fun _=>d) (fun _ _=>d) (fun _=>d) d (fun _ _=>d) d (fun _ _ _ _ _ _=>d) d (fun _=>d) d (fun _ _ _=>d) d (fun _ _=>d) d (fun _=>d) k
noncomputable def AI.onC (v:AI) (k:Int→α) (d:α):α:=AI.casesOn v k (fun _ _=>d)
noncomputable def AB.onCells (v:AB) (k:List AV→BK→α) (d:α):α:=AB.casesOn v k (fun _=>d)
noncomputable def AB.onMap (v:AB) (k:List (AV×AV)→α) (d:α):α:=AB.casesOn v (fun _ _=>d) k
noncomputable def AV.onNat (v:AV) (k:Nat→α) (d:α):α:=v.onInt (fun _ n=>n.onC (fun m=>Int.casesOn m k (fun _=>d)) d) d
noncomputable def ob {β:Type} (x:Option β) (k:β→Option α):Option α:=Option.rec (motive:=fun _=>Option α) none k x
end
inductive Od where
 | t (i:Nat)
 | w (i:Nat)
 | c (v:AV)
inductive EK where
 | i | b | s | p | l
 | st (fs:List Nat)
inductive VO where
 | mv (x:Od)
 | pick (c a b:Od)
 | new (z:List AV)
 | box (x:Od)
 | build (z:List AV) (ps:List (Nat×Nat×Od))
 | bsl (z:List AV) (len sz:Nat) (ps:List (Nat×Nat×Od))
 | ld (x:Od)
 | lda (n:Nat) (x:Od)
 | st (n:Nat) (x v:Od)
 | nilc (x:Od)
 | bin (op:BinOp) (x y:Od)
 | eq (neg:Bool) (k:EK) (x y:Od)
 | un (op:UnOp) (x:Od)
 | cvi (k:IntKind) (x:Od)
 | cvs (x:Od)
 | cvb (x:Od)
 | cve (x:Od)
 | mki (t:TypeId) (x:Od)
 | mkf (f:FuncId) (first cap:List Od)
 | mkm
 | mks (z:List AV) (sz bytes:Nat) (l c:Od)
 | sli (sz:Nat) (x:Od) (lo hi mx:Option Od)
 | sls (x:Od) (lo hi:Option Od)
 | fa (off:Nat) (x:Od)
 | fld (off:Nat) (x:Od)
 | flda (off n:Nat) (x:Od)
 | ia (sz:Nat) (x i:Od)
 | iar (n sz:Nat) (x i:Od)
 | ixs (x i:Od)
 | ixa (n:Nat) (x i:Od)
 | ext (i:Nat) (x:Od)
 | call (f:Od) (args:List Od)
 | len (x:Od)
 | lens (x:Od)
 | cap (x:Od)
 | mx (xs:List Od)
 | mn (xs:List Od)
 | app (sz bytes:Nat) (x y:Od)
 | apz (sz bytes:Nat) (z:List AV) (x n:Od)
 | clr (sz:Nat) (z:List AV) (x:Od)
 | cpy (sz:Nat) (x y:Od)
 | lkp (e:EK) (z:AV) (ok:Bool) (m k:Od)
 | mup (e:EK) (m k v:Od)
inductive VI where
 | i (o:VO)
 | g (j:Od) (want:Bool) (o:VO)
structure WI where
 lo:Nat
 hi:Nat
 bits:Nat
inductive VC where
 | skip
 | seq (a b:VC)
 | reg (ops:List VI) (keep:List (Nat×Od))
 | drw (ops:List VI) (keep:List (Nat×Od)) (wins:List WI) (nf:Nat)
 | two (a b:VC)
 | cond (c:Od) (a b:VC)
 | block (id:Nat) (c:VC)
 | loop (c:VC)
 | exit (id:Nat)
 | ret
inductive RV where
 | tmp (i:Nat)
 | ld (i:Nat)
 | lda (n i:Nat)
inductive Out where
 | v (x:AV) (s:St)
 | u (s:St)
 | bad (n:Nat) (tr:List Nat)
inductive VF where
 | code (params:Nat) (vars:List Nat) (c:VC) (res:List RV)
 | hook (h:List AV→Option AV)
 | atom (k:Nat)
 | act (h:List AV→St→Out)
abbrev LF:=List (Option AV)
noncomputable def nth {α:Type} (l:List α) (i:Nat):Option α :=
 List.rec (motive:=fun _=>Nat→Option α) (fun _=>none) (fun x _ ih i=>Nat.rec (motive:=fun _=>Option α) (some x) (fun j _=>ih j) i) l i
noncomputable def nthO (l:LF) (i:Nat):Option AV :=
 List.rec (motive:=fun _=>Nat→Option AV) (fun _=>none) (fun x _ ih i=>Nat.rec (motive:=fun _=>Option AV) x (fun j _=>ih j) i) l i
noncomputable def setN (l:LF):Nat→Option AV→LF :=
 List.rec (motive:=fun _=>Nat→Option AV→LF) (fun _ _=>[]) (fun x l ih i v=>Nat.rec (motive:=fun _=>LF) (v::l) (fun j _=>x::ih j v) i) l
noncomputable def ev (L F:LF) (o:Od):Option AV:=Od.rec (motive:=fun _=>Option AV) (nthO L) (nthO F) some o
noncomputable def evs (L F:LF) (l:List Od):Option (List AV) :=
 List.rec (motive:=fun _=>Option (List AV)) (some []) (fun o _ ih=>ob (ev L F o) fun v=>ob ih fun vs=>some (v::vs)) l
noncomputable def evp (L F:LF) (l:List (Nat×Nat×Od)):Option (List (Nat×Nat×AV)) :=
 List.rec (motive:=fun _=>Option (List (Nat×Nat×AV))) (some []) (fun o _ ih=>ob (ev L F o.2.2) fun v=>ob ih fun vs=>some ((o.1,o.2.1,v)::vs)) l
noncomputable def evo (L F:LF) (o:Option Od):Option (Option AV):=Option.casesOn o (some none) fun o=>ob (ev L F o) fun v=>some (some v)
noncomputable def AV.cells (v:AV):Option (List AV):=v.onAgg (fun cs=>some cs) (v.onTup (fun _=>none) (some [v]))
noncomputable def St.new (s:St) (b:AB):St:=⟨Tr.set (some b) (s.next+1) s.heap s.next,s.next+1⟩
noncomputable def St.put (s:St) (k:Nat) (b:Option AB):St:=⟨Tr.set b (k+1) s.heap k,s.next⟩
noncomputable def lenL {α:Type} (l:List α):Nat:=List.rec (motive:=fun _=>Nat) 0 (fun _ _ ih=>Nat.add ih 1) l
noncomputable def setL:List AV→Nat→List AV→Option (List AV)
 | l,_,[]=>some l
 | [],_,_::_=>none
 | _::l,0,y::ys=>ob (setL l 0 ys) fun r=>some (y::r)
 | x::l,i+1,y::ys=>ob (setL l i (y::ys)) fun r=>some (x::r)
noncomputable def setX:List AV→Nat→List AV→Option (List AV)
 | l,_,[]=>some l
 | [],0,y::ys=>some (y::ys)
 | [],_+1,_::_=>none
 | _::l,0,y::ys=>ob (setX l 0 ys) fun r=>some (y::r)
 | x::l,i+1,y::ys=>ob (setX l i (y::ys)) fun r=>some (x::r)
noncomputable def takeN (n:Nat) (l:List AV):Option (List AV) :=
 Nat.rec (motive:=fun _=>List AV→Option (List AV)) (fun _=>some []) (fun _ ih l=>List.casesOn l none fun x l=>ob (ih l) fun r=>some (x::r)) n l
noncomputable def sub (l:List AV) (i n:Nat):Option (List AV) :=
 Nat.rec (motive:=fun _=>List AV→Option (List AV)) (fun l=>takeN n l) (fun _ ih l=>List.casesOn l (takeN n []) fun _ l=>ih l) i l
noncomputable def rd (s:St) (b off n:Nat):Option (List AV):=ob (s.heap.get b) fun x=>x.onCells (fun c _=>sub c off n) none
noncomputable def rd1 (s:St) (b off:Nat):Option AV:=ob (s.heap.get b) fun x=>x.onCells (fun c _=>nth c off) none
noncomputable def BK.on {α:Type} (k:BK) (o:α) (m:Nat→α) (r:α):α:=BK.casesOn k o m r
noncomputable def wrC (s:St) (b:Nat) (k:BK) (c:Option (List AV)):Option St :=
 ob c fun c=>k.on (some (s.put b (some (.cells c .own)))) (fun m=>some ((s.put m none).put b (some (.cells c .own)))) none
noncomputable def wr (s:St) (b off:Nat) (vs:List AV):Option St:=ob (s.heap.get b) fun x=>x.onCells (fun c k=>wrC s b k (setL c off vs)) none
noncomputable def wrX (s:St) (b off:Nat) (vs:List AV):Option St:=ob (s.heap.get b) fun x=>x.onCells (fun c k=>wrC s b k (setX c off vs)) none
noncomputable def cnd {α:Type} (b:Bool) (x y:α):α:=Bool.rec (motive:=fun _=>α) y x b
noncomputable def arithC (op:BinOp) (k:IntKind) (a b:Int):Option Int :=
 BinOp.casesOn (motive:=fun _=>Option Int) op
  (some (k.wrap (a+b))) (some (k.wrap (a-b))) (some (k.wrap (a*b)))
  (cnd (decide (b=0)) none (some (k.wrap (a.tdiv b)))) (cnd (decide (b=0)) none (some (a.tmod b)))
  (some (k.wrap (BitVec.ofInt k.bits a&&&BitVec.ofInt k.bits b).toNat)) (some (k.wrap (BitVec.ofInt k.bits a|||BitVec.ofInt k.bits b).toNat)) (some (k.wrap (BitVec.ofInt k.bits a ^^^ BitVec.ofInt k.bits b).toNat))
  (cnd (decide (b<0)) none (some (k.wrap (a*2^(min b.toNat k.bits))))) (cnd (decide (b<0)) none (some (a.fdiv (2^(min b.toNat k.bits)))))
  none none none none none none none
noncomputable def ik (k:IntKind):Nat:=IntKind.casesOn (motive:=fun _=>Nat) k 0 1 2 3 4 5 6 7
noncomputable def inK (k:IntKind) (lo hi:Int):Bool:=decide (k.min≤lo)&&decide (hi≤k.max)
noncomputable def sameT:List (Nat×Int)→List (Nat×Int)→Bool
 | [],[]=>true
 | a::r,b::q=>Nat.beq a.1 b.1&&decide (a.2=b.2)&&sameT r q
 | _,_=>false
noncomputable def sameAI (x y:AI):Bool:=match x,y with
 | .c a,.c b=>decide (a=b)
 | .s i d,.s j e=>sameT i j&&decide (d=e)
 | _,_=>false
structure Orc where
 op:Nat
 x:AI
 y:AI
 r:AI
structure Bd where
 b:Nat→Int×Int
 o:Nat→List Orc
noncomputable def keyOf (x y:AI):Nat:=AI.casesOn x (fun _=>AI.casesOn y (fun _=>0) fun ts _=>List.casesOn ts 0 fun t _=>t.1) fun ts _=>List.casesOn ts 0 fun t _=>t.1
noncomputable def orc:List Orc→Nat→AI→AI→Option AI
 | [],_,_,_=>none
 | e::r,n,x,y=>cnd (Nat.beq e.op n&&sameAI e.x x&&sameAI e.y y) (some e.r) (orc r n x y)
noncomputable def bOf (r:AI):Bool:=AI.casesOn r (fun n=>decide (n=1)) fun _ _=>false
noncomputable def loT (bd:Bd):List (Nat×Int)→Int
 | []=>0
 | t::r=>cnd (decide (0≤t.2)) (t.2*(bd.b t.1).1) (t.2*(bd.b t.1).2)+loT bd r
noncomputable def hiT (bd:Bd):List (Nat×Int)→Int
 | []=>0
 | t::r=>cnd (decide (0≤t.2)) (t.2*(bd.b t.1).2) (t.2*(bd.b t.1).1)+hiT bd r
noncomputable def range (bd:Bd) (k:IntKind) (x:AI):Option (Int×Int) :=
 AI.casesOn x (fun n=>some (n,n)) fun ts d=>cnd (inK k (loT bd ts+d) (hiT bd ts+d)) (some (loT bd ts+d,hiT bd ts+d)) none
noncomputable def insT (i:Nat) (c:Int):List (Nat×Int)→List (Nat×Int)
 | []=>[(i,c)]
 | t::r=>cnd (Nat.beq t.1 i) (cnd (decide (t.2+c=0)) r ((i,t.2+c)::r)) (t::insT i c r)
noncomputable def addT (m:Int):List (Nat×Int)→List (Nat×Int)→List (Nat×Int)
 | [],b=>b
 | t::r,b=>insT t.1 (m*t.2) (addT m r b)
noncomputable def mulT (m:Int):List (Nat×Int)→List (Nat×Int)
 | []=>[]
 | t::r=>(t.1,m*t.2)::mulT m r
noncomputable def qT (c:Int):List (Nat×Int)→List (Nat×Int)
 | []=>[]
 | t::r=>cnd (decide (t.2%c=0)) ((t.1,t.2 / c)::qT c r) (qT c r)
noncomputable def mT (c:Int):List (Nat×Int)→List (Nat×Int)
 | []=>[]
 | t::r=>cnd (decide (t.2%c=0)) (mT c r) (t::mT c r)
noncomputable def modT:List (Nat×Int)→List (Nat×Int)
 | []=>[]
 | t::r=>cnd (decide (t.2%256=0)) (modT r) ((t.1,t.2%256)::modT r)
noncomputable def tsOf (x:AI):List (Nat×Int):=AI.casesOn x (fun _=>[]) fun ts _=>ts
noncomputable def dOf (x:AI):Int:=AI.casesOn x (fun n=>n) fun _ d=>d
noncomputable def mkS (k:IntKind) (ts:List (Nat×Int)) (d:Int):AI:=List.casesOn ts (.c (k.wrap d)) fun t r => .s (t::r) d
noncomputable def difR (bd:Bd) (x y:AI):Int×Int:=(loT bd (addT (-1) (tsOf y) (tsOf x))+(dOf x-dOf y),hiT bd (addT (-1) (tsOf y) (tsOf x))+(dOf x-dOf y))
noncomputable def orE (x y:Option Bool):Option Bool:=Option.casesOn x y some
noncomputable def orcB (bd:Bd) (k:IntKind) (n:Nat) (x y:AI):Option Bool:=cnd (Nat.beq (ik k) 3) (ob (orc (bd.o (keyOf x y)) n x y) fun r=>some (bOf r)) none
noncomputable def ltR (x y:Int×Int):Option Bool:=cnd (decide (x.2<y.1)) (some true) (cnd (decide (y.2≤x.1)) (some false) none)
noncomputable def leR (x y:Int×Int):Option Bool:=cnd (decide (x.2≤y.1)) (some true) (cnd (decide (y.2<x.1)) (some false) none)
noncomputable def eqR (a b d:Int×Int):Option Bool:=cnd (decide (a.2<b.1)||decide (b.2<a.1)||decide (d.2<0)||decide (0<d.1)) (some false) (cnd (decide (d.1=0)&&decide (d.2=0)) (some true) none)
noncomputable def sameS (x y:AI):Bool:=AI.casesOn x (fun _=>false) fun i d=>AI.casesOn y (fun _=>false) fun j e=>sameT i j&&decide (d=e)
noncomputable def ltI0 (bd:Bd) (k:IntKind) (x y:AI):Option Bool :=
 cnd (sameS x y) (some false) (ob (range bd k x) fun a=>ob (range bd k y) fun b=>orE (ltR a b) (ltR (difR bd x y) (0,0)))
noncomputable def leI0 (bd:Bd) (k:IntKind) (x y:AI):Option Bool :=
 cnd (sameS x y) (some true) (ob (range bd k x) fun a=>ob (range bd k y) fun b=>orE (leR a b) (leR (difR bd x y) (0,0)))
noncomputable def eqI0 (bd:Bd) (k:IntKind) (x y:AI):Option Bool :=
 cnd (sameS x y) (some true) (AI.casesOn x (fun a=>AI.casesOn y (fun b=>some (decide (a=b))) fun i d=>ob (range bd k (.s i d)) fun b=>eqR (a,a) b (difR bd (.c a) (.s i d)))
  fun i d=>ob (range bd k (.s i d)) fun a=>ob (range bd k y) fun b=>eqR a b (difR bd (.s i d) y))
noncomputable def ltI (bd:Bd) (k:IntKind) (x y:AI):Option Bool:=orE (ltI0 bd k x y) (orcB bd k 3 x y)
noncomputable def leI (bd:Bd) (k:IntKind) (x y:AI):Option Bool:=orE (leI0 bd k x y) (orcB bd k 4 x y)
noncomputable def eqI (bd:Bd) (k:IntKind) (x y:AI):Option Bool:=orE (eqI0 bd k x y) (orcB bd k 5 x y)
noncomputable def notO (x:Option Bool):Option AV:=ob x fun b=>some (.bool !b)
noncomputable def yesO (x:Option Bool):Option AV:=ob x fun b=>some (.bool b)
noncomputable def arithS (op:BinOp) (k:IntKind) (x y:AI):Option AI :=
 BinOp.casesOn (motive:=fun _=>Option AI) op
  (some (mkS k (addT 1 (tsOf x) (tsOf y)) (dOf x+dOf y))) (some (mkS k (addT (-1) (tsOf y) (tsOf x)) (dOf x-dOf y)))
  (x.onC (fun a=>some (mkS k (mulT a (tsOf y)) (a*dOf y))) (y.onC (fun b=>some (mkS k (mulT b (tsOf x)) (b*dOf x))) none))
  none none none none none
  (y.onC (fun b=>cnd (decide (0≤b)&&decide (b≤(k.bits:Int))) (some (mkS k (mulT (2^b.toNat) (tsOf x)) (2^b.toNat*dOf x))) none) none)
  none none none none none none none none
noncomputable def arith (op:BinOp) (k:IntKind) (x y:AI):Option AI :=
 AI.casesOn x (fun a=>AI.casesOn y (fun b=>ob (arithC op k a b) fun n=>some (.c n)) fun i d=>arithS op k (.c a) (.s i d))
  fun i d=>arithS op k (.s i d) y
noncomputable def divOk (bd:Bd) (k:IntKind) (c:Int) (x:AI):Bool:=Option.casesOn (range bd k x) false fun r =>
 decide (0<c)&&decide (0≤r.1)&&decide (r.2≤k.max)&&decide (0≤loT bd (mT c (tsOf x))+dOf x%c)&&decide (hiT bd (mT c (tsOf x))+dOf x%c<c)
noncomputable def exOk (bd:Bd) (k:IntKind) (c:Int) (x:AI):Bool:=Option.casesOn (range bd k x) false fun _=>decide (0<c)&&(List.casesOn (mT c (tsOf x)) (decide (dOf x%c=0)) fun _ _=>false)
noncomputable def quoS (k:IntKind) (c:Int) (x:AI):AI:=mkS k (qT c (tsOf x)) (dOf x / c)
noncomputable def remS (k:IntKind) (c:Int) (x:AI):AI:=mkS k (mT c (tsOf x)) (dOf x%c)
noncomputable def negS (x:AI):AI := .s (mulT (-1) (tsOf x)) (0-dOf x)
noncomputable def rgOk (bd:Bd) (k:IntKind) (x:AI):Bool:=Option.casesOn (range bd k x) false fun _=>true
noncomputable def isMask (k:IntKind) (c:Int):Bool:=decide (0≤c)&&decide (c≤k.max)&&Nat.beq (2^Nat.log2 (c.toNat+1)) (c.toNat+1)
noncomputable def orOk (bd:Bd) (k:IntKind) (x y:AI):Bool:=Option.casesOn (range bd k y) false fun r =>
 decide (0≤r.1)&&decide (r.2≤k.max)&&divOk bd k (2^(Nat.log2 r.2.toNat+1)) x&&(List.casesOn (mT (2^(Nat.log2 r.2.toNat+1)) (tsOf x)) (decide (dOf x%2^(Nat.log2 r.2.toNat+1)=0)) fun _ _=>false)
noncomputable def orA (x y:Option AI):Option AI:=Option.casesOn x y some
noncomputable def arithB (bd:Bd) (op:BinOp) (k:IntKind) (x y:AI):Option AI :=
 BinOp.casesOn (motive:=fun _=>Option AI) op none none none
  (y.onC (fun c=>cnd (divOk bd k c x||exOk bd k c x) (some (quoS k c x)) none) none) (y.onC (fun c=>orA (cnd (divOk bd k c x) (some (remS k c x)) none) (cnd (Nat.beq (ik k) 3&&rgOk bd k x&&divOk bd k c (negS x)) (some (mkS k (mulT (-1) (tsOf (remS k c (negS x)))) (0-dOf (remS k c (negS x))))) none)) none)
  (y.onC (fun c=>cnd (isMask k c&&divOk bd k (c+1) x) (some (remS k (c+1) x)) none) none)
  (cnd (orOk bd k x y||orOk bd k y x) (some (mkS k (addT 1 (tsOf x) (tsOf y)) (dOf x+dOf y))) none)
  none none
  (y.onC (fun b=>cnd (decide (0≤b)&&decide (b≤(k.bits:Int))&&divOk bd k (2^b.toNat) x) (some (quoS k (2^b.toNat) x)) none) none)
  none none none none none none none
noncomputable def arithO (bd:Bd) (op:BinOp) (k:IntKind) (x y:AI):Option AI :=
 BinOp.casesOn (motive:=fun _=>Option AI) op none none none (cnd (Nat.beq (ik k) 3) (orc (bd.o (keyOf x y)) 0 x y) none) (cnd (Nat.beq (ik k) 3) (orc (bd.o (keyOf x y)) 6 x y) none) none none none none none none none none none none none none
noncomputable def binI (bd:Bd) (op:BinOp) (k k':IntKind) (x y:AI):Option AV :=
 let a:Option AV:=ob (orA (arith op k x y) (orA (arithB bd op k x y) (arithO bd op k x y))) fun n=>some (.int k n)
 cnd (Nat.beq (ik k) (ik k'))
  (BinOp.casesOn (motive:=fun _=>Option AV) op a a a a a a a a a a none
   (yesO (eqI bd k x y)) (notO (eqI bd k x y)) (yesO (ltI bd k x y)) (yesO (leI bd k x y)) (yesO (ltI bd k y x)) (yesO (leI bd k y x)))
  (BinOp.casesOn (motive:=fun _=>Option AV) op none none none none none none none none a a none none none none none none none)
noncomputable def eqAIs (bd:Bd) (l:List AI):List AI→Option Bool :=
 List.rec (motive:=fun _=>List AI→Option Bool) (fun m=>List.casesOn m (some true) fun _ _=>some false)
  (fun x l ih m=>List.casesOn m (some false) fun y m=>ob (eqI bd .u8 x y) fun b=>cnd b (ih m) (some false)) l
noncomputable def eq1 (bd:Bd) (n:Nat) (x y:AV):Option Bool :=
 cnd (Nat.beq n 0) (x.onInt (fun k a=>y.onInt (fun k' b=>cnd (Nat.beq (ik k) (ik k')) (eqI bd k a b) none) none) none)
  (cnd (Nat.beq n 1) (x.onBool (fun a=>y.onBool (fun b=>some (a==b)) none) none)
   (x.onStr (fun a=>y.onStr (fun b=>eqAIs bd a b) none) none))
noncomputable def eqFs (bd:Bd) (ns:List Nat):List AV→List AV→Option Bool :=
 List.rec (motive:=fun _=>List AV→List AV→Option Bool) (fun l m=>List.rec (motive:=fun _=>Option Bool) (List.rec (motive:=fun _=>Option Bool) (some true) (fun _ _ _=>none) m) (fun _ _ _=>none) l)
  (fun n _ ih l m=>List.rec (motive:=fun _=>Option Bool) none (fun x l _=>List.rec (motive:=fun _=>Option Bool) none (fun y m _=>ob (eq1 bd n x y) fun b=>cnd b (ih l m) (some false)) m) l) ns
noncomputable def eqP (x y:AV):Option Bool :=
 AV.casesOn (motive_1:=fun _=>Option Bool) x (fun _=>none) (fun _ _=>none) (fun _=>none)
  (AV.casesOn (motive_1:=fun _=>Option Bool) y (fun _=>none) (fun _ _=>none) (fun _=>none) (some true) (fun _ _=>some false) none (fun _ _ _ _ _ _=>none) none (fun _=>none) none (fun _ _ _=>none) none (fun _ _=>none) none (fun _=>none) (fun _=>none))
  (fun _ _=>AV.casesOn (motive_1:=fun _=>Option Bool) y (fun _=>none) (fun _ _=>none) (fun _=>none) (some false) (fun _ _=>none) none (fun _ _ _ _ _ _=>none) none (fun _=>none) none (fun _ _ _=>none) none (fun _ _=>none) none (fun _=>none) (fun _=>none))
  none (fun _ _ _ _ _ _=>none) none (fun _=>none) none (fun _ _ _=>none) none (fun _ _=>none) none (fun _=>none) (fun _=>none)
noncomputable def eqL (x y:AV):Option Bool :=
 x.onSlice (y.onSlice (some true) (fun _ _ _ _ _ _=>some false) (some false) none) (fun _ _ _ _ _ _=>y.onSlice (some false) (fun _ _ _ _ _ _=>none) none none) (y.onSlice (some false) (fun _ _ _ _ _ _=>none) none none) none
noncomputable def eqE (bd:Bd) (k:EK) (x y:AV):Option Bool :=
 EK.casesOn (motive:=fun _=>Option Bool) k (eq1 bd 0 x y) (eq1 bd 1 x y) (eq1 bd 2 x y) (eqP x y) (eqL x y) (fun fs=>x.onAgg (fun a=>y.onAgg (fun b=>eqFs bd fs a b) none) none)
noncomputable def ltAIs (bd:Bd):List AI→List AI→Option Bool
 | _,[]=>some false
 | [],_::_=>some true
 | x::l,y::m=>ob (ltI bd .u8 x y) fun b=>cnd b (some true) (ob (eqI bd .u8 x y) fun e=>cnd e (ltAIs bd l m) (some false))
noncomputable def strI (bd:Bd) (op:BinOp) (a b:List AI):Option AV:=BinOp.casesOn (motive:=fun _=>Option AV) op none none none none none none none none none none none none none (yesO (ltAIs bd a b)) none none none
noncomputable def binop (bd:Bd) (op:BinOp) (x y:AV):Option AV:=x.onInt (fun k a=>y.onInt (fun k' b=>binI bd op k k' a b) none) (x.onStr (fun a=>y.onStr (fun b=>strI bd op a b) none) none)
noncomputable def unop (op:UnOp) (x:AV):Option AV :=
 UnOp.casesOn (motive:=fun _=>Option AV) op (x.onInt (fun k n=>AI.casesOn n (fun n=>some (.int k (.c (k.wrap (0-n))))) fun ts d=>some (.int k (mkS k (mulT (-1) ts) (0-d)))) none) none (x.onBool (fun b=>some (.bool !b)) none) none
noncomputable def ov (x:Option AV) (s:St):Out:=Option.rec (motive:=fun _=>Out) (.bad 1 []) (fun v => .v v s) x
noncomputable def fill:List AV→List (Nat×Nat×AV)→Option (List AV)
 | cells,[]=>some cells
 | cells,(off,sz,v)::r=>ob v.cells fun cs=>cnd (Nat.beq (lenL cs) sz) (ob (setL cells off cs) fun c=>fill c r) none
noncomputable def rep:Nat→List AV→List AV
 | 0,_=>[]
 | n+1,l=>l++rep n l
noncomputable def okB (n:AI):Bool:=AI.casesOn n (fun n=>decide (0≤n)&&decide (n≤255)) (fun _ _=>true)
noncomputable def bytesOf:List AV→Option (List AI)
 | []=>some []
 | x::r=>x.onInt (fun k n=>cnd (decide (k = .u8)&&okB n) (ob (bytesOf r) fun l=>some (n::l)) none) none
noncomputable def ofBytes:List AI→List AV
 | []=>[]
 | n::r => .int .u8 n::ofBytes r
abbrev markV (b n:Nat) (x:AI) (sz:Nat):AV := .iface 0 (.agg [.tup [.ptr b n,.int .i64 x,.int .u64 (.c (Int.ofNat sz))]])
noncomputable def argOf (v:AV) (k:Nat→Nat→AI→Nat→Option AV):Option AV:=match v with
 | .iface 0 (.agg [.tup [.ptr b n,.int .i64 x,.int .u64 (.c (Int.ofNat sz))]])=>k b n x sz
 | _=>none
noncomputable def lenOf (x:AV):Option Nat:=x.onSlice (some 0) (fun _ _ len _ _ _=>some len) (some 0) (x.onStr (fun l=>some (lenL l)) none)
noncomputable def cellsOf (s:St) (sz n:Nat) (x:AV):Option (List AV):=x.onSlice (some []) (fun b off _ _ _ _=>rd s b off (n*sz)) (some []) (x.onStr (fun l=>cnd (Nat.beq sz 1) (takeN n (ofBytes l)) none) none)
noncomputable def truncL:Nat→List AV→List AV
 | 0,_=>[]
 | _+1,[]=>[]
 | n+1,x::l=>x::truncL n l
noncomputable def oS (x:Option St) (k:St→Out) (n:Nat):Out:=Option.rec (motive:=fun _=>Out) (.bad n []) k x
noncomputable def oL (x:Option (List AV)) (k:List AV→Out) (n:Nat):Out:=Option.rec (motive:=fun _=>Out) (.bad n []) k x
noncomputable def oV (x:Option AV) (k:AV→Out) (n:Nat):Out:=Option.rec (motive:=fun _=>Out) (.bad n []) k x
noncomputable def oN (x:Option Nat) (k:Nat→Out) (n:Nat):Out:=Option.casesOn x (.bad n []) k
noncomputable def lim (bytes:Nat):Nat:=cnd (Nat.beq bytes 1) 140737488355232 1048576
noncomputable def appendG (lm sz:Nat) (s:St) (b off len n:Nat) (ex:Bool) (old new:List AV):Out :=
 cnd (Nat.ble (len+n) lm) (cnd ex (.v (.sl s.next 0 (len+n) (len+n) false sz) (s.new (.cells (old++new) .own)))
  (Option.casesOn (s.heap.get b) (.bad 42 []) fun x=>x.onCells (fun c k=>k.on
   (.v (.sl s.next 0 (len+n) (len+n) false sz) ((s.put b (some (.cells (truncL (off+len*sz) c) (.mate s.next)))).new (.cells (old++new) (.mate b))))
   (fun m => .v (.sl s.next 0 (len+n) (len+n) false sz) (((s.put m none).put b (some (.cells (truncL (off+len*sz) c) (.mate s.next)))).new (.cells (old++new) (.mate b))))
   (.bad 41 [])) (.bad 42 []))) (.bad 47 [])
noncomputable def appendN (lm sz:Nat) (s:St) (x:AV) (n:Nat) (new:List AV):Out :=
 x.onSlice
  (cnd (Nat.beq n 0) (.v .nils s) (.v (.sl s.next 0 n n false sz) (s.new (.cells new .own))))
  (fun b off len lo ex sz'=>cnd (Nat.beq sz sz') (cnd (Nat.ble (len+n) lo)
   (cnd (Nat.beq n 0) (.v (.sl b off len lo ex sz) s) (oS (wrX s b (off+len*sz) new) (fun s' => .v (.sl b off (len+n) lo ex sz) s') 40))
   (oL (rd s b off (len*sz)) (fun old=>appendG lm sz s b off len n ex old new) 43)) (.bad 46 []))
  (.bad 44 []) (.bad 45 [])
noncomputable def bnd (d:Nat) (x:Option AV):Option Nat:=Option.casesOn x (some d) fun v=>v.onNat some none
noncomputable def zr (x:Option AV):Bool:=Option.casesOn x true fun v=>v.onNat (fun n=>Nat.beq n 0) false
noncomputable def sliS (l:List AI) (a b:Nat):Option AV:=cnd (Nat.ble a b&&Nat.ble b (lenL l)) (some (.str ((l.drop a).take (b-a)))) none
noncomputable def sliL (b off:Nat) (ex:Bool) (m l h sz:Nat):Option AV :=
 cnd (Nat.ble l h&&Nat.ble h m)
  (cnd (Nat.beq l m) (cnd ex (some (.sl b off 0 0 true sz)) (cnd (Nat.beq l 0) (some (.sl b off 0 0 false sz)) (some .emp)))
   (some (.sl b (off+l*sz) (h-l) (m-l) ex sz))) none
noncomputable def sliceV (sz:Nat) (x:AV) (lo hi mx:Option AV):Option AV :=
 x.onSlice
  (cnd (zr lo&&zr hi&&zr mx) (some .nils) none)
  (fun b off len cl ex sz'=>cnd (Nat.beq sz sz') (ob (bnd 0 lo) fun l=>ob (bnd len hi) fun h=>Option.casesOn mx (sliL b off ex cl l h sz)
   fun v=>v.onNat (fun m=>cnd (Nat.ble m cl) (sliL b off true m l h sz) none) none) none)
  (cnd (zr lo&&zr hi) (Option.casesOn mx (some .emp) fun _=>none) none)
  (argOf x fun b n _ sz'=>cnd (Nat.beq sz sz'&&zr lo) (Option.casesOn hi none fun h=>h.onNat (fun h=>Option.casesOn mx (cnd (Nat.blt 0 h&&Nat.ble h n) (some (.sl b 0 h h false sz)) none) fun _=>none) none) none)
noncomputable def sliceS (x:AV) (lo hi:Option AV):Option AV:=x.onStr (fun l=>ob (bnd 0 lo) fun a=>ob (bnd (lenL l) hi) fun b=>sliS l a b) none
noncomputable def mm0 (bd:Bd) (mx:Bool) (k:IntKind) (a b:AI):Option AI:=Option.casesOn (leI bd k a b) (ob (leI bd k b a) fun r=>some (cnd (r==mx) a b)) fun r=>some (cnd (r==mx) b a)
noncomputable def mm (bd:Bd) (mx:Bool) (k:IntKind) (a b:AI):Option AI:=orA (mm0 bd mx k a b) (cnd (Nat.beq (ik k) 3) (orc (bd.o (keyOf a b)) (cnd mx 1 2) a b) none)
noncomputable def mms (bd:Bd) (mx:Bool) (k:IntKind):AI→List AV→Option AV
 | a,[]=>some (.int k a)
 | a,x::r=>x.onInt (fun k' b=>cnd (Nat.beq (ik k) (ik k')) (ob (mm bd mx k a b) fun c=>mms bd mx k c r) none) none
noncomputable def look (bd:Bd) (k:EK) (l:List (AV×AV)) (x:AV):Option (Option AV) :=
 List.rec (motive:=fun _=>Option (Option AV)) (some none) (fun e _ ih=>ob (eqE bd k x e.1) fun b=>cnd b (some (some e.2)) ih) l
noncomputable def upd (bd:Bd) (k:EK) (l:List (AV×AV)) (x y:AV):Option (List (AV×AV)):=match l with
 | []=>some [(x,y)]
 | e::r=>ob (eqE bd k x e.1) fun b=>cnd b (some ((x,y)::r)) (ob (upd bd k r x y) fun r'=>some (e::r'))
section
variable (bd : Bd) (L F : LF)
noncomputable def fPick (c a b:Od):Option AV:=ob (ev L F c) fun c=>c.onBool (fun c=>cnd c (ev L F a) (ev L F b)) none
noncomputable def fBuild (z:List AV) (ps:List (Nat×Nat×Od)):Option AV:=ob (evp L F ps) fun vs=>ob (fill z vs) fun cs=>some (.agg cs)
noncomputable def fNilc (x:Od):Option AV:=ob (ev L F x) fun x=>x.onPtr (fun b o=>some (.ptr b o)) (x.onFn (fun f a b=>some (.fn f a b)) none)
noncomputable def fBin (op:BinOp) (x y:Od):Option AV:=ob (ev L F x) fun a=>ob (ev L F y) fun b=>binop bd op a b
noncomputable def fEq (neg:Bool) (k:EK) (x y:Od):Option AV:=ob (ev L F x) fun a=>ob (ev L F y) fun b=>ob (eqE bd k a b) fun r=>some (.bool (cnd neg (!r) r))
noncomputable def fUn (op:UnOp) (x:Od):Option AV:=ob (ev L F x) fun a=>unop op a
noncomputable def fCvi (k:IntKind) (x:Od):Option AV:=ob (ev L F x) fun x=>x.onInt (fun k' n=>AI.casesOn n (fun n=>some (.int k (.c (k.wrap n))))
 fun i d=>ob (range bd k' (.s i d)) fun r=>cnd (inK k r.1 r.2) (some (.int k (.s i d))) (cnd (decide (k = .u8)) (some (.int k (mkS .u8 (modT i) (d%256)))) none)) none
noncomputable def fMki (t:TypeId) (x:Od):Option AV:=ob (ev L F x) fun v=>some (.iface t v)
noncomputable def fMkf (f:FuncId) (a b:List Od):Option AV:=ob (evs L F a) fun a=>ob (evs L F b) fun b=>some (.fn f a b)
noncomputable def fSli (sz:Nat) (x:Od) (lo hi mx:Option Od):Option AV:=ob (ev L F x) fun x=>ob (evo L F lo) fun lo=>ob (evo L F hi) fun hi=>ob (evo L F mx) fun mx=>sliceV sz x lo hi mx
noncomputable def fSls (x:Od) (lo hi:Option Od):Option AV:=ob (ev L F x) fun x=>ob (evo L F lo) fun lo=>ob (evo L F hi) fun hi=>sliceS x lo hi
noncomputable def fFa (off:Nat) (x:Od):Option AV:=ob (ev L F x) fun x=>x.onPtr (fun b o=>some (.ptr b (o+off))) none
noncomputable def fFld (off:Nat) (x:Od):Option AV:=ob (ev L F x) fun x=>x.onAgg (fun cs=>nth cs off) none
noncomputable def fFlda (off n:Nat) (x:Od):Option AV:=ob (ev L F x) fun x=>x.onAgg (fun cs=>ob (sub cs off n) fun r=>some (.agg r)) none
noncomputable def fIa (sz:Nat) (x i:Od):Option AV:=ob (ev L F x) fun x=>x.onSl (fun b o len _ _ _=>ob (ev L F i) fun i=>i.onNat (fun i=>cnd (Nat.blt i len) (some (.ptr b (o+i*sz))) none) none) (argOf x fun b n _ sz'=>ob (ev L F i) fun i=>i.onNat (fun i=>cnd (Nat.beq sz sz'&&Nat.blt i n) (some (.ptr b (i*sz))) none) none)
noncomputable def fIar (n sz:Nat) (x i:Od):Option AV:=ob (ev L F x) fun x=>x.onPtr (fun b o=>ob (ev L F i) fun i=>i.onNat (fun i=>cnd (Nat.blt i n) (some (.ptr b (o+i*sz))) none) none) none
noncomputable def fIxs (x i:Od):Option AV:=ob (ev L F x) fun x=>x.onStr (fun l=>ob (ev L F i) fun i=>i.onNat (fun i=>ob (nth l i) fun b=>some (.int .u8 b)) none) none
noncomputable def fIxa (n:Nat) (x i:Od):Option AV:=ob (ev L F x) fun x=>x.onAgg (fun cs=>ob (ev L F i) fun i=>i.onNat (fun i=>cnd (Nat.blt i n) (nth cs i) none) none) none
noncomputable def fExt (i:Nat) (x:Od):Option AV:=ob (ev L F x) fun x=>x.onTup (fun vs=>nth vs i) none
noncomputable def fLen (x:Od):Option AV:=ob (ev L F x) fun v=>v.onSlice (some (.int .i64 (.c 0))) (fun _ _ len _ _ _=>some (.int .i64 (.c (Int.ofNat len)))) (some (.int .i64 (.c 0))) (argOf v fun _ _ x _=>some (.int .i64 x))
noncomputable def fLens (x:Od):Option AV:=ob (ev L F x) fun v=>v.onStr (fun l=>some (.int .i64 (.c (Int.ofNat (lenL l))))) none
noncomputable def fCap (x:Od):Option AV:=ob (ev L F x) fun v=>v.onSlice (some (.int .i64 (.c 0))) (fun _ _ _ lo ex _=>cnd ex (some (.int .i64 (.c (Int.ofNat lo)))) none) none none
noncomputable def fMM (mx:Bool) (xs:List Od):Option AV:=ob (evs L F xs) fun l=>List.casesOn l none fun x r=>x.onInt (fun k a=>mms bd mx k a r) none
variable (s : St)
noncomputable def fLd (x:Od):Option AV:=ob (ev L F x) fun x=>x.onPtr (fun b o=>rd1 s b o) none
noncomputable def fLda (n:Nat) (x:Od):Option AV:=ob (ev L F x) fun x=>x.onPtr (fun b o=>ob (rd s b o n) fun cs=>some (.agg cs)) none
noncomputable def fCvs (x:Od):Option AV:=ob (ev L F x) fun x=>x.onSlice (some (.str [])) (fun b o len _ _ _=>ob (rd s b o len) fun cs=>ob (bytesOf cs) fun l=>some (.str l)) (some (.str [])) none
noncomputable def fCve (x:Od):Option AV:=ob (ev L F x) fun x=>x.onSl (fun b o len lo ex sz=>ob (s.heap.get b) fun y=>y.onCells (fun _ k=>k.on (some (.sl b o len lo ex sz)) (fun _=>some (.sl b o len lo ex sz)) none) none) none
noncomputable def okv (ok:Bool) (v:AV) (b:Bool):AV:=cnd ok (.tup [v,.bool b]) v
noncomputable def fLkp (e:EK) (z:AV) (ok:Bool) (m k:Od):Option AV:=ob (ev L F m) fun m=>ob (ev L F k) fun k=>ob (eqE bd e k k) fun _=>m.onMap (some (okv ok z false)) (fun r=>ob (s.heap.get r) fun x=>x.onMap (fun es=>ob (look bd e es k) fun v=>Option.casesOn v (some (okv ok z false)) fun v=>some (okv ok v true)) none) none
variable (id : Nat)
noncomputable def fNew (z:List AV):Option (AV×AB):=some (.ptr id 0,.cells z .own)
noncomputable def fBox (x:Od):Option (AV×AB):=ob (ev L F x) fun v=>ob v.cells fun cs=>some (.ptr id 0,.cells cs .own)
noncomputable def fBsl (z:List AV) (len sz:Nat) (ps:List (Nat×Nat×Od)):Option (AV×AB):=ob (evp L F ps) fun vs=>ob (fill z vs) fun cs=>some (.sl id 0 len len true sz,.cells cs .own)
noncomputable def fCvb (x:Od):Option (AV×AB):=ob (ev L F x) fun x=>x.onStr (fun l=>some (.sl id 0 (lenL l) (lenL l) false 1,.cells (ofBytes l) .own)) none
noncomputable def fMkm:Option (AV×AB):=some (.mapr id,.map [])
noncomputable def fMksC (z:List AV) (sz bytes:Nat) (l c:AV):Option (AV×AB):=l.onNat (fun l=>c.onNat (fun c =>
 cnd (Nat.ble l c&&Nat.ble (bytes*c) 281474976710656&&Nat.ble c 281474976710656) (some (.sl id 0 l c true sz,.cells (rep c z) .own)) none) none) none
noncomputable def fMksS (bd:Bd) (sz bytes:Nat) (x y:AI):Option (AV×AB):=cnd (sameS x y) (ob (range bd .i64 x) fun r =>
 cnd (decide (0≤r.1)&&decide ((bytes:Int)*r.2≤281474976710656)&&decide (r.2≤281474976710656)) (some (markV id 0 x sz,.cells [] .own)) none) none
noncomputable def fMks (bd:Bd) (z:List AV) (sz bytes:Nat) (l c:Od):Option (AV×AB):=ob (ev L F l) fun l=>ob (ev L F c) fun c =>
 l.onInt (fun k x=>AI.casesOn x (fun _=>fMksC id z sz bytes l c) fun _ _=>c.onInt (fun k' y=>cnd (Nat.beq (ik k) 3&&Nat.beq (ik k') 3) (fMksS id bd sz bytes x y) none) none) none
noncomputable def fSt (n:Nat) (x v:Od):Out:=oV (ev L F x) (fun x=>x.onPtr (fun b o=>oV (ev L F v) (fun v=>oL v.cells (fun cs=>cnd (Nat.beq (lenL cs) n) (oS (wr s b o cs) (fun s' => .u s') 5) (.bad 6 [])) 50) 7) (.bad 8 [])) 9
noncomputable def fCall (call:FuncId→List AV→St→Out) (f:Od) (args:List Od):Out:=oV (ev L F f) (fun f=>f.onFn (fun g a b=>oL (evs L F args) (fun vs=>call g (a++(vs++b)) s) 13) (.bad 14 [])) 15
noncomputable def fApp (sz bytes:Nat) (x y:Od):Out:=oV (ev L F x) (fun x=>oV (ev L F y) (fun y=>oN (lenOf y) (fun n=>oL (cellsOf s sz n y) (fun new=>cnd (Nat.ble n (lim bytes)&&Nat.ble bytes 1024) (appendN (lim bytes) sz s x n new) (.bad 15 [])) 16) 17) 18) 19
noncomputable def fApz (sz bytes:Nat) (z:List AV) (x y:Od):Out:=oV (ev L F x) (fun x=>oV (ev L F y) (fun y=>y.onNat (fun n=>cnd (Nat.ble n (lim bytes)&&Nat.ble bytes 1024) (appendN (lim bytes) sz s x n (rep n z)) (.bad 20 [])) (.bad 21 [])) 22) 23
noncomputable def fClr (sz:Nat) (z:List AV) (x:Od):Out:=oV (ev L F x) (fun x=>x.onSlice (.v (.tup []) s) (fun b o len _ _ _=>oS (wr s b o (rep len z)) (fun s' => .v (.tup []) s') 24) (.v (.tup []) s) (.bad 25 [])) 26
noncomputable def fCpy (sz:Nat) (x y:Od):Out:=oV (ev L F x) (fun x=>oV (ev L F y) (fun y=>oN (lenOf x) (fun n=>oN (lenOf y) (fun m=>oL (cellsOf s sz (Nat.min m n) y) (fun vs =>
 x.onSlice (.v (.int .i64 (.c (Int.ofNat (Nat.min m n)))) s) (fun b o _ _ _ _=>oS (wr s b o vs) (fun s' => .v (.int .i64 (.c (Int.ofNat (Nat.min m n)))) s') 27) (.v (.int .i64 (.c (Int.ofNat (Nat.min m n)))) s) (.bad 28 [])) 29) 30) 31) 32) 33
noncomputable def fMup (e:EK) (m k v:Od):Out:=oV (ev L F m) (fun m=>m.onMap (.bad 34 []) (fun r=>oV (ev L F k) (fun k=>oV (ev L F v) (fun v=>Option.casesOn (ob (eqE bd e k k) fun _=>s.heap.get r) (.bad 35 []) fun x=>x.onMap (fun es=>Option.casesOn (upd bd e es k v) (.bad 36 []) fun es' => .u (s.put r (some (.map es')))) (.bad 37 [])) 38) 39) (.bad 40 [])) 41
end
noncomputable def pureOp (bd:Bd) (L F:LF) (o:VO):Option AV:=match o with
 | .mv x=>ev L F x | .pick c a b=>fPick L F c a b | .build z ps=>fBuild L F z ps | .nilc x=>fNilc L F x | .bin op x y=>fBin bd L F op x y | .eq g k x y=>fEq bd L F g k x y | .un op x=>fUn L F op x | .cvi k x=>fCvi bd L F k x
 | .mki t x=>fMki L F t x | .mkf f a b=>fMkf L F f a b | .sli sz x a b c=>fSli L F sz x a b c | .sls x a b=>fSls L F x a b | .fa n x=>fFa L F n x | .fld n x=>fFld L F n x | .flda a b x=>fFlda L F a b x | .ia sz x i=>fIa L F sz x i
 | .iar n sz x i=>fIar L F n sz x i | .ixs x i=>fIxs L F x i | .ixa n x i=>fIxa L F n x i | .ext i x=>fExt L F i x | .len x=>fLen L F x | .lens x=>fLens L F x | .cap x=>fCap L F x | .mx xs=>fMM bd L F true xs | .mn xs=>fMM bd L F false xs
 | _=>none
noncomputable def readOp (bd:Bd) (L F:LF) (s:St) (o:VO):Option AV:=match o with
 | .ld x=>fLd L F s x | .lda n x=>fLda L F s n x | .cvs x=>fCvs L F s x | .cve x=>fCve L F s x | .lkp e z ok m k=>fLkp bd L F s e z ok m k
 | _=>none
noncomputable def freshOp (bd:Bd) (L F:LF) (id:Nat) (o:VO):Option (AV×AB):=match o with
 | .new z=>fNew id z | .box x=>fBox L F id x | .bsl z len sz ps=>fBsl L F id z len sz ps | .cvb x=>fCvb L F id x | .mkm=>fMkm id | .mks z a b l c=>fMks L F id bd z a b l c
 | _=>none
noncomputable def loudOp (bd:Bd) (call:FuncId→List AV→St→Out) (L F:LF) (s:St) (o:VO):Out:=match o with
 | .st n x v=>fSt L F s n x v | .call f args=>fCall L F s call f args | .app a b x y=>fApp L F s a b x y | .apz a b z x y=>fApz L F s a b z x y | .clr n z x=>fClr L F s n z x | .cpy n x y=>fCpy L F s n x y | .mup e m k v=>fMup bd L F s e m k v
 | _ => .bad 99 []
noncomputable def cls (o:VO):Nat:=match o with
 | .mv _ | .pick .. | .build .. | .nilc _ | .bin .. | .eq .. | .un .. | .cvi .. | .mki .. | .mkf .. | .sli .. | .sls .. | .fa .. | .fld .. | .flda .. | .ia .. | .iar .. | .ixs .. | .ixa .. | .ext .. | .len _ | .lens _ | .cap _ | .mx _ | .mn _=>0
 | .ld _ | .lda .. | .cvs _ | .cve _ | .lkp ..=>1
 | .new _ | .box _ | .bsl .. | .cvb _ | .mkm | .mks ..=>3
 | .st .. | .call .. | .app .. | .apz .. | .clr .. | .cpy .. | .mup ..=>2
noncomputable def of (x:Option (AV×AB)) (s:St):Out:=Option.casesOn x (.bad 2 []) fun p => .v p.1 (s.new p.2)
noncomputable def opF (bd:Bd) (call:FuncId→List AV→St→Out) (L F:LF) (s:St) (o:VO):Out :=
 VO.rec (motive:=fun _=>Out)
  (fun x=>ov (ev L F x) s) (fun c a b=>ov (fPick L F c a b) s) (fun z=>of (fNew s.next z) s) (fun x=>of (fBox L F s.next x) s) (fun z ps=>ov (fBuild L F z ps) s) (fun z l n ps=>of (fBsl L F s.next z l n ps) s)
  (fun x=>ov (fLd L F s x) s) (fun n x=>ov (fLda L F s n x) s) (fun n x v=>fSt L F s n x v) (fun x=>ov (fNilc L F x) s) (fun op x y=>ov (fBin bd L F op x y) s) (fun g k x y=>ov (fEq bd L F g k x y) s) (fun op x=>ov (fUn L F op x) s)
  (fun k x=>ov (fCvi bd L F k x) s) (fun x=>ov (fCvs L F s x) s) (fun x=>of (fCvb L F s.next x) s) (fun x=>ov (fCve L F s x) s) (fun t x=>ov (fMki L F t x) s) (fun f a b=>ov (fMkf L F f a b) s) (of (fMkm s.next) s)
  (fun z a b l c=>of (fMks L F s.next bd z a b l c) s) (fun n x a b c=>ov (fSli L F n x a b c) s) (fun x a b=>ov (fSls L F x a b) s) (fun n x=>ov (fFa L F n x) s) (fun n x=>ov (fFld L F n x) s) (fun a b x=>ov (fFlda L F a b x) s)
  (fun n x i=>ov (fIa L F n x i) s) (fun n m x i=>ov (fIar L F n m x i) s) (fun x i=>ov (fIxs L F x i) s) (fun n x i=>ov (fIxa L F n x i) s) (fun i x=>ov (fExt L F i x) s)
  (fun f args=>fCall L F s call f args) (fun x=>ov (fLen L F x) s) (fun x=>ov (fLens L F x) s) (fun x=>ov (fCap L F x) s) (fun xs=>ov (fMM bd L F true xs) s) (fun xs=>ov (fMM bd L F false xs) s)
  (fun a b x y=>fApp L F s a b x y) (fun a b z x y=>fApz L F s a b z x y) (fun n z x=>fClr L F s n z x) (fun n x y=>fCpy L F s n x y) (fun e z ok m k=>ov (fLkp bd L F s e z ok m k) s) (fun e m k v=>fMup bd L F s e m k v) o
inductive RO where
 | ok (L:LF) (s:St)
 | bad (n:Nat) (tr:List Nat)
noncomputable def nxt (L:LF) (k:LF→St→RO) (o:Out):RO:=Out.rec (motive:=fun _=>RO) (fun x s=>k (some x::L) s) (fun s=>k (none::L) s) (fun n t => .bad n (lenL L::t)) o
noncomputable def want (L F:LF) (j:Od) (w:Bool):Option Bool:=ob (ev L F j) fun v=>v.onBool (fun b=>some (b==w)) (v.onTup (fun l=>List.casesOn l (some false) fun _ _=>none) none)
noncomputable def regF (bd:Bd) (call:FuncId→List AV→St→Out) (F:LF) (l:List VI):LF→St→RO :=
 List.rec (motive:=fun _=>LF→St→RO) (fun L s => .ok L s)
  (fun i _ ih L s=>VI.rec (motive:=fun _=>RO) (fun o=>nxt L ih (opF bd call L F s o))
   (fun j w o=>Option.rec (motive:=fun _=>RO) (.bad 60 [lenL L]) (fun b=>cnd b (nxt L ih (opF bd call L F s o)) (ih (some (.tup [])::L) s)) (want L F j w)) i) l
noncomputable def sameAIs:List AI→List AI→Bool
 | [],[]=>true
 | x::a,y::b=>sameAI x y&&sameAIs a b
 | _,_=>false
noncomputable def sameV (x y:AV):Bool:=match x,y with
 | .bool a,.bool b=>a==b
 | .str a,.str b=>sameAIs a b
 | .int j a,.int k b=>decide (j=k)&&sameAI a b
 | .nilp,.nilp=>true
 | .ptr a b,.ptr c d=>Nat.beq a c&&Nat.beq b d
 | .nils,.nils=>true
 | .emp,.emp=>true
 | .sl a b c d e f,.sl a' b' c' d' e' f'=>Nat.beq a a'&&Nat.beq b b'&&Nat.beq c c'&&Nat.beq d d'&&(e==e')&&Nat.beq f f'
 | .mapr a,.mapr b=>Nat.beq a b
 | .nilm,.nilm=>true
 | .nilf,.nilf=>true
 | .nili,.nili=>true
 | _,_=>false
noncomputable def sameVs:List AV→List AV→Bool
 | [],[]=>true
 | x::a,y::b=>sameV x y&&sameVs a b
 | _,_=>false
noncomputable def sameA (x y:AV):Bool:=match x,y with
 | .agg a,.agg b=>sameVs a b
 | x,y=>sameV x y
noncomputable def tb (n j:Nat):Bool:=Nat.beq (Nat.land (Nat.shiftRight n j) 1) 1
noncomputable def maskL (bits:Nat) (L:LF):Nat→LF :=
 List.rec (motive:=fun _=>Nat→LF) (fun _=>[]) (fun x _ ih c=>Nat.rec (motive:=fun _=>LF) [] (fun j _=>cnd (tb bits j) x none::ih j) c) L
structure Fs where
 i:Nat
 id:Nat
 mst:Nat
 b:AB
noncomputable def addM (m:Nat):List Fs→St→St
 | [],s=>s
 | f::r,s=>cnd (Nat.beq f.mst m) (addM m r (s.put f.id (some f.b))) (addM m r s)
noncomputable def addR (bits k:Nat):List Fs→St→St
 | [],s=>s
 | f::r,s=>cnd (tb bits f.i&&Nat.blt k f.mst) (addR bits k r (s.put f.id (some f.b))) (addR bits k r s)
noncomputable def addE (k:Nat):List Fs→St→St
 | [],s=>s
 | f::r,s=>cnd (Nat.blt k f.mst) (addE k r (s.put f.id (some f.b))) (addE k r s)
inductive Pend where
 | mk (o:VO) (L:LF) (v:AV) (w:WI) (fs:List Fs)
noncomputable def chkAt (bd:Bd) (F:LF) (o:VO) (L:LF) (v:AV) (w:WI) (fs:List Fs):Nat→List St→Bool
 | _,[]=>true
 | k,s::r=>cnd (Nat.ble w.lo k&&Nat.ble k w.hi) (Option.casesOn (readOp bd L F (addR w.bits k fs s) o) false fun x=>sameA x v) true&&chkAt bd F o L v w fs (k+1) r
noncomputable def chkAll (bd:Bd) (F:LF) (ss:List St):List Pend→Bool
 | []=>true
 | .mk o L v w fs::r=>chkAt bd F o L v w fs 0 ss&&chkAll bd F ss r
inductive DO where
 | ok (x:Option AV) (k:Nat) (s:St) (ss:List St) (fs:List Fs) (ps:List Pend)
 | bad (n:Nat) (tr:List Nat)
noncomputable def drwO (bd:Bd) (call:FuncId→List AV→St→Out) (F:LF) (n0:Nat) (o:VO) (w:WI) (c:Nat) (L:LF) (k:Nat) (s:St) (ss:List St) (fs:List Fs) (ps:List Pend):DO :=
 match cls o with
 | 0=>match pureOp bd L F o with
  | some x => .ok (some x) k s ss fs ps
  | none => .bad 71 []
 | 1=>match readOp bd L F (addR w.bits k fs s) o with
  | some x=>cnd (Nat.beq w.lo w.hi) (cnd (Nat.beq w.lo k) (.ok (some x) k s ss fs ps) (.bad 77 [])) (.ok (some x) k s ss fs (.mk o L x w fs::ps))
  | none => .bad 73 []
 | 3=>match freshOp bd L F (n0+w.hi) o with
  | some (x,b) => .ok (some x) k s ss (⟨c,n0+w.hi,w.lo,b⟩::fs) ps
  | none => .bad 72 []
 | _=>match loudOp bd call L F (addM (k+1) fs s) o with
  | .v x s' => .ok (some x) (k+1) s' (s::ss) fs ps
  | .u s' => .ok none (k+1) s' (s::ss) fs ps
  | .bad n t => .bad n t
noncomputable def drwU (o:VO) (k:Nat) (s:St) (ss:List St) (fs:List Fs) (ps:List Pend):DO :=
 match cls o with
 | 2 => .ok (some (.tup [])) (k+1) (addM (k+1) fs s) (s::ss) fs ps
 | _ => .ok (some (.tup [])) k s ss fs ps
noncomputable def drwI (bd:Bd) (call:FuncId→List AV→St→Out) (F:LF) (n0:Nat) (i:VI) (w:WI) (c:Nat) (L:LF) (k:Nat) (s:St) (ss:List St) (fs:List Fs) (ps:List Pend):DO :=
 match i with
 | .i o=>drwO bd call F n0 o w c L k s ss fs ps
 | .g j wt o=>match want L F j wt with
  | some true=>drwO bd call F n0 o w c L k s ss fs ps
  | some false=>drwU o k s ss fs ps
  | none => .bad 75 []
noncomputable def drwF (bd:Bd) (call:FuncId→List AV→St→Out) (F:LF) (n0:Nat):List VI→List WI→Nat→LF→Nat→St→List St→List Fs→List Pend→RO
 | [],_,_,L,k,s,ss,fs,ps=>match chkAll bd F (List.reverse (s::ss)) ps with
  | true => .ok L (addE k fs s)
  | false => .bad 70 []
 | i::r,w::ws,c,L,k,s,ss,fs,ps=>match drwI bd call F n0 i w c (maskL w.bits L c) k s ss fs ps with
  | .ok x k' s' ss' fs' ps'=>drwF bd call F n0 r ws (c+1) (x::L) k' s' ss' fs' ps'
  | .bad n t => .bad n (c::t)
 | _::_,[],_,_,_,_,_,_,_ => .bad 76 []
noncomputable def commit (L F:LF) (l:List (Nat×Od)):LF→LF :=
 List.rec (motive:=fun _=>LF→LF) (fun G=>G) (fun p _ ih G=>ih (setN G p.1 (ev L F p.2))) l
inductive Ex where
 | normal | exit (id:Nat) | ret
inductive Rs where
 | ok (e:Ex) (F:LF) (s:St)
 | bad (n:Nat) (tr:List Nat)
noncomputable def Rs.norm (r:Rs) (k:LF→St→Rs):Rs:=Rs.rec (motive:=fun _=>Rs) (fun e F s=>Ex.rec (motive:=fun _=>Rs) (k F s) (fun id => .ok (.exit id) F s) (.ok .ret F s) e) (fun n t => .bad n t) r
noncomputable def Rs.blk (r:Rs) (id:Nat):Rs:=Rs.casesOn (motive:=fun _=>Rs) r (fun e F s=>Ex.casesOn (motive:=fun _=>Rs) e (.ok .normal F s) (fun j=>cnd (Nat.beq j id) (.ok .normal F s) (.ok (.exit j) F s)) (.ok .ret F s)) (fun n t => .bad n t)
noncomputable def iter (body:LF→St→Rs) (n:Nat):LF→St→Rs :=
 Nat.rec (motive:=fun _=>LF→St→Rs) (fun _ _ => .bad 80 []) (fun _ ih F s=>(body F s).norm ih) n
noncomputable def endR (F:LF) (keep:List (Nat×Od)) (r:RO):Rs:=RO.rec (motive:=fun _=>Rs) (fun L s => .ok .normal (commit L F keep F) s) (fun n t => .bad n t) r
noncomputable def Rs.two (n:Nat) (x y:Rs):Rs:=match x,y with
 | .ok .normal F1 s1,.ok .normal F2 s2=>@ite Rs (F1=F2∧s1.next=s2.next∧∀ b,b≠n→s1.heap.get b=s2.heap.get b) (Classical.propDecidable _) (.ok .normal F1 (s1.put n none)) (.bad 83 [])
 | _,_ => .bad 84 []
noncomputable def exec (bd:Bd) (call:FuncId→List AV→St→Out) (fu:Nat) (c:VC):LF→St→Rs :=
 VC.rec (motive:=fun _=>LF→St→Rs) (fun F s => .ok .normal F s) (fun _ _ ia ib F s=>(ia F s).norm ib)
  (fun ops keep F s=>endR F keep (regF bd call F ops [] s))
  (fun ops keep wins nf F s=>endR F keep (drwF bd call F s.next ops wins 0 [] 0 ⟨s.heap,s.next+nf⟩ [] [] []))
  (fun _ _ ia ib F s=>Rs.two s.next (ia F s) (ib F s))
  (fun c _ _ ia ib F s=>Option.casesOn (motive:=fun _=>Rs) (ev [] F c) (.bad 81 []) fun v=>v.onBool (fun b=>cnd b (ia F s) (ib F s)) (.bad 82 []))
  (fun id _ ic F s=>(ic F s).blk id)
  (fun _ ic F s=>iter ic fu F s)
  (fun id F s => .ok (.exit id) F s) (fun F s => .ok .ret F s) c
noncomputable def resV (s:St) (F:LF) (r:RV):Option AV:=match r with
 | .tmp i=>nthO F i
 | .ld i=>ob (nthO F i) fun x=>x.onPtr (fun b o=>rd1 s b o) none
 | .lda n i=>ob (nthO F i) fun x=>x.onPtr (fun b o=>ob (rd s b o n) fun cs=>some (.agg cs)) none
noncomputable def results (s:St) (F:LF):List RV→Option (List AV)
 | []=>some []
 | r::l=>ob (resV s F r) fun v=>ob (results s F l) fun vs=>some (v::vs)
noncomputable def one (l:List AV):AV:=match l with
 | [v]=>v
 | vs => .tup vs
noncomputable def frame:List AV→List Nat→LF
 | _,[]=>[]
 | [],_::r=>none::frame [] r
 | v::l,_::r=>some v::frame l r
noncomputable def atomF (k:Nat) (args:List AV) (s:St):Out :=
 match k,args with
 | 0,[.ptr b o]=>match rd1 s b o with
  | some (.int .i64 n) => .v (.int .i64 n) s
  | _ => .bad 100 []
 | 1,[.ptr b o,.int .i64 n]=>match wr s b o [.int .i64 n] with
  | some s' => .v (.tup []) s'
  | none => .bad 101 []
 | 2,[.ptr b o,.int .i64 d]=>match rd1 s b o with
  | some (.int .i64 n)=>match arith .add .i64 n d with
   | some m=>match wr s b o [.int .i64 m] with
    | some s' => .v (.int .i64 m) s'
    | none => .bad 102 []
   | none => .bad 103 []
  | _ => .bad 104 []
 | _,_ => .bad 105 []
noncomputable def endF (f:Nat) (res:List RV) (r:Rs):Out:=Rs.casesOn (motive:=fun _=>Out) r
 (fun e F s=>Ex.casesOn (motive:=fun _=>Out) e (oL (results s F res) (fun vs => .v (one vs) s) 93) (fun _ => .bad 94 [f]) (oL (results s F res) (fun vs => .v (one vs) s) 93)) (fun n t => .bad n (f::t))
noncomputable def callV (bd:Bd) (fu:Nat) (call:FuncId→List AV→St→Out) (f:FuncId) (args:List AV) (s:St) (v:VF):Out :=
 VF.casesOn (motive:=fun _=>Out) v
  (fun np vars c res=>cnd (Nat.beq (lenL args) np) (endF f res (exec bd call fu c (frame args vars) s)) (.bad 92 [f]))
  (fun h=>ov (h args) s) (fun k=>atomF k args s) (fun h=>h args s)
noncomputable def callF (bd:Bd) (tab:Nat→Option VF) (fu:Nat) (n:Nat):FuncId→List AV→St→Out :=
 Nat.rec (motive:=fun _=>FuncId→List AV→St→Out) (fun f _ _ => .bad 90 [f]) (fun _ ih f args s=>Option.casesOn (motive:=fun _=>Out) (tab f) (.bad 91 [f]) fun v=>callV bd fu ih f args s v) n
noncomputable def ofScalar:Value→Option AV
 | .bool b=>some (.bool b)
 | .int k n=>some (.int k (.c n))
 | .string s=>some (.str (s.data.toList.map fun b => .c (Int.ofNat b.toNat)))
 | .pointer none=>some .nilp
 | .slice none n c=>match Nat.beq n 0&&Nat.beq c 0 with
  | true=>some .nils
  | false=>none
 | .map none=>some .nilm
 | .nilFunc=>some .nilf
 | .nilIface=>some .nili
 | _=>none
noncomputable def ofScalars:List Value→Option (List AV)
 | []=>some []
 | v::r=>match ofScalar v with
  | some x=>match ofScalars r with
   | some xs=>some (x::xs)
   | none=>none
  | none=>none
noncomputable def ofVal:Value→Option AV
 | .agg cs=>match ofScalars cs.toList with
  | some xs=>some (.agg xs)
  | none=>none
 | v=>ofScalar v
inductive Rf where
 | p (n:Nat)
 | w (i:Nat)
 | c (v:AV)
abbrev CE:=List (Nat×Rf)
noncomputable def lookE (k:Nat):CE→Option Rf
 | []=>none
 | (j,r)::e=>match Nat.beq k j with
  | true=>some r
  | false=>lookE k e
noncomputable def idxV (k:Nat):List Nat→Option Nat
 | []=>none
 | j::r=>match Nat.beq k j with
  | true=>some 0
  | false=>match idxV k r with
   | some i=>some (i+1)
   | none=>none
section
variable (P : Program) (vars : List Nat)
noncomputable def coT (E:CE) (k:Nat):Option Rf:=match lookE k E with
 | some r=>some r
 | none=>match idxV k vars with
  | some i=>some (.w i)
  | none=>none
noncomputable def coRf (E:CE):Operand→Option Rf
 | .tmp k=>coT vars E k
 | .const v=>match ofVal v with
  | some a=>some (.c a)
  | none=>none
 | .func f=>some (.c (.fn f [] []))
 | .global _=>none
noncomputable def Rf.od (cur:Nat):Rf→Od
 | .p n => .t (cur-1-n)
 | .w i => .w i
 | .c v => .c v
noncomputable def coO (cur:Nat) (E:CE) (x:Operand):Option Od:=match coRf vars E x with
 | some r=>some (r.od cur)
 | none=>none
noncomputable def coL (cur:Nat) (E:CE):List Operand→Option (List Od)
 | []=>some []
 | o::r=>match coO vars cur E o with
  | some a=>match coL cur E r with
   | some as=>some (a::as)
   | none=>none
  | none=>none
noncomputable def coP (cur:Nat) (E:CE):List (Option (Nat×Nat)×Operand)→Option (List (Nat×Nat×Od))
 | []=>some []
 | (some (a,b+1),o)::r=>match coO vars cur E o with
  | some x=>match coP cur E r with
   | some xs=>some ((a,b+1,x)::xs)
   | none=>none
  | none=>none
 | (some (_,0),_)::_=>none
 | (none,_)::_=>none
inductive TK where
 | agg (n:Nat)
 | cell
noncomputable def tk (t:TypeId):Option TK:=match P.underlying t with
 | some (.struct _) | some (.array ..)=>match P.info? t with
  | some i=>some (.agg i.size)
  | none=>none
 | some _=>match P.info? t with
  | some i=>match Nat.beq i.size 1 with
   | true=>some .cell
   | false=>none
  | none=>none
 | none=>none
noncomputable def sizeT (t:TypeId):Option Nat:=match P.info? t with
 | some i=>some i.size
 | none=>none
noncomputable def bytesT (t:TypeId):Option Nat:=match P.info? t with
 | some i=>some i.bytes
 | none=>none
noncomputable def zeroV (t:TypeId):Option AV:=match P.info? t with
 | some i=>match i.zero with
  | some v=>ofVal v
  | none=>none
 | none=>none
noncomputable def zeroC (t:TypeId):Option (List AV):=match zeroV P t with
 | some v=>v.cells
 | none=>none
noncomputable def elemT (t:TypeId):Option TypeId:=match P.underlying t with
 | some (.slice e)=>some e
 | _=>none
noncomputable def fieldT (t:TypeId) (f:Nat):Option Field:=match P.underlying t with
 | some (.struct fs)=>fs[f]?
 | _=>none
noncomputable def flatAt:List Field→Nat→Bool
 | [],_=>true
 | f::r,i=>Nat.beq f.offset i&&!(f.name == "_")&&(match P.underlying f.type with
   | some .bool | some (.int _) | some .string=>true
   | _=>false)&&flatAt r (i+1)
noncomputable def flatK:List Field→List Nat
 | []=>[]
 | f::r=>(match P.underlying f.type with
  | some (.int _)=>0
  | some .bool=>1
  | _=>2)::flatK r
noncomputable def ekOf (t:TypeId):Option EK:=match P.underlying t with
 | some .bool=>some .b
 | some (.int _)=>some .i
 | some .string=>some .s
 | some (.pointer _)=>some .p
 | some (.slice _)=>some .l
 | some (.struct fs)=>match flatAt P fs.toList 0&&!P.stoodInHeld t&&!P.eqGuardType P.depth t with
  | true=>some (.st (flatK P fs.toList))
  | false=>none
 | _=>none
noncomputable def ekKey (t:TypeId):Option EK:=match P.underlying t with
 | some .bool=>some .b
 | some (.int _)=>some .i
 | some .string=>some .s
 | some (.struct fs)=>match flatAt P fs.toList 0&&!P.stoodInHeld t with
  | true=>some (.st (flatK P fs.toList))
  | false=>none
 | _=>none
noncomputable def isEq (op:BinOp):Option Bool:=match op with
 | .eql=>some false
 | .neq=>some true
 | _=>none
noncomputable def isU8 (t:TypeId):Bool:=match P.underlying t with
 | some (.int .u8)=>true
 | _=>false
noncomputable def coF (cur:Nat) (E:CE):Option Operand→Option (Option Od)
 | none=>some none
 | some o=>match coO vars cur E o with
  | some x=>some (some x)
  | none=>none
noncomputable def coOp1 (cur:Nat) (E:CE) (op:Op):Option VO :=
 match op with
 | .move x | .assign x=>do some (.mv (←coO vars cur E x))
 | .pick c a b=>do some (.pick (←coO vars cur E c) (←coO vars cur E a) (←coO vars cur E b))
 | .alloc t=>do some (.new (←zeroC P t))
 | .box _ x=>do some (.box (←coO vars cur E x))
 | .build t ps=>do
  let z ←zeroC P t
  match P.underlying t with
  | some (.struct fs)=>if !(fs.toList.all fun f=>(sizeT P f.type).isSome) then none else some (.build z (←coP vars cur E (ps.toList.map fun (i,x)=>((fs[i]?).bind fun f=>(sizeT P f.type).map fun n=>(f.offset,n),x))))
  | some (.array _ e)=>match sizeT P e with
   | some n=>some (.build z (←coP vars cur E (ps.toList.map fun (i,x)=>(some (i*n,n),x))))
   | none=>none
  | _=>none
 | .buildSlice t len ps=>do
  let e ←elemT P t
  let n ←sizeT P e
  let z ←zeroC P e
  if len*n>2^24∨z.length≠n then none else
  some (.bsl (rep len z) len n (←coP vars cur E (ps.toList.map fun (i,x)=>(some (i*n,n),x))))
 | .load t x=>do match ←tk P t with
  | .agg n=>some (.lda n (←coO vars cur E x))
  | .cell=>some (.ld (←coO vars cur E x))
 | .store t x v=>do some (.st (←sizeT P t) (←coO vars cur E x) (←coO vars cur E v))
 | .nilCheck x=>do some (.nilc (←coO vars cur E x))
 | .binOp op t x y _=>do
  let x ←coO vars cur E x
  let y ←coO vars cur E y
  match isEq op with
  | none=>some (.bin op x y)
  | some neg=>match ←ekOf P t with
   | .i=>some (.bin op x y)
   | k=>some (.eq neg k x y)
 | .unOp op _ x=>do some (.un op (←coO vars cur E x))
 | .convert src dst x=>do
  let x ←coO vars cur E x
  match P.underlying src,P.underlying dst with
  | some (.int _),some (.int k)=>some (.cvi k x)
  | some .string,some (.slice e)=>if isU8 P e then some (.cvb x) else none
  | some (.slice e),some .string=>if isU8 P e then some (.cvs x) else none
  | some (.slice e),some (.slice e')=>if src==dst&&isU8 P e' then some (.cve x) else none
  | _,_=>none
 | .makeInterface t x=>do match P.underlying t with
  | some (.interface _) | none=>none
  | some _=>some (.mki t (←coO vars cur E x))
 | .makeFunc (.func f) a b=>do some (.mkf f (←coL vars cur E a.toList) (←coL vars cur E b.toList))
 | .makeMap _ none=>some .mkm
 | .makeSlice t l c=>do
  let e ←elemT P t
  let z ←zeroC P e
  if z.length≠(←sizeT P e) then none else
  some (.mks z (←sizeT P e) (←bytesT P e) (←coO vars cur E l) (←coO vars cur E c))
 | .slice t x lo hi mx=>do
  let x ←coO vars cur E x
  let lo ←coF vars cur E lo
  let hi ←coF vars cur E hi
  let mx ←coF vars cur E mx
  if mx.isSome&&hi.isNone then none else
  match P.underlying t with
  | some .string=>if mx.isSome then none else some (.sls x lo hi)
  | some (.slice e)=>some (.sli (←sizeT P e) x lo hi mx)
  | _=>none
 | .fieldAddr t x f=>do
  let fd ←fieldT P t f
  if (←sizeT P fd.type)=0 then none else
  some (.fa fd.offset (←coO vars cur E x))
 | .field t x f=>do
  let fd ←fieldT P t f
  match ←tk P fd.type with
  | .agg n=>some (.flda fd.offset n (←coO vars cur E x))
  | .cell=>some (.fld fd.offset (←coO vars cur E x))
 | .indexAddr t x i=>do match P.underlying t with
  | some (.array n e)=>some (.iar n (←sizeT P e) (←coO vars cur E x) (←coO vars cur E i))
  | some (.slice e)=>some (.ia (←sizeT P e) (←coO vars cur E x) (←coO vars cur E i))
  | _=>none
 | .index t x i=>do match P.underlying t with
  | some .string=>some (.ixs (←coO vars cur E x) (←coO vars cur E i))
  | some (.array n e)=>match ←tk P e with
   | .cell=>some (.ixa n (←coO vars cur E x) (←coO vars cur E i))
   | _=>none
  | _=>none
 | .lookup t m k ok=>do match P.underlying t with
  | some (.map kt e)=>some (.lkp (←ekKey P kt) (←zeroV P e) ok (←coO vars cur E m) (←coO vars cur E k))
  | _=>none
 | .mapUpdate t m k v | .insert t m k v=>do match P.underlying t with
  | some (.map kt _)=>some (.mup (←ekKey P kt) (←coO vars cur E m) (←coO vars cur E k) (←coO vars cur E v))
  | _=>none
 | .extract x i=>do some (.ext i (←coO vars cur E x))
 | .call c=>match c.callee with
  | .value f=>do some (.call (←coO vars cur E f) (←coL vars cur E c.args.toList))
  | .builtin b=>do
   let args ←coL vars cur E c.args.toList
   let t ←c.argTypes[0]?
   match b,args,P.underlying t with
   | .len,[x],some .string=>some (.lens x)
   | .len,[x],some (.slice _)=>some (.len x)
   | .cap,[x],some (.slice _)=>some (.cap x)
   | .max,xs,some (.int _)=>some (.mx xs)
   | .min,xs,some (.int _)=>some (.mn xs)
   | .append,[x,y],some (.slice e)=>do
    let t' ←c.argTypes[1]?
    let n ←sizeT P e
    let bs ←bytesT P e
    match P.underlying t' with
    | some (.int _)=>if (←zeroC P e).length=n then some (.apz n bs (←zeroC P e) x y) else none
    | some _=>if (←zeroC P e).length=n then some (.app n bs x y) else none
    | none=>none
   | .clear,[x],some (.slice e)=>do if (←zeroC P e).length=(←sizeT P e) then some (.clr (←sizeT P e) (←zeroC P e) x) else none
   | .copy,[x,y],some (.slice e)=>do some (.cpy (←sizeT P e) x y)
   | _,_,_=>none
  | _=>none
 | _=>none
noncomputable def VO.no:VO := .ext 0 (.c .nilp)
noncomputable def coOp (cur:Nat) (E:CE) (op:Op):VO:=match coOp1 P vars cur E op with
 | some o=>o
 | none=>VO.no
noncomputable def coG (ops:Array Oper) (cur:Nat) (E:CE) (o:Oper) (v:VO):VI:=match o.guard with
 | none => .i v
 | some (j,want)=>match (ops[j]?).bind (·.dst) with
  | some d=>match lookE d E with
   | some r => .g (r.od cur) want v
   | none => .i VO.no
  | none => .i VO.no
noncomputable def coI (nt:Nat) (ops:Array Oper) (cur:Nat) (E:CE) (o:Oper):VI:=match o.dst with
 | some d=>match Nat.blt d nt with
  | true=>coG ops cur E o (coOp P vars cur E o.op)
  | false => .i VO.no
 | none=>coG ops cur E o (coOp P vars cur E o.op)
noncomputable def pushE (cur:Nat) (E:CE) (d:Option Nat):CE:=match d with
 | some d=>(d,.p cur)::E
 | none=>E
noncomputable def aliasOf (nt:Nat) (E:CE) (o:Oper):Option (Nat×Rf):=match o.guard,o.dst with
 | none,some d=>match Nat.blt d nt,o.op with
  | true,.move x | true,.assign x=>match coRf vars E x with
   | some r=>some (d,r)
   | none=>none
  | _,_=>none
 | _,_=>none
noncomputable def coIs (nt:Nat) (al:Bool) (ops:Array Oper):List Oper→Nat→CE→List VI
 | [],_,_=>[]
 | o::r,cur,E=>match (if al then aliasOf vars nt E o else none) with
  | some a=>coIs nt al ops r cur (a::E)
  | none=>coI P vars nt ops cur E o::coIs nt al ops r (cur+1) (pushE cur E o.dst)
noncomputable def endE (nt:Nat) (al:Bool):List Oper→Nat→CE→Nat×CE
 | [],cur,E=>(cur,E)
 | o::r,cur,E=>match (if al then aliasOf vars nt E o else none) with
  | some a=>endE nt al r cur (a::E)
  | none=>endE nt al r (cur+1) (pushE cur E o.dst)
noncomputable def keepOf (cur:Nat) (E:CE):List Nat→Nat→List (Nat×Od)
 | [],_=>[]
 | k::r,w=>match lookE k E with
  | some x=>(w,x.od cur)::keepOf cur E r (w+1)
  | none=>keepOf cur E r (w+1)
noncomputable def VI.cls:VI→Nat
 | .i o=>Vm.cls o
 | .g _ _ o=>Vm.cls o
noncomputable def bitsOf (ops:Array Oper):List Nat:=(Region.before ops).toList
noncomputable def cntF (p:Nat→Bool) (n:Nat):Nat:=((List.range n).filter p).length
noncomputable def isLoud (cl:List Nat) (i:Nat):Bool:=Nat.beq (cl.getD i 0) 2
noncomputable def isFresh (cl:List Nat) (i:Nat):Bool:=Nat.beq (cl.getD i 0) 3
noncomputable def bitAt (B:List Nat) (j i:Nat):Bool:=tb (B.getD j 0) i
noncomputable def winOf (cl:List Nat) (B:List Nat) (j:Nat):WI :=
 match cl.getD j 0 with
 | 1=>⟨cntF (fun e=>isLoud cl e&&bitAt B j e) cl.length,cntF (fun e=>isLoud cl e&&!bitAt B e j) cl.length,B.getD j 0⟩
 | 3=>⟨cntF (fun e=>isLoud cl e&&!bitAt B e j) cl.length+1,cntF (isFresh cl) j,B.getD j 0⟩
 | _=>⟨0,0,B.getD j 0⟩
noncomputable def winsOf (cl:List Nat) (B:List Nat):List WI:=(List.range cl.length).map (winOf cl B)
noncomputable def allN (n:Nat) (p:Nat→Bool):Bool:=(List.range n).all p
noncomputable def opAt (ops:List Oper) (j:Nat) (p:Oper→Bool):Bool:=match ops[j]? with
 | some o=>p o
 | none=>false
noncomputable def clear2 (ops:List Oper) (B:List Nat) (i j:Nat) (oi oj:Oper):Bool :=
 (match oi.dst with
  | some d=>(!((oj.looksAt ops.toArray).contains d)||bitAt B j i)&&!(oj.dst==some d)
  | none=>true) &&
 (match oj.dst with
  | some d=>!((oi.looksAt ops.toArray).contains d)||bitAt B j i
  | none=>true)
noncomputable def drawOk (ops:List Oper) (cl:List Nat) (B:List Nat):Bool :=
 allN ops.length fun j=>opAt ops j fun oj =>
  (oj.after.toList.all fun e=>!Region.binds .any e||Nat.blt e.on j) &&
  Nat.blt (B.getD j 0) (2^j) &&
  (allN j fun i=>!bitAt B j i||oj.after.toList.any fun e=>Region.binds .any e&&(Nat.beq e.on i||bitAt B e.on i)) &&
  (allN j fun i=>opAt ops i fun oi=>clear2 ops B i j oi oj&&(!(isLoud cl i&&isLoud cl j)||bitAt B j i)) &&
  (allN ops.length fun e=>!(isFresh cl j&&isLoud cl e)||(bitAt B e j==Nat.ble (winOf cl B j).lo (cntF (isLoud cl) e+1)))
noncomputable def VC.no:VC := .cond (.c .nilp) .skip .skip
noncomputable def coD (nt:Nat) (ops:Array Oper):Option VC :=
 let vs:=coIs P vars nt false ops ops.toList 0 []
 match drawOk ops.toList (vs.map VI.cls) (bitsOf ops) with
 | true=>some (.drw vs (keepOf (endE vars nt false ops.toList 0 []).1 (endE vars nt false ops.toList 0 []).2 vars 0) (winsOf (vs.map VI.cls) (bitsOf ops)) (cntF (isFresh (vs.map VI.cls)) ops.size))
 | false=>none
noncomputable def pairAt:List Oper→Nat→Option Nat
 | x::y::r,n=>match x.op,y.op with
  | .insert ..,.insert ..=>some n
  | _,_=>pairAt (y::r) (n+1)
 | _,_=>none
noncomputable def swN (i k:Nat):Nat:=match Nat.beq k i with
 | true=>i+1
 | false=>match Nat.beq k (i+1) with
  | true=>i
  | false=>k
noncomputable def oneL (i:Nat) (o:Oper) (n:Nat):Oper:=match Nat.beq n (i+1) with
 | true=>{ o with after:=o.after.push ⟨i,.data⟩ }
 | false=>o
noncomputable def mapN (f:Oper→Nat→Oper):List Oper→Nat→List Oper
 | [],_=>[]
 | o::r,n=>f o n::mapN f r (n+1)
noncomputable def swE (i:Nat) (e:Edge):Edge:={ e with on:=swN i e.on }
noncomputable def swO (i:Nat) (o:Oper) (_:Nat):Oper:={ o with after:=(o.after.toList.map (swE i)).toArray }
noncomputable def swL:List Oper→Nat→List Oper
 | x::y::r,0=>y::x::r
 | x::r,n+1=>x::swL r n
 | l,_=>l
noncomputable def opsA (ops:Array Oper) (i:Nat):Array Oper:=(mapN (oneL i) ops.toList 0).toArray
noncomputable def opsB (ops:Array Oper) (i:Nat):Array Oper:=(mapN (oneL i) (swL (mapN (swO i) ops.toList 0) i) 0).toArray
noncomputable def coC (nt:Nat):Code→VC
 | .skip => .skip
 | .seq a b => .seq (coC nt a) (coC nt b)
 | .region _ ops false => .reg (coIs P vars nt true ops ops.toList 0 []) (keepOf (endE vars nt true ops.toList 0 []).1 (endE vars nt true ops.toList 0 []).2 vars 0)
 | .region _ ops true=>match coD P vars nt ops with
  | some c=>c
  | none=>match ops.toList.all (fun o=>o.guard.isNone),pairAt ops.toList 0 with
   | true,some i=>match coD P vars nt (opsA ops i),coD P vars nt (opsB ops i) with
    | some x,some y => .two x y
    | _,_=>VC.no
   | _,_=>VC.no
 | .cond c a b=>match coO vars 0 [] c with
  | some x => .cond x (coC nt a) (coC nt b)
  | none=>VC.no
 | .block id c => .block id (coC nt c)
 | .loop c => .loop (coC nt c)
 | .exit id => .exit id
 | .ret => .ret
 | _=>VC.no
noncomputable def coR:List ResultVar→Option (List RV)
 | []=>some []
 | .tmp t::r=>match idxV t vars with
  | some i=>match coR r with
   | some rs=>some (.tmp i::rs)
   | none=>none
  | none=>none
 | .cell a t::r=>match idxV a vars with
  | some i=>match tk P t with
   | some (.agg n)=>match coR r with
    | some rs=>some (.lda n i::rs)
    | none=>none
   | some .cell=>match coR r with
    | some rs=>some (.ld i::rs)
    | none=>none
   | none=>none
  | none=>none
noncomputable def coFn (fn:Func):Option VF:=match fn.body with
 | some c =>
  let np:=fn.params.size+fn.nfree
  if vars.take np==List.range np&&Nat.ble np fn.ntmps&&!(fn.name == "runtime.NumGoroutine")&&vars.all (Nat.blt · fn.ntmps) then match coR P vars fn.results.toList with
   | some rs=>some (.code np vars (coC P vars fn.ntmps c) rs)
   | none=>none
  else none
 | none=>none
end
section
variable {α : Type}
@[simp] theorem Tr.get_e (k:Nat):(Tr.e:Tr α).get k=none:=rfl
@[simp] theorem Tr.get_zero (l r:Tr α) (v:Option α):(Tr.n l v r).get 0=v:=rfl
theorem Tr.get_succ (l r:Tr α) (v:Option α) (k:Nat):(Tr.n l v r).get (k+1)=if k%2=0 then l.get (k / 2) else r.get (k / 2):=by
 show Nat.rec (motive:=fun _=>Option α) (l.get (Nat.div k 2)) (fun _ _=>r.get (Nat.div k 2)) (Nat.land k 1)=_
 have h:Nat.land k 1=k%2:=Nat.and_one_is_mod k
 rw[h]
 rcases Nat.mod_two_eq_zero_or_one k with h | h <;> rw[h] <;> rfl
theorem Tr.set_e (x:Option α) (f k:Nat):Tr.set x (f+1) .e k=match k with
  | 0 => .n .e x .e
  | k+1=>if k%2=0 then .n (Tr.set x f .e (k / 2)) none .e else .n .e none (Tr.set x f .e (k / 2)):=by
 cases k with
 | zero=>rfl
 | succ k =>
  show Nat.rec (motive:=fun _=>Tr α) (.n (Tr.set x f .e (Nat.div k 2)) none .e) (fun _ _ => .n .e none (Tr.set x f .e (Nat.div k 2))) (Nat.land k 1)=_
  have h:Nat.land k 1=k%2:=Nat.and_one_is_mod k
  rw[h]
  rcases Nat.mod_two_eq_zero_or_one k with h | h <;> simp only[h] <;> rfl
theorem Tr.set_n (x:Option α) (f k:Nat) (l r:Tr α) (v:Option α):Tr.set x (f+1) (.n l v r) k=match k with
  | 0 => .n l x r
  | k+1=>if k%2=0 then .n (Tr.set x f l (k / 2)) v r else .n l v (Tr.set x f r (k / 2)):=by
 cases k with
 | zero=>rfl
 | succ k =>
  show Nat.rec (motive:=fun _=>Tr α) (.n (Tr.set x f l (Nat.div k 2)) v r) (fun _ _ => .n l v (Tr.set x f r (Nat.div k 2))) (Nat.land k 1)=_
  have h:Nat.land k 1=k%2:=Nat.and_one_is_mod k
  rw[h]
  rcases Nat.mod_two_eq_zero_or_one k with h | h <;> simp only[h] <;> rfl
theorem Tr.get_set (x:Option α):∀ (f k j:Nat) (t:Tr α),k<f→(Tr.set x f t k).get j=if j=k then x else t.get j:=by
 intro f
 induction f with
 | zero=>intro k j t h; omega
 | succ f ih =>
  intro k j t hk
  cases t with
  | e =>
   rw[Tr.set_e]
   cases k with
   | zero =>
    cases j with
    | zero=>simp
    | succ j=>rw[Tr.get_succ]; simp
   | succ k =>
    simp only
    cases j with
    | zero=>split <;> simp
    | succ j =>
     by_cases hk2:k%2=0
     ·rw[if_pos hk2,Tr.get_succ]
      by_cases hj2:j%2=0
      ·rw[if_pos hj2,ih _ _ _ (by omega)]
       by_cases e:j / 2=k / 2
       ·rw[if_pos e,if_pos (by omega)]
       ·rw[if_neg e,if_neg (by omega)]; simp
      ·rw[if_neg hj2,if_neg (by omega)]; simp
     ·rw[if_neg hk2,Tr.get_succ]
      by_cases hj2:j%2=0
      ·rw[if_pos hj2,if_neg (by omega)]; simp
      ·rw[if_neg hj2,ih _ _ _ (by omega)]
       by_cases e:j / 2=k / 2
       ·rw[if_pos e,if_pos (by omega)]
       ·rw[if_neg e,if_neg (by omega)]; simp
  | n l v r =>
   rw[Tr.set_n]
   cases k with
   | zero =>
    cases j with
    | zero=>simp
    | succ j=>rw[Tr.get_succ,Tr.get_succ]; simp
   | succ k =>
    simp only
    cases j with
    | zero=>split <;> simp
    | succ j =>
     by_cases hk2:k%2=0
     ·rw[if_pos hk2,Tr.get_succ,Tr.get_succ]
      by_cases hj2:j%2=0
      ·rw[if_pos hj2,if_pos hj2,ih _ _ _ (by omega)]
       by_cases e:j / 2=k / 2
       ·rw[if_pos e,if_pos (by omega)]
       ·rw[if_neg e,if_neg (by omega)]
      ·rw[if_neg hj2,if_neg hj2,if_neg (by omega)]
     ·rw[if_neg hk2,Tr.get_succ,Tr.get_succ]
      by_cases hj2:j%2=0
      ·rw[if_pos hj2,if_pos hj2,if_neg (by omega)]
      ·rw[if_neg hj2,if_neg hj2,ih _ _ _ (by omega)]
       by_cases e:j / 2=k / 2
       ·rw[if_pos e,if_pos (by omega)]
       ·rw[if_neg e,if_neg (by omega)]
@[simp] theorem nth_eq (l:List α) (i:Nat):nth l i=l[i]?:=by
 induction l generalizing i with
 | nil=>rfl
 | cons x l ih=>cases i with
  | zero=>rfl
  | succ i=>exact ih i
@[simp] theorem lenL_eq (l:List α):lenL l=l.length:=by
 induction l with
 | nil=>rfl
 | cons x l ih=>show Nat.add (lenL l) 1=_; rw[ih]; rfl
end
@[simp] theorem ob_none {α β:Type} (k:β→Option α):ob none k=none:=rfl
@[simp] theorem ob_some {α β:Type} (k:β→Option α) (x:β):ob (some x) k=k x:=rfl
theorem ob_eq {α β:Type} {x:Option β} {k:β→Option α} {y:α} (h:ob x k=some y):∃ z,x=some z∧k z=some y:=by
 cases x with
 | none=>exact absurd h (by simp)
 | some z=>exact ⟨z,rfl,h⟩
@[simp] theorem cnd_true {α:Type} (x y:α):cnd true x y=x:=rfl
@[simp] theorem cnd_false {α:Type} (x y:α):cnd false x y=y:=rfl
theorem cnd_eq {α:Type} (b:Bool) (x y:α):cnd b x y=if b=true then x else y:=by cases b <;> rfl
theorem nthO_eq (l:LF) (i:Nat):nthO l i=(l[i]?).join:=by
 induction l generalizing i with
 | nil=>rfl
 | cons x l ih=>cases i with
  | zero=>rfl
  | succ i=>exact ih i
theorem setN_eq (l:LF) (i:Nat) (v:Option AV):setN l i v=l.set i v:=by
 induction l generalizing i with
 | nil=>rfl
 | cons x l ih=>cases i with
  | zero=>rfl
  | succ i=>show x::setN l i v=_; rw[ih]; rfl
@[simp] theorem ev_t (L F:LF) (i:Nat):ev L F (.t i)=nthO L i:=rfl
@[simp] theorem ev_w (L F:LF) (i:Nat):ev L F (.w i)=nthO F i:=rfl
@[simp] theorem ev_c (L F:LF) (v:AV):ev L F (.c v)=some v:=rfl
@[simp] theorem evs_nil (L F:LF):evs L F []=some []:=rfl
@[simp] theorem evs_cons (L F:LF) (o:Od) (l:List Od):evs L F (o::l)=ob (ev L F o) fun v=>ob (evs L F l) fun vs=>some (v::vs):=rfl
@[simp] theorem evp_nil (L F:LF):evp L F []=some []:=rfl
@[simp] theorem evp_cons (L F:LF) (o:Nat×Nat×Od) (l:List (Nat×Nat×Od)):evp L F (o::l)=ob (ev L F o.2.2) fun v=>ob (evp L F l) fun vs=>some ((o.1,o.2.1,v)::vs):=rfl
theorem takeN_some {n:Nat} {l r:List AV} (h:takeN n l=some r):n≤l.length∧r=l.take n:=by
 induction n generalizing l r with
 | zero=>cases h; simp
 | succ n ih =>
  cases l with
  | nil=>cases h
  | cons x l =>
   obtain ⟨z,h1,h2⟩:=ob_eq (show ob (takeN n l) (fun r=>some (x::r))=some r from h)
   cases h2
   obtain ⟨a,rfl⟩:=ih h1
   simp; omega
theorem sub_some {l r:List AV} {i n:Nat} (h:sub l i n=some r):(i+n≤l.length∨n=0)∧r=(l.drop i).take n:=by
 induction i generalizing l with
 | zero =>
  obtain ⟨a,b⟩:=takeN_some (show takeN n l=some r from h)
  exact ⟨.inl (by omega),by simpa using b⟩
 | succ i ih =>
  cases l with
  | nil =>
   obtain ⟨a,b⟩:=takeN_some (show takeN n []=some r from h)
   simp at a
   exact ⟨.inr a,by simp[a,b]⟩
  | cons x l =>
   obtain ⟨a,b⟩:=ih (show sub l i n=some r from h)
   exact ⟨a.imp (fun a=>by simp; omega) id,by simpa using b⟩
theorem sub_length {l r:List AV} {i n:Nat} (h:sub l i n=some r):r.length=n:=by
 obtain ⟨h1,rfl⟩:=sub_some h
 simp; omega
theorem sub_get {l r:List AV} {i n:Nat} (h:sub l i n=some r) (j:Nat) (v:AV) (hv:r[j]?=some v):l[i+j]?=some v∧j<n:=by
 obtain ⟨h1,rfl⟩:=sub_some h
 rw[List.getElem?_take] at hv
 split at hv
 ·rw[List.getElem?_drop] at hv; exact ⟨hv,by assumption⟩
 ·cases hv
theorem setL_some:∀ {l ys r:List AV} {i:Nat},setL l i ys=some r→r.length=l.length∧(ys=[]∨i+ys.length≤l.length) ∧
  ∀ j,r[j]?=if i≤j∧j<i+ys.length then ys[j-i]? else l[j]?:=by
 intro l ys
 induction l generalizing ys with
 | nil =>
  intro r i h
  cases ys with
  | nil=>simp only[setL] at h; cases h; simp
  | cons y ys=>cases i <;> cases h
 | cons x l ih =>
  intro r i h
  cases ys with
  | nil=>simp only[setL] at h; cases h; simp; intro j h1 h2; omega
  | cons y ys =>
   cases i with
   | zero =>
    obtain ⟨z,h1,h2⟩:=ob_eq (show ob (setL l 0 ys) (fun r=>some (y::r))=some r from h)
    cases h2
    obtain ⟨a,b,c⟩:=ih h1
    refine ⟨by simp[a],.inr ?_,fun j=>?_⟩
    ·rcases b with rfl | b <;> simp at * <;> omega
    ·cases j with
     | zero=>simp
     | succ j=>simp only[List.getElem?_cons_succ,c]; simp
   | succ i =>
    obtain ⟨z,h1,h2⟩:=ob_eq (show ob (setL l i (y::ys)) (fun r=>some (x::r))=some r from h)
    cases h2
    obtain ⟨a,b,c⟩:=ih h1
    refine ⟨by simp[a],.inr ?_,fun j=>?_⟩
    ·rcases b with b | b
     ·cases b
     ·simp at *; omega
    ·cases j with
     | zero=>simp
     | succ j =>
      simp only[List.getElem?_cons_succ,c]
      by_cases hh:i≤j∧j<i+(y::ys).length
      ·(rw[if_pos hh,if_pos (by omega)]; try (congr 1 <;> omega))
      ·rw[if_neg hh,if_neg (by omega)]
theorem setX_some:∀ {l ys r:List AV} {i:Nat},setX l i ys=some r→(ys=[]∨i≤l.length)∧r.length=max l.length (if ys=[] then 0 else i+ys.length) ∧
  ∀ j,r[j]?=if i≤j∧j<i+ys.length then ys[j-i]? else l[j]?:=by
 intro l ys
 induction l generalizing ys with
 | nil =>
  intro r i h
  cases ys with
  | nil=>simp only[setX] at h; cases h; simp
  | cons y ys =>
   cases i with
   | zero =>
    simp only[setX] at h; cases h
    refine ⟨by simp,by simp,fun j=>?_⟩
    by_cases hh:0≤j∧j<0+(y::ys).length
    ·rw[if_pos hh]; simp
    ·rw[if_neg hh]; simp at hh ⊢; omega
   | succ i=>cases h
 | cons x l ih =>
  intro r i h
  cases ys with
  | nil=>simp only[setX] at h; cases h; simp; intro j h1 h2; omega
  | cons y ys =>
   cases i with
   | zero =>
    obtain ⟨z,h1,h2⟩:=ob_eq (show ob (setX l 0 ys) (fun r=>some (y::r))=some r from h)
    cases h2
    obtain ⟨a,b,c⟩:=ih h1
    refine ⟨by simp,?_,fun j=>?_⟩
    ·simp[b]; split <;> simp_all <;> omega
    ·cases j with
     | zero=>simp
     | succ j=>simp only[List.getElem?_cons_succ,c]; simp
   | succ i =>
    obtain ⟨z,h1,h2⟩:=ob_eq (show ob (setX l i (y::ys)) (fun r=>some (x::r))=some r from h)
    cases h2
    obtain ⟨a,b,c⟩:=ih h1
    refine ⟨.inr ?_,?_,fun j=>?_⟩
    ·rcases a with a | a
     ·cases a
     ·simp; omega
    ·simp[b]; omega
    ·cases j with
     | zero=>simp
     | succ j =>
      simp only[List.getElem?_cons_succ,c]
      by_cases hh:i≤j∧j<i+(y::ys).length
      ·(rw[if_pos hh,if_pos (by omega)]; try (congr 1 <;> omega))
      ·rw[if_neg hh,if_neg (by omega)]
theorem truncL_eq (n:Nat) (l:List AV):truncL n l=l.take n:=by
 induction n generalizing l with
 | zero=>simp[truncL]
 | succ n ih=>cases l <;> simp[truncL,ih]
theorem rep_length (n:Nat) (l:List AV):(rep n l).length=n*l.length:=by
 induction n with
 | zero=>simp[rep]
 | succ n ih=>simp[rep,ih,Nat.succ_mul]; omega
structure Env where
 blk:Nat→Option (Nat×Nat×Nat)
 mp:Nat→Option Nat
structure Env.le (E E':Env):Prop where
 blk:∀ b x,E.blk b=some x→E'.blk b=some x
 mp:∀ b x,E.mp b=some x→E'.mp b=some x
theorem Env.le.refl (E:Env):E.le E:=⟨fun _ _ h=>h,fun _ _ h=>h⟩
theorem Env.le.trans {A B C:Env} (h:A.le B) (k:B.le C):A.le C:=⟨fun b x y=>k.blk b x (h.blk b x y),fun b x y=>k.mp b x (h.mp b x y)⟩
def lin (ρ:Nat→Int):List (Nat×Int)→Int
 | []=>0
 | t::r=>t.2*ρ t.1+lin ρ r
def IR (ρ:Nat→Int) (k:IntKind) (a:AI) (x:Int):Prop:=match a with
 | .c n=>x=n
 | .s ts d=>x=k.wrap (lin ρ ts+d)
def OrcOk (ρ:Nat→Int) (e:Orc):Prop:=∀ X Y:Int,IR ρ .i64 e.x X→IR ρ .i64 e.y Y→match e.op with
 | 0=>Y≠0∧IR ρ .i64 e.r (IntKind.i64.wrap (X.tdiv Y))
 | 1=>IR ρ .i64 e.r (if X≤Y then Y else X)
 | 2=>IR ρ .i64 e.r (if X≤Y then X else Y)
 | 3=>decide (X<Y)=bOf e.r
 | 4=>decide (X≤Y)=bOf e.r
 | 5=>(X==Y)=bOf e.r
 | 6=>Y≠0∧IR ρ .i64 e.r (X.tmod Y)
 | _=>False
structure BdOk (ρ:Nat→Int) (bd:Bd):Prop where
 b:∀ i,(bd.b i).1≤ρ i∧ρ i≤(bd.b i).2
 o:∀ k,∀ e∈bd.o k,OrcOk ρ e
inductive SR (ρ:Nat→Int):List AI→List UInt8→Prop
 | nil:SR ρ [] []
 | cons {a b l m}:IR ρ .u8 a (b.toNat:Int)→SR ρ l m→SR ρ (a::l) (b::m)
def AV.scalar (v:AV):Bool:=match v with
 | .agg _=>false
 | .tup _=>false
 | _=>true
mutual
inductive VR (ρ:Nat→Int) (E:Env):AV→Value→Prop
 | bool (b):VR ρ E (.bool b) (.bool b)
 | int {k n x}:IR ρ k n x→VR ρ E (.int k n) (.int k x)
 | str {l s}:SR ρ l s.data.toList→VR ρ E (.str l) (.string s)
 | nilp:VR ρ E .nilp (.pointer none)
 | ptr {b off B δ z}:E.blk b=some (B,δ,z)→VR ρ E (.ptr b off) (.pointer (some ⟨B,off+δ,none⟩))
 | nils:VR ρ E .nils (.slice none 0 0)
 | sl {b off len lo ex sz B δ z cap}:E.blk b=some (B,δ,z)→len≤lo→lo≤cap→(ex=true→cap=lo)→off+δ+cap*sz≤z→VR ρ E (.sl b off len lo ex sz) (.slice (some ⟨B,off+δ,none⟩) len cap)
 | emp {a cap}:VR ρ E .emp (.slice (some a) 0 cap)
 | mapr {r R}:E.mp r=some R→VR ρ E (.mapr r) (.map (some R))
 | nilm:VR ρ E .nilm (.map none)
 | fn {f a b xs ys}:VRs ρ E a xs→VRs ρ E b ys→VR ρ E (.fn f a b) (.func (.func f) xs.toArray ys.toArray)
 | nilf:VR ρ E .nilf .nilFunc
 | iface {t v x}:VR ρ E v x→VR ρ E (.iface t v) (.iface t x)
 | nili:VR ρ E .nili .nilIface
 | agg {cs xs}:VRs ρ E cs xs→(∀ c∈cs,c.scalar=true)→VR ρ E (.agg cs) (.agg xs.toArray)
 | tup {cs xs}:VRs ρ E cs xs→VR ρ E (.tup cs) (.tuple xs.toArray)
 | arg {b n:Nat} {x:AI} {sz B δ z len cap:Nat}:E.blk b=some (B,δ,z)→IR ρ .i64 x (len:Int)→n≤len→len≤cap→δ+cap*sz≤z→VR ρ E (.iface 0 (.agg [.tup [.ptr b n,.int .i64 x,.int .u64 (.c (Int.ofNat sz))]])) (.slice (some ⟨B,δ,none⟩) len cap)
inductive VRs (ρ:Nat→Int) (E:Env):List AV→List Value→Prop
 | nil:VRs ρ E [] []
 | cons {a x l xs}:VR ρ E a x→VRs ρ E l xs→VRs ρ E (a::l) (x::xs)
end
mutual
theorem VR.mono {ρ:Nat→Int} {E E':Env} (h:E.le E'):∀ {a:AV} {x:Value},VR ρ E a x→VR ρ E' a x
 | _,_,.bool b => .bool b
 | _,_,.int i => .int i
 | _,_,.str i => .str i
 | _,_,.nilp => .nilp
 | _,_,.ptr e => .ptr (h.blk _ _ e)
 | _,_,.nils => .nils
 | _,_,.sl e a b c d => .sl (h.blk _ _ e) a b c d
 | _,_,.emp => .emp
 | _,_,.mapr e => .mapr (h.mp _ _ e)
 | _,_,.nilm => .nilm
 | _,_,.fn a b => .fn (VRs.mono h a) (VRs.mono h b)
 | _,_,.nilf => .nilf
 | _,_,.iface a => .iface (VR.mono h a)
 | _,_,.nili => .nili
 | _,_,.agg a s => .agg (VRs.mono h a) s
 | _,_,.tup a => .tup (VRs.mono h a)
 | _,_,.arg e a b c d => .arg (h.blk _ _ e) a b c d
theorem VRs.mono {ρ:Nat→Int} {E E':Env} (h:E.le E'):∀ {a:List AV} {x:List Value},VRs ρ E a x→VRs ρ E' a x
 | _,_,.nil => .nil
 | _,_,.cons a b => .cons (VR.mono h a) (VRs.mono h b)
end
section
variable {ρ : Nat → Int} {E : Env}
theorem VRs.length {l:List AV} {xs:List Value} (h:VRs ρ E l xs):xs.length=l.length:=by
 induction l generalizing xs with
 | nil=>cases h; rfl
 | cons a l ih=>cases h with | cons h1 h2=>simp[ih h2]
theorem VRs.get {l:List AV} {xs:List Value} (h:VRs ρ E l xs) (i:Nat) (a:AV) (ha:l[i]?=some a):∃ x,xs[i]?=some x∧VR ρ E a x:=by
 induction l generalizing xs i with
 | nil=>simp at ha
 | cons b l ih=>cases h with | cons h1 h2 =>
  cases i with
  | zero=>simp at ha; subst ha; exact ⟨_,rfl,h1⟩
  | succ i=>exact ih h2 i (by simpa using ha)
theorem VRs.of_get {l:List AV} {xs:List Value} (hl:xs.length=l.length) (h:∀ (i:Nat) (a:AV),l[i]?=some a→∃ x,xs[i]?=some x∧VR ρ E a x):VRs ρ E l xs:=by
 induction l generalizing xs with
 | nil=>cases xs with | nil=>exact .nil | cons=>simp at hl
 | cons b l ih =>
  cases xs with
  | nil=>simp at hl
  | cons x xs =>
   obtain ⟨y,h1,h2⟩:=h 0 b rfl
   simp at h1; subst h1
   exact .cons h2 (ih (by simpa using hl) fun i a ha=>by simpa using h (i+1) a (by simpa using ha))
theorem VRs.append {l m:List AV} {xs ys:List Value} (h:VRs ρ E l xs) (k:VRs ρ E m ys):VRs ρ E (l++m) (xs++ys):=by
 induction l generalizing xs with
 | nil=>cases h; exact k
 | cons a l ih=>cases h with | cons h1 h2=>exact .cons h1 (ih h2)
theorem VRs.take {l:List AV} {xs:List Value} (h:VRs ρ E l xs) (n:Nat):VRs ρ E (l.take n) (xs.take n):=by
 induction l generalizing xs n with
 | nil=>cases h; simp; exact .nil
 | cons a l ih=>cases h with | cons h1 h2 =>
  cases n with
  | zero=>simp; exact .nil
  | succ n=>simp; exact .cons h1 (ih h2 n)
theorem VRs.drop {l:List AV} {xs:List Value} (h:VRs ρ E l xs) (n:Nat):VRs ρ E (l.drop n) (xs.drop n):=by
 induction l generalizing xs n with
 | nil=>cases h; simp; exact .nil
 | cons a l ih=>cases h with | cons h1 h2 =>
  cases n with
  | zero=>simp; exact .cons h1 h2
  | succ n=>simp; exact ih h2 n
theorem VRs.sub {l r:List AV} {xs:List Value} (h:VRs ρ E l xs) {i n:Nat} (hs:Vm.sub l i n=some r):VRs ρ E r ((xs.drop i).take n):=by
 obtain ⟨_,rfl⟩:=sub_some hs
 exact (h.drop i).take n
theorem VR.scalar_cell {a:AV} {x:Value} (h:VR ρ E a x) (hs:a.scalar=true):x.cells=#[x]∧(∀ v,x ≠ .agg v)∧(∀ v,x ≠ .tuple v):=by
 cases h <;> first | (simp[AV.scalar] at hs; done) | (refine ⟨rfl,?_,?_⟩ <;> (intro v hv; cases hv))
theorem VR.cells {a:AV} {x:Value} (h:VR ρ E a x) {cs:List AV} (hc:a.cells=some cs):VRs ρ E cs x.cells.toList∧∀ c∈cs,c.scalar=true:=by
 cases h <;> simp only[AV.cells,AV.onAgg,AV.onTup,Option.some.injEq,reduceCtorEq] at hc <;>
  first
   | (subst hc; exact ⟨.cons (by constructor <;> assumption) .nil,by simp[AV.scalar]⟩)
   | (subst hc; rename_i h1 h2; exact ⟨by simpa [Value.cells] using h1,h2⟩)
theorem mark_inv {b n:Nat} {x:AI} {sz:Nat} {X:Value} (h:VR ρ E (markV b n x sz) X):∃ B δ z len cap,X = .slice (some ⟨B,δ,none⟩) len cap∧E.blk b=some (B,δ,z)∧IR ρ .i64 x (len:Int)∧n≤len∧len≤cap∧δ+cap*sz≤z:=by
 cases h with
 | iface h=>cases h with | agg _ hs=>have:=hs _ List.mem_cons_self; simp[AV.scalar] at this
 | arg h1 h2 h3 h4 h5=>exact ⟨_,_,_,_,_,rfl,h1,h2,h3,h4,h5⟩
omit ρ E in
theorem argOf_none {v:AV} (h:¬∃ b n x sz,v=markV b n x sz) (k:Nat→Nat→AI→Nat→Option AV):argOf v k=none:=by
 unfold argOf
 split
 ·exact absurd ⟨_,_,_,_,rfl⟩ h
 ·rfl
end
inductive ER (ρ:Nat→Int) (E:Env):List (AV×AV)→List MapEntry→Prop
 | nil:ER ρ E [] []
 | cons {k v e l m}:VR ρ E k e.key→VR ρ E v e.val→ER ρ E l m→ER ρ E ((k,v)::l) (e::m)
theorem ER.mono {ρ:Nat→Int} {E E':Env} (h:E.le E') {l:List (AV×AV)} {m:List MapEntry} (k:ER ρ E l m):ER ρ E' l m:=by
 induction k with
 | nil=>exact .nil
 | cons a b _ ih=>exact .cons (a.mono h) (b.mono h) ih
structure M where
 g:Nat→Option AB
 n:Nat
noncomputable def St.m (s:St):M:=⟨s.heap.get,s.next⟩
structure HR (ρ:Nat→Int) (E:Env) (s:M) (w:World):Prop where
 cells:∀ b c k,s.g b=some (.cells c k)→∃ B δ z cs t fz,E.blk b=some (B,δ,z)∧w.heap[B]?=some (.cells cs t fz)∧cs.size=z∧(k = .ro∨fz.1=fz.2∨z≤fz.1) ∧
  c.length+δ≤z∧∀ i v,c[i]?=some v→∃ x,cs[i+δ]?=some x∧VR ρ E v x∧v.scalar=true
 maps:∀ b es,s.g b=some (.map es)→∃ R ents clock,E.mp b=some R∧w.heap[R]?=some (.map ents clock)∧ER ρ E es ents.toList
 apart:∀ b b' c c' k k' B δ z δ' z',b≠b'→s.g b=some (.cells c k)→s.g b'=some (.cells c' k')→E.blk b=some (B,δ,z)→E.blk b'=some (B,δ',z')→k ≠ .ro→k = .mate b'∧k' = .mate b
 mapart:∀ b b' es es' B,b≠b'→s.g b=some (.map es)→s.g b'=some (.map es')→E.mp b=some B→E.mp b'≠some B
 dom:∀ b,s.n≤b→E.blk b=none∧E.mp b=none
def Own (E:Env) (s:M) (B:Nat):Prop :=
 ∃ b,(∃ c k δ z,s.g b=some (.cells c k)∧k ≠ .ro∧E.blk b=some (B,δ,z))∨(∃ es,s.g b=some (.map es)∧E.mp b=some B)
structure Step (ρ:Nat→Int) (E:Env) (s:M) (w:World) (E':Env) (s':M) (w':World):Prop where
 le:E.le E'
 hr:HR ρ E' s' w'
 frame:∀ B,B<w.heap.size→¬Own E s B→w'.heap[B]?=w.heap[B]?
 own:∀ B,Own E' s' B→Own E s B∨w.heap.size≤B
 os:w'.os=w.os
 tape:w'.tape=w.tape
 output:w'.output=w.output
 size:w.heap.size≤w'.heap.size
 next:s.n≤s'.n
 old:∀ b,b<s.n→E'.blk b=E.blk b∧E'.mp b=E.mp b
 dead:∀ b,b<s.n→s.g b=none→s'.g b=none
 ro:∀ b c,s'.g b=some (.cells c .ro)→s.g b=some (.cells c .ro)
theorem Step.refl {ρ:Nat→Int} {E:Env} {s:M} {w:World} (h:HR ρ E s w):Step ρ E s w E s w :=
 ⟨.refl _,h,fun _ _ _=>rfl,fun _ h => .inl h,rfl,rfl,rfl,Nat.le_refl _,Nat.le_refl _,fun _ _=>⟨rfl,rfl⟩,fun _ _ h=>h,fun _ _ h=>h⟩
theorem Step.trans {ρ:Nat→Int} {E E' E'':Env} {s s' s'':M} {w w' w'':World} (h:Step ρ E s w E' s' w') (k:Step ρ E' s' w' E'' s'' w''):Step ρ E s w E'' s'' w'' where
 le:=h.le.trans k.le
 hr:=k.hr
 frame B hB hn:=by
  rw[k.frame B (Nat.lt_of_lt_of_le hB h.size) ?_,h.frame B hB hn]
  intro ho
  rcases h.own B ho with h' | h'
  ·exact hn h'
  ·omega
 own B hB:=by
  rcases k.own B hB with h' | h'
  ·exact h.own B h'
  ·exact .inr (Nat.le_trans h.size h')
 os:=k.os.trans h.os
 tape:=k.tape.trans h.tape
 output:=k.output.trans h.output
 size:=Nat.le_trans h.size k.size
 next:=Nat.le_trans h.next k.next
 old b hb:=by
  obtain ⟨a1,a2⟩:=k.old b (Nat.lt_of_lt_of_le hb h.next)
  obtain ⟨b1,b2⟩:=h.old b hb
  exact ⟨a1.trans b1,a2.trans b2⟩
 dead b hb h0:=k.dead b (Nat.lt_of_lt_of_le hb h.next) (h.dead b hb h0)
 ro b c hb:=h.ro b c (k.ro b c hb)
theorem HR.drew {ρ:Nat→Int} {E:Env} {s:M} {w:World} (h:HR ρ E s w):HR ρ E s w.drew:=⟨h.cells,h.maps,h.apart,h.mapart,h.dom⟩
theorem Step.drew {ρ:Nat→Int} {E:Env} {s:M} {w:World} (h:HR ρ E s w):Step ρ E s w E s w.drew :=
 ⟨.refl _,h.drew,fun _ _ _=>rfl,fun _ h => .inl h,rfl,rfl,rfl,Nat.le_refl _,Nat.le_refl _,fun _ _=>⟨rfl,rfl⟩,fun _ _ h=>h,fun _ _ h=>h⟩
@[simp] theorem St.m_new (s:St) (b:AB) (j:Nat):(s.new b).m.g j=if j=s.next then some b else s.m.g j:=by
 show (Tr.set (some b) (s.next+1) s.heap s.next).get j=_
 exact Tr.get_set _ _ _ _ _ (Nat.lt_succ_self _)
@[simp] theorem St.m_put (s:St) (k:Nat) (b:Option AB) (j:Nat):(s.put k b).m.g j=if j=k then b else s.m.g j:=by
 show (Tr.set b (k+1) s.heap k).get j=_
 exact Tr.get_set _ _ _ _ _ (Nat.lt_succ_self _)
@[simp] theorem St.n_new (s:St) (b:AB):(s.new b).m.n=s.m.n+1:=rfl
@[simp] theorem St.n_put (s:St) (k:Nat) (b:Option AB):(s.put k b).m.n=s.m.n:=rfl
theorem HR.live_lt {ρ:Nat→Int} {E:Env} {s:M} {w:World} (h:HR ρ E s w) {b:Nat} {x:AB} (hb:s.g b=some x):b<s.n:=by
 rcases Nat.lt_or_ge b s.n with h' | h'
 ·exact h'
 ·obtain ⟨h1,h2⟩:=h.dom b h'
  cases x with
  | cells c k=>obtain ⟨B,δ,z,cs,t,fz,e,_⟩:=h.cells b c k hb; rw[h1] at e; cases e
  | map es=>obtain ⟨R,en,cl,e,_⟩:=h.maps b es hb; rw[h2] at e; cases e
theorem lt_of_get {α:Type} {l:Array α} {i:Nat} {x:α} (h:l[i]?=some x):i<l.size:=by
 rcases Nat.lt_or_ge i l.size with h' | h'
 ·exact h'
 ·rw[Array.getElem?_eq_none h'] at h; cases h
section
variable {ρ : Nat → Int} {E : Env} {P : Program}
theorem addr_add (B o j:Nat):(⟨B,o,none⟩ : Addr).add j=⟨B,o+j,none⟩:=by
 unfold Addr.add
 split
 ·rename_i h; subst h; rfl
 ·rfl
theorem cell_of {w:World} {B:Nat} {cs:Array Value} {t:TypeId} {fz:Nat×Nat} (h:w.heap[B]?=some (.cells cs t fz)) (o:Nat):w.cell? ⟨B,o,none⟩=cs[o]?:=by
 simp[World.cell?,h]
theorem rd_inv {s:St} {b off n:Nat} {cs:List AV} (h:rd s b off n=some cs):∃ c k,s.m.g b=some (.cells c k)∧sub c off n=some cs:=by
 obtain ⟨x,h1,h2⟩:=ob_eq h
 cases x with
 | cells c k=>exact ⟨c,k,h1,h2⟩
 | map es=>cases h2
theorem rd1_inv {s:St} {b off:Nat} {v:AV} (h:rd1 s b off=some v):∃ c k,s.m.g b=some (.cells c k)∧c[off]?=some v:=by
 obtain ⟨x,h1,h2⟩:=ob_eq h
 cases x with
 | cells c k=>exact ⟨c,k,h1,by simpa [AB.onCells] using h2⟩
 | map es=>cases h2
theorem rd_ok {s:St} {w:World} (h:HR ρ E s.m w) {b off n B δ z:Nat} (hb:E.blk b=some (B,δ,z)) {cs:List AV} (hr:rd s b off n=some cs) :
  ∃ xs,VRs ρ E cs xs∧(∀ c∈cs,c.scalar=true)∧∀ (P:Program) (w1:World),w1.heap=w.heap→(loadCells ⟨B,off+δ,none⟩ n).run P w1 = .ok xs.toArray w1:=by
 obtain ⟨c,k,hg,hs⟩:=rd_inv hr
 obtain ⟨B',δ',z',ca,t,fz,e1,e2,e3,e4,e5,e6⟩:=h.cells b c k hg
 rw[hb] at e1
 obtain ⟨rfl,rfl,rfl⟩ : B=B'∧δ=δ'∧z=z':=by simpa using e1
 have hl:=sub_length hs
 have hx:∀ j v,cs[j]?=some v→∃ x,ca[off+δ+j]?=some x∧VR ρ E v x∧v.scalar=true:=by
  intro j v hv
  obtain ⟨a,_⟩:=sub_get hs j v hv
  obtain ⟨x,a1,a2,a3⟩:=e6 _ _ a
  exact ⟨x,by rw[show off+δ+j=off+j+δ by omega]; exact a1,a2,a3⟩
 refine ⟨(List.range n).map fun j=>(ca[off+δ+j]?).getD default,VRs.of_get (by simp[hl]) fun j v hv=>?_,fun c hc=>?_,fun P w1 hw1=>?_⟩
 ·obtain ⟨x,a1,a2,a3⟩:=hx j v hv
  have hj:j<n:=by
   rcases Nat.lt_or_ge j n with h' | h'
   ·exact h'
   ·rw[List.getElem?_eq_none (by omega)] at hv; cases hv
  exact ⟨x,by simp[hj,a1],a2⟩
 ·obtain ⟨j,hj⟩:=List.mem_iff_getElem?.1 hc
  obtain ⟨x,a1,a2,a3⟩:=hx j c hj
  exact a3
 ·have:=run_loadCells_list (P:=P) (w:=w1) ⟨B,off+δ,none⟩ ((List.range n).map fun j=>(ca[off+δ+j]?).getD default) (fun j v hv=>by
   rw[addr_add,cell_of (w:=w1) (by rw[hw1]; exact e2)]
   have hj:j<n:=by
    rcases Nat.lt_or_ge j n with h' | h'
    ·exact h'
    ·rw[List.getElem?_eq_none (by simpa using h')] at hv; cases hv
   obtain ⟨x,a1,a2,a3⟩:=hx j cs[j] (List.getElem?_eq_getElem (by omega))
   simp[hj,a1] at hv
   rw[a1,hv])
  simpa using this
theorem rd1_ok {s:St} {w:World} (h:HR ρ E s.m w) {b off B δ z:Nat} (hb:E.blk b=some (B,δ,z)) {v:AV} (hr:rd1 s b off=some v) :
  ∃ x,w.cell? ⟨B,off+δ,none⟩=some x∧VR ρ E v x∧v.scalar=true:=by
 obtain ⟨c,k,hg,hs⟩:=rd1_inv hr
 obtain ⟨B',δ',z',ca,t,fz,e1,e2,e3,e4,e5,e6⟩:=h.cells b c k hg
 rw[hb] at e1
 obtain ⟨rfl,rfl,rfl⟩ : B=B'∧δ=δ'∧z=z':=by simpa using e1
 obtain ⟨x,a1,a2,a3⟩:=e6 _ _ hs
 exact ⟨x,by rw[cell_of e2]; exact a1,a2,a3⟩
def wB (w:World) (B:Nat) (o:Obj):World:={ w with heap:=w.heap.setIfInBounds B o }
theorem wB_same {w:World} {B:Nat} {o o':Obj} (h:w.heap[B]?=some o'):(wB w B o).heap[B]?=some o:=by
 simp[wB,lt_of_get h]
theorem wB_other {w:World} {B B':Nat} {o:Obj} (h:B≠B'):(wB w B o).heap[B']?=w.heap[B']?:=by
 simp[wB,Array.getElem?_setIfInBounds_ne h]
theorem wrC_inv {s s':St} {b:Nat} {k:BK} {c:Option (List AV)} (h:wrC s b k c=some s'):∃ c',c=some c'∧k ≠ .ro∧s'.m.n=s.m.n ∧
  ∀ j,s'.m.g j=if j=b then some (.cells c' .own) else if k = .mate j then none else s.m.g j:=by
 obtain ⟨c',h1,h2⟩:=ob_eq h
 refine ⟨c',h1,?_⟩
 cases k with
 | own =>
  cases h2
  exact ⟨by simp,rfl,fun j=>by simp⟩
 | mate m =>
  cases h2
  refine ⟨by simp,rfl,fun j=>?_⟩
  simp only[St.m_put,BK.mate.injEq]
  split
  ·rfl
  ·split
   ·rename_i h; rw[if_pos h.symm]
   ·rename_i h; rw[if_neg (fun e=>h e.symm)]
 | ro=>cases h2
theorem upd_ok {s s':St} {w:World} (h:HR ρ E s.m w) {b B δ z:Nat} {c c':List AV} {k:BK} {cs cs':Array Value} {t:TypeId} {fz:Nat×Nat}
  (hg:s.m.g b=some (.cells c k)) (hb:E.blk b=some (B,δ,z)) (hw:w.heap[B]?=some (.cells cs t fz)) (hsz:cs'.size=cs.size)
  (hl:c'.length+δ≤z) (hc:∀ i v,c'[i]?=some v→∃ x,cs'[i+δ]?=some x∧VR ρ E v x∧v.scalar=true) (hs:wrC s b k (some c')=some s') :
  Step ρ E s.m w E s'.m (wB w B (.cells cs' t fz)):=by
 obtain ⟨_,rfl',hk,hn,hg'⟩:=wrC_inv hs
 cases rfl'
 obtain ⟨B',δ',z',ca,t',fz',e1,e2,e3,e4,e5,e6⟩:=h.cells b c k hg
 rw[hb] at e1
 obtain ⟨rfl,rfl,rfl⟩ : B=B'∧δ=δ'∧z=z':=by simpa using e1
 rw[hw] at e2
 obtain ⟨rfl,rfl,rfl⟩ : cs=ca∧t=t'∧fz=fz':=by simpa using e2
 have away:∀ b2 c2 k2 B2 δ2 z2,b2≠b→s'.m.g b2=some (.cells c2 k2)→E.blk b2=some (B2,δ2,z2)→B2≠B∧s.m.g b2=some (.cells c2 k2):=by
  intro b2 c2 k2 B2 δ2 z2 hne hg2 hb2
  rw[hg',if_neg hne] at hg2
  split at hg2
  ·cases hg2
  ·rename_i hm
   refine ⟨fun e=>?_,hg2⟩
   subst e
   exact hm (h.apart b b2 _ _ _ _ _ _ _ _ _ (Ne.symm hne) hg hg2 hb hb2 hk).1
 have mapsame:∀ b2 es,s'.m.g b2=some (.map es)→s.m.g b2=some (.map es):=by
  intro b2 es h2
  rw[hg'] at h2
  split at h2
  ·cases h2
  ·split at h2
   ·cases h2
   ·exact h2
 have mapaway:∀ b2 es R,s.m.g b2=some (.map es)→E.mp b2=some R→R≠B:=by
  intro b2 es R h2 h3 e
  subst e
  obtain ⟨R',en,cl,f1,f2,_⟩:=h.maps b2 es h2
  rw[h3] at f1; cases f1
  rw[hw] at f2; cases f2
 refine ⟨.refl _,⟨?_,?_,?_,?_,?_⟩,?_,?_,rfl,rfl,rfl,by simp[wB],by omega,fun _ _=>⟨rfl,rfl⟩,?_,?_⟩
 ·intro b2 c2 k2 h2
  by_cases hne:b2=b
  ·subst hne
   rw[hg',if_pos rfl] at h2
   cases h2
   exact ⟨B,δ,z,cs',t,fz,hb,wB_same hw,by omega,.inr (e4.resolve_left hk),hl,hc⟩
  ·have h2':s.m.g b2=some (.cells c2 k2):=by
    rw[hg',if_neg hne] at h2
    split at h2
    ·cases h2
    ·exact h2
   obtain ⟨B2,δ2,z2,ca2,t2,fz2,f1,f2,f3⟩:=h.cells b2 c2 k2 h2'
   obtain ⟨hB,_⟩:=away b2 c2 k2 B2 δ2 z2 hne h2 f1
   exact ⟨B2,δ2,z2,ca2,t2,fz2,f1,by rw[wB_other (Ne.symm hB)]; exact f2,f3⟩
 ·intro b2 es h2
  obtain ⟨R,en,cl,f1,f2,f3⟩:=h.maps b2 es (mapsame b2 es h2)
  exact ⟨R,en,cl,f1,by rw[wB_other (Ne.symm (mapaway b2 es R (mapsame b2 es h2) f1))]; exact f2,f3⟩
 ·intro b1 b2 c1 c2 k1 k2 B1 δ1 z1 δ2 z2 hne h1 h2 f1 f2 hk1
  by_cases e1:b1=b
  ·subst e1
   obtain ⟨hB,_⟩:=away b2 c2 k2 B1 δ2 z2 (Ne.symm hne) h2 f2
   rw[hb] at f1; cases f1
   exact absurd rfl hB
  ·by_cases e2:b2=b
   ·subst e2
    obtain ⟨hB,_⟩:=away b1 c1 k1 B1 δ1 z1 e1 h1 f1
    rw[hb] at f2; cases f2
    exact absurd rfl hB
   ·exact h.apart b1 b2 _ _ _ _ _ _ _ _ _ hne (away b1 c1 k1 B1 δ1 z1 e1 h1 f1).2 (away b2 c2 k2 B1 δ2 z2 e2 h2 f2).2 f1 f2 hk1
 ·intro b1 b2 es es' R hne h1 h2 f1
  exact h.mapart b1 b2 es es' R hne (mapsame _ _ h1) (mapsame _ _ h2) f1
 ·intro j hj; exact h.dom j (by omega)
 ·intro B2 hB2 hno
  refine wB_other fun e=>hno ?_
  subst e
  exact ⟨b,.inl ⟨c,k,δ,z,hg,hk,hb⟩⟩
 ·rintro B2 ⟨b2,⟨c2,k2,δ2,z2,g1,g2,g3⟩ | ⟨es,g1,g2⟩⟩
  ·by_cases hne:b2=b
   ·subst hne
    rw[hb] at g3; cases g3
    exact .inl ⟨b2,.inl ⟨c,k,δ,z,hg,hk,hb⟩⟩
   ·exact .inl ⟨b2,.inl ⟨c2,k2,δ2,z2,(away b2 c2 k2 B2 δ2 z2 hne g1 g3).2,g2,g3⟩⟩
  ·exact .inl ⟨b2,.inr ⟨es,mapsame _ _ g1,g2⟩⟩
 ·intro b2 _ h2
  rw[hg',if_neg (fun e=>by subst e; rw[hg] at h2; cases h2)]
  split
  ·rfl
  ·exact h2
 ·intro b2 c2 h2
  rw[hg'] at h2
  split at h2
  ·cases h2
  ·split at h2
   ·cases h2
   ·exact h2
def lay (cs:Array Value) (o:Nat):List Value→Array Value
 | []=>cs
 | v::r=>lay (cs.setIfInBounds o v) (o+1) r
theorem lay_size (l:List Value):∀ (cs:Array Value) (o:Nat),(lay cs o l).size=cs.size:=by
 induction l with
 | nil=>intro cs o; rfl
 | cons v l ih=>intro cs o; simp[lay,ih]
theorem lay_get (l:List Value):∀ (cs:Array Value) (o:Nat),o+l.length≤cs.size→∀ j,(lay cs o l)[j]?=if o≤j∧j<o+l.length then l[j-o]? else cs[j]?:=by
 induction l with
 | nil=>intro cs o h j; simp[lay]; intro h1 h2; omega
 | cons v l ih =>
  intro cs o h j
  simp only[lay]
  simp at h
  rw[ih _ _ (by simp; omega)]
  by_cases e:j=o
  ·subst e
   rw[if_neg (by omega),if_pos (by simp)]
   have hj:j<cs.size:=by omega
   simp[hj]
  ·by_cases hh:o+1≤j∧j<o+1+l.length
   ·rw[if_pos hh,if_pos (by simp; omega)]
    rw[show j-o=(j-(o+1))+1 by omega]; simp
   ·rw[if_neg hh,if_neg (by simp; omega),Array.getElem?_setIfInBounds_ne (Ne.symm e)]
theorem run_storeCells (l:List Value):∀ (w:World) (B o i:Nat) (cs:Array Value) (t:TypeId) (fz:Nat×Nat),w.heap[B]?=some (.cells cs t fz)→(∀ j,j<cs.size→¬(fz.1≤j∧j<fz.2)) →
  o+i+l.length≤cs.size→(∀ v∈l,(∀ a,v ≠ .agg a)∧∀ a,v ≠ .tuple a)→(storeCells ⟨B,o,none⟩ l i).run P w = .ok () (wB w B (.cells (lay cs (o+i) l) t fz)):=by
 induction l with
 | nil =>
  intro w B o i cs t fz h1 h2 h3 h4
  simp only[storeCells,lay]
  have:wB w B (.cells cs t fz)=w:=by
   unfold wB
   have:w.heap.setIfInBounds B (.cells cs t fz)=w.heap:=by
    apply Array.ext_getElem?
    intro j
    by_cases e:j=B
    ·subst e; rw[h1]; simp[lt_of_get h1]
    ·rw[Array.getElem?_setIfInBounds_ne (Ne.symm e)]
   rw[this]
  rw[this]; rfl
 | cons v l ih =>
  intro w B o i cs t fz h1 h2 h3 h4
  simp only[storeCells]
  simp at h3
  have hlt:o+i<cs.size:=by omega
  obtain ⟨n1,n2⟩:=h4 v (by simp)
  have hset:w.setCell ⟨B,o+i,none⟩ v=wB w B (.cells (cs.setIfInBounds (o+i) v) t fz):=by
   unfold World.setCell wB
   congr 1
   apply Array.ext_getElem?
   intro j
   rw[Array.getElem?_modify]
   by_cases e:B=j
   ·subst e; rw[if_pos rfl,h1]; simp[lt_of_get h1]
   ·rw[if_neg e,Array.getElem?_setIfInBounds_ne e]
  have hst:(store ((⟨B,o,none⟩ : Addr).add i) v).run P w = .ok () (wB w B (.cells (cs.setIfInBounds (o+i) v) t fz)):=by
   rw[addr_add,←hset]
   have hc:w.cell? ⟨B,o+i,none⟩=some cs[o+i]:=by rw[cell_of h1]; simp[hlt]
   have hf:w.frozen? ⟨B,o+i,none⟩=false:=by
    simp only[World.frozen?,h1]
    have:=h2 (o+i) hlt
    simp; omega
   unfold store
   cases v with
   | agg a=>exact absurd rfl (n1 a)
   | tuple a=>exact absurd rfl (n2 a)
   | _=>simp[Sem.run,hc,hf]
  rw[Sem.run_bind,hst]
  have:=ih (wB w B (.cells (cs.setIfInBounds (o+i) v) t fz)) B o (i+1) (cs.setIfInBounds (o+i) v) t fz (wB_same h1) (by simpa using h2) (by simp; omega) (fun v hv=>h4 v (by simp[hv]))
  refine Eq.trans (show _=_ from this) ?_
  congr 1
  simp[wB,lay,Nat.add_assoc]
theorem VRs.vals {l:List AV} {xs:List Value} (h:VRs ρ E l xs) (hs:∀ c∈l,c.scalar=true):∀ v∈xs,(∀ a,v ≠ .agg a)∧∀ a,v ≠ .tuple a:=by
 induction l generalizing xs with
 | nil=>cases h; simp
 | cons a l ih=>cases h with | cons h1 h2 =>
  intro v hv
  rcases List.mem_cons.1 hv with rfl | hv
  ·exact (h1.scalar_cell (hs a (by simp))).2
  ·exact ih h2 (fun c hc=>hs c (by simp[hc])) v hv
theorem wr_ok {s s':St} {w:World} (h:HR ρ E s.m w) {b off B δ z:Nat} (hb:E.blk b=some (B,δ,z)) {vs:List AV} {xs:List Value} (hv:VRs ρ E vs xs) (hsc:∀ c∈vs,c.scalar=true)
  (hw:wr s b off vs=some s'):∃ w',(∀ P:Program,(storeCells ⟨B,off+δ,none⟩ xs).run P w = .ok () w')∧Step ρ E s.m w E s'.m w':=by
 obtain ⟨x,h1,h2⟩:=ob_eq hw
 cases x with
 | map es=>cases h2
 | cells c k =>
  have hg:s.m.g b=some (.cells c k):=h1
  have h2':wrC s b k (setL c off vs)=some s':=h2
  obtain ⟨c',hc',hk,_⟩:=wrC_inv h2'
  rw[hc'] at h2'
  obtain ⟨B',δ',z',ca,t,fz,e1,e2,e3,e4,e5,e6⟩:=h.cells b c k hg
  rw[hb] at e1
  obtain ⟨rfl,rfl,rfl⟩ : B=B'∧δ=δ'∧z=z':=by simpa using e1
  obtain ⟨l1,l2,l3⟩:=setL_some hc'
  have hvl:=hv.length
  by_cases hnil:vs=[]
  ·subst hnil
   have:xs=[]:=by cases hv; rfl
   subst this
   refine ⟨wB w B (.cells ca t fz),fun P=>?_,upd_ok h hg hb e2 rfl (by omega) (fun i v hiv=>?_) h2'⟩
   ·have:=run_storeCells (P:=P) [] w B 0 0 ca t fz e2 (fun j hj=>by have:=e4.resolve_left hk; omega) (by simp) (by simp)
    simpa [storeCells,lay] using this
   ·rw[l3 i,if_neg (by simp)] at hiv
    exact e6 i v hiv
  ·have hin:off+vs.length≤c.length:=by rcases l2 with l2 | l2 <;> first | exact absurd l2 hnil | exact l2
   refine ⟨wB w B (.cells (lay ca (off+δ) xs) t fz),fun P=>?_,upd_ok h hg hb e2 (lay_size _ _ _) (by omega) (fun i v hiv=>?_) h2'⟩
   ·have:=run_storeCells (P:=P) xs w B (off+δ) 0 ca t fz e2 (fun j hj=>by have:=e4.resolve_left hk; omega) (by omega) (hv.vals hsc)
    simpa using this
   ·rw[l3 i] at hiv
    rw[lay_get _ _ _ (by omega)]
    split at hiv
    ·rename_i hh
     obtain ⟨x,hx,hvx⟩:=hv.get _ _ hiv
     rw[if_pos (by omega)]
     exact ⟨x,by rw[show i+δ-(off+δ)=i-off by omega]; exact hx,hvx,hsc v (List.mem_of_getElem? hiv)⟩
    ·rename_i hh
     rw[if_neg (by omega)]
     exact e6 i v hiv
theorem wrX_ok {s s':St} {w:World} (h:HR ρ E s.m w) {b off B δ z:Nat} (hb:E.blk b=some (B,δ,z)) {vs:List AV} {xs:List Value} (hv:VRs ρ E vs xs) (hsc:∀ c∈vs,c.scalar=true)
  (hroom:off+δ+vs.length≤z) (hw:wrX s b off vs=some s'):∃ w',(∀ P:Program,(storeCells ⟨B,off+δ,none⟩ xs).run P w = .ok () w')∧Step ρ E s.m w E s'.m w':=by
 obtain ⟨x,h1,h2⟩:=ob_eq hw
 cases x with
 | map es=>cases h2
 | cells c k =>
  have hg:s.m.g b=some (.cells c k):=h1
  have h2':wrC s b k (setX c off vs)=some s':=h2
  obtain ⟨c',hc',hk,_⟩:=wrC_inv h2'
  rw[hc'] at h2'
  obtain ⟨B',δ',z',ca,t,fz,e1,e2,e3,e4,e5,e6⟩:=h.cells b c k hg
  rw[hb] at e1
  obtain ⟨rfl,rfl,rfl⟩ : B=B'∧δ=δ'∧z=z':=by simpa using e1
  obtain ⟨l1,l2,l3⟩:=setX_some hc'
  have hvl:=hv.length
  refine ⟨wB w B (.cells (lay ca (off+δ) xs) t fz),fun P=>?_,upd_ok h hg hb e2 (lay_size _ _ _) ?_ (fun i v hiv=>?_) h2'⟩
  ·have:=run_storeCells (P:=P) xs w B (off+δ) 0 ca t fz e2 (fun j hj=>by have:=e4.resolve_left hk; omega) (by omega) (hv.vals hsc)
   simpa using this
  ·rw[l2]; split <;> omega
  ·rw[l3 i] at hiv
   rw[lay_get _ _ _ (by omega)]
   split at hiv
   ·rename_i hh
    obtain ⟨x,hx,hvx⟩:=hv.get _ _ hiv
    rw[if_pos (by omega)]
    exact ⟨x,by rw[show i+δ-(off+δ)=i-off by omega]; exact hx,hvx,hsc v (List.mem_of_getElem? hiv)⟩
   ·rename_i hh
    rw[if_neg (by omega)]
    exact e6 i v hiv
theorem HR.sub {M M':Vm.M} {w:World} (h:HR ρ E M w) (hg:∀ b x,M'.g b=some x→M.g b=some x) (hn:M'.n=M.n):HR ρ E M' w :=
 ⟨fun b c k hb=>h.cells b c k (hg b _ hb),fun b es hb=>h.maps b es (hg b _ hb),fun b b' c c' k k' B δ z δ' z' hne h1 h2=>h.apart b b' c c' k k' B δ z δ' z' hne (hg b _ h1) (hg b' _ h2),
  fun b b' es es' B hne h1 h2=>h.mapart b b' es es' B hne (hg b _ h1) (hg b' _ h2),fun b hb=>h.dom b (by omega)⟩
theorem Step.lift {E':Env} {M M' M1':Vm.M} {w w':World} (h:HR ρ E M w) (hs:Step ρ E M' w E' M1' w') (hg:∀ b x,M'.g b=some x→M.g b=some x) (hn:M'.n=M.n)
  (hx:∀ b c k,M.g b=some (.cells c k)→M'.g b=none→k = .own) (M1:Vm.M) (h1:∀ b,M1.g b=match M1'.g b with
   | some x=>some x
   | none=>if M'.g b=none then M.g b else none) (h1n:M1.n=M1'.n):Step ρ E M w E' M1 w':=by
 have side:∀ b x,M'.g b=none→M.g b=some x→b<M'.n∧M1'.g b=none∧M1.g b=some x:=by
  intro b x h0 hb
  have hlt:b<M'.n:=by rw[hn]; exact h.live_lt hb
  have hd:=hs.dead b hlt h0
  refine ⟨hlt,hd,?_⟩
  rw[h1,hd]
  simp[h0,hb]
 have cases1:∀ b x,M1.g b=some x→M1'.g b=some x∨(M'.g b=none∧M.g b=some x):=by
  intro b x hb
  rw[h1] at hb
  cases hm:M1'.g b with
  | some y=>rw[hm] at hb; exact .inl hb
  | none =>
   rw[hm] at hb
   simp only at hb
   split at hb
   ·exact .inr ⟨by assumption,hb⟩
   ·cases hb
 have E'old:∀ b x,M'.g b=none→M.g b=some x→E'.blk b=E.blk b∧E'.mp b=E.mp b:=fun b x h0 hb=>hs.old b (side b x h0 hb).1
 have notown:∀ b c k B δ z,M'.g b=none→M.g b=some (.cells c k)→E.blk b=some (B,δ,z)→¬Own E M' B∧B<w.heap.size:=by
  intro b c k B δ z h0 hb he
  obtain ⟨B',δ',z',cs,t,fz,f1,f2,f3,_⟩:=h.cells b c k hb
  rw[he] at f1; cases f1
  refine ⟨?_,lt_of_get f2⟩
  have hk:=hx b c k hb h0
  subst hk
  rintro ⟨b2,⟨c2,k2,δ2,z2,g1,g2,g3⟩ | ⟨es,g1,g2⟩⟩
  ·have hne:b≠b2:=by intro e; subst e; rw[h0] at g1; cases g1
   have:=(h.apart b b2 _ _ _ _ _ _ _ _ _ hne hb (hg _ _ g1) he g3 (by simp)).1
   cases this
  ·obtain ⟨R,en,cl,q1,q2,_⟩:=h.maps b2 es (hg _ _ g1)
   rw[g2] at q1; cases q1
   rw[f2] at q2; cases q2
 have notownm:∀ b es B,M'.g b=none→M.g b=some (.map es)→E.mp b=some B→¬Own E M' B∧B<w.heap.size:=by
  intro b es B h0 hb he
  obtain ⟨R,en,cl,f1,f2,_⟩:=h.maps b es hb
  rw[he] at f1; cases f1
  refine ⟨?_,lt_of_get f2⟩
  rintro ⟨b2,⟨c2,k2,δ2,z2,g1,g2,g3⟩ | ⟨es2,g1,g2⟩⟩
  ·obtain ⟨B',δ',z',cs,t,fz,q1,q2,_⟩:=h.cells b2 c2 k2 (hg _ _ g1)
   rw[g3] at q1; cases q1
   rw[f2] at q2; cases q2
  ·have hne:b≠b2:=by intro e; subst e; rw[h0] at g1; cases g1
   exact h.mapart b b2 es es2 B hne hb (hg _ _ g1) he g2
 have apart1:∀ b b2 c k c2 k2 B δ z δ2 z2,M'.g b=none→M.g b=some (.cells c k)→M1'.g b2=some (.cells c2 k2)→E'.blk b=some (B,δ,z)→E'.blk b2=some (B,δ2,z2)→False:=by
  intro b b2 c k c2 k2 B δ z δ2 z2 h0 hb hb2 he he2
  rw[(E'old b _ h0 hb).1] at he
  obtain ⟨hno,hlt⟩:=notown b c k B δ z h0 hb he
  by_cases hk2:k2 = .ro
  ·subst hk2
   have hr:=hs.ro b2 c2 hb2
   have hne:b≠b2:=by intro e; subst e; rw[h0] at hr; cases hr
   have hold:=(hs.old b2 (by rw[hn]; exact h.live_lt (hg _ _ hr))).1
   rw[hold] at he2
   have hk:=hx b c k hb h0
   subst hk
   have:=(h.apart b b2 _ _ _ _ _ _ _ _ _ hne hb (hg _ _ hr) he he2 (by simp)).1
   cases this
  ·rcases hs.own B ⟨b2,.inl ⟨c2,k2,δ2,z2,hb2,hk2,he2⟩⟩ with h' | h'
   ·exact hno h'
   ·omega
 refine ⟨hs.le,⟨?_,?_,?_,?_,?_⟩,?_,?_,hs.os,hs.tape,hs.output,hs.size,by rw[h1n,←hn]; exact hs.next,fun b hb=>hs.old b (by omega),?_,?_⟩
 ·intro b c k hb
  rcases cases1 b _ hb with hb | ⟨h0,hb⟩
  ·exact hs.hr.cells b c k hb
  ·obtain ⟨B,δ,z,cs,t,fz,f1,f2,f3,f4,f5,f6⟩:=h.cells b c k hb
   obtain ⟨hno,hlt⟩:=notown b c k B δ z h0 hb f1
   exact ⟨B,δ,z,cs,t,fz,by rw[(E'old b _ h0 hb).1]; exact f1,by rw[hs.frame B hlt hno]; exact f2,f3,f4,f5,fun i v hv=>by
    obtain ⟨x,x1,x2,x3⟩:=f6 i v hv
    exact ⟨x,x1,x2.mono hs.le,x3⟩⟩
 ·intro b es hb
  rcases cases1 b _ hb with hb | ⟨h0,hb⟩
  ·exact hs.hr.maps b es hb
  ·obtain ⟨R,en,cl,f1,f2,f3⟩:=h.maps b es hb
   obtain ⟨hno,hlt⟩:=notownm b es R h0 hb f1
   exact ⟨R,en,cl,by rw[(E'old b _ h0 hb).2]; exact f1,by rw[hs.frame R hlt hno]; exact f2,f3.mono hs.le⟩
 ·intro b b2 c c2 k k2 B δ z δ2 z2 hne hb hb2 he he2 hk
  rcases cases1 b _ hb with hb | ⟨h0,hb⟩
  ·rcases cases1 b2 _ hb2 with hb2 | ⟨h02,hb2⟩
   ·exact hs.hr.apart b b2 _ _ _ _ _ _ _ _ _ hne hb hb2 he he2 hk
   ·exact (apart1 b2 b c2 k2 c k B δ2 z2 δ z h02 hb2 hb he2 he).elim
  ·rcases cases1 b2 _ hb2 with hb2 | ⟨h02,hb2⟩
   ·exact (apart1 b b2 c k c2 k2 B δ z δ2 z2 h0 hb hb2 he he2).elim
   ·rw[(E'old b _ h0 hb).1] at he
    rw[(E'old b2 _ h02 hb2).1] at he2
    exact h.apart b b2 _ _ _ _ _ _ _ _ _ hne hb hb2 he he2 hk
 ·intro b b2 es es2 B hne hb hb2 he he2
  have ap:∀ b b2 es es2,M'.g b=none→M.g b=some (.map es)→M1'.g b2=some (.map es2)→E'.mp b=some B→E'.mp b2=some B→False:=by
   intro b b2 es es2 h0 hb hb2 he he2
   rw[(E'old b _ h0 hb).2] at he
   obtain ⟨hno,hlt⟩:=notownm b es B h0 hb he
   rcases hs.own B ⟨b2,.inr ⟨es2,hb2,he2⟩⟩ with h' | h'
   ·exact hno h'
   ·omega
  rcases cases1 b _ hb with hb | ⟨h0,hb⟩
  ·rcases cases1 b2 _ hb2 with hb2 | ⟨h02,hb2⟩
   ·exact hs.hr.mapart b b2 es es2 B hne hb hb2 he he2
   ·exact ap b2 b es2 es h02 hb2 hb he2 he
  ·rcases cases1 b2 _ hb2 with hb2 | ⟨h02,hb2⟩
   ·exact ap b b2 es es2 h0 hb hb2 he he2
   ·rw[(E'old b _ h0 hb).2] at he
    rw[(E'old b2 _ h02 hb2).2] at he2
    exact h.mapart b b2 es es2 B hne hb hb2 he he2
 ·intro b hb; exact hs.hr.dom b (by omega)
 ·intro B hB hno
  refine hs.frame B hB fun ho=>hno ?_
  obtain ⟨b,⟨c,k,δ,z,g1,g2⟩ | ⟨es,g1,g2⟩⟩:=ho
  ·exact ⟨b,.inl ⟨c,k,δ,z,hg _ _ g1,g2⟩⟩
  ·exact ⟨b,.inr ⟨es,hg _ _ g1,g2⟩⟩
 ·rintro B ⟨b,⟨c,k,δ,z,g1,g2,g3⟩ | ⟨es,g1,g2⟩⟩
  ·rcases cases1 b _ g1 with hb | ⟨h0,hb⟩
   ·rcases hs.own B ⟨b,.inl ⟨c,k,δ,z,hb,g2,g3⟩⟩ with ⟨b2,⟨c2,k2,δ2,z2,q1,q2⟩ | ⟨es,q1,q2⟩⟩ | h'
    ·exact .inl ⟨b2,.inl ⟨c2,k2,δ2,z2,hg _ _ q1,q2⟩⟩
    ·exact .inl ⟨b2,.inr ⟨es,hg _ _ q1,q2⟩⟩
    ·exact .inr h'
   ·rw[(E'old b _ h0 hb).1] at g3
    exact .inl ⟨b,.inl ⟨c,k,δ,z,hb,g2,g3⟩⟩
  ·rcases cases1 b _ g1 with hb | ⟨h0,hb⟩
   ·rcases hs.own B ⟨b,.inr ⟨es,hb,g2⟩⟩ with ⟨b2,⟨c2,k2,δ2,z2,q1,q2⟩ | ⟨es,q1,q2⟩⟩ | h'
    ·exact .inl ⟨b2,.inl ⟨c2,k2,δ2,z2,hg _ _ q1,q2⟩⟩
    ·exact .inl ⟨b2,.inr ⟨es,hg _ _ q1,q2⟩⟩
    ·exact .inr h'
   ·rw[(E'old b _ h0 hb).2] at g2
    exact .inl ⟨b,.inr ⟨es,hb,g2⟩⟩
 ·intro b hb h0
  have h0':M'.g b=none:=by
   cases hm:M'.g b with
   | none=>rfl
   | some x=>rw[hg b x hm] at h0; cases h0
  rw[h1,hs.dead b (by omega) h0']
  simp[h0',h0]
 ·intro b c hb
  rcases cases1 b _ hb with hb | ⟨h0,hb⟩
  ·exact hg _ _ (hs.ro b c hb)
  ·exact hb
end
theorem wrap_emod (k:IntKind) (n:Int):k.wrap n%2^k.bits=n%2^k.bits:=by
 unfold IntKind.wrap
 simp only[]
 split
 ·rw[Int.sub_emod]; simp[Int.emod_emod]
 ·exact Int.emod_emod_of_dvd _ (Int.dvd_refl _)
theorem wrap_congr {k:IntKind} {a b:Int} (h:a%2^k.bits=b%2^k.bits):k.wrap a=k.wrap b:=by
 unfold IntKind.wrap
 simp only[h]
theorem wrap_in {k:IntKind} {n:Int} (h1:k.min≤n) (h2:n≤k.max):k.wrap n=n:=by
 cases k <;> simp[IntKind.min,IntKind.max,IntKind.wrap,IntKind.signed,IntKind.bits] at * <;> first | omega | (split <;> omega)
theorem cnd_some' {α:Type} {b:Bool} {x:Option α} {r:α} (h:cnd b x none=some r):b=true∧x=some r:=by
 cases b with
 | true=>exact ⟨rfl,h⟩
 | false=>cases h
section
variable {ρ : Nat → Int}
theorem lin_insT (i:Nat) (c:Int):∀ l,lin ρ (insT i c l)=c*ρ i+lin ρ l:=by
 intro l
 induction l with
 | nil=>simp[insT,lin]
 | cons t r ih =>
  simp only[insT]
  rw[cnd_eq]
  split
  ·rename_i h
   obtain rfl:=Nat.eq_of_beq_eq_true h
   rw[cnd_eq]
   split
   ·rename_i h0
    simp at h0
    have:t.2*ρ t.1+c*ρ t.1=0:=by rw[←Int.add_mul,h0,Int.zero_mul]
    simp only[lin]
    omega
   ·simp only[lin,Int.add_mul]
    omega
  ·simp only[lin,ih]
   omega
theorem lin_addT (m:Int) (a b:List (Nat×Int)):lin ρ (addT m a b)=m*lin ρ a+lin ρ b:=by
 induction a with
 | nil=>simp[addT,lin]
 | cons t r ih =>
  simp only[addT,lin_insT,ih,lin]
  rw[Int.mul_add,Int.mul_assoc]
  omega
theorem lin_mulT (m:Int) (a:List (Nat×Int)):lin ρ (mulT m a)=m*lin ρ a:=by
 induction a with
 | nil=>simp[mulT,lin]
 | cons t r ih =>
  simp only[mulT,ih,lin]
  rw[Int.mul_add,Int.mul_assoc]
theorem lin_parts (c:Int) (a:List (Nat×Int)):lin ρ a=c*lin ρ (qT c a)+lin ρ (mT c a):=by
 induction a with
 | nil=>simp[qT,mT,lin]
 | cons t r ih =>
  simp only[qT,mT]
  rw[cnd_eq,cnd_eq]
  split
  ·rename_i h
   simp at h
   have e:c*(t.2 / c)=t.2:=Int.mul_ediv_cancel' (Int.dvd_of_emod_eq_zero h)
   simp only[lin]
   rw[Int.mul_add,←Int.mul_assoc,e,ih]
   omega
  ·simp only[lin]
   omega
theorem lin_modT (a:List (Nat×Int)):lin ρ a%256=lin ρ (modT a)%256:=by
 induction a with
 | nil=>rfl
 | cons t r ih =>
  simp only[modT]
  rw[cnd_eq]
  split
  ·rename_i h
   simp at h
   simp only[lin]
   rw[Int.add_emod,Int.mul_emod,h,Int.zero_mul,Int.zero_emod,Int.zero_add,Int.emod_emod_of_dvd _ (Int.dvd_refl _),ih]
  ·simp only[lin]
   rw[Int.add_emod,Int.mul_emod,ih,←Int.mul_emod,Int.add_emod (t.2%256*ρ t.1),Int.mul_emod (t.2%256),Int.emod_emod_of_dvd _ (Int.dvd_refl _),←Int.mul_emod]
theorem sameT_eq:∀ {a b:List (Nat×Int)},sameT a b=true→a=b:=by
 intro a
 induction a with
 | nil=>intro b h; cases b with | nil=>rfl | cons=>cases h
 | cons t r ih =>
  intro b h
  cases b with
  | nil=>cases h
  | cons u q =>
   simp only[sameT,Bool.and_eq_true,decide_eq_true_eq] at h
   obtain ⟨⟨h1,h2⟩,h3⟩:=h
   rw[ih h3,Prod.ext (Nat.eq_of_beq_eq_true h1) h2]
theorem mkS_ok {k:IntKind} {ts:List (Nat×Int)} {d n:Int} (h:n%2^k.bits=(lin ρ ts+d)%2^k.bits):IR ρ k (mkS k ts d) (k.wrap n):=by
 cases ts with
 | nil=>simp only[mkS,IR]; exact wrap_congr (by simpa [lin] using h)
 | cons t r=>simp only[mkS,IR]; exact wrap_congr h
theorem IR.cong {k:IntKind} {a:AI} {x:Int} (h:IR ρ k a x):x%2^k.bits=(lin ρ (tsOf a)+dOf a)%2^k.bits:=by
 cases a with
 | c n=>simp only[IR] at h; subst h; simp[tsOf,dOf,lin]
 | s ts d=>simp only[IR] at h; subst h; exact wrap_emod _ _
end
section
variable {ρ : Nat → Int} {bd : Bd} (hbd : BdOk ρ bd) {E : Env}
include hbd
theorem lin_bd (ts:List (Nat×Int)):loT bd ts≤lin ρ ts∧lin ρ ts≤hiT bd ts:=by
 induction ts with
 | nil=>exact ⟨Int.le_refl _,Int.le_refl _⟩
 | cons t r ih =>
  simp only[loT,hiT,lin]
  rw[cnd_eq,cnd_eq]
  obtain ⟨h1,h2⟩:=hbd.b t.1
  split
  ·rename_i h
   simp at h
   have a1:=Int.mul_le_mul_of_nonneg_left h1 h
   have a2:=Int.mul_le_mul_of_nonneg_left h2 h
   omega
  ·rename_i h
   simp at h
   have a1:=Int.mul_le_mul_of_nonpos_left (a:=t.2) (by omega) h1
   have a2:=Int.mul_le_mul_of_nonpos_left (a:=t.2) (by omega) h2
   omega
theorem range_full {k:IntKind} {a:AI} {x:Int} (hx:IR ρ k a x) {r:Int×Int} (h:range bd k a=some r):x=lin ρ (tsOf a)+dOf a∧r.1≤x∧x≤r.2:=by
 cases a with
 | c n=>cases h; simp only[IR] at hx; subst hx; exact ⟨by simp[tsOf,dOf,lin],Int.le_refl _,Int.le_refl _⟩
 | s ts d =>
  simp only[range] at h
  rw[cnd_eq] at h
  split at h
  ·rename_i hk
   cases h
   simp[inK] at hk
   simp only[IR] at hx
   obtain ⟨h1,h2⟩:=lin_bd hbd ts
   rw[wrap_in (by omega) (by omega)] at hx
   subst hx
   exact ⟨rfl,by show loT bd ts+d≤_; omega,by show _≤hiT bd ts+d; omega⟩
  ·cases h
theorem range_ok {k:IntKind} {a:AI} {x:Int} (hx:IR ρ k a x) {r:Int×Int} (h:range bd k a=some r):r.1≤x∧x≤r.2:=(range_full hbd hx h).2
theorem difR_ok {k:IntKind} {a b:AI} {x y:Int} (hx:IR ρ k a x) (hy:IR ρ k b y) {p q:Int×Int} (h1:range bd k a=some p) (h2:range bd k b=some q):(difR bd a b).1≤x-y∧x-y≤(difR bd a b).2:=by
 have e1:=(range_full hbd hx h1).1
 have e2:=(range_full hbd hy h2).1
 have e3:=lin_bd hbd (addT (-1) (tsOf b) (tsOf a))
 rw[lin_addT] at e3
 simp only[difR]
 omega
omit hbd in
theorem sameS_ok {k:IntKind} {a b:AI} {x y:Int} (hx:IR ρ k a x) (hy:IR ρ k b y) (h:sameS a b=true):x=y:=by
 cases a <;> cases b <;> simp[sameS] at h
 obtain ⟨h1,rfl⟩:=h
 obtain rfl:=sameT_eq h1
 simp only[IR] at hx hy
 rw[hx,hy]
omit hbd in
theorem orE_some {x y:Option Bool} {r:Bool} (h:orE x y=some r):x=some r∨y=some r:=by
 cases x with
 | none=>exact .inr h
 | some z=>exact .inl h
omit hbd in
theorem ltR_ok {p q:Int×Int} {x y:Int} (hx:p.1≤x∧x≤p.2) (hy:q.1≤y∧y≤q.2) {r:Bool} (h:ltR p q=some r):decide (x<y)=r:=by
 unfold ltR at h
 rw[cnd_eq] at h
 split at h
 ·rename_i hh; simp at hh; cases h; simp; omega
 ·rw[cnd_eq] at h
  split at h
  ·rename_i hh; simp at hh; cases h; simp; omega
  ·cases h
omit hbd in
theorem leR_ok {p q:Int×Int} {x y:Int} (hx:p.1≤x∧x≤p.2) (hy:q.1≤y∧y≤q.2) {r:Bool} (h:leR p q=some r):decide (x≤y)=r:=by
 unfold leR at h
 rw[cnd_eq] at h
 split at h
 ·rename_i hh; simp at hh; cases h; simp; omega
 ·rw[cnd_eq] at h
  split at h
  ·rename_i hh; simp at hh; cases h; simp; omega
  ·cases h
theorem ltI0_ok {k:IntKind} {a b:AI} {x y:Int} (hx:IR ρ k a x) (hy:IR ρ k b y) {r:Bool} (h:ltI0 bd k a b=some r):decide (x<y)=r:=by
 unfold ltI0 at h
 rw[cnd_eq] at h
 split at h
 ·rename_i hs
  have:=sameS_ok hx hy hs
  cases h; simp; omega
 ·obtain ⟨p,h1,h2⟩:=ob_eq h
  obtain ⟨q,h3,h4⟩:=ob_eq h2
  rcases orE_some h4 with h5 | h5
  ·exact ltR_ok (range_ok hbd hx h1) (range_ok hbd hy h3) h5
  ·rw[←ltR_ok (difR_ok hbd hx hy h1 h3) (show (0:Int)≤0∧(0:Int)≤0 by omega) h5]
   simp only[decide_eq_decide]; omega
theorem leI0_ok {k:IntKind} {a b:AI} {x y:Int} (hx:IR ρ k a x) (hy:IR ρ k b y) {r:Bool} (h:leI0 bd k a b=some r):decide (x≤y)=r:=by
 unfold leI0 at h
 rw[cnd_eq] at h
 split at h
 ·rename_i hs
  have:=sameS_ok hx hy hs
  cases h; simp; omega
 ·obtain ⟨p,h1,h2⟩:=ob_eq h
  obtain ⟨q,h3,h4⟩:=ob_eq h2
  rcases orE_some h4 with h5 | h5
  ·exact leR_ok (range_ok hbd hx h1) (range_ok hbd hy h3) h5
  ·rw[←leR_ok (difR_ok hbd hx hy h1 h3) (show (0:Int)≤0∧(0:Int)≤0 by omega) h5]
   simp only[decide_eq_decide]; omega
omit hbd in
theorem eqR_ok {p q d:Int×Int} {x y:Int} (hx:p.1≤x∧x≤p.2) (hy:q.1≤y∧y≤q.2) (hd:d.1≤x-y∧x-y≤d.2) {r:Bool} (h:eqR p q d=some r):(x==y)=r:=by
 unfold eqR at h
 rw[cnd_eq] at h
 split at h
 ·rename_i hh; simp at hh; cases h; simp; omega
 ·rw[cnd_eq] at h
  split at h
  ·rename_i hh; simp at hh; cases h; simp; omega
  ·cases h
theorem eqI0_ok {k:IntKind} {a b:AI} {x y:Int} (hx:IR ρ k a x) (hy:IR ρ k b y) {r:Bool} (h:eqI0 bd k a b=some r):(x==y)=r:=by
 unfold eqI0 at h
 rw[cnd_eq] at h
 split at h
 ·rename_i hs
  have:=sameS_ok hx hy hs
  cases h; simpa using this
 ·cases a with
  | c n =>
   cases b with
   | c m=>simp only[IR] at hx hy; cases h; subst hx; subst hy; exact Bool.beq_eq_decide_eq _ _
   | s i d =>
    obtain ⟨q,h3,h4⟩:=ob_eq h
    have hx':=hx
    simp only[IR] at hx'
    exact eqR_ok (p:=(n,n)) (x:=x) (by subst hx'; simp) (range_ok hbd hy h3) (difR_ok hbd hx hy (p:=(n,n)) rfl h3) h4
  | s i d =>
   obtain ⟨p,h1,h2⟩:=ob_eq h
   obtain ⟨q,h3,h4⟩:=ob_eq h2
   exact eqR_ok (range_ok hbd hx h1) (range_ok hbd hy h3) (difR_ok hbd hx hy h1 h3) h4
omit hbd in
theorem sameAI_eq {x y:AI} (h:sameAI x y=true):x=y:=by
 cases x <;> cases y <;> simp only[sameAI,Bool.false_eq_true,decide_eq_true_eq,Bool.and_eq_true] at h
 ·rw[h]
 ·obtain ⟨h1,rfl⟩:=h
  rw[sameT_eq h1]
omit hbd in
theorem orc_mem:∀ {l:List Orc} {n:Nat} {x y r:AI},orc l n x y=some r→∃ e∈l,e.op=n∧e.x=x∧e.y=y∧e.r=r:=by
 intro l
 induction l with
 | nil=>intro n x y r h; cases h
 | cons e l ih =>
  intro n x y r h
  simp only[orc] at h
  rw[cnd_eq] at h
  split at h
  ·rename_i hc
   simp only[Bool.and_eq_true] at hc
   cases h
   exact ⟨e,List.mem_cons_self,Nat.eq_of_beq_eq_true hc.1.1,sameAI_eq hc.1.2,sameAI_eq hc.2,rfl⟩
  ·obtain ⟨e',q1,q2⟩:=ih h
   exact ⟨e',List.mem_cons_of_mem _ q1,q2⟩
omit hbd in
theorem ik_inj {j k:IntKind} (h:Nat.beq (ik j) (ik k)=true):j=k:=by
 cases j <;> cases k <;> first | rfl | exact absurd h (by decide)
theorem orcB_ok {k:IntKind} {n:Nat} {a b:AI} {r:Bool} (h:orcB bd k n a b=some r):k = .i64∧∃ e:Orc,OrcOk ρ e∧e.op=n∧e.x=a∧e.y=b∧bOf e.r=r:=by
 obtain ⟨h1,h2⟩:=cnd_some' h
 obtain ⟨q,h3,h4⟩:=ob_eq h2
 cases h4
 obtain ⟨e,e1,e2,e3,e4,e5⟩:=orc_mem h3
 exact ⟨ik_inj (k := .i64) h1,e,hbd.o _ e e1,e2,e3,e4,by rw[e5]⟩
theorem ltI_ok {k:IntKind} {a b:AI} {x y:Int} (hx:IR ρ k a x) (hy:IR ρ k b y) {r:Bool} (h:ltI bd k a b=some r):decide (x<y)=r:=by
 rcases orE_some h with h | h
 ·exact ltI0_ok hbd hx hy h
 ·obtain ⟨rfl,⟨op,ex,ey,er⟩,e1,rfl,rfl,rfl,e5⟩:=orcB_ok hbd h
  rw[←e5]; exact e1 x y hx hy
theorem leI_ok {k:IntKind} {a b:AI} {x y:Int} (hx:IR ρ k a x) (hy:IR ρ k b y) {r:Bool} (h:leI bd k a b=some r):decide (x≤y)=r:=by
 rcases orE_some h with h | h
 ·exact leI0_ok hbd hx hy h
 ·obtain ⟨rfl,⟨op,ex,ey,er⟩,e1,rfl,rfl,rfl,e5⟩:=orcB_ok hbd h
  rw[←e5]; exact e1 x y hx hy
theorem eqI_ok {k:IntKind} {a b:AI} {x y:Int} (hx:IR ρ k a x) (hy:IR ρ k b y) {r:Bool} (h:eqI bd k a b=some r):(x==y)=r:=by
 rcases orE_some h with h | h
 ·exact eqI0_ok hbd hx hy h
 ·obtain ⟨rfl,⟨op,ex,ey,er⟩,e1,rfl,rfl,rfl,e5⟩:=orcB_ok hbd h
  rw[←e5]; exact e1 x y hx hy
omit hbd in
theorem arithC_ok {P:Program} {op:BinOp} {k:IntKind} {x y n:Int} (h:arithC op k x y=some n) (w:World) (T:TypeId):(binOp op T (.int k x) (.int k y)).run P w = .ok (.int k n) w:=by
 cases op <;> simp only[arithC] at h <;> (try rw[cnd_eq] at h) <;> (try (split at h)) <;>
  (first | (cases h; done) | (cases h; simp_all [binOp,Op.intArith,Op.intDiv,Op.intBits,Op.shift,Sem.run,pure] <;> (try (intro hh; omega))) | skip)
omit hbd in
theorem shiftC_ok {P:Program} {op:BinOp} (hop:op = .shl∨op = .shr) {k k':IntKind} {m l n:Int} (h1:arithC op k m l=some n) (w:World) (T:TypeId):(binOp op T (.int k m) (.int k' l)).run P w = .ok (.int k n) w:=by
 rcases hop with rfl | rfl <;> simp only[arithC] at h1 <;> rw[cnd_eq] at h1 <;> split at h1 <;>
  (first | (cases h1; done) | (cases h1; simp_all [binOp,Op.shift,Sem.run,pure] <;> (try (intro hh; omega))))
omit hbd in
theorem emod_add_cong {a b c d m:Int} (h:a%m=b%m) (k:c%m=d%m):(a+c)%m=(b+d)%m:=by rw[Int.add_emod,h,k,←Int.add_emod]
omit hbd in
theorem emod_sub_cong {a b c d m:Int} (h:a%m=b%m) (k:c%m=d%m):(a-c)%m=(b-d)%m:=by rw[Int.sub_emod,h,k,←Int.sub_emod]
omit hbd in
theorem emod_mul_cong {a b c d m:Int} (h:a%m=b%m) (k:c%m=d%m):(a*c)%m=(b*d)%m:=by rw[Int.mul_emod,h,k,←Int.mul_emod]
omit hbd in
theorem arithS_c {op:BinOp} {k k':IntKind} {a b c:AI} {x y:Int} (hx:IR ρ k a x) (hy:IR ρ k' b y) (hk:k=k'∨op = .shl∨op = .shr) (h:arithS op k a b=some c):∃ n,arithC op k x y=some n∧IR ρ k c n:=by
 have cx:=hx.cong
 cases op <;> simp only[arithS,reduceCtorEq] at h
 ·obtain rfl:k=k':=by rcases hk with h | h | h <;> first | exact h | cases h
  have cy:=hy.cong
  cases h
  refine ⟨_,rfl,mkS_ok ?_⟩
  rw[lin_addT,Int.one_mul,emod_add_cong cx cy]
  congr 1; omega
 ·obtain rfl:k=k':=by rcases hk with h | h | h <;> first | exact h | cases h
  have cy:=hy.cong
  cases h
  refine ⟨_,rfl,mkS_ok ?_⟩
  rw[lin_addT,emod_sub_cong cx cy]
  congr 1; omega
 ·obtain rfl:k=k':=by rcases hk with h | h | h <;> first | exact h | cases h
  have cy:=hy.cong
  cases a with
  | c n =>
   simp only[AI.onC,Option.some.injEq] at h
   subst h
   simp only[IR] at hx
   subst hx
   refine ⟨_,rfl,mkS_ok ?_⟩
   rw[lin_mulT,emod_mul_cong rfl cy,Int.mul_add]
  | s ts d =>
   cases b with
   | c n =>
    simp only[AI.onC,Option.some.injEq] at h
    subst h
    simp only[IR] at hy
    subst hy
    refine ⟨_,rfl,mkS_ok ?_⟩
    rw[lin_mulT,emod_mul_cong cx rfl,←Int.mul_add,Int.mul_comm]
   | s us e=>simp[AI.onC] at h
 ·cases b with
  | s us e=>simp[AI.onC] at h
  | c n =>
   simp only[AI.onC] at h
   obtain ⟨h1,h2⟩:=cnd_some' h
   cases h2
   simp only[Bool.and_eq_true,decide_eq_true_eq] at h1
   simp only[IR] at hy
   subst hy
   refine ⟨_,by simp only[arithC]; rw[cnd_eq,if_neg (by simp; omega)],mkS_ok ?_⟩
   rw[show min y.toNat k.bits=y.toNat by omega,lin_mulT,emod_mul_cong cx rfl,←Int.mul_add,Int.mul_comm]
omit hbd in
theorem arith_c {op:BinOp} {k k':IntKind} {a b c:AI} {x y:Int} (hx:IR ρ k a x) (hy:IR ρ k' b y) (hk:k=k'∨op = .shl∨op = .shr) (h:arith op k a b=some c):∃ n,arithC op k x y=some n∧IR ρ k c n:=by
 cases a with
 | c m =>
  cases b with
  | c l =>
   simp only[IR] at hx hy
   subst hx; subst hy
   obtain ⟨n,h1,h2⟩:=ob_eq h
   cases h2
   exact ⟨n,h1,rfl⟩
  | s i d=>exact arithS_c hx hy hk h
 | s i d=>exact arithS_c hx hy hk h
omit hbd in
theorem arith_ok {P:Program} {op:BinOp} {k:IntKind} {a b c:AI} {x y:Int} (hx:IR ρ k a x) (hy:IR ρ k b y) (h:arith op k a b=some c) :
  ∃ n,(∀ (w:World) (T:TypeId),(binOp op T (.int k x) (.int k y)).run P w = .ok (.int k n) w)∧IR ρ k c n:=by
 obtain ⟨n,h1,h2⟩:=arith_c hx hy (.inl rfl) h
 exact ⟨n,fun w T=>arithC_ok h1 w T,h2⟩
theorem divOk_ok {k:IntKind} {c:Int} {a:AI} {x:Int} (hx:IR ρ k a x) (h:divOk bd k c a=true):0<c∧0≤x∧x≤k.max∧x=lin ρ (tsOf a)+dOf a ∧
  x / c=lin ρ (qT c (tsOf a))+dOf a / c∧x%c=lin ρ (mT c (tsOf a))+dOf a%c:=by
 unfold divOk at h
 cases hr:range bd k a with
 | none=>rw[hr] at h; cases h
 | some r =>
  rw[hr] at h
  simp only[Bool.and_eq_true,decide_eq_true_eq] at h
  obtain ⟨⟨⟨⟨h1,h2⟩,h3⟩,h4⟩,h5⟩:=h
  obtain ⟨e,b1,b2⟩:=range_full hbd hx hr
  obtain ⟨l1,l2⟩:=lin_bd hbd (mT c (tsOf a))
  have p1:=lin_parts (ρ:=ρ) c (tsOf a)
  have p2:=Int.mul_ediv_add_emod (dOf a) c
  have hc:c≠0:=by omega
  have key:x=(lin ρ (mT c (tsOf a))+dOf a%c)+c*(lin ρ (qT c (tsOf a))+dOf a / c):=by
   rw[Int.mul_add]; omega
  have q0:(lin ρ (mT c (tsOf a))+dOf a%c) / c=0:=Int.ediv_eq_zero_of_lt (by omega) (by omega)
  refine ⟨h1,by omega,by omega,e,?_,?_⟩
  ·rw[key,Int.add_mul_ediv_left _ _ hc,q0,Int.zero_add]
  ·rw[key,Int.add_mul_emod_self_left,Int.emod_eq_of_lt (by omega) (by omega)]
theorem exOk_ok {k:IntKind} {c:Int} {a:AI} {x:Int} (hx:IR ρ k a x) (h:exOk bd k c a=true):0<c∧x=c*(lin ρ (qT c (tsOf a))+dOf a / c):=by
 unfold exOk at h
 cases hr:range bd k a with
 | none=>rw[hr] at h; cases h
 | some r =>
  rw[hr] at h
  simp only[Bool.and_eq_true,decide_eq_true_eq] at h
  obtain ⟨h1,h2⟩:=h
  obtain ⟨e,_,_⟩:=range_full hbd hx hr
  have p1:=lin_parts (ρ:=ρ) c (tsOf a)
  have p2:=Int.mul_ediv_add_emod (dOf a) c
  refine ⟨h1,?_⟩
  revert h2 p1
  generalize mT c (tsOf a)=mm
  intro h2 p1
  cases mm with
  | nil =>
   simp only[decide_eq_true_eq] at h2
   simp only[lin] at p1
   rw[e,Int.mul_add]
   omega
  | cons t q=>cases h2
omit hbd in
theorem min_nonpos (k:IntKind):k.min≤0:=by cases k <;> decide
omit hbd in
theorem max_lt (k:IntKind):k.max<2^k.bits:=by cases k <;> decide
omit hbd in
theorem quoS_ok {k:IntKind} {c:Int} {a:AI} {n:Int} (h:n=lin ρ (qT c (tsOf a))+dOf a / c):IR ρ k (quoS k c a) (k.wrap n):=mkS_ok (by rw[h])
omit hbd in
theorem remS_ok {k:IntKind} {c:Int} {a:AI} {n:Int} (h:n=lin ρ (mT c (tsOf a))+dOf a%c):IR ρ k (remS k c a) (k.wrap n):=mkS_ok (by rw[h])
theorem orOk_ok {k : IntKind} {a b : AI} {x y : Int} (hx : IR ρ k a x) (hy : IR ρ k b y) (h : orOk bd k a b = true) : 
    k.wrap (BitVec.ofInt k.bits x ||| BitVec.ofInt k.bits y).toNat = k.wrap (x + y) ∧ x = lin ρ (tsOf a) + dOf a ∧ y = lin ρ (tsOf b) + dOf b := by
  unfold orOk at h
  cases hr : range bd k b with
  | none => rw [hr] at h; cases h
  | some r =>
    rw [hr] at h
    simp only [Bool.and_eq_true, decide_eq_true_eq] at h
    obtain ⟨⟨⟨h1, h2⟩, h3⟩, h4⟩ := h
    obtain ⟨e, b1, b2⟩ := range_full hbd hy hr
    generalize hj : Nat.log2 r.2.toNat + 1 = j at h3 h4
    obtain ⟨c1, c2, c3, c4, c5, c6⟩ := divOk_ok hbd hx h3
    have h5 : x % 2 ^ j = 0 := by
      revert h4 c6
      generalize mT (2 ^ j) (tsOf a) = mm
      intro h4 c6
      cases mm with
      | nil => simp only [decide_eq_true_eq] at h4; rw [c6, h4]; rfl
      | cons t q => cases h4
    have hy2 : y < 2 ^ j := by
      have : r.2.toNat < 2 ^ j := by rw [← hj]; exact Nat.lt_log2_self
      have : ((r.2.toNat : Nat) : Int) < ((2 ^ j : Nat) : Int) := by exact_mod_cast this
      push_cast at this
      omega
    obtain ⟨X, rfl⟩ : ∃ X : Nat, x = X := ⟨x.toNat, by omega⟩
    obtain ⟨Y, rfl⟩ : ∃ Y : Nat, y = Y := ⟨y.toNat, by omega⟩
    have hX : X % 2 ^ j = 0 := by exact_mod_cast h5
    have hY : Y < 2 ^ j := by exact_mod_cast hy2
    have mx := max_lt k
    have hXb : X < 2 ^ k.bits := by have : (X : Int) < 2 ^ k.bits := by omega
                                    exact_mod_cast this
    have hYb : Y < 2 ^ k.bits := by have : (Y : Int) < 2 ^ k.bits := by omega
                                    exact_mod_cast this
    refine ⟨?_, c4, e⟩
    congr 1
    have t1 : (BitVec.ofInt k.bits (X : Int)).toNat = X := by simp [BitVec.toNat_ofInt]; exact Nat.mod_eq_of_lt hXb
    have t2 : (BitVec.ofInt k.bits (Y : Int)).toNat = Y := by simp [BitVec.toNat_ofInt]; exact Nat.mod_eq_of_lt hYb
    rw [BitVec.toNat_or, t1, t2]
    have := Nat.two_pow_add_eq_or_of_lt hY (X / 2 ^ j)
    rw [Nat.mul_div_cancel' (Nat.dvd_of_mod_eq_zero hX)] at this
    rw [← this]
    push_cast
    rfl
omit hbd in
theorem orA_some {x y:Option AI} {r:AI} (h:orA x y=some r):x=some r∨y=some r:=by
 cases x with
 | none=>exact .inr h
 | some z=>exact .inl h
theorem arithB_c {op : BinOp} {k k' : IntKind} {a b c : AI} {x y : Int} (hx : IR ρ k a x) (hy : IR ρ k' b y) (hk : k = k' ∨ op = .shl ∨ op = .shr) (h : arithB bd op k a b = some c) : ∃ n, arithC op k x y = some n ∧ IR ρ k c n := by
  have mx := max_lt k
  have mn := min_nonpos k
  cases op <;> simp only [arithB, reduceCtorEq] at h
  · -- quo
    cases b with
    | s us e => simp [AI.onC] at h
    | c m =>
      simp only [IR] at hy
      subst hy
      obtain ⟨h1, h2⟩ := cnd_some' h
      cases h2
      simp only [Bool.or_eq_true] at h1
      rcases h1 with h1 | h1
      · obtain ⟨c1, c2, c3, c4, c5, c6⟩ := divOk_ok hbd hx h1
        refine ⟨_, by simp only [arithC]; rw [cnd_eq, if_neg (by simp; omega)], quoS_ok ?_⟩
        rw [Int.tdiv_eq_ediv_of_nonneg c2, c5]
      · obtain ⟨c1, c2⟩ := exOk_ok hbd hx h1
        refine ⟨_, by simp only [arithC]; rw [cnd_eq, if_neg (by simp; omega)], quoS_ok ?_⟩
        rw [c2, Int.mul_tdiv_cancel_left _ (by omega)]
  · -- rem
    cases b with
    | s us e => simp [AI.onC] at h
    | c m =>
      simp only [IR] at hy
      subst hy
      have h : orA (cnd (divOk bd k y a) (some (remS k y a)) none) (cnd (Nat.beq (ik k) 3 && rgOk bd k a && divOk bd k y (negS a)) (some (mkS k (mulT (-1) (tsOf (remS k y (negS a)))) (0 - dOf (remS k y (negS a))))) none) = some c := h
      rcases orA_some h with h | h
      · obtain ⟨h1, h2⟩ := cnd_some' h
        cases h2
        obtain ⟨c1, c2, c3, c4, c5, c6⟩ := divOk_ok hbd hx h1
        refine ⟨_, by simp only [arithC]; rw [cnd_eq, if_neg (by simp; omega)], ?_⟩
        have e : x.tmod y = x % y := Int.tmod_eq_emod_of_nonneg c2
        have r1 := Int.emod_nonneg x (show y ≠ 0 by omega)
        have r2 : x % y ≤ x := by
          have := Int.mul_ediv_add_emod x y
          have h0 := Int.mul_nonneg (show 0 ≤ y by omega) (Int.ediv_nonneg c2 (show 0 ≤ y by omega))
          omega
        rw [e, ← wrap_in (k := k) (n := x % y) (by omega) (by omega)]
        exact remS_ok c6
      · obtain ⟨h1, h2⟩ := cnd_some' h
        cases h2
        simp only [Bool.and_eq_true] at h1
        obtain ⟨⟨h0, h1⟩, h3⟩ := h1
        obtain rfl : k = .i64 := ik_inj (k := .i64) h0
        have hx' : x = lin ρ (tsOf a) + dOf a := by
          unfold rgOk at h1
          cases hr : range bd .i64 a with
          | none => rw [hr] at h1; cases h1
          | some r => exact (range_full hbd hx hr).1
        have hn : IR ρ .i64 (negS a) (IntKind.i64.wrap (0 - x)) := by
          show IntKind.i64.wrap (0 - x) = IntKind.i64.wrap (lin ρ (mulT (-1) (tsOf a)) + (0 - dOf a))
          rw [lin_mulT, hx']; congr 1; omega
        obtain ⟨c1, c2, c3, c4, c5, c6⟩ := divOk_ok hbd hn h3
        have hz : IntKind.i64.wrap (0 - x) = 0 - x := by
          rw [c4]
          show lin ρ (mulT (-1) (tsOf a)) + (0 - dOf a) = 0 - x
          rw [lin_mulT, hx']; omega
        rw [hz] at c2 c3 c6
        refine ⟨_, by simp only [arithC]; rw [cnd_eq, if_neg (by simp; omega)], ?_⟩
        have e : x.tmod y = -((0 - x) % y) := by
          rw [← Int.tmod_eq_emod_of_nonneg c2, Int.zero_sub, Int.neg_tmod, Int.neg_neg]
        have r1 := Int.emod_nonneg (0 - x) (show y ≠ 0 by omega)
        have r2 : (0 - x) % y ≤ 0 - x := by
          have := Int.mul_ediv_add_emod (0 - x) y
          have h0 := Int.mul_nonneg (show 0 ≤ y by omega) (Int.ediv_nonneg c2 (show 0 ≤ y by omega))
          omega
        have hr := remS_ok (k := .i64) (a := negS a) c6
        have cr := hr.cong
        generalize remS IntKind.i64 y (negS a) = R at cr
        have c3' : 0 - x ≤ 9223372036854775807 := c3
        rw [wrap_in (k := .i64) (n := (0 - x) % y) (by show (-9223372036854775808 : Int) ≤ _; omega) (by show _ ≤ (9223372036854775807 : Int); omega)] at cr
        rw [e, show -((0 - x) % y) = 0 - (0 - x) % y by omega, ← wrap_in (k := .i64) (n := 0 - (0 - x) % y) (by show (-9223372036854775808 : Int) ≤ _; omega) (by show _ ≤ (9223372036854775807 : Int); omega)]
        refine mkS_ok ?_
        rw [lin_mulT, emod_sub_cong rfl cr]
        congr 1; omega
  · -- and
    cases b with
    | s us e => simp [AI.onC] at h
    | c m =>
      obtain rfl : k = k' := by rcases hk with h | h | h <;> first | exact h | cases h
      simp only [IR] at hy
      subst hy
      obtain ⟨h1, h2⟩ := cnd_some' h
      cases h2
      simp only [Bool.and_eq_true, isMask, decide_eq_true_eq] at h1
      obtain ⟨⟨⟨m1, m2⟩, m3⟩, h1⟩ := h1
      have m3 := Nat.eq_of_beq_eq_true m3
      obtain ⟨c1, c2, c3, c4, c5, c6⟩ := divOk_ok hbd hx h1
      refine ⟨_, rfl, remS_ok ?_⟩
      rw [← c6]
      generalize hj : Nat.log2 (y.toNat + 1) = j at m3
      obtain ⟨X, rfl⟩ : ∃ X : Nat, x = X := ⟨x.toNat, by omega⟩
      obtain ⟨Y, rfl⟩ : ∃ Y : Nat, y = Y := ⟨y.toNat, by omega⟩
      have hXb : X < 2 ^ k.bits := by have : (X : Int) < 2 ^ k.bits := by omega
                                      exact_mod_cast this
      have hYb : Y < 2 ^ k.bits := by have : (Y : Int) < 2 ^ k.bits := by omega
                                      exact_mod_cast this
      have t1 : (BitVec.ofInt k.bits (X : Int)).toNat = X := by simp [BitVec.toNat_ofInt]; exact Nat.mod_eq_of_lt hXb
      have t2 : (BitVec.ofInt k.bits (Y : Int)).toNat = Y := by simp [BitVec.toNat_ofInt]; exact Nat.mod_eq_of_lt hYb
      simp only [Int.toNat_natCast] at m3
      have hY : Y = 2 ^ j - 1 := by omega
      rw [BitVec.toNat_and, t1, t2, hY, Nat.and_two_pow_sub_one_eq_mod]
      have hp : 0 < 2 ^ j := Nat.two_pow_pos j
      rw [show (((2 ^ j - 1 : Nat) : Int) + 1) = ((2 ^ j : Nat) : Int) by omega]
      push_cast
      rfl
  · -- or
    obtain rfl : k = k' := by rcases hk with h | h | h <;> first | exact h | cases h
    obtain ⟨h1, h2⟩ := cnd_some' h
    cases h2
    simp only [Bool.or_eq_true] at h1
    have fin : x = lin ρ (tsOf a) + dOf a → y = lin ρ (tsOf b) + dOf b → IR ρ k (mkS k (addT 1 (tsOf a) (tsOf b)) (dOf a + dOf b)) (k.wrap (x + y)) := by
      intro e1 e2
      refine mkS_ok ?_
      rw [lin_addT, Int.one_mul, e1, e2]
      congr 1; omega
    refine ⟨_, rfl, ?_⟩
    rcases h1 with h1 | h1
    · obtain ⟨q1, q2, q3⟩ := orOk_ok hbd hx hy h1
      rw [q1]; exact fin q2 q3
    · obtain ⟨q1, q2, q3⟩ := orOk_ok hbd hy hx h1
      rw [BitVec.or_comm, q1, Int.add_comm y x]; exact fin q3 q2
  · -- shr
    cases b with
    | s us e => simp [AI.onC] at h
    | c m =>
      simp only [IR] at hy
      subst hy
      obtain ⟨h1, h2⟩ := cnd_some' h
      cases h2
      simp only [Bool.and_eq_true, decide_eq_true_eq] at h1
      obtain ⟨⟨m1, m2⟩, h1⟩ := h1
      obtain ⟨c1, c2, c3, c4, c5, c6⟩ := divOk_ok hbd hx h1
      refine ⟨_, by simp only [arithC]; rw [cnd_eq, if_neg (by simp; omega)], ?_⟩
      rw [show min y.toNat k.bits = y.toNat by omega, Int.fdiv_eq_ediv_of_nonneg _ (by omega)]
      have r1 := Int.ediv_nonneg c2 (show (0 : Int) ≤ 2 ^ y.toNat by omega)
      have r2 : x / 2 ^ y.toNat ≤ x := Int.ediv_le_self _ c2
      rw [← wrap_in (k := k) (n := x / 2 ^ y.toNat) (by omega) (by omega)]
      exact quoS_ok c5
theorem arithX_c {op:BinOp} {k k':IntKind} {a b c:AI} {x y:Int} (hx:IR ρ k a x) (hy:IR ρ k' b y) (hk:k=k'∨op = .shl∨op = .shr) (h:orA (arith op k a b) (orA (arithB bd op k a b) (arithO bd op k a b))=some c):∃ n,arithC op k x y=some n∧IR ρ k c n:=by
 rcases orA_some h with h | h
 ·exact arith_c hx hy hk h
 ·rcases orA_some h with h | h
  ·exact arithB_c hbd hx hy hk h
  ·cases op <;> simp only[arithO,reduceCtorEq] at h
   ·obtain ⟨h1,h2⟩:=cnd_some' h
    obtain rfl:k = .i64:=ik_inj (k := .i64) h1
    obtain rfl:IntKind.i64=k':=by rcases hk with h | h | h <;> first | exact h | cases h
    obtain ⟨⟨op,ex,ey,er⟩,e1,rfl,rfl,rfl,rfl⟩:=orc_mem h2
    have:=hbd.o _ _ e1 x y hx hy
    exact ⟨_,by simp only[arithC]; rw[cnd_eq,if_neg (by simp; exact this.1)],this.2⟩
   ·obtain ⟨h1,h2⟩:=cnd_some' h
    obtain rfl:k = .i64:=ik_inj (k := .i64) h1
    obtain rfl:IntKind.i64=k':=by rcases hk with h | h | h <;> first | exact h | cases h
    obtain ⟨⟨op,ex,ey,er⟩,e1,rfl,rfl,rfl,rfl⟩:=orc_mem h2
    have:=hbd.o _ _ e1 x y hx hy
    exact ⟨_,by simp only[arithC]; rw[cnd_eq,if_neg (by simp; exact this.1)],this.2⟩
theorem binI_ok {P:Program} {op:BinOp} {k k':IntKind} {a b:AI} {v:AV} {x y:Int} (hx:IR ρ k a x) (hy:IR ρ k' b y) (h:binI bd op k k' a b=some v) :
  ∃ u,(∀ (w:World) (T:TypeId),(binOp op T (.int k x) (.int k' y)).run P w = .ok u w)∧VR ρ E v u:=by
 unfold binI at h
 rw[cnd_eq] at h
 split at h
 ·rename_i hkk
  obtain rfl:=ik_inj hkk
  have ar:ob (orA (arith op k a b) (orA (arithB bd op k a b) (arithO bd op k a b))) (fun n=>some (AV.int k n))=some v→∃ u,(∀ (w:World) (T:TypeId),(binOp op T (.int k x) (.int k y)).run P w = .ok u w)∧VR ρ E v u:=by
   intro h
   obtain ⟨c,h1,h2⟩:=ob_eq h
   cases h2
   obtain ⟨n,h3,h4⟩:=arithX_c hbd hx hy (.inl rfl) h1
   exact ⟨_,fun w T=>arithC_ok h3 w T,.int h4⟩
  cases op <;> first | exact ar h | skip
  ·cases h
  ·obtain ⟨r,h1,h2⟩:=ob_eq h
   cases h2
   exact ⟨_,fun w T=>by simp[binOp,Op.intCmp]; rfl,by rw[eqI_ok hbd hx hy h1]; exact .bool _⟩
  ·obtain ⟨r,h1,h2⟩:=ob_eq h
   cases h2
   exact ⟨_,fun w T=>by simp[binOp,Op.intCmp]; rfl,by rw[bne,eqI_ok hbd hx hy h1]; exact .bool _⟩
  ·obtain ⟨r,h1,h2⟩:=ob_eq h
   cases h2
   exact ⟨_,fun w T=>by simp[binOp,Op.intCmp]; rfl,by rw[ltI_ok hbd hx hy h1]; exact .bool _⟩
  ·obtain ⟨r,h1,h2⟩:=ob_eq h
   cases h2
   exact ⟨_,fun w T=>by simp[binOp,Op.intCmp]; rfl,by rw[leI_ok hbd hx hy h1]; exact .bool _⟩
  ·obtain ⟨r,h1,h2⟩:=ob_eq h
   cases h2
   exact ⟨_,fun w T=>by simp[binOp,Op.intCmp]; rfl,by rw[show decide (x>y)=decide (y<x) from rfl,ltI_ok hbd hy hx h1]; exact .bool _⟩
  ·obtain ⟨r,h1,h2⟩:=ob_eq h
   cases h2
   exact ⟨_,fun w T=>by simp[binOp,Op.intCmp]; rfl,by rw[show decide (x≥y)=decide (y≤x) from rfl,leI_ok hbd hy hx h1]; exact .bool _⟩
 ·cases op <;> first | (cases h; done) | skip
  ·obtain ⟨c,h1,h2⟩:=ob_eq h
   cases h2
   obtain ⟨n,h3,h4⟩:=arithX_c hbd hx hy (.inr (.inl rfl)) h1
   exact ⟨_,fun w T=>shiftC_ok (.inl rfl) h3 w T,.int h4⟩
  ·obtain ⟨c,h1,h2⟩:=ob_eq h
   cases h2
   obtain ⟨n,h3,h4⟩:=arithX_c hbd hx hy (.inr (.inr rfl)) h1
   exact ⟨_,fun w T=>shiftC_ok (.inr rfl) h3 w T,.int h4⟩
theorem eqAIs_ok {l m:List AI} {a b:List UInt8} (ha:SR ρ l a) (hb:SR ρ m b) {r:Bool} (h:eqAIs bd l m=some r):(a==b)=r:=by
 induction l generalizing m a b with
 | nil =>
  cases ha
  cases m with
  | nil=>cases hb; cases h; rfl
  | cons y m=>cases hb; cases h; rfl
 | cons x l ih =>
  cases ha with | cons h1 h2 =>
  cases m with
  | nil=>cases hb; cases h; rfl
  | cons y m =>
   cases hb with | cons h3 h4 =>
   obtain ⟨z,e1,e2⟩:=ob_eq (show ob (eqI bd .u8 x y) (fun b=>cnd b (eqAIs bd l m) (some false))=some r from h)
   have he:=eqI_ok hbd h1 h3 e1
   rename_i u _ v _
   have hu:(u==v)=z:=by
    rw[←he]
    rw[Bool.eq_iff_iff]
    simp
    constructor
    ·intro h; rw[h]
    ·intro h; exact UInt8.toNat_inj.1 (by omega)
   cases z with
   | true=>simp only[cnd_true] at e2; have:=ih h2 h4 e2; simp only[List.cons_beq_cons,hu,this,Bool.true_and]
   | false=>simp only[cnd_false] at e2; cases e2; simp only[List.cons_beq_cons,hu,Bool.false_and]
theorem ltAIs_ok:∀ {l m:List AI} {a b:List UInt8},SR ρ l a→SR ρ m b→∀ {r:Bool},ltAIs bd l m=some r→Op.bytesLess a b=r:=by
 intro l
 induction l with
 | nil =>
  intro m a b ha hb r h
  cases ha
  cases hb with
  | nil=>cases h; rfl
  | cons _ _=>cases h; rfl
 | cons x l ih =>
  intro m a b ha hb r h
  cases ha with | cons h1 h2 =>
  cases hb with
  | nil=>cases h; rfl
  | cons h3 h4 =>
   rename_i u _ y v m _
   obtain ⟨p,e1,e2⟩:=ob_eq (show ob (ltI bd .u8 x y) (fun b=>cnd b (some true) (ob (eqI bd .u8 x y) fun e=>cnd e (ltAIs bd l m) (some false)))=some r from h)
   have hl:=ltI_ok hbd h1 h3 e1
   have hlt:decide (u<v)=p:=by
    rw[←hl]
    simp only[decide_eq_decide,UInt8.lt_iff_toNat_lt]
    omega
   simp only[Op.bytesLess,hlt]
   cases p with
   | true=>simp only[cnd_true] at e2; cases e2; rfl
   | false =>
    simp only[cnd_false] at e2
    obtain ⟨q,e3,e4⟩:=ob_eq e2
    have he:=eqI_ok hbd h1 h3 e3
    have hu:(u==v)=q:=by
     rw[←he]
     rw[Bool.eq_iff_iff]
     simp
     constructor
     ·intro h; rw[h]
     ·intro h; exact UInt8.toNat_inj.1 (by omega)
    rw[hu]
    cases q with
    | true=>simp only[cnd_true] at e4; rw[ih h2 h4 e4]; rfl
    | false=>simp only[cnd_false] at e4; cases e4; rfl
end
section
variable {ρ : Nat → Int} {bd : Bd} (hbd : BdOk ρ bd) {E : Env} {P : Program}
def kindIs (P:Program) (n:Nat) (t:TypeId):Prop:=match n with
 | 0=>∃ k,P.underlying t=some (.int k)
 | 1=>P.underlying t=some .bool
 | _=>P.underlying t=some .string
include hbd
theorem eq1_ok {n:Nat} {x y:AV} {a b:Value} (hx:VR ρ E x a) (hy:VR ρ E y b) {r:Bool} (h:eq1 bd n x y=some r) {t:TypeId} (hk:kindIs P n t) (d:Nat) (w:World) :
  (Op.equalIn (d+1) t a b).run P w = .ok r w:=by
 unfold eq1 at h
 match n,hk,h with
 | 0,⟨k',hk⟩,h0 =>
  have h1:x.onInt (fun k a=>y.onInt (fun k' b=>cnd (Nat.beq (ik k) (ik k')) (eqI bd k a b) none) none) none=some r:=h0
  clear h0 h
  cases hx with
  | int hx =>
   cases hy with
   | int hy =>
    simp only[AV.onInt] at h1
    rw[cnd_eq] at h1
    split at h1
    ·rename_i hjk
     obtain rfl:=ik_inj (by simpa using hjk)
     rw[run_equalIn_int w d t _ k' _ _ hk,eqI_ok hbd hx hy h1]
    ·cases h1
   | _=>simp[AV.onInt] at h1
  | _=>simp[AV.onInt] at h1
 | 1,hk,h =>
  simp[cnd_eq] at h
  cases hx <;> simp[AV.onBool] at h
  cases hy <;> simp[AV.onBool] at h
  subst h
  exact run_equalIn_bool' w d t _ _ hk
 | n+2,hk,h =>
  rw[cnd_eq,if_neg (by simp),cnd_eq,if_neg (by simp)] at h
  cases hx with
  | str hs =>
   cases hy with
   | str hu=>rw[run_equalIn_string w d t _ _ hk,ByteArray.toList_eq,ByteArray.toList_eq,eqAIs_ok hbd hs hu (by simpa [AV.onStr] using h)]
   | _=>simp[AV.onStr] at h
  | _=>simp[AV.onStr] at h
def flatIs (P:Program):List Field→Nat→List Nat→Prop
 | [],_,[]=>True
 | f::r,i,n::ns=>f.offset=i∧f.name ≠ "_"∧kindIs P n f.type∧flatIs P r (i+1) ns
 | _,_,_=>False
omit hbd in
theorem isAgg_kind {n:Nat} {t:TypeId} (h:kindIs P n t) (w:World):(isAgg t).run P w = .ok false w:=by
 match n,h with
 | 0,⟨k,h⟩=>simp[isAgg,run_underlying h]
 | 1,h=>simp[isAgg,run_underlying (show P.underlying t=_ from h)]
 | n+2,h=>simp[isAgg,run_underlying (show P.underlying t=_ from h)]
omit hbd in
theorem part_kind {n:Nat} {t:TypeId} (h:kindIs P n t) {cs:Array Value} {i:Nat} {v:Value} (hv:cs[i]?=some v) (w:World):(part t cs i).run P w = .ok v w:=by
 simp[part,isAgg_kind h,hv]
theorem eqFs_ok (d:Nat) (xs ys:Array Value):∀ (ns:List Nat) (l m:List AV) (as bs:List Value) (i:Nat) (fs:List Field) (r:Bool) (w:World),VRs ρ E l as→VRs ρ E m bs→flatIs P fs i ns →
  (∀ j v,as[j]?=some v→xs[i+j]?=some v)→(∀ j v,bs[j]?=some v→ys[i+j]?=some v)→eqFs bd ns l m=some r→(Op.eqFields (d+1) xs ys fs).run P w = .ok r w:=by
 intro ns
 induction ns with
 | nil =>
  intro l m as bs i fs r w hl hm hf h1 h2 h
  cases fs with
  | nil =>
   cases l with
   | nil =>
    cases m with
    | nil=>cases h; simp[Op.eqFields]
    | cons y m=>cases h
   | cons x l=>cases h
  | cons f fs=>exact hf.elim
 | cons n ns ih =>
  intro l m as bs i fs r w hl hm hf h1 h2 h
  cases fs with
  | nil=>exact hf.elim
  | cons f fs =>
   obtain ⟨ho,hn,hk,hf⟩:=hf
   cases hl with
   | nil=>cases h
   | cons hx hl =>
    rename_i x a l as
    cases hm with
    | nil=>cases h
    | cons hy hm =>
     rename_i y b m bs
     obtain ⟨e,g1,g2⟩:=ob_eq (show ob (eq1 bd n x y) (fun b=>cnd b (eqFs bd ns l m) (some false))=some r from h)
     have p1:=part_kind (P:=P) hk (h1 0 a rfl) w
     have p2:=part_kind (P:=P) hk (h2 0 b rfl) w
     have q:=eq1_ok hbd hx hy g1 (P:=P) hk d w
     simp only[Nat.add_zero] at p1 p2
     simp only[Op.eqFields,if_pos hn,Sem.run_bind,ho,p1,p2,q,Result.andThen_ok]
     cases e with
     | true =>
      simp only[cnd_true] at g2
      simp only[Bool.not_true,Bool.false_eq_true,if_false]
      exact ih l m as bs (i+1) fs r w hl hm hf (fun j v hv=>by have:=h1 (j+1) v (by simpa using hv); rwa [show i+(j+1)=i+1+j by omega] at this)
       (fun j v hv=>by have:=h2 (j+1) v (by simpa using hv); rwa [show i+(j+1)=i+1+j by omega] at this) g2
     | false =>
      simp only[cnd_false] at g2
      cases g2
      simp
omit hbd in
theorem flat_ok:∀ (fs:List Field) (i:Nat),flatAt P fs i=true→flatIs P fs i (flatK P fs):=by
 intro fs
 induction fs with
 | nil=>intro i _; trivial
 | cons f fs ih =>
  intro i h
  simp only[flatAt,Bool.and_eq_true] at h
  obtain ⟨⟨⟨h1,h2⟩,h3⟩,h4⟩:=h
  refine ⟨by simpa using h1,by simpa using h2,?_,ih _ h4⟩
  split at h3
  ·rename_i hu; simp only[hu]; exact hu
  ·rename_i k hu; simp only[hu]; exact ⟨k,hu⟩
  ·rename_i hu; simp only[hu]; exact hu
  ·cases h3
def ekIs (P:Program) (k:EK) (t:TypeId):Prop:=match k with
 | .i=>kindIs P 0 t
 | .b=>kindIs P 1 t
 | .s=>kindIs P 2 t
 | .p=>∃ e,P.underlying t=some (.pointer e)
 | .l=>∃ e,P.underlying t=some (.slice e)
 | .st ns=>∃ fs,P.underlying t=some (.struct fs)∧flatIs P fs.toList 0 ns∧P.stoodInHeld t=false
omit hbd in
theorem ekOf_ok {t:TypeId} {k:EK} (h:ekOf P t=some k):ekIs P k t∧(∀ ns,k = .st ns→P.eqGuardType P.depth t=false):=by
 unfold ekOf at h
 split at h <;> (try (cases h; rename_i hu; exact ⟨by first | exact hu | exact ⟨_,hu⟩,by intro ns hns; cases hns⟩))
 ·rename_i fs hu
  split at h
  ·rename_i hh
   simp only[Bool.and_eq_true,Bool.not_eq_true'] at hh
   cases h
   exact ⟨⟨fs,hu,flat_ok _ _ hh.1.1,hh.1.2⟩,fun _ _=>hh.2⟩
  ·cases h
 ·cases h
omit hbd in
theorem ekKey_ok {t:TypeId} {k:EK} (h:ekKey P t=some k):ekIs P k t:=by
 unfold ekKey at h
 split at h <;> (try (cases h; rename_i hu; first | exact hu | exact ⟨_,hu⟩))
 ·rename_i fs hu
  split at h
  ·rename_i hh
   simp only[Bool.and_eq_true,Bool.not_eq_true'] at hh
   cases h
   exact ⟨fs,hu,flat_ok _ _ hh.1,hh.2⟩
  ·cases h
 ·cases h
omit hbd in
theorem eqP_ok {x y:AV} {a b:Value} (hx:VR ρ E x a) (hy:VR ρ E y b) {r:Bool} (h:eqP x y=some r) {t e:TypeId} (hk:P.underlying t=some (.pointer e)) (d:Nat) (w:World):(Op.equalIn (d+1) t a b).run P w = .ok r w:=by
 cases hx <;> simp[eqP] at h <;> cases hy <;> simp at h <;> subst h <;> simp[Op.equalIn,run_underlying hk]
omit hbd in
theorem eqL_ok {x y:AV} {a b:Value} (hx:VR ρ E x a) (hy:VR ρ E y b) {r:Bool} (h:eqL x y=some r) {t e:TypeId} (hk:P.underlying t=some (.slice e)) (d:Nat) (w:World):(Op.equalIn (d+1) t a b).run P w = .ok r w:=by
 cases hx <;> simp[eqL,AV.onSlice] at h <;> cases hy <;> simp[AV.onSlice] at h <;> subst h <;> simp[Op.equalIn,run_underlying hk]
theorem eqE_ok {k:EK} {x y:AV} {a b:Value} (hx:VR ρ E x a) (hy:VR ρ E y b) {r:Bool} (h:eqE bd k x y=some r) {t:TypeId} (hk:ekIs P k t) (w:World):(Op.equal t a b).run P w = .ok r w:=by
 show (Op.equalIn (9999+1) t a b).run P w=_
 cases k with
 | i=>exact eq1_ok hbd hx hy h hk 9999 w
 | b=>exact eq1_ok hbd hx hy h hk 9999 w
 | s=>exact eq1_ok hbd hx hy h hk 9999 w
 | p =>
  obtain ⟨e,hk⟩:=hk
  exact eqP_ok hx hy h hk 9999 w
 | l =>
  obtain ⟨e,hk⟩:=hk
  exact eqL_ok hx hy h hk 9999 w
 | st ns =>
  obtain ⟨fs,hu,hf,hp⟩:=hk
  simp only[eqE] at h
  cases hx <;> simp[AV.onAgg] at h
  cases hy <;> simp[AV.onAgg] at h
  rename_i l xs hl _ m ys hm _
  have hfo:P.fieldsOf t=fs:=by simp[Program.fieldsOf,hu]
  rw[run_equalIn_struct w 9999 t _ _ (by rw[hfo]; exact hu) hp,hfo]
  exact eqFs_ok hbd 9998 xs.toArray ys.toArray ns l m xs ys 0 fs.toList r w hl hm hf (fun j v hv=>by simpa using hv) (fun j v hv=>by simpa using hv) h
theorem eqOp_ok {k:EK} {x y:AV} {a b:Value} (hx:VR ρ E x a) (hy:VR ρ E y b) {r:Bool} (h:eqE bd k x y=some r) {t:TypeId} (hk:ekIs P k t) (hg:∀ ns,k = .st ns→P.eqGuardType P.depth t=false) (hi:k ≠ .i)
  (neg:Bool) (ox oy:Operand) (w:World) :
  (do eqGuard (if neg then .neq else .eql) t ox oy a b; binOp (if neg then .neq else .eql) t a b:Sem Value).run P w = .ok (.bool (cnd neg (!r) r)) w:=by
 have he:=eqE_ok hbd hx hy h hk w
 cases k with
 | i=>exact absurd rfl hi
 | b =>
  simp only[eqE,eq1] at h
  simp[cnd_eq] at h
  cases hx <;> simp[AV.onBool] at h
  cases hy <;> simp[AV.onBool] at h
  cases neg <;> simp[eqGuard,binOp,he]
 | s =>
  simp only[eqE,eq1] at h
  simp[cnd_eq] at h
  cases hx with
  | str hs =>
   cases hy with
   | str hu =>
    have:=eqAIs_ok hbd hs hu (by simpa [AV.onStr] using h)
    cases neg <;> simp[eqGuard,binOp,Op.stringOp,ByteArray.toList_eq,this]
   | _=>simp[AV.onStr] at h
  | _=>simp[AV.onStr] at h
 | p =>
  simp only[eqE] at h
  cases hx <;> simp[eqP] at h <;> cases hy <;> simp at h <;> cases neg <;> simp[eqGuard,binOp,he]
 | l =>
  simp only[eqE] at h
  cases hx <;> simp[eqL,AV.onSlice] at h <;> cases hy <;> simp[AV.onSlice] at h <;> cases neg <;> simp[eqGuard,binOp,he]
 | st ns =>
  have hg':=hg ns rfl
  simp only[eqE] at h
  cases hx <;> simp[AV.onAgg] at h
  cases hy <;> simp[AV.onAgg] at h
  cases neg <;> simp[run_eqGuard_agg w _ t ox oy _ _ hg',binOp,he]
end
def OKs (ρ:Nat→Int) (E:Env) (vars:List Nat) (cur:Nat) (C:CE) (L F:LF) (a:Act):Prop :=
 ∀ x od,coO vars cur C x=some od→∀ v,ev L F od=some v→VR ρ E v (a.eval x)
theorem bind_some {α β:Type} {x:Option α} {f:α→Option β} {y:β} (h:(x >>= f)=some y):∃ z,x=some z∧f z=some y:=by
 cases x with
 | none=>cases h
 | some z=>exact ⟨z,rfl,h⟩
section
variable {ρ : Nat → Int} {bd : Bd} (hbd : BdOk ρ bd) {E : Env} {P : Program} {vars : List Nat} {cur : Nat} {C : CE} {L F : LF} {a : Act} (hO : OKs ρ E vars cur C L F a)
include hO
theorem coL_ok {xs:List Operand} {ods:List Od} (h:coL vars cur C xs=some ods) {vs:List AV} (hv:evs L F ods=some vs):VRs ρ E vs (xs.map a.eval):=by
 induction xs generalizing ods vs with
 | nil=>cases h; cases hv; exact .nil
 | cons x xs ih =>
  simp only[coL] at h
  split at h
  ·rename_i o ho
   split at h
   ·rename_i os hos
    cases h
    obtain ⟨v,h1,h2⟩:=ob_eq (by simpa using hv)
    obtain ⟨ws,h3,h4⟩:=ob_eq h2
    cases h4
    exact .cons (hO _ _ ho _ h1) (ih hos h3)
   ·cases h
  ·cases h
inductive PR (ρ:Nat→Int) (E:Env) (a:Act):List (Option (Nat×Nat)×Operand)→List (Nat×Nat×AV)→Prop
 | nil:PR ρ E a [] []
 | cons {i n x v l m}:VR ρ E v (a.eval x)→PR ρ E a l m→PR ρ E a ((some (i,n+1),x)::l) ((i,n+1,v)::m)
theorem coP_ok {xs:List (Option (Nat×Nat)×Operand)} {ods:List (Nat×Nat×Od)} (h:coP vars cur C xs=some ods) {vs:List (Nat×Nat×AV)} (hv:evp L F ods=some vs):PR ρ E a xs vs:=by
 induction xs generalizing ods vs with
 | nil=>cases h; cases hv; exact .nil
 | cons x xs ih =>
  obtain ⟨p,x⟩:=x
  cases p with
  | none=>cases h
  | some p =>
   obtain ⟨i,n⟩:=p
   cases n with
   | zero=>simp[coP] at h
   | succ n =>
   simp only[coP] at h
   split at h
   ·rename_i o ho
    split at h
    ·rename_i os hos
     cases h
     obtain ⟨v,h1,h2⟩:=ob_eq (by simpa using hv)
     obtain ⟨ws,h3,h4⟩:=ob_eq h2
     cases h4
     exact .cons (hO _ _ ho _ h1) (ih hos h3)
    ·cases h
   ·cases h
theorem coF_ok {x:Option Operand} {od:Option Od} (h:coF vars cur C x=some od) {v:Option AV} (hv:evo L F od=some v):(v=none∧x=none)∨∃ u y,v=some u∧x=some y∧VR ρ E u (a.eval y):=by
 cases x with
 | none=>cases h; cases hv; exact .inl ⟨rfl,rfl⟩
 | some y =>
  simp only[coF] at h
  split at h
  ·rename_i o ho
   cases h
   obtain ⟨u,h1,h2⟩:=ob_eq (show ob (ev L F o) (fun v=>some (some v))=some v from hv)
   cases h2
   exact .inr ⟨u,y,rfl,rfl,hO _ _ ho _ h1⟩
  ·cases h
end
section
variable {ρ : Nat → Int} {E : Env} {P : Program}
theorem onNat_some {α:Type} {v:AV} {k:Nat→Option α} {r:α} (h:v.onNat k none=some r):∃ kd n,v = .int kd (.c (Int.ofNat n))∧k n=some r:=by
 cases v <;> simp only[AV.onNat,AV.onInt,reduceCtorEq] at h
 rename_i kd n
 cases n with
 | c m =>
  cases m with
  | ofNat n=>exact ⟨kd,n,rfl,h⟩
  | negSucc n=>simp[AI.onC] at h
 | s i d=>simp[AI.onC] at h
theorem VR.nat_inv {kd:IntKind} {n:Nat} {x:Value} (h:VR ρ E (.int kd (.c (Int.ofNat n))) x):x = .int kd (n:Int):=by
 cases h with | int hi=>simp only[IR] at hi; subst hi; rfl
theorem onPtr_some {α:Type} {v:AV} {k:Nat→Nat→Option α} {r:α} (h:v.onPtr k none=some r):∃ b o,v = .ptr b o∧k b o=some r:=by
 cases v <;> simp only[AV.onPtr,reduceCtorEq] at h
 exact ⟨_,_,rfl,h⟩
theorem onAgg_some {α:Type} {v:AV} {k:List AV→Option α} {r:α} (h:v.onAgg k none=some r):∃ l,v = .agg l∧k l=some r:=by
 cases v <;> simp only[AV.onAgg,reduceCtorEq] at h
 exact ⟨_,rfl,h⟩
theorem onTup_some {α:Type} {v:AV} {k:List AV→Option α} {r:α} (h:v.onTup k none=some r):∃ l,v = .tup l∧k l=some r:=by
 cases v <;> simp only[AV.onTup,reduceCtorEq] at h
 exact ⟨_,rfl,h⟩
theorem onStr_some {α:Type} {v:AV} {k:List AI→Option α} {r:α} (h:v.onStr k none=some r):∃ l,v = .str l∧k l=some r:=by
 cases v <;> simp only[AV.onStr,reduceCtorEq] at h
 exact ⟨_,rfl,h⟩
theorem onSl_some {α:Type} {v:AV} {k:Nat→Nat→Nat→Nat→Bool→Nat→Option α} {r:α} (h:v.onSl k none=some r):∃ b o l c e n,v = .sl b o l c e n∧k b o l c e n=some r:=by
 cases v <;> simp only[AV.onSl,reduceCtorEq] at h
 exact ⟨_,_,_,_,_,_,rfl,h⟩
theorem onInt_some {α:Type} {v:AV} {k:IntKind→AI→Option α} {r:α} (h:v.onInt k none=some r):∃ kd n,v = .int kd n∧k kd n=some r:=by
 cases v <;> simp only[AV.onInt,reduceCtorEq] at h
 exact ⟨_,_,rfl,h⟩
theorem onBool_some {α:Type} {v:AV} {k:Bool→Option α} {r:α} (h:v.onBool k none=some r):∃ b,v = .bool b∧k b=some r:=by
 cases v <;> simp only[AV.onBool,reduceCtorEq] at h
 exact ⟨_,rfl,h⟩
theorem cnd_some {α:Type} {b:Bool} {x:Option α} {r:α} (h:cnd b x none=some r):b=true∧x=some r:=by
 cases b with
 | true=>exact ⟨rfl,h⟩
 | false=>cases h
theorem foldl_lay (l:List Value):∀ (off k:Nat) (zs:Array Value),(l.zipIdx k).foldl (fun cs (c,j)=>cs.setIfInBounds (off+j) c) zs=lay zs (off+k) l:=by
 induction l with
 | nil=>intro off k zs; rfl
 | cons v l ih =>
  intro off k zs
  simp only[List.zipIdx_cons,List.foldl_cons,lay]
  rw[ih,Nat.add_assoc]
theorem fill_ok {a:Act} {place:Nat→Option (Nat×Nat)} {ps:List (Nat×Operand)} {vs:List (Nat×Nat×AV)} (hp:PR ρ E a (ps.map fun (i,x)=>(place i,x)) vs) :
  ∀ {z cs:List AV} {zs:Array Value},VRs ρ E z zs.toList→(∀ c∈z,c.scalar=true)→fill z vs=some cs→∃ ys:Array Value,Instr.fill place zs (ps.map fun (i,x)=>(i,a.eval x))=some ys∧VRs ρ E cs ys.toList∧(∀ c∈cs,c.scalar=true)∧ys.size=zs.size:=by
 induction ps generalizing vs with
 | nil =>
  intro z cs zs hz hs h
  cases hp
  cases h
  exact ⟨zs,rfl,hz,hs,rfl⟩
 | cons p ps ih =>
  obtain ⟨i,x⟩:=p
  intro z cs zs hz hs h
  simp only[List.map_cons] at hp
  generalize hpl:place i=pl at hp
  cases hp with
  | cons hx hr =>
   rename_i off n0 v m
   obtain ⟨n,hn1,hn0⟩ : ∃ n,n=n0+1∧0<n:=⟨n0+1,rfl,by omega⟩
   rw[←hn1] at hpl h
   simp only[fill] at h
   obtain ⟨cv,h0,h⟩:=ob_eq h
   obtain ⟨h1,h2⟩:=cnd_some h
   obtain ⟨c,h3,h4⟩:=ob_eq h2
   obtain ⟨hvc,hsc⟩:=hx.cells h0
   have hn:(a.eval x).cells.size=n:=by
    have:=hvc.length
    simp at h1
    simp at this; omega
   obtain ⟨e1,e2,e3⟩:=setL_some h3
   have hzl:=hz.length
   have hvl:=hvc.length
   simp at hzl hvl
   have hfold:(a.eval x).cells.zipIdx.foldl (fun cs (c,j)=>cs.setIfInBounds (off+j) c) zs=lay zs off (a.eval x).cells.toList:=by
    rw[←Array.foldl_toList,Array.toList_zipIdx]
    have:=foldl_lay (a.eval x).cells.toList off 0 zs
    simpa using this
   have hlen:(a.eval x).cells.toList.length=n:=by simpa using hn
   have hin:off+n≤zs.size:=by
    have:cv.length=n:=by omega
    rcases e2 with e2 | e2
    ·subst e2; simp at this; omega
    ·omega
   obtain ⟨ys,g1,g2,g3,g4⟩:=ih hr (z:=c) (zs:=lay zs off (a.eval x).cells.toList) (VRs.of_get (by simp[lay_size]; omega) fun j w hw=>by
     rw[e3 j] at hw
     have hl:=lay_get (a.eval x).cells.toList zs off (by omega) j
     simp only[Array.getElem?_toList]
     rw[hl]
     have hcl:cv.length=(a.eval x).cells.toList.length:=hvc.length.symm
     rw[hcl] at hw
     split at hw
     ·rename_i hh
      rw[if_pos hh]
      exact hvc.get _ _ hw
     ·rename_i hh
      rw[if_neg hh]
      obtain ⟨y,hy,hyv⟩:=hz.get _ _ hw
      exact ⟨y,by simpa using hy,hyv⟩) (fun w hw=>by
     obtain ⟨j,hj⟩:=List.mem_iff_getElem?.1 hw
     rw[e3 j] at hj
     split at hj
     ·exact hsc w (List.mem_of_getElem? hj)
     ·exact hs w (List.mem_of_getElem? hj)) h4
   refine ⟨ys,?_,g2,g3,by rw[g4,lay_size]⟩
   simp only[List.map_cons,Instr.fill,hpl]
   rw[if_neg (by simp[hn]; omega),hfold]
   exact g1
end
end Go.Vm
