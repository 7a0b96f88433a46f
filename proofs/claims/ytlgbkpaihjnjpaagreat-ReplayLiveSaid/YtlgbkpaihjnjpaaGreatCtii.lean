/- What functions of the program compute, one by one (9). -/
import Derived.Test.YtlgbkpaihjnjpaaGreatCthh
import Derived.Shelf.SlSortCmp.WholeK
import Derived.Shelf.SlicesG.Cmp
import Derived.WalkKit
import Derived.ProofKit
set_option linter.unusedVariables false
set_option linter.unusedSimpArgs false
set_option linter.unusedSectionVars false
set_option linter.constructorNameAsVariable false
set_option linter.defProp false
namespace Go.Vm
open Go.RowKit Go.Ranges Go.Proofs Go.Sort
theorem Step.ahead {ρ:Nat→Int} {E E':Env} {s s':M} {w w':World} (h:Step ρ E s w E' s' w') (n:Nat):Step ρ E s w E' s' (Go.Sort.ahead w' n) :=
 ⟨h.le,⟨h.hr.cells,h.hr.maps,h.hr.apart,h.hr.mapart,h.hr.dom⟩,h.frame,h.own,h.os,h.tape,h.output,h.size,h.next,h.old,h.dead,h.ro⟩
theorem grow_get {w:World} {os:Array Obj} {B:Nat} {o:Obj} (h:w.heap[B]?=some o):(Go.Sort.grow w os).heap[B]?=some o:=by
 show (w.heap++os)[B]?=_
 rw[Array.getElem?_append_left (lt_of_get h)]; exact h
theorem Step.grown {ρ:Nat→Int} {E E':Env} {s s':M} {w w':World} (h:Step ρ E s w E' s' w') (os:Array Obj):Step ρ E s w E' s' (Go.Sort.grow w' os):=by
 refine ⟨h.le,⟨fun b c k hb=>?_,fun b es hb=>?_,h.hr.apart,h.hr.mapart,h.hr.dom⟩,fun B hB hO=>?_,h.own,h.os,h.tape,h.output,?_,h.next,h.old,h.dead,h.ro⟩
 ·obtain ⟨B,δ,z,cs,t,fz,q1,q2,q3⟩:=h.hr.cells b c k hb
  exact ⟨B,δ,z,cs,t,fz,q1,grow_get q2,q3⟩
 ·obtain ⟨R,en,cl,q1,q2,q3⟩:=h.hr.maps b es hb
  exact ⟨R,en,cl,q1,grow_get q2,q3⟩
 ·rw[←h.frame B hB hO]
  show (w'.heap++os)[B]?=_
  rw[Array.getElem?_append_left (Nat.lt_of_lt_of_le hB h.size)]
 ·show w.heap.size≤(w'.heap++os).size
  rw[Array.size_append]; exact Nat.le_trans h.size (Nat.le_add_right _ _)
def encV (x:R):List Value:=[.int .i64 x.1,.int .i64 x.2]
def encP (x:R):List AV:=[num x.1,num x.2]
noncomputable def pairs:List AV→Option (List R)
 | []=>some []
 | .int .i64 (.c a) :: .int .i64 (.c b)::r=>(pairs r).map fun l=>(a,b)::l
 | _=>none
theorem pairs_of:∀ (l:List R),pairs (l.flatMap encP)=some l:=by
 intro l
 induction l with
 | nil=>rfl
 | cons x l ih =>
  show (pairs (l.flatMap encP)).map _=_
  rw[ih]; rfl
theorem pairs_inv:∀ {c:List AV} {l:List R},pairs c=some l→c=l.flatMap encP:=by
 intro c
 induction c using pairs.induct with
 | case1=>intro l h; cases h; rfl
 | case2 a b r ih =>
  intro l h
  simp only[pairs,Option.map_eq_some_iff] at h
  obtain ⟨m,h1,rfl⟩:=h
  rw[ih h1]; rfl
 | case3 c h1 h2 =>
  intro l h
  unfold pairs at h
  split at h
  ·exact absurd rfl h1
  ·rename_i a b r; exact absurd rfl (h2 a b r)
  ·cases h
theorem vr_num {ρ:Nat→Int} {E:Env} {n:Int} {x:Value} (h:VR ρ E (num n) x):x = .int .i64 n:=by
 cases h with | int hx=>exact congrArg _ hx
open Classical in
noncomputable def sortAct (g:Nat) (args:List AV) (s:St):Out:=match args with
 | [.sl b 0 len lo ex 2,.fn g' [] []]=>if g'=g then (match s.heap.get b with
   | some (.cells c k)=>(match pairs (c.take (len*2)) with
    | some l=>if l.length=len∧len<4611686018427387904∧(l.map Prod.fst).Nodup then (match wr s b 0 ((sortR l).flatMap encP) with
      | some s' => .v (.tup []) s'
      | none => .bad 120 []) else .bad 121 []
    | none => .bad 122 [])
   | _ => .bad 123 []) else .bad 124 []
 | _ => .bad 125 []
theorem sortAct_eq {g b len lo:Nat} {ex:Bool} {s s':St} {c:List AV} {k:BK} {l:List R} (h1:s.heap.get b=some (.cells c k)) (h2:pairs (c.take (len*2))=some l) (h3:l.length=len∧len<4611686018427387904∧(l.map Prod.fst).Nodup) (h4:wr s b 0 ((sortR l).flatMap encP)=some s') :
  sortAct g [.sl b 0 len lo ex 2,.fn g [] []] s = .v (.tup []) s':=by
 simp only[sortAct,h1,h2,if_pos h3,h4,if_true]
theorem sortR_unique {l m:List R} (h:m.Perm l) (hn:(l.map Prod.fst).Nodup) (hs:m.Pairwise (fun x y=>x.1≤y.1)):m=sortR l:=by
 have hp:m.Perm (sortR l):=h.trans (sortR_perm l).symm
 have hn':((sortR l).map Prod.fst).Nodup:=(((sortR_perm l).map Prod.fst).nodup_iff).2 hn
 refine eq_of_perm hp hs ?_
 have h1:=sortR_le l
 rw[List.Nodup,List.pairwise_map] at hn'
 exact (h1.and hn').imp fun ⟨a,b⟩=>by omega
theorem ltOf_first (x y:R):ltOf (fun x y:R=>Lib.compareInt x.1 y.1) x y=decide (x.1<y.1):=by
 unfold ltOf Lib.compareInt
 by_cases h1:x.1<y.1
 ·simp[h1]
 ·by_cases h2:y.1<x.1 <;> simp[h1,h2]
theorem swo_first:SWO (ltOf fun x y:R=>Lib.compareInt x.1 y.1) where
 irrefl x:=by rw[ltOf_first]; simp
 trans x y z h1 h2:=by rw[ltOf_first] at *; simp at *; omega
 ntrans x y z h1 h2:=by rw[ltOf_first] at *; simp at *; omega
theorem sort_entry {P:Program} {r:Go.Shelf.Ren} (L:SlLaysF0.n6 P r) (aE:∀ w,(isAgg (r.t 24)).run P w = .ok true w) (zE:∀ w,(Go.sizeOf (r.t 24)).run P w = .ok 2 w) {g:Nat} (eg:∀ args w,(callFunc g args).run P w = .ok (.enter g args) w) (es:∀ args w,(callFunc (r.f 6) args).run P w = .ok (.enter (r.f 6) args) w)
  (hcmp:∀ (x y:R) (W:World),Calls P g #[.agg #[.int .i64 x.1,.int .i64 x.2],.agg #[.int .i64 y.1,.int .i64 y.2]] W fun e w'=>e = .returned (.int .i64 (Lib.compareInt x.1 y.1))∧∃ q os',w'=grow (W.drewN q) os') (ρ:Nat→Int):EntryOk ρ P (r.f 6) (.act (sortAct g)):=by
 intro E vs vals s w hH hv
 unfold sortAct
 split
 case h_2=>trivial
 rename_i b len lo ex g'
 split
 case isFalse=>trivial
 rename_i hg'
 subst hg'
 split
 case h_2=>trivial
 rename_i c k hget
 split
 case h_2=>trivial
 rename_i l hl
 split
 case isFalse=>trivial
 rename_i hcond
 obtain ⟨hlen,hsz,hnd⟩:=hcond
 split
 case h_2=>trivial
 rename_i s' hwr
 cases hv with | cons hv1 hv2 =>
 cases hv2 with | cons hv2 hv3 =>
 cases hv3
 cases hv2 with | fn hf1 hf2 =>
 cases hf1; cases hf2
 generalize hsl:(AV.sl b 0 len lo ex 2)=sv at hv1
 cases hv1 <;> cases hsl
 rename_i B δ z cap hB q1 q2 q3 q4
 have hgm:s.m.g b=some (.cells c k):=hget
 obtain ⟨B',δ',z',cs,t,fz,e1,e2,e3,e4,e5,e6⟩:=hH.cells b c k hgm
 rw[hB] at e1
 obtain ⟨rfl,rfl,rfl⟩ : B=B'∧δ=δ'∧z=z':=by simpa using e1
 have hwr':wrC s b k (setL c 0 ((sortR l).flatMap encP))=some s':=by
  unfold wr at hwr
  rw[hget] at hwr
  exact hwr
 obtain ⟨c',hc',hk,_⟩:=wrC_inv hwr'
 rw[hc'] at hwr'
 have hci:=pairs_inv hl
 have hfl:∀ m:List R,(m.flatMap encP).length=m.length*2:=fun m=>flat_len (sz:=2) (fun _=>rfl) m
 have hcl:len*2≤c.length:=by
  have:=congrArg List.length hci
  rw[List.length_take,hfl,hlen] at this
  omega
 have hslen:(sortR l).length=len:=by rw[←hlen]; exact (sortR_perm l).length_eq
 rw[setL_of (by rw[hfl,hslen]; omega)] at hc'
 have hc':=Option.some.inj hc'
 simp only[List.take_zero,List.nil_append,Nat.zero_add] at hc'
 have hat:∀ (m:List R) (i:Nat),i<m.length*2→(m.flatMap encP)[i]?=some (if i%2=0 then num (m.getD (i / 2) (0,0)).1 else num (m.getD (i / 2) (0,0)).2):=by
  intro m
  induction m with
  | nil=>intro i hi; simp at hi
  | cons x m ih =>
   intro i hi
   match i with
   | 0=>rfl
   | 1=>rfl
   | i+2 =>
    have:=ih i (by simp at hi; omega)
    show (m.flatMap encP)[i]?=_
    rw[this,show (i+2)%2=i%2 by omega,show (i+2) / 2=i / 2+1 by omega]
    simp
 have hvat:∀ (d:Array R) (i:Nat),i<d.size*2→(Go.Sort.flatK encV 2 d)[i]! = (if i%2=0 then Value.int .i64 (d.toList.getD (i / 2) (0,0)).1 else Value.int .i64 (d.toList.getD (i / 2) (0,0)).2):=by
  intro d i hi
  rw[Go.Sort.get_flatK _ _ _ _ hi]
  have hd:d[i / 2]! = d.toList.getD (i / 2) (0,0):=by
   rw[getElem!_pos d (i / 2) (by omega),List.getD,List.getElem?_eq_getElem (by simp; omega)]
   simp
  rw[hd]
  rcases (show i%2=0∨i%2=1 by omega) with h | h <;> rw[h] <;> rfl
 have hHolds:HoldsK encV 2 w B (0+δ) l.toArray:=by
  intro j hj
  rw[Go.Sort.size_flatK] at hj
  have hj':j<l.length*2:=by simpa using hj
  have hcj:c[j]?=some (if j%2=0 then num (l.getD (j / 2) (0,0)).1 else num (l.getD (j / 2) (0,0)).2):=by
   have h1:=hat l j hj'
   rw[←hci,List.getElem?_take] at h1
   split at h1
   ·exact h1
   ·cases h1
  obtain ⟨x,x1,x2,_⟩:=e6 j _ hcj
  constructor
  ·rw[cell_of e2,show 0+δ+j=j+δ by omega,x1,hvat _ _ hj]
   congr 1
   by_cases hp:j%2=0
   ·rw[if_pos hp] at x2 ⊢; exact vr_num x2
   ·rw[if_neg hp] at x2 ⊢; exact vr_num x2
  ·unfold World.frozen?
   rw[e2]
   obtain ⟨f1,f2⟩:=fz
   have:=e4.resolve_left hk
   simp only[Bool.and_eq_false_iff,decide_eq_false_iff_not]
   simp only at this
   have hjc:j<c.length:=by omega
   omega
 have hblk:B<w.heap.size:=lt_of_get e2
 have hcon:=AnyQ.slices_SortFunc (P:=P) (ρ:=r) L 2 aE zE encV (fun _=>rfl) (fun x v hv=>by simp[encV] at hv; rcases hv with rfl | rfl <;> rfl) (fun x y=>Lib.compareInt x.1 y.1) swo_first g' #[] B (0+δ) cap l.toArray w eg (fun m os dk _ x y=>hcmp x y _) hHolds hblk (by simpa [hlen] using hsz)
 have hss:l.toArray.size=len:=by simpa using hlen
 rw[hss] at hcon
 refine .inl ⟨es _ _,hcon.mono ?_⟩
 rintro e w' ⟨rfl,d',n,os,hperm,hsort,rfl⟩
 refine ⟨_,E,rfl,.tup .nil,?_⟩
 have hpl:d'.toList.Perm l:=by
  have h1:=hperm.2.2
  have h2:d'.size=len:=by rw[hperm.1]; simpa using hlen
  rw[Array.extract_eq_self_of_le (by omega),Array.extract_eq_self_of_le (by simp; omega)] at h1
  simpa using h1
 have hds:d'.size=len:=by rw[hperm.1]; simpa using hlen
 have hdl:d'.toList=sortR l:=by
  refine sortR_unique hpl hnd ?_
  rw[List.pairwise_iff_getElem]
  intro i j hi hj hij
  have:=hsort i j (Nat.zero_le _) hij (by simp at hj; omega)
  rw[ltOf_first] at this
  simp only[decide_eq_false_iff_not] at this
  rw[getElem!_pos d' j (by simpa using hj),getElem!_pos d' i (by simpa using hi)] at this
  simp only[Array.getElem_toList]
  omega
 have hstep:Step ρ E s.m w E s'.m (wB w B (.cells (putCells id (0+δ) (Go.Sort.flatK encV 2 d') cs) t fz)):=by
  refine upd_ok hH hgm hB e2 (by simp[putCells]) ?_ (fun i v hi=>?_) hwr'
  ·rw[←hc',List.length_append,hfl,hslen,List.length_drop]; omega
  ·rw[←hc'] at hi
   by_cases hil:i<len*2
   ·rw[List.getElem?_append_left (by rw[hfl,hslen]; exact hil),hat _ _ (by rw[hslen]; exact hil)] at hi
    cases hi
    refine ⟨(if i%2=0 then Value.int .i64 ((sortR l).getD (i / 2) (0,0)).1 else Value.int .i64 ((sortR l).getD (i / 2) (0,0)).2),?_,?_,?_⟩
    ·unfold putCells
     have hb:i+δ<cs.size:=by omega
     rw[Array.getElem?_mapIdx,Array.getElem?_eq_getElem hb]
     simp only[Option.map_some]
     rw[if_pos (by rw[Go.Sort.size_flatK,hds]; omega),show i+δ-(0+δ)=i by omega,hvat _ _ (by rw[hds]; exact hil),hdl]
     rfl
    ·split
     ·exact .int rfl
     ·exact .int rfl
    ·split <;> rfl
   ·rw[List.getElem?_append_right (by rw[hfl,hslen]; omega),List.getElem?_drop,hfl,hslen,show len*2+(i-len*2)=i by omega] at hi
    obtain ⟨x,x1,x2,x3⟩:=e6 i v hi
    refine ⟨x,?_,x2,x3⟩
    unfold putCells
    rw[Array.getElem?_mapIdx,x1]
    simp only[Option.map_some]
    rw[if_neg (by rw[Go.Sort.size_flatK,hds]; omega)]
 have hw:sortWorldK encV 2 w B (0+δ) n d' os=Go.Sort.grow (Go.Sort.ahead (wB w B (.cells (putCells id (0+δ) (Go.Sort.flatK encV 2 d') cs) t fz)) n) os:=by
  unfold sortWorldK putRowK putRow mapBlock
  congr 1
  unfold Go.Sort.ahead wB
  congr 1
  apply Array.ext_getElem?
  intro j
  rw[Array.getElem?_modify,Array.getElem?_setIfInBounds]
  by_cases hj:B=j
  ·subst hj
   rw[if_pos rfl,if_pos rfl,if_pos hblk,e2]; rfl
  ·rw[if_neg hj,if_neg hj]
 rw[hw]
 exact (hstep.ahead n).grown os
end Go.Vm
namespace Go.Proofs.YtlgbkpaihjnjpaaGreat.ctr
open Go.Vm Go.RowKit Go.Ranges Go.Proofs Go.Sort
def sortIv_ren:Go.Shelf.Ren:=⟨fun x=>match x with | 6=>149 | 15=>159 | 14=>158 | 28=>170 | 29=>171 | 20=>162 | 21=>163 | 22=>164 | 23=>165 | 24=>166 | 25=>167 | 26=>168 | 27=>169 | 46=>172 | 47=>173 | 48=>174 | 49=>175 | 50=>176 | 57=>177 | n=>n,fun x=>match x with | 22=>90 | 24=>93 | 25=>173 | 3=>3 | 39=>180 | 0=>0 | 53=>190 | 55=>192 | 4=>4 | 46=>184 | 45=>183 | 50=>79 | 5=>5 | 9=>9 | 66=>193 | 70=>197 | 76=>199 | 77=>169 | n=>n,fun x=>x⟩
theorem sortIv:SlLaysF0.n6 Tryz.prog sortIv_ren where
 mixed:=by kernel_rfl
 f6:=⟨"slices.SortFunc[[]haulier/ranges.Range,haulier/ranges.Range]",by kernel_rfl,Tryz.func149.trans (by kernel_rfl)⟩
 f14:=⟨"slices.pdqsortCmpFunc[haulier/ranges.Range]",by kernel_rfl,Tryz.func158.trans (by kernel_rfl)⟩
 f15:=Tryz.func159.trans (by kernel_rfl)
 f20:=⟨"slices.insertionSortCmpFunc[haulier/ranges.Range]",by kernel_rfl,Tryz.func162.trans (by kernel_rfl)⟩
 f21:=⟨"slices.heapSortCmpFunc[haulier/ranges.Range]",by kernel_rfl,Tryz.func163.trans (by kernel_rfl)⟩
 f22:=⟨"slices.breakPatternsCmpFunc[haulier/ranges.Range]",by kernel_rfl,Tryz.func164.trans (by kernel_rfl)⟩
 f23:=⟨"slices.choosePivotCmpFunc[haulier/ranges.Range]",by kernel_rfl,Tryz.func165.trans (by kernel_rfl)⟩
 f24:=⟨"slices.reverseRangeCmpFunc[haulier/ranges.Range]",by kernel_rfl,Tryz.func166.trans (by kernel_rfl)⟩
 f25:=⟨"slices.partialInsertionSortCmpFunc[haulier/ranges.Range]",by kernel_rfl,Tryz.func167.trans (by kernel_rfl)⟩
 f26:=⟨"slices.partitionEqualCmpFunc[haulier/ranges.Range]",by kernel_rfl,Tryz.func168.trans (by kernel_rfl)⟩
 f27:=⟨"slices.partitionCmpFunc[haulier/ranges.Range]",by kernel_rfl,Tryz.func169.trans (by kernel_rfl)⟩
 f28:=Tryz.func170.trans (by kernel_rfl)
 f29:=Tryz.func171.trans (by kernel_rfl)
 f46:=⟨"slices.siftDownCmpFunc[haulier/ranges.Range]",by kernel_rfl,Tryz.func172.trans (by kernel_rfl)⟩
 f47:=Tryz.func173.trans (by kernel_rfl)
 f48:=Tryz.func174.trans (by kernel_rfl)
 f49:=⟨"slices.medianAdjacentCmpFunc[haulier/ranges.Range]",by kernel_rfl,Tryz.func175.trans (by kernel_rfl)⟩
 f50:=⟨"slices.medianCmpFunc[haulier/ranges.Range]",by kernel_rfl,Tryz.func176.trans (by kernel_rfl)⟩
 f57:=⟨"slices.order2CmpFunc[haulier/ranges.Range]",by kernel_rfl,Tryz.func177.trans (by kernel_rfl)⟩
 t0:=Tryz.underlying0
 a0:=Tryz.isAgg0
 z0:=Tryz.sizeOf0
 v0:=Tryz.zeroValue0
 t3:=Tryz.underlying3
 a3:=Tryz.isAgg3
 z3:=Tryz.sizeOf3
 v3:=Tryz.zeroValue3
 t4:=Tryz.underlying4
 a4:=Tryz.isAgg4
 z4:=Tryz.sizeOf4
 v4:=Tryz.zeroValue4
 t5:=Tryz.underlying5
 a5:=Tryz.isAgg5
 z5:=Tryz.sizeOf5
 v5:=Tryz.zeroValue5
 t9:=Tryz.underlying9
 a9:=Tryz.isAgg9
 z9:=Tryz.sizeOf9
 v9:=Tryz.zeroValue9
 t22:=Tryz.underlying90
 a22:=Tryz.isAgg90
 z22:=Tryz.sizeOf90
 v22:=Tryz.zeroValue90
 t25:=Tryz.underlying173
 a25:=Tryz.isAgg173
 z25:=Tryz.sizeOf173
 v25:=Tryz.zeroValue173
 t39:=Tryz.underlying180
 a39:=Tryz.isAgg180
 z39:=Tryz.sizeOf180
 v39:=Tryz.zeroValue180
 t45:=Tryz.underlying183
 a45:=Tryz.isAgg183
 z45:=Tryz.sizeOf183
 v45:=Tryz.zeroValue183
 t46:=Tryz.underlying184
 a46:=Tryz.isAgg184
 z46:=Tryz.sizeOf184
 v46:=Tryz.zeroValue184
 t50:=Tryz.underlying79
 a50:=Tryz.isAgg79
 z50:=Tryz.sizeOf79
 v50:=Tryz.zeroValue79
 t53:=Tryz.underlying190
 a53:=Tryz.isAgg190
 z53:=Tryz.sizeOf190
 v53:=Tryz.zeroValue190
 t55:=Tryz.underlying192
 a55:=Tryz.isAgg192
 z55:=Tryz.sizeOf192
 v55:=Tryz.zeroValue192
 t66:=Tryz.underlying193
 a66:=Tryz.isAgg193
 z66:=Tryz.sizeOf193
 v66:=Tryz.zeroValue193
 t70:=Tryz.underlying197
 a70:=Tryz.isAgg197
 z70:=Tryz.sizeOf197
 v70:=Tryz.zeroValue197
 t76:=Tryz.underlying199
 a76:=Tryz.isAgg199
 z76:=Tryz.sizeOf199
 v76:=Tryz.zeroValue199
 t77:=Tryz.underlying169
 a77:=Tryz.isAgg169
 z77:=Tryz.sizeOf169
 v77:=Tryz.zeroValue169
def cmpInt_ren:Go.Shelf.Ren:=⟨fun x=>match x with | 5=>151 | 7=>160 | n=>n,fun x=>match x with | 22=>3 | 3=>3 | 4=>4 | n=>n,fun x=>x⟩
theorem cmpInt:SlLaysC2.n5 Tryz.prog cmpInt_ren where
 mixed:=by kernel_rfl
 f5:=⟨"cmp.Compare[int]",by kernel_rfl,Tryz.func151.trans (by kernel_rfl)⟩
 f7:=⟨"cmp.isNaN[int]",by kernel_rfl,Tryz.func160.trans (by kernel_rfl)⟩
 t3:=Tryz.underlying3
 a3:=Tryz.isAgg3
 z3:=Tryz.sizeOf3
 v3:=Tryz.zeroValue3
 t4:=Tryz.underlying4
 a4:=Tryz.isAgg4
 z4:=Tryz.sizeOf4
 v4:=Tryz.zeroValue4
 t22:=Tryz.underlying3
 a22:=Tryz.isAgg3
 z22:=Tryz.sizeOf3
 v22:=Tryz.zeroValue3
set_option maxHeartbeats 1000000 in
theorem closure_cmp (x y:R) (W:World):Calls Tryz.prog 150 #[.agg #[.int .i64 x.1,.int .i64 x.2],.agg #[.int .i64 y.1,.int .i64 y.2]] W fun e w'=>e = .returned (.int .i64 (Lib.compareInt x.1 y.1))∧∃ q os',w'=grow (W.drewN q) os':=by
 have hcon:=fun W'=>AnyG.cmp_Compare_int cmpInt x.1 y.1 W'
 change ∀ W',Calls Tryz.prog 151 _ _ _ at hcon
 generalize Lib.compareInt x.1 y.1=r at hcon ⊢
 go_enter Tryz.func150,Tryz.ntmps150
 go_wp2_with (go_at_call 151; refine (hcon _).mono ?_; rintro e w' ⟨rfl,rfl⟩)
 go_ret
 exact ⟨rfl,0,_,by rw[alloc_eq_grow,alloc_eq_grow,grow_grow]; rfl⟩
theorem sort_ok (ρ:Nat→Int):EntryOk ρ Tryz.prog 149 (.act (sortAct 150)) :=
 sort_entry sortIv Tryz.isAgg93 Tryz.sizeOf93 (enter_ok Tryz.func150 rfl rfl) (enter_ok Tryz.func149 rfl rfl) closure_cmp ρ
end Go.Proofs.YtlgbkpaihjnjpaaGreat.ctr
namespace Go.Proofs.YtlgbkpaihjnjpaaGreat.ctr
open Go.Vm Go.RowKit Go.Ranges
noncomputable def srt:VF := .act (sortAct 150)
theorem srt_ok:SortOk srt:=by
 intro bd fu n s v l fp hO hne hlt hnd
 have e:callF bd (tab srt).get fu (n+1) 149 [v,.fn 150 [] []] s=sortAct 150 [v,.fn 150 [] []] s:=rfl
 rw[e]
 rcases hO.ow with ⟨_,h0,_⟩ | ⟨b,len,lo,ex,k,J,rfl,h2,h3,h4,h5⟩
 ·have:=flat_len hO.wid l
  rw[h0] at this
  have:l.length=0:=by simp at this; omega
  exact absurd (List.eq_nil_of_length_eq_zero this) hne
 ·have hlen:len=l.length:=hO.len
  have hfl:∀ m:List R,(m.flatMap encP).length=m.length*2:=fun m=>flat_len (sz:=2) (fun _=>rfl) m
  have hee:∀ m:List R,m.flatMap encR=m.flatMap encP:=fun m=>rfl
  rw[hee] at h3 h4
  have htk:(l.flatMap encP++J).take (len*2)=l.flatMap encP:=List.take_left' h3
  have hsl:(sortR l).length=l.length:=(sortR_perm l).length_eq
  obtain ⟨s',w1,w2,w3,w4⟩:=wr_in (i:=0) h4 h5 (ys:=(sortR l).flatMap encP) (by rw[List.length_append,h3,hfl,hsl,hlen]; omega)
  rw[sortAct_eq h4 (by rw[htk,pairs_of]) ⟨hlen.symm,by omega,hnd⟩ w1]
  rw[List.take_zero,List.nil_append,Nat.zero_add,hfl,hsl,←hlen,List.drop_left' h3] at w3
  have hbf:b∈fp:=by rcases h5 with ⟨_,rfl⟩ | ⟨m,_,_,rfl⟩ <;> simp
  refine ⟨[b],⟨.inr ⟨b,len,lo,ex,.own,J,rfl,h2,?_,w3,.inl ⟨rfl,rfl⟩⟩,encR_w,by omega,fun z hz=>?_⟩,w4,fun z hz=>?_⟩
  ·rw[hee,hfl,hsl,hlen]
  ·simp at hz; subst hz; rw[w2]; exact hO.lt z hbf
  ·simp at hz; subst hz; exact hbf
theorem tabS_all (r:Nat→Int):TrAll (tab srt) (EntryOk r Tryz.prog):=tab_all r srt (sort_ok r)
end Go.Proofs.YtlgbkpaihjnjpaaGreat.ctr
