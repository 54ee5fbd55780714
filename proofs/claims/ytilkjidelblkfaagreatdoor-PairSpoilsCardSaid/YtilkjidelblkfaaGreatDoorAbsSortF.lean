/- slices.SortFunc over elements of our own, of five cells, by the first one, a number: what the kit's contract says of it, told of nodes. -/
import Derived.Test.YtilkjidelblkfaaGreatDoorAbsSort
import Derived.Shelf.SlSortCmp.WholeK
namespace Go.Abs
open Go.Sort Go.Proofs Go.RowKit
noncomputable section
set_option linter.unusedSectionVars false
set_option linter.unusedVariables false
set_option linter.unusedSimpArgs false
variable {P:Program}
def tagOf:GV->Int
 | .g [.i .u64 t,_,_,_,_]=>t
 | _=>0
def isTagged:GV->Bool
 | .g [.i .u64 _,_,_,_,_]=>true
 | _=>false
def tAt (xs:List GV) (i:Nat):Int:=tagOf (xs.getD i (.b false))
def cmpI (a b:Int):Int:=if a < b then -1 else if b < a then 1 else 0
def cfT (xs:List GV) (i j:Nat):Int:=cmpI (tAt xs i) (tAt xs j)
def idxSortT (xs:List GV):Array Nat:=pdq (ltOf (cfT xs)) (Array.range xs.length) 0 (Array.range xs.length).size (Lib.bitLen (Array.range xs.length).size) true true
def sortTG (xs:List GV):List GV:=(idxSortT xs).toList.map λi=>xs.getD i (.b false)
def sortFP:List GV->Option (List GV)
 | [.l xs]=>if xs.length<=281474976710656/\xs.all isTagged=true then some [.l (sortTG xs)] else none
 | _=>none
theorem ltOf_T (xs:List GV) (i j:Nat):ltOf (cfT xs) i j=decide (tAt xs i < tAt xs j):=by
 unfold ltOf cfT cmpI
 rw [Bool.eq_iff_iff]
 simp only [decide_eq_true_eq]
 split
 ·omega
 ·split<;>omega
theorem swo_tag (xs:List GV):SWO (ltOf (cfT xs)) where
 irrefl x:=by rw [ltOf_T];simp
 trans x y z h1 h2:=by rw [ltOf_T] at *;simp only [decide_eq_true_eq] at *;omega
 ntrans x y z h1 h2:=by rw [ltOf_T] at *;simp only [decide_eq_false_iff_not] at *;omega
theorem idxSortT_perm (xs:List GV):(idxSortT xs).size=xs.length/\(idxSortT xs).toList.Perm (List.range xs.length):=by
 obtain ⟨h1,_,h3⟩:=(pdq_sorts (ltOf (cfT xs)) (swo_tag xs) (Array.range xs.length) 0 (Array.range xs.length).size (Lib.bitLen (Array.range xs.length).size) true true (Nat.zero_le _) (Nat.le_refl _) (Or.inl rfl)).1
 have h1':(idxSortT xs).size=xs.length:=by unfold idxSortT;rw [h1];simp
 refine ⟨h1', ?_⟩
 have e1:(idxSortT xs).extract 0 (Array.range xs.length).size=idxSortT xs:=by
  have:=Array.extract_size (xs:=idxSortT xs)
  rw [h1'] at this
  simpa using this
 have e2:(Array.range xs.length).extract 0 (Array.range xs.length).size=Array.range xs.length:=Array.extract_size
 have h3':((idxSortT xs).extract 0 (Array.range xs.length).size).toList.Perm ((Array.range xs.length).extract 0 (Array.range xs.length).size).toList:=h3
 rw [e1,e2] at h3'
 simpa using h3'
theorem sortTG_perm (xs:List GV):(sortTG xs).Perm xs:=by
 have:=(idxSortT_perm xs).2.map (λi=>xs.getD i (.b false))
 rwa [map_getD_range] at this
theorem sortTG_length (xs:List GV):(sortTG xs).length=xs.length:=(sortTG_perm xs).length_eq
theorem sortTG_sorted (xs:List GV):∀i j:Nat,∀a b,i < j->(sortTG xs)[i]? = some a->(sortTG xs)[j]? = some b->tagOf a<=tagOf b:=by
 intro i j a b hij ha hb
 unfold sortTG at ha hb
 have hs:=(pdq_sorts (ltOf (cfT xs)) (swo_tag xs) (Array.range xs.length) 0 (Array.range xs.length).size (Lib.bitLen (Array.range xs.length).size) true true (Nat.zero_le _) (Nat.le_refl _) (Or.inl rfl)).2
 have hsz:=(idxSortT_perm xs).1
 rw [List.getElem?_map] at ha hb
 obtain ⟨x,hx,rfl⟩:=Option.map_eq_some_iff.1 ha
 obtain ⟨y,hy,rfl⟩:=Option.map_eq_some_iff.1 hb
 have hjl:j < (idxSortT xs).size:=by have:=(List.getElem?_eq_some_iff.1 hy).1;simpa using this
 have h:=hs i j (Nat.zero_le _) hij (by simpa [hsz] using hjl)
 have ex:(idxSortT xs)[i]! = x:=by
  have:=(List.getElem?_eq_some_iff.1 hx)
  rw [getElem!_pos _ i (by omega)];simpa using this.2
 have ey:(idxSortT xs)[j]! = y:=by
  have:=(List.getElem?_eq_some_iff.1 hy)
  rw [getElem!_pos _ j hjl];simpa using this.2
 have h':ltOf (cfT xs) (idxSortT xs)[j]! (idxSortT xs)[i]! = false:=h
 rw [ex,ey,ltOf_T,decide_eq_false_iff_not] at h'
 unfold tAt at h'
 omega
structure SortFFacts (P:Program) (fS g:Nat):Prop where
 big:∀ (enc:Nat->List Value) (cf:Nat->Nat->Int) (blk off c:Nat) (d:Array Nat) (w:World),(∀x,(enc x).length=5)->(∀x,∀v∈enc x,v.oneCell'=true)->SWO (ltOf cf)->CmpLays P g #[] enc 5 cf blk off d.size w->HoldsK enc 5 w blk off d->blk < w.heap.size->d.size < 4611686018427387904->
  Calls P fS #[.slice (some ⟨blk,off,none⟩) d.size c,.func (.func g) #[] #[]] w λe w'=>e=.returned (.tuple #[])/\∃n os,w'=sortWorldK enc 5 w blk off n (pdq (ltOf cf) d 0 d.size (Lib.bitLen d.size) true true) os
 none:∀ (p:Option Addr) (c:Nat) (w:World),Calls P fS #[.slice p 0 c,.func (.func g) #[] #[]] w λe w'=>e=.returned (.tuple #[])/\w'=w
 cmp:∀ (a b:Int) (a1 a2 a3 a4 b1 b2 b3 b4:Value) (W:World),(∀v∈[a1,a2,a3,a4,b1,b2,b3,b4],v.oneCell'=true)->
  Calls P g #[.agg #[.int .u64 a,a1,a2,a3,a4],.agg #[.int .u64 b,b1,b2,b3,b4]] W λe w'=>e=.returned (.int .i64 (cmpI a b))/\∃q os',w'=grow (W.drewN q) os'
 enters:∀args w,(callFunc fS args).run P w=.ok (.enter fS args) w
section
variable [NodesOf]
def pSortF (k g:Nat):PFn:=λargs σ=>match args with
 | [.sv id n,.fn g' [] []]=>match σ.get id with
  | some (.vec n0 et f)=>
   if Nat.beq g' g&&Nat.beq n0 n&&Nat.ble σ.lock id then
    match findNd (.call k [n] 0) with
    | some m=>match findNd (.same n m) with
     | some m'=>some (.tup [],σ.put id (.vec m' et f))
     | none=>none
    | none=>none
   else none
  | _=>none
 | _=>none
end
theorem tagged_val {ro:Nat->Option Obj} {x:GV} {y:Value} (hx:isTagged x=true) (h:GR ro x y):∃a b c d,y=.agg #[.int .u64 (tagOf x),a,b,c,d]:=by
 unfold isTagged at hx
 split at hx
 ·next t g1 g2 g3 g4=>
  simp only [GR,GRs] at h
  obtain ⟨vs,rfl,v0,l0,rfl,rfl,a,l,rfl,_,b,l2,rfl,_,c,l3,rfl,_,d,l4,rfl,_,rfl⟩:=h
  exact ⟨a,b,c,d,rfl⟩
 ·cases hx
theorem oneCells_tag {ro:Nat->Option Obj} {x:GV} {y:Value} (hx:isTagged x=true) (h:GR ro x y) (hs:x.cells.all GV.scalar=true):∀v∈y.cells.toList,v.oneCell'=true:=by
 unfold isTagged at hx
 split at hx
 ·simp only [GR] at h
  obtain ⟨vs,rfl,h⟩:=h
  exact GRs.ones h hs
 ·cases hx
theorem cellsL_divS {ys:List Value} {sz:Nat} (h0:0 < sz) (h:∀y∈ys,y.cells.size=sz) {j:Nat} (hj:j < ys.length * sz):(cellsL ys)[j]? = some ((ys.getD (j / sz) undef).cells.toList.getD (j % sz) undef):=by
 letI:TabsOf:=Tg [] [] 0
 have hlt:j / sz < ys.length:=(Nat.div_lt_iff_lt_mul h0).2 hj
 have hmod:j % sz < sz:=Nat.mod_lt _ h0
 have hy:=List.getElem?_eq_getElem hlt
 have:=cellsL_at h hy (j % sz) hmod
 rw [show j / sz * sz+j % sz=j by rw [Nat.mul_comm];exact Nat.div_add_mod j sz] at this
 rw [this]
 have hs:=h _ (List.getElem_mem hlt)
 rw [Array.getElem?_eq_getElem (by omega)]
 simp [List.getD,hy,hs,hmod]
theorem sortF_ok {T:TabsOf} {fS g k:Nat} (F:SortFFacts P fS g) (hI:∀gs out,T.I k gs=some out->sortFP gs=some out):@PrimOk T P fS (@pSortF T.toNodesOf k g):=by
 letI:=T
 intro args σ r σ' hs η w vs hS hv
 unfold pSortF at hs
 split at hs
 rotate_left
 ·cases hs
 next bid n g'=>
 split at hs
 rotate_left
 ·cases hs
 next n0 et f hgv=>
 split at hs
 rotate_left
 ·cases hs
 next hcnd=>
 simp only [Bool.and_eq_true] at hcnd
 obtain ⟨⟨c2,c3⟩,c6⟩:=hcnd
 have c2:=(Nat.eq_of_beq_eq_true c2).symm
 have c3:=(Nat.eq_of_beq_eq_true c3).symm
 have c6:=Nat.le_of_ble_eq_true c6
 subst c2;subst c3
 split at hs
 rotate_left
 ·cases hs
 next m0 hm0=>
 split at hs
 rotate_left
 ·cases hs
 next m hm=>
 cases hs
 obtain ⟨x,xs1,rfl,hx,hxs⟩:=hv
 obtain ⟨y,ys1,rfl,hy,hys⟩:=hxs
 simp only [VRs] at hys
 subst hys
 simp only [VR,VRs] at hy
 obtain ⟨us,vs,rfl,rfl,rfl⟩:=hy
 simp only [VR] at hx
 obtain ⟨xs,hxv,hx⟩:=hx
 -- the nodes' values
 obtain ⟨g0,k1,k2⟩:=findNd_ok hm0
 simp only [Nd.den,valsOf,hxv] at k2
 split at k2
 rotate_left
 ·cases k2
 next out hout=>
 have hsp:=hI _ _ hout
 simp only [sortFP] at hsp
 split at hsp
 rotate_left
 ·cases hsp
 next hok=>
 cases hsp
 simp only [List.getElem?_cons_zero,Option.some.injEq] at k2
 subst k2
 obtain ⟨hlen,hall⟩:=hok
 obtain ⟨gm,m1,m2⟩:=findNd_ok hm
 have k1':TabsOf.val m0=some (.l (sortTG xs)):=k1
 simp only [Nd.den,hxv,k1'] at m2
 rw [if_pos (sortTG_length xs)] at m2
 simp only [Option.some.injEq] at m2
 subst m2
 have fin:∀ {η':Env} {σ2:ASt} {w':World},St P η σ w η' σ2 w'->∃η' , St P η σ w η' σ2 w'/\VR η' (.tup []) (.tuple #[]):=λh=>⟨_,h,by simp only [VR];exact ⟨[],rfl,by simp [VRs]⟩⟩
 rcases hx with ⟨q,hq,hle,rfl⟩ | ⟨hgh,hnil,rfl⟩
 rotate_left
 ·-- no slice at all
  subst hnil
  refine .inr ⟨F.enters _ w,Calls.mono' (F.none none 0 w) ?_⟩
  rintro e w' ⟨rfl,hw⟩
  rw [hw]
  have hs0:sortTG []=[]:=List.eq_nil_of_length_eq_zero (sortTG_length [])
  rw [hs0] at m1
  obtain ⟨η',f1,f2⟩:=fin (St.reput (o':=.vec m et f) hS hgv rfl rfl (.inr ⟨hgh,m,et,f,rfl,m1⟩))
  exact ⟨_,rfl,η',f1,f2⟩
 have hov:=hS.at hgv hq
 obtain ⟨xs',cs,elem2,fr2,ys,o1,o2,o3,o4,o5,o6,o7,o8,o9⟩:=hov
 rw [hxv] at o1;cases o1
 have hyl:ys.length=xs.length:=o3.length.symm
 by_cases h2:xs.length=0
 ·have hx0:xs=[]:=List.eq_nil_of_length_eq_zero h2
  have hsg:sortTG xs=xs:=by rw [hx0];exact List.eq_nil_of_length_eq_zero (sortTG_length [])
  rw [h2]
  refine .inr ⟨F.enters _ w,Calls.mono' (F.none _ _ w) ?_⟩
  rintro e w' ⟨rfl,hw⟩
  rw [hw]
  obtain ⟨η',f1,f2⟩:=fin (St.reput (o':=.vec m et f) hS hgv rfl rfl (.inl ⟨q,hq,xs,cs,elem2,fr2,ys,by rw [m1,hsg],o2,o3,o4,o5,o6,o7,o8,o9⟩))
  exact ⟨_,rfl,η',f1,f2⟩
 -- elements
 have hrow:∀i,i < ys.length->∃a b c d,ys.getD i undef=.agg #[.int .u64 (tAt xs i),a,b,c,d]:=by
  intro i hi
  have hxi:xs[i]? = some (xs[i]'(by omega)):=List.getElem?_eq_getElem _
  obtain ⟨y,hy1,hy2⟩:=o3.at hxi
  have hki:tAt xs i=tagOf (xs[i]'(by omega)):=by unfold tAt;simp [List.getD,hxi]
  obtain ⟨a,b,c,d,e⟩:=tagged_val (List.all_eq_true.1 hall _ (List.getElem_mem (by omega))) hy2
  exact ⟨a,b,c,d,by simp only [List.getD,hy1,Option.getD_some,e,hki]⟩
 have hes:q.es=5:=by
  obtain ⟨a,b,c,d,e⟩:=hrow 0 (by omega)
  have h0:ys.getD 0 undef∈ys:=by simp only [List.getD,List.getElem?_eq_getElem (show 0 < ys.length by omega),Option.getD_some];exact List.getElem_mem _
  have:=o4 _ h0
  rw [e] at this
  exact this.symm
 have o4':∀y∈ys,y.cells.size=5:=λy hy=>by rw [o4 y hy,hes]
 let dfl:Value:=.agg #[.int .u64 0,.bool false,.bool false,.bool false,.bool false]
 let enc:Nat->List Value:=λi=>(ys.getD i dfl).cells.toList
 have hencd:∀i,i < ys.length->enc i=(ys.getD i undef).cells.toList:=by
  intro i hi
  show (ys.getD i dfl).cells.toList=_
  simp [List.getD,List.getElem?_eq_getElem hi]
 have hencn:∀i,¬ i < ys.length->enc i=[.int .u64 0,.bool false,.bool false,.bool false,.bool false]:=by
  intro i hi
  show (ys.getD i dfl).cells.toList=_
  simp [List.getD,List.getElem?_eq_none (show ys.length<=i by omega)];rfl
 have hk5:∀i,∃a b c d,enc i=[.int .u64 (tAt xs i),a,b,c,d]:=by
  intro i
  by_cases hi:i < ys.length
  ·obtain ⟨a,b,c,d,e⟩:=hrow i hi
   exact ⟨a,b,c,d,by rw [hencd i hi,e];rfl⟩
  ·refine ⟨.bool false,.bool false,.bool false,.bool false, ?_⟩
   rw [hencn i hi]
   have:tAt xs i=0:=by unfold tAt;simp [List.getD,List.getElem?_eq_none (show xs.length<=i by omega),tagOf]
   rw [this]
 have henc5:∀i,(enc i).length=5:=by intro i;obtain ⟨a,b,c,d,e⟩:=hk5 i;rw [e];rfl
 have hone:∀i,∀v∈enc i,v.oneCell'=true:=by
  intro i v hv
  by_cases hi:i < ys.length
  ·rw [hencd i hi] at hv
   have hxi:xs[i]? = some (xs[i]'(by omega)):=List.getElem?_eq_getElem _
   obtain ⟨y,hy1,hy2⟩:=o3.at hxi
   have:ys.getD i undef=y:=by simp [List.getD,hy1]
   rw [this] at hv
   have hsc:=o8 _ (List.getElem_mem (show i < xs.length by omega))
   exact oneCells_tag (List.all_eq_true.1 hall _ (List.getElem_mem (by omega))) hy2 hsc v hv
  ·rw [hencn i hi] at hv
   simp only [List.mem_cons,List.mem_nil_iff,or_false] at hv
   rcases hv with rfl | rfl | rfl | rfl | rfl<;>rfl
 have hdr:∀i,i < xs.length->(Array.range xs.length)[i]! = i:=by
  intro i hi
  rw [getElem!_pos _ i (by simpa using hi)];simp
 have hH:HoldsK enc 5 w q.bl q.ba (Array.range xs.length):=by
  intro j hj
  rw [size_flatK,Array.size_range] at hj
  rw [get_flatK _ _ _ _ (by rw [Array.size_range];exact hj),hdr _ (by omega),hencd _ (by omega)]
  have h1:=o5 j _ (cellsL_divS (by omega) o4' (by omega))
  refine ⟨?_, ?_⟩
  ·simp only [World.cell?,o2]
   rw [if_neg (by simp),h1]
   have:((ys.getD (j / 5) undef).cells.toList).length=5:=by
    have h0:ys.getD (j / 5) undef∈ys:=by simp only [List.getD,List.getElem?_eq_getElem (show j / 5 < ys.length by omega),Option.getD_some];exact List.getElem_mem _
    simpa using o4' _ h0
   rw [getElem!_pos _ (j % 5) (by omega)]
   show some (((ys.getD (j / 5) undef).cells.toList)[j % 5]?.getD undef)=some (((ys.getD (j / 5) undef).cells.toList)[j % 5]'_)
   rw [List.getElem?_eq_getElem (show j % 5 < ((ys.getD (j / 5) undef).cells.toList).length by omega)]
   rfl
  ·have hsz:j < q.sz:=by rw [hes] at o6;omega
   have:=o7.free rfl j hsz
   simp only [World.frozen?,o2]
   simpa using λh=>by omega
 have hlt:Array.size (Array.range xs.length)=xs.length:=Array.size_range
 have hblk:q.bl < w.heap.size:=getLt o2
 have hcmp:CmpLays P g #[] enc 5 (cfT xs) q.bl q.ba (Array.range xs.length).size w:=by
  intro mm os dk hds i j
  obtain ⟨a1,a2,a3,a4,e1⟩:=hk5 i
  obtain ⟨b1,b2,b3,b4,e2⟩:=hk5 j
  have h1:=F.cmp (tAt xs i) (tAt xs j) a1 a2 a3 a4 b1 b2 b3 b4 (sortWorldK enc 5 w q.bl q.ba mm dk os) (by
   intro v hv
   simp only [List.mem_cons,List.mem_nil_iff,or_false] at hv
   have i1:=hone i
   have i2:=hone j
   rw [e1] at i1
   rw [e2] at i2
   rcases hv with rfl | rfl | rfl | rfl | rfl | rfl | rfl | rfl
   ·exact i1 _ (by simp)
   ·exact i1 _ (by simp)
   ·exact i1 _ (by simp)
   ·exact i1 _ (by simp)
   ·exact i2 _ (by simp)
   ·exact i2 _ (by simp)
   ·exact i2 _ (by simp)
   ·exact i2 _ (by simp))
  rw [e1,e2]
  exact h1
 have hc:=F.big enc (cfT xs) q.bl q.ba (q.sz / q.es) (Array.range xs.length) w henc5 hone (swo_tag xs) hcmp hH hblk (by omega)
 rw [hlt] at hc
 refine .inr ⟨F.enters _ w,Calls.mono' hc ?_⟩
 rintro e w' ⟨rfl,nn,os,rfl⟩
 have hidx:pdq (ltOf (cfT xs)) (Array.range xs.length) 0 xs.length (Lib.bitLen xs.length) true true=idxSortT xs:=by unfold idxSortT;rw [hlt]
 rw [hidx]
 obtain ⟨p1,p2⟩:=idxSortT_perm xs
 have hmem:∀i∈(idxSortT xs).toList,i < xs.length:=λi hi=>List.mem_range.1 (p2.mem_iff.1 hi)
 unfold sortWorldK
 have hheap:(grow (putRowK enc 5 (Sort.ahead w nn) q.bl q.ba (idxSortT xs)) os).heap[q.bl]? = some (.cells (Go.Sort.putCells id q.ba (flatK enc 5 (idxSortT xs)) cs) elem2 fr2):=by
  show ((w.heap.modify q.bl (onCells (Go.Sort.putCells id q.ba (flatK enc 5 (idxSortT xs)))))++os)[q.bl]? = _
  rw [Array.getElem?_append_left (by simpa using hblk),Array.getElem?_modify,if_pos rfl,o2]
  rfl
 have hother:∀bl,bl < w.heap.size->bl≠q.bl->(grow (putRowK enc 5 (Sort.ahead w nn) q.bl q.ba (idxSortT xs)) os).heap[bl]? = w.heap[bl]?:=by
  intro bl h1 h2
  show ((w.heap.modify q.bl (onCells (Go.Sort.putCells id q.ba (flatK enc 5 (idxSortT xs)))))++os)[bl]? = _
  rw [Array.getElem?_append_left (by simpa using h1),Array.getElem?_modify,if_neg (λe=>h2 e.symm)]
 let ys':List Value:=(idxSortT xs).toList.map λi=>ys.getD i dfl
 have hys'3:∀y∈ys',y.cells.size=5:=by
  intro y hy
  obtain ⟨i,hi,rfl⟩:=List.mem_map.1 hy
  have:=henc5 i
  simpa [enc] using this
 have hcells:cellsAt (Go.Sort.putCells id q.ba (flatK enc 5 (idxSortT xs)) cs) q.ba (cellsL ys'):=by
  intro kk v hkv
  have hyl':ys'.length=xs.length:=by simp [ys',p1]
  have hkl:kk < ys'.length * 5:=by
   have:=(List.getElem?_eq_some_iff.1 hkv).1
   rwa [cellsL_length hys'3] at this
  rw [cellsL_divS (by omega) hys'3 hkl] at hkv
  cases hkv
  have hsz:kk < q.sz:=by rw [hes] at o6;omega
  have hin:q.ba+kk < cs.size:=by have:=o7.fits;omega
  unfold Go.Sort.putCells
  rw [Array.getElem?_mapIdx,Array.getElem?_eq_getElem hin]
  simp only [Option.map_some,size_flatK,p1]
  rw [if_pos ⟨by omega,by omega⟩,Nat.add_sub_cancel_left,get_flatK _ _ _ _ (by rw [p1];omega)]
  have hki:kk / 5 < (idxSortT xs).size:=by omega
  have e1:ys'.getD (kk / 5) undef=ys.getD (idxSortT xs)[kk / 5]! dfl:=by
   simp only [ys',List.getD,List.getElem?_map]
   rw [getElem!_pos _ (kk / 5) hki]
   simp [hki]
  rw [e1]
  have e2:=henc5 (idxSortT xs)[kk / 5]!
  show some (id ((enc (idxSortT xs)[kk / 5]!)[kk % 5]!))=some ((enc (idxSortT xs)[kk / 5]!).getD (kk % 5) undef)
  rw [getElem!_pos _ (kk % 5) (by omega)]
  simp only [List.getD,List.getElem?_eq_getElem (show kk % 5 < (enc (idxSortT xs)[kk / 5]!).length by omega),Option.getD_some,id]
 have hgrs:GRs η.ro (sortTG xs) ys':=by
  unfold sortTG
  refine GRs.ofFn _ λi hi=>?_
  have hil:=hmem i hi
  have hxi:xs[i]? = some (xs[i]'hil):=List.getElem?_eq_getElem _
  obtain ⟨y,hy1,hy2⟩:=o3.at hxi
  simp only [List.getD,hxi,hy1,Option.getD_some]
  exact hy2
 have hsc:∀x∈sortTG xs,x.cells.all GV.scalar=true:=λx hx=>o8 x ((sortTG_perm xs).mem_iff.1 hx)
 have s2:=St.ofRoAt (ro':=η.ro) (o':=.vec m et f) (w':=grow (putRowK enc 5 (Sort.ahead w nn) q.bl q.ba (idxSortT xs)) os) hS hgv rfl rfl c6 hq
  ⟨⟨rfl,rfl,rfl,by simp [putRowK],λbl h1 h2=>hother bl h1 h2⟩,λ_ _ h=>h,λb hb=>.inl hb,λb o hb=>by
   have hb1:=hS.roAt b o hb
   rw [hother b (getLt hb1) (λe=>by subst e;rw [hS.roSep bid _ q hgv rfl hq] at hb;cases hb)];exact hb1,hS.roSep bid _ q hgv rfl hq⟩
  ⟨sortTG xs,_,elem2,fr2,ys',m1,hheap,hgrs,λy hy=>by rw [hys'3 y hy,hes],hcells,by rw [sortTG_length];exact o6,
   { fits:=by simpa [Go.Sort.putCells] using o7.fits,le:=o7.le,shut:=o7.shut,cell:=λkk a hk=>by simp at hk,free:=o7.free,whole:=λh=>by obtain ⟨a1,a2,a3⟩:=o7.whole h;exact ⟨a1,by simpa [Go.Sort.putCells] using a2,a3⟩,room:=o7.room },hsc,o9⟩
 obtain ⟨η',f1,f2⟩:=fin s2
 exact ⟨_,rfl,η',f1,f2⟩
end
end Go.Abs
