/- slices.SortFunc over elements of our own, of five cells, by the first one, a number: what the kit's contract says of it, told of nodes. -/
import Derived.Test.YthgifdbaegpbpaaGreatDoorAbsSort
import Derived.Shelf.SlSortCmp.WholeK
namespace Go.aP
open Go.Sort Go.Proofs Go.RowKit
noncomputable section
set_option linter.unusedSectionVars false
set_option linter.unusedVariables false
set_option linter.unusedSimpArgs false
variable {P:Program}
def Bf:GV→Int
 | .g [.i .u64 t,_,_,_,_]=>t
 | _=>0
def isTagged:GV→Bool
 | .g [.i .u64 _,_,_,_,_]=>true
 | _=>false
def qU (xs:List GV) (i:Nat):Int:=Bf (xs.getD i (.b false))
def zN (a b:Int):Int:=if a < b then -1 else if b < a then 1 else 0
def uG (xs:List GV) (i j:Nat):Int:=zN (qU xs i) (qU xs j)
def iy (xs:List GV):Array Nat:=pdq (ltOf (uG xs)) (Array.range xs.length) 0 (Array.range xs.length).size (Lib.bitLen (Array.range xs.length).size) true true
def oZ (xs:List GV):List GV:=(iy xs).toList.map fun i=>xs.getD i (.b false)
def F9:List GV→Option (List GV)
 | [.l xs]=>if xs.length≤281474976710656∧xs.all isTagged=true then some [.l (oZ xs)] else none
 | _=>none
theorem Jo (xs:List GV) (i j:Nat):ltOf (uG xs) i j=decide (qU xs i < qU xs j):=by
 unfold ltOf uG zN
 rw [Bool.eq_iff_iff]
 simp only [decide_eq_true_eq]
 split
 ·omega
 ·split<;>omega
theorem Tc (xs:List GV):SWO (ltOf (uG xs)) where
 irrefl x:=by rw [Jo];simp
 trans x y z h1 h2:=by rw [Jo] at *;simp only [decide_eq_true_eq] at *;omega
 ntrans x y z h1 h2:=by rw [Jo] at *;simp only [decide_eq_false_iff_not] at *;omega
theorem PW (xs:List GV):(iy xs).size=xs.length∧(iy xs).toList.Perm (List.range xs.length):=by
 obtain ⟨h1,_,h3⟩:=(pdq_sorts (ltOf (uG xs)) (Tc xs) (Array.range xs.length) 0 (Array.range xs.length).size (Lib.bitLen (Array.range xs.length).size) true true (Nat.zero_le _) (Nat.le_refl _) (Or.inl rfl)).1
 have h1':(iy xs).size=xs.length:=by unfold iy;rw [h1];simp
 refine ⟨h1', ?_⟩
 have e1:(iy xs).extract 0 (Array.range xs.length).size=iy xs:=by
  have:=Array.extract_size (xs:=iy xs)
  rw [h1'] at this
  simpa using this
 have e2:(Array.range xs.length).extract 0 (Array.range xs.length).size=Array.range xs.length:=Array.extract_size
 have h3':((iy xs).extract 0 (Array.range xs.length).size).toList.Perm ((Array.range xs.length).extract 0 (Array.range xs.length).size).toList:=h3
 rw [e1,e2] at h3'
 simpa using h3'
theorem SK (xs:List GV):(oZ xs).Perm xs:=by
 have:=(PW xs).2.map (fun i=>xs.getD i (.b false))
 rwa [akf] at this
theorem LX (xs:List GV):(oZ xs).length=xs.length:=(SK xs).length_eq
theorem an2 (xs:List GV):∀i j:Nat,∀a b,i < j→(oZ xs)[i]? = some a→(oZ xs)[j]? = some b→Bf a≤Bf b:=by
 intro i j a b hij ha hb
 unfold oZ at ha hb
 have hs:=(pdq_sorts (ltOf (uG xs)) (Tc xs) (Array.range xs.length) 0 (Array.range xs.length).size (Lib.bitLen (Array.range xs.length).size) true true (Nat.zero_le _) (Nat.le_refl _) (Or.inl rfl)).2
 have hsz:=(PW xs).1
 rw [List.getElem?_map] at ha hb
 obtain ⟨x,hx,rfl⟩:=Option.map_eq_some_iff.1 ha
 obtain ⟨y,hy,rfl⟩:=Option.map_eq_some_iff.1 hb
 have hjl:j < (iy xs).size:=by have:=(List.getElem?_eq_some_iff.1 hy).1;simpa using this
 have h:=hs i j (Nat.zero_le _) hij (by simpa [hsz] using hjl)
 have ex:(iy xs)[i]! = x:=by
  have:=(List.getElem?_eq_some_iff.1 hx)
  rw [getElem!_pos _ i (by omega)];simpa using this.2
 have ey:(iy xs)[j]! = y:=by
  have:=(List.getElem?_eq_some_iff.1 hy)
  rw [getElem!_pos _ j hjl];simpa using this.2
 have h':ltOf (uG xs) (iy xs)[j]! (iy xs)[i]! = false:=h
 rw [ex,ey,Jo,decide_eq_false_iff_not] at h'
 unfold qU at h'
 omega
structure Ua (P:Program) (fS g:Nat):Prop where
 big:∀ (enc:Nat→List Value) (cf:Nat→Nat→Int) (blk off c:Nat) (d:Array Nat) (w:World),(∀x,(enc x).length=5)→(∀x,∀v∈enc x,v.oneCell'=true)→SWO (ltOf cf)→CmpLays P g #[] enc 5 cf blk off d.size w→HoldsK enc 5 w blk off d→blk < w.heap.size→d.size < 4611686018427387904→
  Calls P fS #[.slice (some ⟨blk,off,none⟩) d.size c,.func (.func g) #[] #[]] w fun e w'=>e=.returned (.tuple #[])∧∃n os,w'=sortWorldK enc 5 w blk off n (pdq (ltOf cf) d 0 d.size (Lib.bitLen d.size) true true) os
 none:∀ (p:Option Addr) (c:Nat) (w:World),Calls P fS #[.slice p 0 c,.func (.func g) #[] #[]] w fun e w'=>e=.returned (.tuple #[])∧w'=w
 cmp:∀ (a b:Int) (a1 a2 a3 a4 b1 b2 b3 b4:Value) (W:World),(∀v∈[a1,a2,a3,a4,b1,b2,b3,b4],v.oneCell'=true)→
  Calls P g #[.agg #[.int .u64 a,a1,a2,a3,a4],.agg #[.int .u64 b,b1,b2,b3,b4]] W fun e w'=>e=.returned (.int .i64 (zN a b))∧∃q os',w'=grow (W.drewN q) os'
 enters:∀args w,(callFunc fS args).run P w=.ok (.enter fS args) w
section
variable [fF]
def Q5 (k g:Nat):dS:=fun args σ=>match args with
 | [.sv id n,.fn g' [] []]=>match σ.get id with
  | some (.vec n0 et f)=>
   if Nat.beq g' g&&Nat.beq n0 n&&Nat.ble σ.lock id then
    match dH (.call k [n] 0) with
    | some m=>match dH (.same n m) with
     | some m'=>some (.bV [],σ.put id (.vec m' et f))
     | none=>none
    | none=>none
   else none
  | _=>none
 | _=>none
end
theorem aqj {ro:Nat→Option Obj} {x:GV} {y:Value} (hx:isTagged x=true) (h:GR ro x y):∃a b c d,y=.agg #[.int .u64 (Bf x),a,b,c,d]:=by
 unfold isTagged at hx
 split at hx
 ·next t g1 g2 g3 g4=>
  simp only [GR,aS] at h
  obtain ⟨vs,rfl,v0,l0,rfl,rfl,a,l,rfl,_,b,l2,rfl,_,c,l3,rfl,_,d,l4,rfl,_,rfl⟩:=h
  exact ⟨a,b,c,d,rfl⟩
 ·cases hx
theorem akZ {ro:Nat→Option Obj} {x:GV} {y:Value} (hx:isTagged x=true) (h:GR ro x y) (hs:x.cells.all GV.scalar=true):∀v∈y.cells.toList,v.oneCell'=true:=by
 unfold isTagged at hx
 split at hx
 ·simp only [GR] at h
  obtain ⟨vs,rfl,h⟩:=h
  exact aS.ones h hs
 ·cases hx
theorem XI {ys:List Value} {sz:Nat} (h0:0 < sz) (h:∀y∈ys,y.cells.size=sz) {j:Nat} (hj:j < ys.length * sz):(cu ys)[j]? = some ((ys.getD (j / sz) undef).cells.toList.getD (j % sz) undef):=by
 letI:aC:=Tg [] [] 0
 have hlt:j / sz < ys.length:=(Nat.div_lt_iff_lt_mul h0).2 hj
 have hmod:j % sz < sz:=Nat.mod_lt _ h0
 have hy:=List.getElem?_eq_getElem hlt
 have:=XH h hy (j % sz) hmod
 rw [show j / sz * sz+j % sz=j by rw [Nat.mul_comm];exact Nat.div_add_mod j sz] at this
 rw [this]
 have hs:=h _ (List.getElem_mem hlt)
 rw [Array.getElem?_eq_getElem (by omega)]
 simp [List.getD,hy,hs,hmod]
theorem an0 {T:aC} {fS g k:Nat} (F:Ua P fS g) (hI:∀gs out,T.I k gs=some out→F9 gs=some out):@dU T P fS (@Q5 T.tofF k g):=by
 letI:=T
 intro args σ r σ' hs η w vs hS hv
 unfold Q5 at hs
 split at hs
 rotate_left
 ·cases hs
 next Vf n g'=>
 split at hs
 rotate_left
 ·cases hs
 next n0 et f hgv=>
 split at hs
 rotate_left
 ·cases hs
 next hcnd=>
 simp only [Bool.and_eq_true] at hcnd
 obtain ⟨⟨c2,c3⟩,c6⟩:=hcnd
 have c2:=(Nat.eq_of_beq_eq_true c2).symm
 have c3:=(Nat.eq_of_beq_eq_true c3).symm
 have c6:=Nat.le_of_ble_eq_true c6
 subst c2;subst c3
 split at hs
 rotate_left
 ·cases hs
 next m0 hm0=>
 split at hs
 rotate_left
 ·cases hs
 next m hm=>
 cases hs
 obtain ⟨x,xs1,rfl,hx,hxs⟩:=hv
 obtain ⟨y,ys1,rfl,hy,hys⟩:=hxs
 simp only [aj] at hys
 subst hys
 simp only [VR,aj] at hy
 obtain ⟨us,vs,rfl,rfl,rfl⟩:=hy
 simp only [VR] at hx
 obtain ⟨xs,hxv,hx⟩:=hx
 obtain ⟨g0,k1,k2⟩:=dZ hm0
 simp only [Nd.den,valsOf,hxv] at k2
 split at k2
 rotate_left
 ·cases k2
 next out hout=>
 have hsp:=hI _ _ hout
 simp only [F9] at hsp
 split at hsp
 rotate_left
 ·cases hsp
 next hok=>
 cases hsp
 simp only [List.getElem?_cons_zero,Option.some.injEq] at k2
 subst k2
 obtain ⟨hlen,hall⟩:=hok
 obtain ⟨gm,m1,m2⟩:=dZ hm
 have k1':aC.val m0=some (.l (oZ xs)):=k1
 simp only [Nd.den,hxv,k1'] at m2
 rw [if_pos (LX xs)] at m2
 simp only [Option.some.injEq] at m2
 subst m2
 have fin:∀ {η':Env} {σ2:ah} {w':World},St P η σ w η' σ2 w'→∃η' , St P η σ w η' σ2 w'∧VR η' (.bV []) (.tuple #[]):=fun h=>⟨_,h,by simp only [VR];exact ⟨[],rfl,by simp [aj]⟩⟩
 rcases hx with ⟨q,hq,hle,rfl⟩ | ⟨hgh,hnil,rfl⟩
 rotate_left
 ·
  subst hnil
  refine .inr ⟨F.enters _ w,Calls.mono' (F.none none 0 w) ?_⟩
  rintro e w' ⟨rfl,hw⟩
  rw [hw]
  have hs0:oZ []=[]:=List.eq_nil_of_length_eq_zero (LX [])
  rw [hs0] at m1
  obtain ⟨η',f1,f2⟩:=fin (St.adk (o':=.vec m et f) hS hgv rfl rfl (.inr ⟨hgh,m,et,f,rfl,m1⟩))
  exact ⟨_,rfl,η',f1,f2⟩
 have hov:=hS.at hgv hq
 obtain ⟨xs',cs,Cj,CU,ys,o1,o2,o3,o4,o5,o6,o7,o8,o9⟩:=hov
 rw [hxv] at o1;cases o1
 have hyl:ys.length=xs.length:=o3.length.symm
 by_cases h2:xs.length=0
 ·have hx0:xs=[]:=List.eq_nil_of_length_eq_zero h2
  have hsg:oZ xs=xs:=by rw [hx0];exact List.eq_nil_of_length_eq_zero (LX [])
  rw [h2]
  refine .inr ⟨F.enters _ w,Calls.mono' (F.none _ _ w) ?_⟩
  rintro e w' ⟨rfl,hw⟩
  rw [hw]
  obtain ⟨η',f1,f2⟩:=fin (St.adk (o':=.vec m et f) hS hgv rfl rfl (.inl ⟨q,hq,xs,cs,Cj,CU,ys,by rw [m1,hsg],o2,o3,o4,o5,o6,o7,o8,o9⟩))
  exact ⟨_,rfl,η',f1,f2⟩
 have hrow:∀i,i < ys.length→∃a b c d,ys.getD i undef=.agg #[.int .u64 (qU xs i),a,b,c,d]:=by
  intro i hi
  have hxi:xs[i]? = some (xs[i]'(by omega)):=List.getElem?_eq_getElem _
  obtain ⟨y,hy1,hy2⟩:=o3.at hxi
  have hki:qU xs i=Bf (xs[i]'(by omega)):=by unfold qU;simp [List.getD,hxi]
  obtain ⟨a,b,c,d,e⟩:=aqj (List.all_eq_true.1 hall _ (List.getElem_mem (by omega))) hy2
  exact ⟨a,b,c,d,by simp only [List.getD,hy1,Option.getD_some,e,hki]⟩
 have hes:q.es=5:=by
  obtain ⟨a,b,c,d,e⟩:=hrow 0 (by omega)
  have h0:ys.getD 0 undef∈ys:=by simp only [List.getD,List.getElem?_eq_getElem (show 0 < ys.length by omega),Option.getD_some];exact List.getElem_mem _
  have:=o4 _ h0
  rw [e] at this
  exact this.symm
 have o4':∀y∈ys,y.cells.size=5:=fun y hy=>by rw [o4 y hy,hes]
 let EM:Value:=.agg #[.int .u64 0,.bool false,.bool false,.bool false,.bool false]
 let enc:Nat→List Value:=fun i=>(ys.getD i EM).cells.toList
 have Pn:∀i,i < ys.length→enc i=(ys.getD i undef).cells.toList:=by
  intro i hi
  show (ys.getD i EM).cells.toList=_
  simp [List.getD,List.getElem?_eq_getElem hi]
 have abf:∀i,¬ i < ys.length→enc i=[.int .u64 0,.bool false,.bool false,.bool false,.bool false]:=by
  intro i hi
  show (ys.getD i EM).cells.toList=_
  simp [List.getD,List.getElem?_eq_none (show ys.length≤i by omega)];rfl
 have hk5:∀i,∃a b c d,enc i=[.int .u64 (qU xs i),a,b,c,d]:=by
  intro i
  by_cases hi:i < ys.length
  ·obtain ⟨a,b,c,d,e⟩:=hrow i hi
   exact ⟨a,b,c,d,by rw [Pn i hi,e];rfl⟩
  ·refine ⟨.bool false,.bool false,.bool false,.bool false, ?_⟩
   rw [abf i hi]
   have:qU xs i=0:=by unfold qU;simp [List.getD,List.getElem?_eq_none (show xs.length≤i by omega),Bf]
   rw [this]
 have Pm:∀i,(enc i).length=5:=by intro i;obtain ⟨a,b,c,d,e⟩:=hk5 i;rw [e];rfl
 have hone:∀i,∀v∈enc i,v.oneCell'=true:=by
  intro i v hv
  by_cases hi:i < ys.length
  ·rw [Pn i hi] at hv
   have hxi:xs[i]? = some (xs[i]'(by omega)):=List.getElem?_eq_getElem _
   obtain ⟨y,hy1,hy2⟩:=o3.at hxi
   have:ys.getD i undef=y:=by simp [List.getD,hy1]
   rw [this] at hv
   have hsc:=o8 _ (List.getElem_mem (show i < xs.length by omega))
   exact akZ (List.all_eq_true.1 hall _ (List.getElem_mem (by omega))) hy2 hsc v hv
  ·rw [abf i hi] at hv
   simp only [List.mem_cons,List.mem_nil_iff,or_false] at hv
   rcases hv with rfl | rfl | rfl | rfl | rfl<;>rfl
 have hdr:∀i,i < xs.length→(Array.range xs.length)[i]! = i:=by
  intro i hi
  rw [getElem!_pos _ i (by simpa using hi)];simp
 have hH:HoldsK enc 5 w q.bl q.ba (Array.range xs.length):=by
  intro j hj
  rw [size_flatK,Array.size_range] at hj
  rw [get_flatK _ _ _ _ (by rw [Array.size_range];exact hj),hdr _ (by omega),Pn _ (by omega)]
  have h1:=o5 j _ (XI (by omega) o4' (by omega))
  refine ⟨?_, ?_⟩
  ·simp only [World.cell?,o2]
   rw [if_neg (by simp),h1]
   have:((ys.getD (j / 5) undef).cells.toList).length=5:=by
    have h0:ys.getD (j / 5) undef∈ys:=by simp only [List.getD,List.getElem?_eq_getElem (show j / 5 < ys.length by omega),Option.getD_some];exact List.getElem_mem _
    simpa using o4' _ h0
   rw [getElem!_pos _ (j % 5) (by omega)]
   show some (((ys.getD (j / 5) undef).cells.toList)[j % 5]?.getD undef)=some (((ys.getD (j / 5) undef).cells.toList)[j % 5]'_)
   rw [List.getElem?_eq_getElem (show j % 5 < ((ys.getD (j / 5) undef).cells.toList).length by omega)]
   rfl
  ·have hsz:j < q.sz:=by rw [hes] at o6;omega
   have:=o7.free rfl j hsz
   simp only [World.frozen?,o2]
   simpa using fun h=>by omega
 have hlt:Array.size (Array.range xs.length)=xs.length:=Array.size_range
 have hblk:q.bl < w.heap.size:=qJ o2
 have hcmp:CmpLays P g #[] enc 5 (uG xs) q.bl q.ba (Array.range xs.length).size w:=by
  intro mm os dk hds i j
  obtain ⟨a1,a2,a3,a4,e1⟩:=hk5 i
  obtain ⟨b1,b2,b3,b4,e2⟩:=hk5 j
  have h1:=F.cmp (qU xs i) (qU xs j) a1 a2 a3 a4 b1 b2 b3 b4 (sortWorldK enc 5 w q.bl q.ba mm dk os) (by
   intro v hv
   simp only [List.mem_cons,List.mem_nil_iff,or_false] at hv
   have i1:=hone i
   have i2:=hone j
   rw [e1] at i1
   rw [e2] at i2
   rcases hv with rfl | rfl | rfl | rfl | rfl | rfl | rfl | rfl
   ·exact i1 _ (by simp)
   ·exact i1 _ (by simp)
   ·exact i1 _ (by simp)
   ·exact i1 _ (by simp)
   ·exact i2 _ (by simp)
   ·exact i2 _ (by simp)
   ·exact i2 _ (by simp)
   ·exact i2 _ (by simp))
  rw [e1,e2]
  exact h1
 have hc:=F.big enc (uG xs) q.bl q.ba (q.sz / q.es) (Array.range xs.length) w Pm hone (Tc xs) hcmp hH hblk (by omega)
 rw [hlt] at hc
 refine .inr ⟨F.enters _ w,Calls.mono' hc ?_⟩
 rintro e w' ⟨rfl,nn,os,rfl⟩
 have hidx:pdq (ltOf (uG xs)) (Array.range xs.length) 0 xs.length (Lib.bitLen xs.length) true true=iy xs:=by unfold iy;rw [hlt]
 rw [hidx]
 obtain ⟨p1,p2⟩:=PW xs
 have hmem:∀i∈(iy xs).toList,i < xs.length:=fun i hi=>List.mem_range.1 (p2.mem_iff.1 hi)
 unfold sortWorldK
 have hheap:(grow (putRowK enc 5 (Sort.ahead w nn) q.bl q.ba (iy xs)) os).heap[q.bl]? = some (.cells (Go.Sort.putCells id q.ba (flatK enc 5 (iy xs)) cs) Cj CU):=by
  show ((w.heap.modify q.bl (onCells (Go.Sort.putCells id q.ba (flatK enc 5 (iy xs)))))++os)[q.bl]? = _
  rw [Array.getElem?_append_left (by simpa using hblk),Array.getElem?_modify,if_pos rfl,o2]
  rfl
 have hother:∀bl,bl < w.heap.size→bl≠q.bl→(grow (putRowK enc 5 (Sort.ahead w nn) q.bl q.ba (iy xs)) os).heap[bl]? = w.heap[bl]?:=by
  intro bl h1 h2
  show ((w.heap.modify q.bl (onCells (Go.Sort.putCells id q.ba (flatK enc 5 (iy xs)))))++os)[bl]? = _
  rw [Array.getElem?_append_left (by simpa using h1),Array.getElem?_modify,if_neg (fun e=>h2 e.symm)]
 let ys':List Value:=(iy xs).toList.map fun i=>ys.getD i EM
 have PV:∀y∈ys',y.cells.size=5:=by
  intro y hy
  obtain ⟨i,hi,rfl⟩:=List.mem_map.1 hy
  have:=Pm i
  simpa [enc] using this
 have hcells:xU (Go.Sort.putCells id q.ba (flatK enc 5 (iy xs)) cs) q.ba (cu ys'):=by
  intro kk v hkv
  have aty:ys'.length=xs.length:=by simp [ys',p1]
  have hkl:kk < ys'.length * 5:=by
   have:=(List.getElem?_eq_some_iff.1 hkv).1
   rwa [BU PV] at this
  rw [XI (by omega) PV hkl] at hkv
  cases hkv
  have hsz:kk < q.sz:=by rw [hes] at o6;omega
  have hin:q.ba+kk < cs.size:=by have:=o7.fits;omega
  unfold Go.Sort.putCells
  rw [Array.getElem?_mapIdx,Array.getElem?_eq_getElem hin]
  simp only [Option.map_some,size_flatK,p1]
  rw [if_pos ⟨by omega,by omega⟩,Nat.add_sub_cancel_left,get_flatK _ _ _ _ (by rw [p1];omega)]
  have hki:kk / 5 < (iy xs).size:=by omega
  have e1:ys'.getD (kk / 5) undef=ys.getD (iy xs)[kk / 5]! EM:=by
   simp only [ys',List.getD,List.getElem?_map]
   rw [getElem!_pos _ (kk / 5) hki]
   simp [hki]
  rw [e1]
  have e2:=Pm (iy xs)[kk / 5]!
  show some (id ((enc (iy xs)[kk / 5]!)[kk % 5]!))=some ((enc (iy xs)[kk / 5]!).getD (kk % 5) undef)
  rw [getElem!_pos _ (kk % 5) (by omega)]
  simp only [List.getD,List.getElem?_eq_getElem (show kk % 5 < (enc (iy xs)[kk / 5]!).length by omega),Option.getD_some,id]
 have aiY:aS η.ro (oZ xs) ys':=by
  unfold oZ
  refine aS.ofFn _ fun i hi=>?_
  have hil:=hmem i hi
  have hxi:xs[i]? = some (xs[i]'hil):=List.getElem?_eq_getElem _
  obtain ⟨y,hy1,hy2⟩:=o3.at hxi
  simp only [List.getD,hxi,hy1,Option.getD_some]
  exact hy2
 have hsc:∀x∈oZ xs,x.cells.all GV.scalar=true:=fun x hx=>o8 x ((SK xs).mem_iff.1 hx)
 have s2:=St.akU (ro':=η.ro) (o':=.vec m et f) (w':=grow (putRowK enc 5 (Sort.ahead w nn) q.bl q.ba (iy xs)) os) hS hgv rfl rfl c6 hq
  ⟨⟨rfl,rfl,rfl,by simp [putRowK],fun bl h1 h2=>hother bl h1 h2⟩,fun _ _ h=>h,fun b hb=>.inl hb,fun b o hb=>by
   have hb1:=hS.fP b o hb
   rw [hother b (qJ hb1) (fun e=>by subst e;rw [hS.iW Vf _ q hgv rfl hq] at hb;cases hb)];exact hb1,hS.iW Vf _ q hgv rfl hq⟩
  ⟨oZ xs,_,Cj,CU,ys',m1,hheap,aiY,fun y hy=>by rw [PV y hy,hes],hcells,by rw [LX];exact o6,
   { fits:=by simpa [Go.Sort.putCells] using o7.fits,le:=o7.le,shut:=o7.shut,cell:=fun kk a hk=>by simp at hk,free:=o7.free,whole:=fun h=>by obtain ⟨a1,a2,a3⟩:=o7.whole h;exact ⟨a1,by simpa [Go.Sort.putCells] using a2,a3⟩,room:=o7.room },hsc,o9⟩
 obtain ⟨η',f1,f2⟩:=fin s2
 exact ⟨_,rfl,η',f1,f2⟩
end
end Go.aP
