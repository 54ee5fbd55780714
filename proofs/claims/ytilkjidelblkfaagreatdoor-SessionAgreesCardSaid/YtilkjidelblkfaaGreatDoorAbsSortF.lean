/- slices.SortFunc over elements of our own, of five cells, by the first one, a number: what the kit's contract says of it, told of nodes. -/
import Derived.Test.YtilkjidelblkfaaGreatDoorAbsSort
import Derived.Shelf.SlSortCmp.WholeK
namespace Go.aJ
set_option linter.unusedSimpArgs false
open Go.Sort Go.Proofs Go.RowKit
noncomputable section
set_option linter.unusedSectionVars false
set_option linter.unusedVariables false
variable {P:Program}
def Gj:GV->Int
 | .g [.i .u64 t,_,_,_,_]=>t
 | _=>0
def isTagged:GV->Bool
 | .g [.i .u64 _,_,_,_,_]=>true
 | _=>false
def wE (xs:List GV) (i:Nat):Int:=Gj (xs.getD i (.b false))
def EC (a b:Int):Int:=if a < b then -1 else if b < a then 1 else 0
def yU (xs:List GV) (i j:Nat):Int:=EC (wE xs i) (wE xs j)
def jA (xs:List GV):Array Nat:=pdq (ltOf (yU xs)) (Array.range xs.length) 0 (Array.range xs.length).size (Lib.bitLen (Array.range xs.length).size) true true
def tK (xs:List GV):List GV:=(jA xs).toList.map λi=>xs.getD i (.b false)
def MV:List GV->Option (List GV)
 | [.l xs]=>if xs.length<=281474976710656/\xs.all isTagged=true then some [.l (tK xs)] else none
 | _=>none
theorem QH (xs:List GV) (i j:Nat):ltOf (yU xs) i j=decide (wE xs i < wE xs j):=by
 unfold ltOf yU EC;rw [vF];simp only [decide_eq_true_eq];split
 ·omega
 ·split<;>omega
theorem Yz (xs:List GV):SWO (ltOf (yU xs)) where
 irrefl x:=by rw [QH];simp
 trans x y z h1 h2:=by rw [QH] at *;simp only [decide_eq_true_eq] at *;omega
 ntrans x y z h1 h2:=by rw [QH] at *;simp only [decide_eq_false_iff_not] at *;omega
theorem VY (xs:List GV):(jA xs).size=xs.length/\(jA xs).toList.Perm (List.range xs.length):=by
 obtain ⟨h1,_,h3⟩:=(pdq_sorts (ltOf (yU xs)) (Yz xs) (Array.range xs.length) 0 (Array.range xs.length).size (Lib.bitLen (Array.range xs.length).size) true true (uj _) (dH _) (Or.inl rfl)).1;have h1':(jA xs).size=xs.length:=by unfold jA;rw [h1];simp
 refine ⟨h1', ?_⟩;have e1:(jA xs).extract 0 (Array.range xs.length).size=jA xs:=by
  have:=Array.extract_size (xs:=jA xs);rw [h1'] at this;simpa using this
 have e2:(Array.range xs.length).extract 0 (Array.range xs.length).size=Array.range xs.length:=Array.extract_size;have h3':((jA xs).extract 0 (Array.range xs.length).size).toList.Perm ((Array.range xs.length).extract 0 (Array.range xs.length).size).toList:=h3;rw [e1,e2] at h3';simpa using h3'
theorem Yu (xs:List GV):(tK xs).Perm xs:=by
 have:=(VY xs).2.map (λi=>xs.getD i (.b false));rwa [am5] at this
theorem RH (xs:List GV):(tK xs).length=xs.length:=(Yu xs).length_eq
theorem arM (xs:List GV):∀i j:Nat,∀a b,i < j->(tK xs)[i]? = some a->(tK xs)[j]? = some b->Gj a<=Gj b:=by
 intro i j a b hij ha hb;unfold tK at ha hb;have hs:=(pdq_sorts (ltOf (yU xs)) (Yz xs) (Array.range xs.length) 0 (Array.range xs.length).size (Lib.bitLen (Array.range xs.length).size) true true (uj _) (dH _) (Or.inl rfl)).2;have hsz:=(VY xs).1;rw [iF] at ha hb;obtain ⟨x,hx,rfl⟩:=aX.1 ha;obtain ⟨y,hy,rfl⟩:=aX.1 hb;have hjl:j < (jA xs).size:=by have:=(dX.1 hy).1;simpa using this
 have h:=hs i j (uj _) hij (by simpa [hsz] using hjl);have ex:(jA xs)[i]! = x:=by
  have:=(dX.1 hx)
  rw [getElem!_pos _ i (by omega)];simpa using this.2
 have ey:(jA xs)[j]! = y:=by
  have:=(dX.1 hy)
  rw [getElem!_pos _ j hjl];simpa using this.2
 have h':ltOf (yU xs) (jA xs)[j]! (jA xs)[i]! = false:=h;rw [ex,ey,QH,decide_eq_false_iff_not] at h';unfold wE at h';omega
structure ZN (P:Program) (fS g:Nat):Prop where
 big:∀ (enc:Nat->List Value) (cf:Nat->Nat->Int) (blk off c:Nat) (d:Array Nat) (w:World),(∀x,(enc x).length=5)->(∀x,∀v∈enc x,v.oneCell'=true)->SWO (ltOf cf)->CmpLays P g #[] enc 5 cf blk off d.size w->HoldsK enc 5 w blk off d->blk < w.heap.size->d.size < 4611686018427387904->
  Calls P fS #[.slice (some ⟨blk,off,none⟩) d.size c,.func (.func g) #[] #[]] w λe w'=>e=.returned (.tuple #[])/\∃n os,w'=sortWorldK enc 5 w blk off n (pdq (ltOf cf) d 0 d.size (Lib.bitLen d.size) true true) os
 none:∀ (p:Option Addr) (c:Nat) (w:World),Calls P fS #[.slice p 0 c,.func (.func g) #[] #[]] w λe w'=>e=.returned (.tuple #[])/\w'=w
 cmp:∀ (a b:Int) (a1 a2 a3 a4 b1 b2 b3 b4:Value) (W:World),(∀v∈[a1,a2,a3,a4,b1,b2,b3,b4],v.oneCell'=true)->
  Calls P g #[.agg #[.int .u64 a,a1,a2,a3,a4],.agg #[.int .u64 b,b1,b2,b3,b4]] W λe w'=>e=.returned (.int .i64 (EC a b))/\∃q os',w'=grow (W.drewN q) os'
 enters:∀args w,(callFunc fS args).run P w=.ok (.enter fS args) w
section
variable [fZ]
def Xk (k g:Nat):dR:=λargs σ=>match args with
 | [.sv id n,.fn g' [] []]=>match σ.get id with
   | some (.vec n0 et f)=>
     if Nat.beq g' g&&Nat.beq n0 n&&Nat.ble σ.lock id then
      match eP (.call k [n] 0) with
      | some m=>match eP (.same n m) with
        | some m'=>some (.bY [],σ.put id (.vec m' et f))
        | none=>none
      | none=>none
     else none
   | _=>none
 | _=>none
end
theorem asq {ro:Nat->Option Obj} {x:GV} {y:Value} (hx:isTagged x=true) (h:GR ro x y):∃a b c d,y=.agg #[.int .u64 (Gj x),a,b,c,d]:=by
 unfold isTagged at hx;split at hx
 ·next t g1 g2 g3 g4=>
  simp only [GR,aK] at h;obtain ⟨vs,rfl,v0,l0,rfl,rfl,a,l,rfl,_,b,l2,rfl,_,c,l3,rfl,_,d,l4,rfl,_,rfl⟩:=h;exact ⟨a,b,c,d,rfl⟩
 ·cases hx
theorem aoe {ro:Nat->Option Obj} {x:GV} {y:Value} (hx:isTagged x=true) (h:GR ro x y) (hs:x.cells.all GV.scalar=true):∀v∈y.cells.toList,v.oneCell'=true:=by
 unfold isTagged at hx;split at hx
 ·simp only [GR] at h
  obtain ⟨vs,rfl,h⟩:=h;exact aK.ones h hs
 ·cases hx
theorem aaG {ys:List Value} {sz:Nat} (h0:0 < sz) (h:∀y∈ys,y.cells.size=sz) {j:Nat} (hj:j < ys.length * sz):(dh ys)[j]? = some ((ys.getD (j / sz) undef).cells.toList.getD (j % sz) undef):=by
 letI:aG:=Tg [] [] 0
 have hlt:j / sz < ys.length:=(Nat.div_lt_iff_lt_mul h0).2 hj;have hmod:j % sz < sz:=Nat.mod_lt _ h0;have hy:=bM hlt;have:=aaF h hy (j % sz) hmod;rw [show j / sz * sz+j % sz=j by rw [D7];exact Nat.div_add_mod j sz] at this;rw [this];have hs:=h _ (gU hlt);rw [zT (by omega)];simp [List.getD,hy,hs,hmod]
theorem arK {T:aG} {fS g k:Nat} (F:ZN P fS g) (hI:∀gs out,T.I k gs=some out->MV gs=some out):@dS T P fS (@Xk T.tofZ k g):=by
 letI:=T
 intro args σ r σ' hs η w vs hS hv;unfold Xk at hs;split at hs;rotate_left
 ·cases hs
 next bid n g'=>
 split at hs;rotate_left
 ·cases hs
 next n0 et f hgv=>
 split at hs;rotate_left
 ·cases hs
 next hcnd=>
 simp only [aI] at hcnd;obtain ⟨⟨c2,c3⟩,c6⟩:=hcnd;have c2:=(bf c2).symm;have c3:=(bf c3).symm;have c6:=qE c6;subst c2;subst c3;split at hs;rotate_left
 ·cases hs
 next m0 hm0=>
 split at hs;rotate_left
 ·cases hs
 next m hm=>
 cases hs;obtain ⟨x,xs1,rfl,hx,hxs⟩:=hv;obtain ⟨y,ys1,rfl,hy,hys⟩:=hxs;simp only [aA] at hys;subst hys;simp only [VR,aA] at hy;obtain ⟨us,vs,rfl,rfl,rfl⟩:=hy;simp only [VR] at hx;obtain ⟨xs,hxv,hx⟩:=hx;obtain ⟨g0,k1,k2⟩:=fM hm0;simp only [Nd.den,valsOf,hxv] at k2;split at k2;rotate_left
 ·cases k2
 next out hout=>
 have hsp:=hI _ _ hout;simp only [MV] at hsp;split at hsp;rotate_left
 ·cases hsp
 next hok=>
 cases hsp;simp only [iQ,aT] at k2;subst k2;obtain ⟨hlen,hall⟩:=hok;obtain ⟨gm,m1,m2⟩:=fM hm;have k1':aG.val m0=some (.l (tK xs)):=k1;simp only [Nd.den,hxv,k1'] at m2;rw [aj (RH xs)] at m2;simp only [aT] at m2;subst m2;have fin:∀ {η':Env} {σ2:au} {w':World},St P η σ w η' σ2 w'->∃η' , St P η σ w η' σ2 w'/\VR η' (.bY []) (.tuple #[]):=λh=>⟨_,h,by simp only [VR];exact ⟨[],rfl,by simp [aA]⟩⟩
 rcases hx with ⟨q,hq,hle,rfl⟩ | ⟨hgh,hnil,rfl⟩
 rotate_left
 ·
   subst hnil;refine .inr ⟨F.enters _ w,Calls.mono' (F.none none 0 w) ?_⟩;rintro e w' ⟨rfl,hw⟩
   rw [hw];have hs0:tK []=[]:=jh (RH []);rw [hs0] at m1;obtain ⟨η',f1,f2⟩:=fin (St.ae1 (o':=.vec m et f) hS hgv rfl rfl (.inr ⟨hgh,m,et,f,rfl,m1⟩));exact ⟨_,rfl,η',f1,f2⟩
 have hov:=hS.at hgv hq;obtain ⟨xs',cs,Ie,Iu,ys,o1,o2,o3,o4,o5,o6,o7,o8,o9⟩:=hov;rw [hxv] at o1;cases o1;have hyl:ys.length=xs.length:=o3.length.symm;by_cases h2:xs.length=0
 ·have hx0:xs=[]:=jh h2
  have hsg:tK xs=xs:=by rw [hx0];exact jh (RH [])
  rw [h2];refine .inr ⟨F.enters _ w,Calls.mono' (F.none _ _ w) ?_⟩;rintro e w' ⟨rfl,hw⟩
  rw [hw];obtain ⟨η',f1,f2⟩:=fin (St.ae1 (o':=.vec m et f) hS hgv rfl rfl (.inl ⟨q,hq,xs,cs,Ie,Iu,ys,by rw [m1,hsg],o2,o3,o4,o5,o6,o7,o8,o9⟩));exact ⟨_,rfl,η',f1,f2⟩
 have hrow:∀i,i < ys.length->∃a b c d,ys.getD i undef=.agg #[.int .u64 (wE xs i),a,b,c,d]:=by
  intro i hi;have hxi:xs[i]? = some (xs[i]'(by omega)):=bM _;obtain ⟨y,hy1,hy2⟩:=o3.at hxi;have hki:wE xs i=Gj (xs[i]'(by omega)):=by unfold wE;simp [List.getD,hxi]
  obtain ⟨a,b,c,d,e⟩:=asq (List.all_eq_true.1 hall _ (gU (by omega))) hy2;exact ⟨a,b,c,d,by simp only [List.getD,hy1,pJ,e,hki]⟩
 have hes:q.es=5:=by
  obtain ⟨a,b,c,d,e⟩:=hrow 0 (by omega);have h0:ys.getD 0 undef∈ys:=by simp only [List.getD,bM (show 0 < ys.length by omega),pJ];exact gU _
  have:=o4 _ h0;rw [e] at this;exact this.symm
 have o4':∀y∈ys,y.cells.size=5:=λy hy=>by rw [o4 y hy,hes]
 let KO:Value:=.agg #[.int .u64 0,.bool false,.bool false,.bool false,.bool false]
 let enc:Nat->List Value:=λi=>(ys.getD i KO).cells.toList
 have VD:∀i,i < ys.length->enc i=(ys.getD i undef).cells.toList:=by
  intro i hi;show (ys.getD i KO).cells.toList=_
  simp [List.getD,bM hi]
 have aco:∀i,¬ i < ys.length->enc i=[.int .u64 0,.bool false,.bool false,.bool false,.bool false]:=by
  intro i hi;show (ys.getD i KO).cells.toList=_
  simp [List.getD,tZ (show ys.length<=i by omega)];rfl
 have hk5:∀i,∃a b c d,enc i=[.int .u64 (wE xs i),a,b,c,d]:=by
  intro i;by_cases hi:i < ys.length
  ·obtain ⟨a,b,c,d,e⟩:=hrow i hi
   exact ⟨a,b,c,d,by rw [VD i hi,e];rfl⟩
  ·refine ⟨.bool false,.bool false,.bool false,.bool false, ?_⟩
   rw [aco i hi];have:wE xs i=0:=by unfold wE;simp [List.getD,tZ (show xs.length<=i by omega),Gj]
   rw [this]
 have VB:∀i,(enc i).length=5:=by intro i;obtain ⟨a,b,c,d,e⟩:=hk5 i;rw [e];rfl
 have hone:∀i,∀v∈enc i,v.oneCell'=true:=by
  intro i v hv;by_cases hi:i < ys.length
  ·rw [VD i hi] at hv
   have hxi:xs[i]? = some (xs[i]'(by omega)):=bM _;obtain ⟨y,hy1,hy2⟩:=o3.at hxi;have:ys.getD i undef=y:=by simp [List.getD,hy1]
   rw [this] at hv;have hsc:=o8 _ (gU (show i < xs.length by omega));exact aoe (List.all_eq_true.1 hall _ (gU (by omega))) hy2 hsc v hv
  ·rw [aco i hi] at hv
   simp only [bC,D5,or_false] at hv;rcases hv with rfl | rfl | rfl | rfl | rfl<;>rfl
 have hdr:∀i,i < xs.length->(Array.range xs.length)[i]! = i:=by
  intro i hi;rw [getElem!_pos _ i (by simpa using hi)];simp
 have hH:HoldsK enc 5 w q.bl q.ba (Array.range xs.length):=by
  intro j hj;rw [size_flatK,Y8] at hj;rw [get_flatK _ _ _ _ (by rw [Y8];exact hj),hdr _ (by omega),VD _ (by omega)];have h1:=o5 j _ (aaG (by omega) o4' (by omega));refine ⟨?_, ?_⟩
  ·simp only [World.cell?,o2]
   rw [ah (by simp),h1];have:((ys.getD (j / 5) undef).cells.toList).length=5:=by
    have h0:ys.getD (j / 5) undef∈ys:=by simp only [List.getD,bM (show j / 5 < ys.length by omega),pJ];exact gU _
    simpa using o4' _ h0
   rw [getElem!_pos _ (j % 5) (by omega)];show some (((ys.getD (j / 5) undef).cells.toList)[j % 5]?.getD undef)=some (((ys.getD (j / 5) undef).cells.toList)[j % 5]'_)
   rw [bM (show j % 5 < ((ys.getD (j / 5) undef).cells.toList).length by omega)];rfl
  ·have hsz:j < q.sz:=by rw [hes] at o6;omega
   have:=o7.free rfl j hsz;simp only [World.frozen?,o2];simpa using λh=>by omega
 have hlt:Array.size (Array.range xs.length)=xs.length:=Y8;have hblk:q.bl < w.heap.size:=uJ o2;have hcmp:CmpLays P g #[] enc 5 (yU xs) q.bl q.ba (Array.range xs.length).size w:=by
  intro mm os dk hds i j;obtain ⟨a1,a2,a3,a4,e1⟩:=hk5 i;obtain ⟨b1,b2,b3,b4,e2⟩:=hk5 j;have h1:=F.cmp (wE xs i) (wE xs j) a1 a2 a3 a4 b1 b2 b3 b4 (sortWorldK enc 5 w q.bl q.ba mm dk os) (by
   intro v hv;simp only [bC,D5,or_false] at hv;have i1:=hone i;have i2:=hone j;rw [e1] at i1;rw [e2] at i2;rcases hv with rfl | rfl | rfl | rfl | rfl | rfl | rfl | rfl
   ·exact i1 _ (by simp)
   ·exact i1 _ (by simp)
   ·exact i1 _ (by simp)
   ·exact i1 _ (by simp)
   ·exact i2 _ (by simp)
   ·exact i2 _ (by simp)
   ·exact i2 _ (by simp)
   ·exact i2 _ (by simp))
  rw [e1,e2];exact h1
 have hc:=F.big enc (yU xs) q.bl q.ba (q.sz / q.es) (Array.range xs.length) w VB hone (Yz xs) hcmp hH hblk (by omega);rw [hlt] at hc;refine .inr ⟨F.enters _ w,Calls.mono' hc ?_⟩;rintro e w' ⟨rfl,nn,os,rfl⟩
 have hidx:pdq (ltOf (yU xs)) (Array.range xs.length) 0 xs.length (Lib.bitLen xs.length) true true=jA xs:=by unfold jA;rw [hlt]
 rw [hidx];obtain ⟨p1,p2⟩:=VY xs;have hmem:∀i∈(jA xs).toList,i < xs.length:=λi hi=>xG.1 (p2.mem_iff.1 hi);unfold sortWorldK;have hheap:(grow (putRowK enc 5 (Sort.ahead w nn) q.bl q.ba (jA xs)) os).heap[q.bl]? = some (.cells (Go.Sort.putCells id q.ba (flatK enc 5 (jA xs)) cs) Ie Iu):=by
  show ((w.heap.modify q.bl (onCells (Go.Sort.putCells id q.ba (flatK enc 5 (jA xs)))))++os)[q.bl]? = _
  rw [Tn (by simpa using hblk),GH,aj rfl,o2];rfl
 have hother:∀bl,bl < w.heap.size->bl≠q.bl->(grow (putRowK enc 5 (Sort.ahead w nn) q.bl q.ba (jA xs)) os).heap[bl]? = w.heap[bl]?:=by
  intro bl h1 h2;show ((w.heap.modify q.bl (onCells (Go.Sort.putCells id q.ba (flatK enc 5 (jA xs)))))++os)[bl]? = _
  rw [Tn (by simpa using h1),GH,ah (λe=>h2 e.symm)]
 let ys':List Value:=(jA xs).toList.map λi=>ys.getD i KO
 have VW:∀y∈ys',y.cells.size=5:=by
  intro y hy;obtain ⟨i,hi,rfl⟩:=nO.1 hy;have:=VB i;simpa [enc] using this
 have hcells:CW (Go.Sort.putCells id q.ba (flatK enc 5 (jA xs)) cs) q.ba (dh ys'):=by
  intro kk v hkv;have avf:ys'.length=xs.length:=by simp [ys',p1]
  have hkl:kk < ys'.length * 5:=by
   have:=(dX.1 hkv).1;rwa [Ez VW] at this
  rw [aaG (by omega) VW hkl] at hkv;cases hkv;have hsz:kk < q.sz:=by rw [hes] at o6;omega
  have hin:q.ba+kk < cs.size:=by have:=o7.fits;omega
  unfold Go.Sort.putCells;rw [Array.getElem?_mapIdx,zT hin];simp only [fK,size_flatK,p1];rw [aj ⟨by omega,by omega⟩,TN,get_flatK _ _ _ _ (by rw [p1];omega)];have hki:kk / 5 < (jA xs).size:=by omega
  have e1:ys'.getD (kk / 5) undef=ys.getD (jA xs)[kk / 5]! KO:=by
   simp only [ys',List.getD,iF];rw [getElem!_pos _ (kk / 5) hki];simp [hki]
  rw [e1];have e2:=VB (jA xs)[kk / 5]!;show some (id ((enc (jA xs)[kk / 5]!)[kk % 5]!))=some ((enc (jA xs)[kk / 5]!).getD (kk % 5) undef)
  rw [getElem!_pos _ (kk % 5) (by omega)];simp only [List.getD,bM (show kk % 5 < (enc (jA xs)[kk / 5]!).length by omega),pJ,id]
 have alz:aK η.ro (tK xs) ys':=by
  unfold tK;refine aK.ofFn _ λi hi=>?_;have hil:=hmem i hi;have hxi:xs[i]? = some (xs[i]'hil):=bM _;obtain ⟨y,hy1,hy2⟩:=o3.at hxi;simp only [List.getD,hxi,hy1,pJ];exact hy2
 have hsc:∀x∈tK xs,x.cells.all GV.scalar=true:=λx hx=>o8 x ((Yu xs).mem_iff.1 hx)
 have s2:=St.an8 (ro':=η.ro) (o':=.vec m et f) (w':=grow (putRowK enc 5 (Sort.ahead w nn) q.bl q.ba (jA xs)) os) hS hgv rfl rfl c6 hq
  ⟨⟨rfl,rfl,rfl,by simp [putRowK],λbl h1 h2=>hother bl h1 h2⟩,λ_ _ h=>h,λb hb=>.inl hb,λb o hb=>by
   have hb1:=hS.iP b o hb;rw [hother b (uJ hb1) (λe=>by subst e;rw [hS.ku bid _ q hgv rfl hq] at hb;cases hb)];exact hb1,hS.ku bid _ q hgv rfl hq⟩
  ⟨tK xs,_,Ie,Iu,ys',m1,hheap,alz,λy hy=>by rw [VW y hy,hes],hcells,by rw [RH];exact o6,
   { fits:=by simpa [Go.Sort.putCells] using o7.fits,le:=o7.le,shut:=o7.shut,cell:=λkk a hk=>by simp at hk,free:=o7.free,whole:=λh=>by obtain ⟨a1,a2,a3⟩:=o7.whole h;exact ⟨a1,by simpa [Go.Sort.putCells] using a2,a3⟩,room:=o7.room },hsc,o9⟩
 obtain ⟨η',f1,f2⟩:=fin s2;exact ⟨_,rfl,η',f1,f2⟩
end
end Go.aJ
