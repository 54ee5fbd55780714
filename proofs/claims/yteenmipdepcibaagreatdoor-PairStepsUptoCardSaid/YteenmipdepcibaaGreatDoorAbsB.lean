/- The operations, one by one: what the model's operation does where the evaluator's answers. -/
import Derived.Test.YteenmipdepcibaaGreatDoorAbsA
import Derived.Lib.Builder
set_option linter.unusedSimpArgs false
set_option linter.unusedSectionVars false
set_option linter.unusedVariables false
namespace Go.aN
noncomputable section
variable[aH]
variable{P:Program}{F:Env}{J J':aA}{w:World}
theorem aX{t:TypeId}{d:TypeDesc}(h:P.underlying t=some d):(underlying t).run P w=.ok d w:=by simp[underlying,program,Sem.run,h]
theorem iY{t:TypeId}{n:Nat}(h:sizeT P t=some n):(sizeOf t).run P w=.ok n w:=by simp only[sizeT,aZ]at h;obtain⟨i,hi,rfl⟩:=h;simp[sizeOf,typeInfo,program,Sem.run,hi]
theorem Jc{t:TypeId}{b:Bool}(h:nI P t=some b):(isAgg t).run P w=.ok b w:=by
 unfold nI at h;split at h<;>cases h
 ·next h'=>simp[isAgg,aX h']
 ·next h'=>simp[isAgg,aX h']
 ·next d h' h1 h2=>
  cases d<;>simp_all [isAgg,aX]
theorem FI{t:TypeId}{i:TypeInfo}(h:P.info? t=some i):(typeInfo t).run P w=.ok i w:=by simp[typeInfo,program,Sem.run,h]
theorem ag9{v:Value}(h:nZ v=true):v.cells =#[v]:=by cases v<;>simp[nZ]at h<;>rfl
theorem GR.nZ{ro:Qf}{g:GV}{v:Value}(h:GR ro g v)(hs:g.scalar=true):nZ v=true:=by
 cases g<;>simp only[GR]at h
 case g cs=>cases hs
 case l xs=>rcases h with⟨_,_,rfl⟩|⟨bl,off,c,ys,sz,rfl,_⟩<;>rfl
 all_goals subst h;rfl
def AV.sym:AV->Bool
 |.nd _|.rx _ _|.sv _ _|.pv _ _ _|.pd _ _=>true
 |_=>false
theorem VR.ai3{a:AV}{v:Value}(ha:a.sym=true)(h:VR F a v):nZ v=true:=by
 cases a<;>simp only[VR]at h<;>first|(cases ha;done)|skip
 case nd n=>obtain⟨g,_,h2,h3⟩:=h;exact h3.nZ h2
 case rx n off=>obtain⟨g,bl,base,cs,elem,fr,x,h1,h2,h3,rfl,_⟩:=h;rfl
 case sv id n=>obtain⟨xs,_,⟨q,_,_,rfl⟩|⟨_,_,rfl⟩⟩:=h<;>rfl
 case pv id n off=>obtain⟨q,k,i,_,_,rfl⟩:=h;rfl
 case pd id n=>obtain⟨xs,p,_,rfl,_⟩:=h;rfl
theorem ala{a:AV}{v:Value}(ha:a.sym=true)(h:VR F a v):aC F a.cells v.cells.toList:=by
 have h1:=ag9 (VR.ai3 ha h);have h2:a.cells=[a]:=by cases a<;>first|rfl|(cases ha)
 rw[h1,h2];exact aC.cons h (by simp[aC])
theorem yX{a:AV}{v:Value}(h:VR F a v):aC F a.cells v.cells.toList:=by
 by_cases hs:a.sym=true
 ·exact ala hs h
 cases a<;>first|(exact absurd rfl hs)|skip
 all_goals simp only[VR]at h
 case agg l=>obtain⟨vs,rfl,h1⟩:=h;simpa[AV.cells,Value.cells]using h1
 case dP l=>obtain⟨vs,rfl,h1⟩:=h;simp only[AV.cells,Value.cells];exact aC.cons (by simp only[VR];exact⟨vs,rfl,h1⟩) (by simp[aC])
 case p id off=>obtain⟨q,hq,rfl⟩:=h;exact aC.cons (by simp only[VR];exact⟨q,hq,rfl⟩) (by simp[aC])
 case sl id off len cap=>obtain⟨q,hq,hle,rfl⟩:=h;exact aC.cons (by simp only[VR];exact⟨q,hq,hle,rfl⟩) (by simp[aC])
 case mp id=>obtain⟨q,hq,rfl⟩:=h;exact aC.cons (by simp only[VR];exact⟨q,hq,rfl⟩) (by simp[aC])
 case fn f fi cs=>obtain⟨us,vs,rfl,h1,h2⟩:=h;exact aC.cons (by simp only[VR];exact⟨us,vs,rfl,h1,h2⟩) (by simp[aC])
 case iW t b=>obtain⟨x,rfl,h1⟩:=h;exact aC.cons (by simp only[VR];exact⟨x,rfl,h1⟩) (by simp[aC])
 case z k lo hi=>obtain⟨n,h1,h2,rfl⟩:=h;exact aC.cons (by simp only[VR];exact⟨n,h1,h2,rfl⟩) (by simp[aC])
 case ro l=>
  have h':VR F (.ro l) v:=by simp only[VR];exact h
  rcases h with⟨_,_,rfl⟩|⟨bl,off,c,xs,sz,rfl,h1⟩
  ·exact aC.cons h' (by simp[aC])
  ·exact aC.cons h' (by simp[aC])
 case rp a off=>obtain⟨bl,base,cs,elem,fr,x,h1,h2,rfl,h3⟩:=h;exact aC.cons (by simp only[VR];exact⟨bl,base,cs,elem,fr,x,h1,h2,rfl,h3⟩) (by simp[aC])
 all_goals subst h;exact aC.cons (by simp only[VR]) (by simp[aC])
theorem ZO{a:AV}{v:Value}(h:VR F a v)(ha:a.nH=true):nZ v=true:=by
 by_cases hs:a.sym=true
 ·exact h.ai3 hs
 cases a<;>first|(exact absurd rfl hs)|skip
 all_goals simp only[VR]at h
 all_goals simp[AV.nH]at ha
 case p id off=>obtain⟨q,hq,rfl⟩:=h;rfl
 case sl id off len cap=>obtain⟨q,hq,_,rfl⟩:=h;rfl
 case mp id=>obtain⟨q,hq,rfl⟩:=h;rfl
 case fn f fi cs=>obtain⟨us,vs,rfl,h1,h2⟩:=h;rfl
 case iW t b=>obtain⟨x,rfl,h1⟩:=h;rfl
 case z k lo hi=>obtain⟨n,h1,h2,rfl⟩:=h;rfl
 case ro l=>rcases h with⟨_,_,rfl⟩|⟨bl,off,c,xs,sz,rfl,h1⟩<;>rfl
 case rp a off=>obtain⟨bl,base,cs,elem,fr,x,h1,h2,rfl,h3⟩:=h;rfl
 all_goals subst h;rfl
theorem ED{xs:Q6}{sz:Nat}(h:∀x∈xs,x.cells.size=sz):(bY xs).length=xs.length*sz:=by
 induction xs with
 |nil=>simp[bY]
 |cons x xs ih=>have h0:=h x (by simp);have:=ih λy hy=>h y (by simp[hy]);simp only[bY,jC,fU,gQ]at this⊢;rw[this,qM,Gh,JM];simp[h0]
theorem adD{xs:Q6}{sz:Nat}(h:∀x∈xs,x.cells.size=sz)(i:Nat):(bY xs).drop (i*sz)=bY (xs.drop i):=by
 induction xs generalizing i with
 |nil=>simp[bY]
 |cons x xs ih=>
  cases i with
  |zero=>simp
  |succ i=>
   have h0:=h x (by simp);have:=ih (λy hy=>h y (by simp[hy])) i;simp only[WE];rw[<-this];simp only[bY,jC];have hl:x.cells.toList.length=sz:=by simpa using h0
   rw[show(i+1)*sz=x.cells.toList.length+i*sz by rw[hl,qM,Gh,JM]];rw[ace,List.drop_of_length_le (by omega),aV,WV]
theorem ak6{xs:Q6}{sz:Nat}(h:∀x∈xs,x.cells.size=sz)(i:Nat):(bY xs).take (i*sz)=bY (xs.take i):=by
 induction xs generalizing i with
 |nil=>simp[bY]
 |cons x xs ih=>
  cases i with
  |zero=>simp[bY]
  |succ i=>
   have h0:=h x (by simp);have:=ih (λy hy=>h y (by simp[hy])) i;simp only[BL];simp only[bY,jC]at this⊢;have hl:x.cells.toList.length=sz:=by simpa using h0
   rw[show(i+1)*sz=x.cells.toList.length+i*sz by rw[hl,qM,Gh,JM]];rw[List.take_length_add_append,this]
theorem adB{xs:Q6}{sz i:Nat}{x:Value}(h:∀x∈xs,x.cells.size=sz)(hi:xs[i]? =some x)(k:Nat)(hk:k<sz):(bY xs)[i*sz+k]? =x.cells[k]?:=by
 have h1:=adD h i;have hlt:=(eU.1 hi).1;have hd:xs.drop i=x::xs.drop (i+1):=by rw[<-(eU.1 hi).2];exact gY hlt
 have:(bY xs)[i*sz+k]? =((bY xs).drop (i*sz))[k]?:=by rw[ru]
 rw[this,h1,hd];have hs:=h x (rC hi);simp only[bY,jC];rw[mP (by simpa[hs]using hk)];simp
theorem RP{a:AV}{v:Value}(h:VR F a v):a.cells.length=v.cells.size:=by have:=(yX h).length;simpa using this
theorem aeV{l:Q3}{xs:Q6}(h:aC F l xs):aC F (l.flatMap AV.cells) (bY xs):=by
 induction l generalizing xs with
 |nil=>simp only[aC]at h;subst h;simp[aC,bY]
 |cons a l ih=>simp only[aC]at h;obtain⟨x,ys,rfl,h1,h2⟩:=h;simp only[jC,bY];exact aC.append (yX h1) (ih h2)
theorem akm{l:Q3}{xs:Q6}{n:Nat}(h:aC F l xs)(ha:l.all (λa=>a.cells.length==n)=true):∀x∈xs,x.cells.size=n:=by
 intro x hx;obtain⟨k,hk⟩:=WR.1 hx;have hlt:k<l.length:=by have:=(eU.1 hk).1;have:=h.length;omega
 obtain⟨y,hy,uQ⟩:=h.at (bK hlt);rw[hk]at hy;cases hy;have:=List.all_eq_true.1 ha _ (gK hlt);rw[<-RP uQ];simpa using this
theorem awO{l:Q3}{v:Value}(h:VR F (.ro l) v){i size:Nat}{a:AV}(hi:l[i]? =some a)(hs:a.cells.length=size):
 ∃bl off c cs elem fr x,v=.slice (some ⟨bl,off,none⟩) l.length c/\l.length<=c/\F.ro bl=some (.cells cs elem fr)/\VR F a x/\off+i*size+x.cells.size<=cs.size/\EC cs (off+i*size) x.cells.toList:=by
 simp only[VR]at h;rcases h with⟨rfl,_⟩|⟨bl,off,c,xs,sz,rfl,hc,h1,h2,h3⟩
 ·simp at hi
 obtain⟨x,hx,kJ⟩:=h1.at hi;obtain⟨cs,elem,fr,h4,h5,h6⟩:=h3 (by intro e;subst e;simp at hi);have hsz:=h2 x (rC hx);have:sz=size:=by rw[<-hsz,<-RP kJ,hs]
 subst this;have hlen:=ED h2;have hlt:=(eU.1 hx).1;have hmul:(i+1)*sz<=xs.length*sz:=rF _ hlt;rw[qM,Gh]at hmul;refine⟨bl,off,c,cs,elem,fr,x,rfl,hc,h4,kJ,by omega,λk y hk=>?_⟩;have hks:k<sz:=by have:=(eU.1 hk).1;simp at this;omega
 have:=h6 (i*sz+k) y (by rw[adB h2 hx k hks];simpa using hk);rw[<-jL]at this;exact this
theorem FK{t:TypeId}{zc:Q3}(h:yH P t=some zc):∃z,(∀w,(zeroValue t).run P w=.ok z w)/\∀F:Env,aC F zc z.cells.toList:=by
 unfold yH at h;split at h
 ·next i hi=>
  split at h
  ·next z hz=>
   simp only[aZ]at h;obtain⟨a,ha,rfl⟩:=h;exact⟨z,λw=>by simp[zeroValue,FI hi,hz],λF=>yX (Dq _ _ _ ha)⟩
  ·cases h
 ·cases h
theorem qV{l r:Q3}{off n:Nat}(h:takeN l off n=some r):r=(l.drop off).take n/\r.length=n/\(n=0\/off+n<=l.length):=by
 simp only[takeN]at h;split at h
 ·next h1=>
  cases h;refine⟨rfl,h1,?_⟩;simp at h1;omega
 ·cases h
theorem aja{l r:Q3}{off n:Nat}(h:takeN l off n=some r){k:Nat}{a:AV}(hk:r[k]? =some a):l[off+k]? =some a:=by
 obtain⟨rfl,_,_⟩:=qV h;rw[kS]at hk;split at hk
 ·rw[ru]at hk;exact hk
 ·cases hk
theorem qY.take{q:Place}{c:Q3}{et:TypeId}{rw opn:Bool}{cs:QQ}{elem:TypeId}{fr:Nat×Nat}(r:qY P F q c et rw opn cs elem fr)
 {off n:Nat} {l:Q3} (h:takeN c off n=some l):q.ba+off+n<=cs.size\/n=0:=by
 obtain⟨_,_,h1⟩:=qV h;have:=r.fits;have:=r.le;omega
theorem qY.yF{q:Place}{c:Q3}{et:TypeId}{rw opn:Bool}{cs:QQ}{elem:TypeId}{fr:Nat×Nat}(r:qY P F q c et rw opn cs elem fr)
 {off n:Nat} {l:Q3} (h:takeN c off n=some l):aC F l ((cs.toList.drop (q.ba+off)).take n):=by
 obtain⟨hl,hlen,h1⟩:=qV h;have h2:=r.fits;have h3:=r.le;refine aC.of ?_ λk a hk=>?_
 ·simp;omega
 ·have h4:=aja h hk;obtain⟨x,hx,hv⟩:=r.cell _ _ h4;refine⟨x,?_,hv⟩;have hkn:k<n:=by have:=(eU.1 hk).1;omega
  rw[kS,aj hkn,ru];rw[<-jL]at hx;simpa using hx
theorem Dy{bl off n:Nat}{cs:QQ}{elem:TypeId}{fr:Nat×Nat}(h:w.heap[bl]? =some (.cells cs elem fr))(hle:off+n<=cs.size\/n=0):
 (loadCells ⟨bl,off,none⟩ n).run P w=.ok ⟨(cs.toList.drop off).take n⟩ w:=by
 rcases hle with h1|rfl
 ·exact run_loadCells h h1
 ·simp[loadCells,loadCellsFrom]
theorem E5(h:SR P F J w){t:TypeId}{a v:AV}{x:Value}(ha:vN P t J a=some v)(hx:VR F a x):
 ∃y,(Instr.loadAt t x).run P w=.ok y w/\VR F v y:=by
 unfold vN at ha;split at ha
 ·next id off=>
  split at ha
  ·next c et rw opn hg=>
   obtain⟨q,hq,cs,elem,fr,hb,r⟩:=h.obj _ _ hg rfl;simp only[VR]at hx;obtain⟨q',hq',rfl⟩:=hx;rw[hq]at hq';cases hq';split at ha
   ·next hagg=>
    split at ha
    ·next n hn=>
     simp only[aZ]at ha;obtain⟨l,hl,rfl⟩:=ha;refine⟨.agg ⟨(cs.toList.drop (q.ba+off)).take n⟩,?_,?_⟩
     ·simp only[Instr.loadAt,Instr.sureAddr,aS,bF,aQ,loadVar,Jc hagg,if_true,iY hn,uG];rw[Dy hb (r.take hl)];rfl
     ·simp only[VR];exact⟨_,rfl,r.yF hl⟩
    ·cases ha
   ·next hagg=>
    obtain⟨x,hx,hv⟩:=r.cell _ _ ha;refine⟨x,?_,hv⟩;simp only[Instr.loadAt,Instr.sureAddr,aS,bF,aQ,loadVar,Jc hagg,uG];exact aij hb hx
   ·cases ha
  ·cases ha
 ·next e off=>
  simp only[VR]at hx;obtain⟨bl,base,cs,elem,fr,x,h1,h2,rfl,h3,h4⟩:=hx;have hb:=h.iT _ _ h1;have hcv:=yX h2;have hcl:=RP h2;split at ha
  ·next hagg=>
   split at ha
   ·next n hn=>
    simp only[aZ]at ha;obtain⟨l,hl,rfl⟩:=ha;obtain⟨hl1,hl2,hl3⟩:=qV hl;have hfit:base+off+n<=cs.size\/n=0:=by omega
    refine⟨.agg ⟨(cs.toList.drop (base+off)).take n⟩,?_,?_⟩
    ·simp only[Instr.loadAt,Instr.sureAddr,aS,bF,aQ,loadVar,Jc hagg,if_true,iY hn,uG];rw[Dy hb hfit];rfl
    ·simp only[VR];refine⟨_,rfl,?_⟩;have heq:(cs.toList.drop (base+off)).take n=(x.cells.toList.drop off).take n:=by
      apply JG;intro k;rw[kS,kS];split
      ·next hk=>
       rw[ru,ru];have hlt:off+k<x.cells.toList.length:=by simp;omega
       have:=h4 (off+k) _ (bK hlt);rw[bK hlt,vC,jL];exact this
      ·rfl
     rw[heq,hl1];exact(hcv.drop off).take n
   ·cases ha
  ·next hagg=>
   obtain⟨y,hy,hv⟩:=hcv.at ha;refine⟨y,?_,hv⟩;simp only[Instr.loadAt,Instr.sureAddr,aS,bF,aQ,loadVar,Jc hagg,uG];exact aij hb (h4 off y hy)
  ·cases ha
 ·cases ha
theorem Vq{l l' vs:Q3}{off:Nat}(h:zG l off vs=some l'):off+vs.length<=l.length/\l'.length=l.length/\
 ∀(k:Nat),l'[k]? =if off<=k/\k<off+vs.length then vs[k-off]? else l[k]?:=by
 unfold zG at h;split at h
 ·next h1=>
  cases h;refine⟨h1,by simp;omega,λk=>?_⟩;by_cases h2:k<off
  ·rw[ah (by omega),List.append_assoc,mP (by simp;omega),kS,aj h2]
  ·by_cases h3:k<off+vs.length
   ·rw[aj ⟨by omega,h3⟩,mP (by simp;omega),vF (by simp;omega)];simp;congr 1;omega
   ·rw[ah (by omega),vF (by simp;omega),ru];congr 1;simp;omega
 ·cases h
theorem Wq(h:SR P F J w){id off:Nat}{c c':Q3}{et:TypeId}{opn:Bool}{vs:Q3}{xs:Q6}{q:Place}(hg:J.get id=some (.cells c et true opn))(hl:J.lock<=id)
 (hq:F id=some q) (hs:zG c off vs=some c') (hv:aC F vs xs) (hone:vs.all AV.nH=true):
 ∃w',(storeCells ⟨q.bl,q.ba+off,none⟩ xs).run P w=.ok () w'/\St P F J w F (J.put id (.cells c' et true opn)) w':=by
 obtain⟨q',hq',cs,elem,fr,hb,r⟩:=h.obj _ _ hg rfl;rw[hq]at hq';cases hq';obtain⟨h1,h2,h3⟩:=Vq hs;have hlen:=hv.length;have hf:=r.fits;have hle:=r.le;have hxs:∀x∈xs,nZ x=true:=by
  intro x hx;obtain⟨k,hk⟩:=WR.1 hx;have hlt:k<vs.length:=by have:=(eU.1 hk).1;omega
  obtain⟨y,hy,uQ⟩:=hv.at (bK hlt);rw[hk]at hy;cases hy;exact ZO uQ (List.all_eq_true.1 hone _ (gK hlt))
 have hrun:=aa0 (P:=P) xs w q.bl (q.ba+off) 0 cs elem fr hb (by omega) hxs (λk a b=>by have:=r.free rfl (k-q.ba) (by omega);rw[QC (by omega)]at this;exact this)
 refine⟨_,hrun,?_⟩;refine St.write h hg rfl hl hq DC (λk hk=>Dz hk) rfl rfl rfl ?_;refine⟨_,elem,fr,Bj hb,?_⟩;refine {fits:=by rw[Me];exact hf,le:=by omega,shut:=λe=>by rw[h2];exact r.shut e,cell:=?_,free:=λe=>r.free e,whole:=λe=>by rw[Me];exact r.whole e,room:=r.room};intro k a hk;rw[h3]at hk;rw[Vp _ _ _ _ (by omega)];split at hk
 ·next h4=>
  rw[aj (by omega)];obtain⟨x,hx,kJ⟩:=hv.at hk;refine⟨x,?_,kJ⟩;rw[<-hx];congr 1;omega
 ·next h4=>
  rw[ah (by omega)];exact r.cell k a hk
theorem VE(h:SR P F J w){t:TypeId}{a v:AV}{x y:Value}(hs:Ei P t J a v=some J')(hx:VR F a x)(hy:VR F v y):
 ∃w',(Instr.storeAt t x y).run P w=.ok () w'/\St P F J w F J' w':=by
 unfold Ei at hs;split at hs
 ·next id off=>
  split at hs
  ·next c et opn hg=>
   split at hs
   ·next hc=>
    obtain⟨hl,hsz,hone⟩:=hc;simp only[aZ]at hs;obtain⟨c',hr,rfl⟩:=hs;simp only[VR]at hx;obtain⟨q,hq,rfl⟩:=hx;have hcells:=yX hy;obtain⟨w',hrun,hst⟩:=Wq h hg hl hq hr hcells hone;refine⟨w',?_,hst⟩;have hlen:=hcells.length;simp only[Instr.storeAt,Instr.sureAddr,aS,bF,aQ,storeVar,iY hsz,uG];rw[ah (by simp at hlen⊢;omega)];simpa using hrun
   ·cases hs
  ·cases hs
 ·cases hs
theorem yS{a:AV}{n:Int}{x:Value}(h:vM a=some n)(hx:VR F a x):∃k,x=.int k n:=by
 cases a<;>simp[vM]at h
 subst h;simp only[VR]at hx;exact⟨_,hx⟩
theorem Bh{a:AV}{v:Value}{x:Value}(h:wJ a=some v)(hx:VR F a x):x=v:=ajf 4 a v x h hx
theorem ahl{t:TypeId}{cs:Q3}{vs:Q6}{off:Nat}{v:AV}(h:QY P t cs off=some v)(hv:aC F cs vs):
 ∃y,(part t ⟨vs⟩ off).run P w=.ok y w/\VR F v y:=by
 unfold QY at h;split at h
 ·next hagg=>
  split at h
  ·next n hn=>
   simp only[aZ]at h;obtain⟨l,hl,rfl⟩:=h;refine⟨.agg ((⟨vs⟩:QQ).extract off (off+n)),?_,?_⟩
   ·simp[part,Jc hagg,iY hn]
   ·simp only[VR];obtain⟨rfl,_,_⟩:=qV hl;refine⟨(vs.drop off).take n,?_,(hv.drop off).take n⟩;simp
  ·cases h
 ·next hagg=>
  obtain⟨x,hx,kJ⟩:=hv.at h;refine⟨x,?_,kJ⟩;simp[part,Jc hagg,hx]
 ·cases h
theorem aqa{t:TypeId}{a v:AV}{x:Value}{f:Nat}(h:QN P t a f=some v)(hx:VR F a x):
 ∃y,(Instr.field t x f).run P w=.ok y w/\VR F v y:=by
 unfold QN at h;split at h
 ·next fields cs hu=>
  split at h
  ·next fd hf=>
   simp only[VR]at hx;obtain⟨vs,rfl,hv⟩:=hx;obtain⟨y,hy,uQ⟩:=ahl (w:=w) h hv;exact⟨y,by simp[Instr.field,aX hu,hf,asAgg,hy],uQ⟩
  ·cases h
 ·cases h
theorem ap9{t:TypeId}{a v:AV}{x:Value}{f:Nat}(h:QO P t a f=some v)(hx:VR F a x):
 ∃y,(Instr.fieldAt t x f).run P w=.ok y w/\VR F v y:=by
 unfold QO at h;split at h
 ·next fields id off hu=>
  split at h
  ·next fd hf=>
   split at h
   ·next n hn=>
    split at h
    ·cases h
    ·next h0=>
     cases h;simp only[VR]at hx;obtain⟨q,hq,rfl⟩:=hx;refine⟨.pointer (some ⟨q.bl,q.ba+off+fd.offset,none⟩),?_,?_⟩
     ·simp[Instr.fieldAt,aX hu,hf,Instr.sureAddr,fieldPlace,iY hn,h0,qw]
     ·simp only[VR];exact⟨q,hq,by rw[jL]⟩
   ·cases h
  ·cases h
 ·next fields b off hu=>
  split at h
  ·next fd hf=>
   split at h
   ·next n hn=>
    split at h
    ·cases h
    ·next h0=>
     cases h;simp only[VR]at hx;obtain⟨bl,base,cs,elem,fr,x,h1,h2,rfl,h3⟩:=hx;refine⟨.pointer (some ⟨bl,base+off+fd.offset,none⟩),?_,?_⟩
     ·simp[Instr.fieldAt,aX hu,hf,Instr.sureAddr,fieldPlace,iY hn,h0,qw]
     ·simp only[VR];exact⟨bl,base,cs,elem,fr,x,h1,h2,by rw[jL],h3⟩
   ·cases h
  ·cases h
 ·cases h
theorem OX{t:TypeId}{a i v:AV}{x y:Value}(h:xZ P t a i=some v)(hx:VR F a x)(hy:VR F i y):
 ∃z,(Instr.indexAt t x y).run P w=.ok z w/\VR F v z:=by
 unfold xZ at h;split at h
 ·next e id off len cap k hu hk=>
  obtain⟨kd,rfl⟩:=yS hk hy;split at h
  ·next size hn=>
   split at h
   ·next hr=>
    cases h;simp only[VR]at hx;obtain⟨q,hq,hle,rfl⟩:=hx;refine⟨.pointer (some ⟨q.bl,q.ba+off+k.toNat*size,none⟩),?_,?_⟩
    ·simp[Instr.indexAt,asIntOf,aX hu,iY hn,hr,qw]
    ·simp only[VR];exact⟨q,hq,by rw[jL]⟩
   ·cases h
  ·cases h
 ·next len e id off k hu hk=>
  obtain⟨kd,rfl⟩:=yS hk hy;split at h
  ·next size hn=>
   split at h
   ·next hr=>
    cases h;simp only[VR]at hx;obtain⟨q,hq,rfl⟩:=hx;refine⟨.pointer (some ⟨q.bl,q.ba+off+k.toNat*size,none⟩),?_,?_⟩
    ·simp[Instr.indexAt,asIntOf,aX hu,iY hn,hr,qw,Instr.sureAddr]
    ·simp only[VR];exact⟨q,hq,by rw[jL]⟩
   ·cases h
  ·cases h
 ·next e l k hu hk=>
  obtain⟨kd,rfl⟩:=yS hk hy;split at h
  ·next size hn=>
   split at h
   ·next h0=>
    split at h
    ·next b hb=>
     split at h
     ·next hsz=>
      cases h;obtain⟨bl,off,c,cs,elem,fr,x,rfl,hc,h1,h2,h3,h4⟩:=awO hx hb hsz;have hlt:=(eU.1 hb).1;have hr:0<=k/\k<(l.length:Int):=⟨h0,by omega⟩
      refine⟨.pointer (some ⟨bl,off+k.toNat*size,none⟩),?_,?_⟩
      ·simp[Instr.indexAt,asIntOf,aX hu,iY hn,hr,qw]
      ·simp only[VR];exact⟨bl,off+k.toNat*size,cs,elem,fr,x,h1,h2,rfl,h3,h4⟩
     ·cases h
    ·cases h
   ·cases h
  ·cases h
 ·next len e b off k hu hk=>
  obtain⟨kd,rfl⟩:=yS hk hy;split at h
  ·next size hn=>
   split at h
   ·next hr=>
    cases h;simp only[VR]at hx;obtain⟨bl,base,cs,elem,fr,x,h1,h2,rfl,h3⟩:=hx;refine⟨.pointer (some ⟨bl,base+off+k.toNat*size,none⟩),?_,?_⟩
    ·simp[Instr.indexAt,asIntOf,aX hu,iY hn,hr,qw,Instr.sureAddr]
    ·simp only[VR];exact⟨bl,base,cs,elem,fr,x,h1,h2,by rw[jL],h3⟩
   ·cases h
  ·cases h
 ·cases h
theorem aq9(s:Q0)(k:Nat):((⟨⟨s⟩⟩:ByteArray)[k]?)=s[k]?:=by rw[getElem?_def,getElem?_def];rfl
theorem Y7{t:TypeId}{a i v:AV}{x y:Value}(h:Eh P t a i=some v)(hx:VR F a x)(hy:VR F i y):
 ∃z,(Instr.index t x y).run P w=.ok z w/\VR F v z:=by
 unfold Eh at h;split at h
 ·next s k hu hk=>
  obtain⟨kd,rfl⟩:=yS hk hy;split at h
  ·next h0=>
   split at h
   ·next c hc=>
    cases h;simp only[VR]at hx;subst hx;refine⟨.int .u8 c.toNat,?_,by simp[VR]⟩;simp[Instr.index,asIntOf,aX hu,h0,aq9,hc]
   ·cases h
  ·cases h
 ·next len e cs k hu hk=>
  obtain⟨kd,rfl⟩:=yS hk hy;split at h
  ·next size hn=>
   split at h
   ·next hr=>
    simp only[VR]at hx;obtain⟨vs,rfl,hv⟩:=hx;obtain⟨z,hz,wo⟩:=ahl (w:=w) h hv;exact⟨z,by simp[Instr.index,asIntOf,aX hu,iY hn,hr,hz],wo⟩
   ·cases h
  ·cases h
 ·cases h
def kU(F:Env):Q4->Option Value->Prop
 |none,none=>True
 |some a,some x=>VR F a x
 |_,_=>False
theorem Ew{sl:Bool}{len cap:Nat}{room:Nat->Bool}{lo hi:Q4}{lo' hi':Wt}{l h:Nat}(hb:xq len room lo hi=some (l,h))(hroom:∀k,room k=true->k<=cap)(hlc:len<=cap)
 (hlo:kU F lo lo') (hhi:kU F hi hi'):
 (Instr.sliceBounds sl len cap lo' hi' none).run P w=.ok (l,h,cap) w/\l<=h/\h<=cap:=by
 unfold xq at hb;split at hb
 ·cases hb
 next hh e=>
 split at hb
 ·cases hb
 next ll e2=>
 simp only[aW,nR]at hb;obtain⟨rfl,rfl⟩:=hb;have hH:∀c,(match hi' with|some v=>Instr.sliceBound v cap c|none=>pure len).run P w=.ok hh w/\hh<=cap:=by
  intro c;cases hi with
  |none=>cases hi' with
   |none=>simp[zV]at e;subst e;exact⟨rfl,hlc⟩
   |some _=>exact hhi.elim
  |some a=>cases hi' with
   |none=>exact hhi.elim
   |some x=>
    simp only[zV]at e;simp only[kU]at hhi;split at e
    ·next n hn=>
     obtain⟨kd,rfl⟩:=yS hn hhi;split at e
     ·next h1=>
      cases e;have:=hroom _ h1.2;refine⟨?_,this⟩;simp[Instr.sliceBound,asIntOf,h1.1];intro hbad;omega
     ·cases e
    ·cases e
 have hL:∀c,(match lo' with|some v=>Instr.sliceBound v hh c|none=>pure 0).run P w=.ok ll w/\ll<=hh:=by
  intro c;cases lo with
  |none=>cases lo' with
   |none=>simp[JY]at e2;subst e2;exact⟨rfl,ql _⟩
   |some _=>exact hlo.elim
  |some a=>cases lo' with
   |none=>exact hlo.elim
   |some x=>
    simp only[JY]at e2;simp only[kU]at hlo;split at e2
    ·next n hn=>
     obtain⟨kd,rfl⟩:=yS hn hlo;split at e2
     ·next h1=>
      cases e2;refine⟨?_,by omega⟩;simp[Instr.sliceBound,asIntOf,h1.1];intro hbad;omega
     ·cases e2
    ·cases e2
 refine⟨?_,(hL .index).2,(hH .index).2⟩;unfold Instr.sliceBounds;have h1:=hH (if sl then .sliceAcap else .sliceAlen);have h2:=hL (if(none:Wt).isSome then .slice3C else .sliceB);cases hi'<;>simp only[aS,bF,aQ]at h1 h2⊢<;>cases lo'<;>simp only[aS,bF,aQ]at h1 h2⊢<;>simp_all
theorem strSize(s:Q0):(⟨⟨s⟩⟩:ByteArray).size=s.length:=rfl
theorem aiZ(s:Q0)(l h:Nat):(⟨⟨s⟩⟩:ByteArray).extract l h=⟨⟨(s.take h).drop l⟩⟩:=by apply ByteArray.ext;rw[ByteArray.data_extract];apply Nj;simp[JF,List.extract_eq_take_drop]
theorem PU{ad:Addr}{c:Nat}(hs:ad.spot=none:=by rfl):VR F (.ro []) (.slice (some ad) 0 c):=by simp only[VR];obtain⟨bl,off,sp⟩:=ad;simp only at hs;subst hs;right;exact⟨bl,off,c,[],0,rfl,ql _,by simp[aC],by simp,λh=>absurd rfl h⟩
theorem acL{len:Nat}{room:Nat->Bool}{lo hi:Q4}{l h:Nat}(hb:xq len room lo hi=some (l,h))(hr:∀k,room k=true->k<=len):h<=len:=by
 unfold xq at hb;split at hb
 ·cases hb
 ·next e=>
  split at hb
  ·cases hb
  ·cases hb;cases hi with
   |none=>simp[zV]at e;omega
   |some v=>
    simp only[zV]at e;split at e
    ·split at e
     ·next h1=>cases e;exact hr _ h1.2
     ·cases e
    ·cases e
theorem Vu(h:SR P F J w){t:TypeId}{a v:AV}{x:Value}{lo hi:Q4}{lo' hi':Wt}(hs:zX P t J a lo hi=some v)(hx:VR F a x)(hlo:kU F lo lo')(hhi:kU F hi hi'):
 ∃y,(Instr.sliceAt t x lo' hi' none).run P w=.ok y w/\VR F v y:=by
 unfold zX at hs;split at hs
 ·next s hu=>
  simp only[aZ,JV]at hs;obtain⟨l,hh,hb,rfl⟩:=hs;simp only[VR]at hx;subst hx;have hB:=Ew (P:=P) (w:=w) (sl:=false) (cap:=s.length) hb (λk hk=>by simpa using hk) (bV _) hlo hhi;refine⟨.string ⟨⟨(s.take hh).drop l⟩⟩,?_,by simp[VR]⟩;simp only[Instr.sliceAt,Instr.slice,aX hu,aS,aQ,strSize,acB,iO,if_false,hB.1,bF,aiZ,uG]
 ·next e id off len cap hu=>
  simp only[VR]at hx;obtain⟨q,hq,hle,rfl⟩:=hx;split at hs
  ·next size c hn=>
   simp only[vJ,JV]at hs;obtain⟨l,hh,hb,hs⟩:=hs;simp only[qN]at hle⊢;have hB:=Ew (P:=P) (w:=w) (sl:=true) (cap:=c) hb (λk hk=>by simpa using hk) hle hlo hhi;split at hs
   ·next e1=>
    cases hs;subst e1;refine⟨.slice (some ⟨q.bl,q.ba+off,none⟩) (hh-c) 0,?_,?_⟩
    ·simp only[Instr.sliceAt,Instr.slice,aX hu,aS,aQ,hB.1,iY hn,bF,if_true,zQ]
    ·simp only[VR];exact⟨q,hq,by simp;omega,rfl⟩
   ·next e1=>
    cases hs;refine⟨.slice (some ⟨q.bl,q.ba+off+l*size,none⟩) (hh-l) (c-l),?_,?_⟩
    ·simp only[Instr.sliceAt,Instr.slice,aX hu,aS,aQ,hB.1,iY hn,bF,ah e1,gI,qw]
    ·simp only[VR];exact⟨q,hq,by simp;omega,by rw[jL];rfl⟩
  ·next size hn=>
   split at hs
   ·next c et rw hg=>
    split at hs
    ·next het=>
     simp only[vJ,JV]at hs;obtain⟨l,hh,hb,hs⟩:=hs;obtain⟨q',hq',cs,elem,fr,hbk,r⟩:=h.obj _ _ hg rfl;rw[hq]at hq';cases hq';obtain⟨_,hes,hsz⟩:=r.room rfl;rw[het,hn]at hsz;cases hsz;simp only[uD]at hle⊢;have hB:=Ew (P:=P) (w:=w) (sl:=true) (cap:=(q.sz-off)/q.es) hb (λk hk=>by simp at hk;omega) hle hlo hhi;have OM:hh<=len:=by
      unfold xq at hb;split at hb
      ·cases hb
      ·next e=>
       split at hb
       ·cases hb
       ·cases hb;cases hi with
        |none=>simp[zV]at e;omega
        |some v=>
         simp only[zV]at e;split at e
         ·split at e
          ·next h1=>cases e;simpa using h1.2
          ·cases e
         ·cases e
     have hsub:(q.sz-off)/q.es-l=(q.sz-(off+l*q.es))/q.es:=by rw[<-Nat.sub_sub,Gg l,Nat.sub_mul_div]
     split at hs
     ·next e1=>
      cases hs;refine⟨.slice (some ⟨q.bl,q.ba+off+l*q.es,none⟩) (hh-l) ((q.sz-off)/q.es-l),?_,?_⟩
      ·simp only[Instr.sliceAt,Instr.slice,aX hu,aS,aQ,hB.1,iY hn,bF,gI,qw];rw[ah (by omega)]
      ·simp only[VR];refine⟨q,hq,?_,?_⟩
       ·simp only[uD];rw[<-hsub];omega
       ·simp only[uD];rw[<-hsub,jL]
     ·split at hs
      ·next e1 e2=>
       cases hs;subst e2;refine⟨.slice (some ⟨q.bl,q.ba+off,none⟩) (hh-0) ((q.sz-off)/q.es-0),?_,?_⟩
       ·simp only[Instr.sliceAt,Instr.slice,aX hu,aS,aQ,hB.1,iY hn,bF,gI,qw];split<;>simp
       ·simp only[VR];exact⟨q,hq,by simp;omega,by simp⟩
      ·split at hs
       ·next e1 e2 e3=>
        cases hs;subst e3;simp only[Instr.sliceAt,Instr.slice,aX hu,aS,aQ,hB.1,iY hn,bF,gI,qw,zQ];by_cases e4:(q.sz-off)/q.es=hh
        ·rw[aj e4];exact⟨_,rfl,PU⟩
        ·rw[ah e4];exact⟨_,rfl,PU⟩
       ·cases hs
    ·cases hs
   ·cases hs
  ·cases hs
 ·next e hu=>
  split at hs
  ·next n hn=>
   simp only[aZ,JV]at hs;obtain⟨l,hh,hb,rfl⟩:=hs;simp only[VR]at hx;subst hx;have hB:=Ew (P:=P) (w:=w) (sl:=true) (cap:=0) hb (λk hk=>by simpa using hk) (bV _) hlo hhi;have hl0:l=0:=by omega
   have hh0:hh=0:=by omega
   subst hl0;subst hh0;refine⟨.slice none 0 0,?_,by simp[VR]⟩;simp only[Instr.sliceAt,Instr.slice,aX hu,aS,aQ,hB.1,iY hn,bF,if_true,zQ]
  ·cases hs
 ·next e es hu=>
  split at hs
  ·next size hn=>
   simp only[vJ,JV]at hs;obtain⟨l,hh,hb,hs⟩:=hs;have hx0:=hx;simp only[VR]at hx;rcases hx with⟨rfl,pa,rfl⟩|⟨bl,off,c,xs,sz,rfl,hc,h1,h2,h3⟩
   ·have hB:=Ew (P:=P) (w:=w) (sl:=true) (cap:=0) hb (λk hk=>by simpa using hk) (bV _) hlo hhi;have hl0:l=0:=by omega
    have hh0:hh=0:=by omega
    subst hl0;subst hh0;simp[QZ]at hs;subst hs;refine⟨.slice pa 0 0,?_,by simp[VR]⟩;have hB1:=hB.1;rw[kT]at hB1;simp only[Instr.sliceAt,Instr.slice,aX hu,aS,aQ,hB1,iY hn,bF,if_true,zQ]
   have hB:=Ew (P:=P) (w:=w) (sl:=true) (cap:=c) hb (λk hk=>by simp at hk;omega) hc hlo hhi;have OM:=acL hb (λk hk=>by simpa using hk);simp only[Instr.sliceAt,Instr.slice,aX hu,aS,aQ,hB.1,iY hn,bF,gI,qw];unfold QZ at hs;split at hs
   ·next e1=>
    cases hs;subst e1;simp only[zQ];by_cases e4:c=hh
    ·rw[aj e4];exact⟨_,rfl,PU⟩
    ·rw[ah e4];exact⟨_,rfl,PU⟩
   ·next e1=>
    split at hs
    ·next a ha=>
     split at hs
     ·next hsz=>
      cases hs;obtain⟨x,hxx,kJ⟩:=h1.at ha;have hsx:=h2 x (rC hxx);have:sz=size:=by rw[<-hsx,<-RP kJ,hsz]
      subst this;obtain⟨cs,elem,fr,h4,h5,h6⟩:=h3 (by intro e;subst e;simp at ha);rw[ah (by omega)];refine⟨_,rfl,?_⟩;have hlen:=h1.length;simp only[VR];right;refine⟨bl,off+l*sz,c-l,(xs.take hh).drop l,sz,by congr 1;simp;omega,by simp;omega,(h1.take hh).drop l,λy hy=>h2 y (JK (Nr hy)),λ_=>⟨cs,elem,fr,h4,?_,?_⟩⟩
      ·rw[ED (λy hy=>h2 y (JK (Nr hy)))];have hL:=ED h2;have hm:((xs.take hh).drop l).length=hh-l:=by simp;omega
       rw[hm];have h7:l*sz+(hh-l)*sz=hh*sz:=by rw[<-qM];congr 1;omega
       have h8:hh*sz<=xs.length*sz:=rF _ (by omega);omega
      ·intro k y hk;rw[<-adD (λy hy=>h2 y (JK hy)),<-ak6 h2,ru,kS]at hk;split at hk
       ·have:=h6 _ _ hk;rw[<-jL]at this;exact this
       ·cases hk
     ·cases hs
    ·cases hs
  ·cases hs
 ·next n e id off hu=>
  simp only[VR]at hx;obtain⟨q,hq,rfl⟩:=hx;split at hs
  ·next size hn=>
   simp only[aZ,JV]at hs;obtain⟨l,hh,hb,rfl⟩:=hs;have hB:=Ew (P:=P) (w:=w) (sl:=false) (cap:=n) hb (λk hk=>by simpa using hk) (bV _) hlo hhi;have OM:=acL hb (λk hk=>by simpa using hk);simp only[Instr.sliceAt,Instr.sureAddr,aX hu,aS,aQ,hB.1,iY hn,bF];by_cases e1:n=l
   ·subst e1;rw[aj rfl,aj rfl];refine⟨_,rfl,?_⟩;simp only[VR];exact⟨q,hq,by simp;omega,by simp⟩
   ·rw[ah e1,ah e1];refine⟨_,rfl,?_⟩;simp only[VR,qw];exact⟨q,hq,by simp;omega,by simp[jL]⟩
  ·cases hs
 ·cases hs
theorem agj(h:SR P F J w){t:TypeId}{ts:Wm}{ty:TypeId}{a v:AV}{x:Value}(ht:ts[0]? =some t)(hs:QS P J t a=some v)(hx:VR F a x):
 ∃y,(Builtin.len_ ts ty #[x]).run P w=.ok y w/\VR F v y:=by
 unfold QS at hs;split at hs
 ·next s hu=>cases hs;simp only[VR]at hx;subst hx;exact⟨.int .i64 s.length,by simp[Builtin.len_,ht,aX hu,goInt,strSize],by simp[VR]⟩
 ·next e hu=>cases hs;simp only[VR]at hx;subst hx;exact⟨.int .i64 0,by simp[Builtin.len_,ht,aX hu,goInt],by simp[VR]⟩
 ·next e id off n cap hu=>cases hs;simp only[VR]at hx;obtain⟨q,hq,_,rfl⟩:=hx;exact⟨.int .i64 n,by simp[Builtin.len_,ht,aX hu,goInt],by simp[VR]⟩
 ·next e l hu=>cases hs;simp only[VR]at hx;rcases hx with⟨rfl,_,rfl⟩|⟨bl,off,c,xs,sz,rfl,_⟩;exact⟨.int .i64 0,by simp[Builtin.len_,ht,aX hu,goInt],by simp[VR]⟩;exact⟨.int .i64 l.length,by simp[Builtin.len_,ht,aX hu,goInt],by simp[VR]⟩
 ·next e1 e2 hu=>cases hs;simp only[VR]at hx;subst hx;exact⟨.int .i64 0,by simp[Builtin.len_,ht,aX hu,goInt],by simp[VR]⟩
 ·next e1 e2 id hu=>
  split at hs
  ·next es hg=>
   cases hs;simp only[VR]at hx;obtain⟨q,hq,rfl⟩:=hx;obtain⟨q',hq',ms,clock,hb,hsz,_⟩:=h.obj _ _ hg rfl;rw[hq]at hq';cases hq';refine⟨.int .i64 es.length,?_,by simp[VR]⟩;simp[Builtin.len_,ht,aX hu,goInt,getObj,Sem.run,hb,hsz]
  ·cases hs
 ·next _ n _ hu=>cases hs;exact⟨.int .i64 n,by cases x<;>simp[Builtin.len_,ht,aX hu,goInt],by simp[VR]⟩
 ·cases hs
theorem akE(b o i j:Nat):((⟨b,o+i,none⟩:Addr)==⟨b,o+j,none⟩)=(i==j):=by rw[wU];simp
section
variable{t e:TypeId}
theorem aeJ{n:Nat}(hu:P.underlying t=some (.pointer e))(hn:sizeT P e=some n)(h0:n≠0)(b o i j:Nat):
 (Op.equal t (.pointer (some ⟨b,o+i,none⟩)) (.pointer (some ⟨b,o+j,none⟩))).run P w=.ok (i==j) w:=by
 have H:∀d:Nat,(Op.equalIn (d+1) t (.pointer (some ⟨b,o+i,none⟩)) (.pointer (some ⟨b,o+j,none⟩))).run P w=.ok (i==j) w:=λd=>by simp only[Op.equalIn,aS,aX hu,aQ,iY hn,aj h0,uG];simp only[sameAddr,beq_self_eq_true,if_true,bF,akE,aS,aQ]
 exact H 9999
theorem EL(hu:P.underlying t=some (.pointer e))(a:Addr):(Op.equal t (.pointer (some a)) (.pointer none)).run P w=.ok false w:=by
 have H:∀d:Nat,(Op.equalIn (d+1) t (.pointer (some a)) (.pointer none)).run P w=.ok false w:=λd=>by simp only[Op.equalIn,aS,aX hu,aQ,bF]
 exact H 9999
theorem EK(hu:P.underlying t=some (.pointer e))(a:Addr):(Op.equal t (.pointer none) (.pointer (some a))).run P w=.ok false w:=by
 have H:∀d:Nat,(Op.equalIn (d+1) t (.pointer none) (.pointer (some a))).run P w=.ok false w:=λd=>by simp only[Op.equalIn,aS,aX hu,aQ,bF,JU]
 exact H 9999
theorem SK(hu:P.underlying t=some (.slice e))(a:Addr)(l c:Nat):(Op.equal t (.slice (some a) l c) (.slice none 0 0)).run P w=.ok false w:=by
 have H:∀d:Nat,(Op.equalIn (d+1) t (.slice (some a) l c) (.slice none 0 0)).run P w=.ok false w:=λd=>by simp only[Op.equalIn,aS,aX hu,aQ,bF]
 exact H 9999
theorem SI(hu:P.underlying t=some (.slice e))(a:Addr)(l c:Nat):(Op.equal t (.slice none 0 0) (.slice (some a) l c)).run P w=.ok false w:=by
 have H:∀d:Nat,(Op.equalIn (d+1) t (.slice none 0 0) (.slice (some a) l c)).run P w=.ok false w:=λd=>by simp only[Op.equalIn,aS,aX hu,aQ,bF,JU]
 exact H 9999
theorem aeF{ms:Array (String×TypeId)}(hu:P.underlying t=some (.interface ms))(u:TypeId)(x:Value):(Op.equal t (.iface u x) .nilIface).run P w=.ok false w:=by
 have H:∀d:Nat,(Op.equalIn (d+1) t (.iface u x) .nilIface).run P w=.ok false w:=λd=>by simp only[Op.equalIn,aS,aX hu,aQ,bF]
 exact H 9999
theorem aeH{ms:Array (String×TypeId)}(hu:P.underlying t=some (.interface ms))(u:TypeId)(x:Value):(Op.equal t .nilIface (.iface u x)).run P w=.ok false w:=by
 have H:∀d:Nat,(Op.equalIn (d+1) t .nilIface (.iface u x)).run P w=.ok false w:=λd=>by simp only[Op.equalIn,aS,aX hu,aQ,bF]
 exact H 9999
theorem aeG{k:TypeId}(hu:P.underlying t=some (.map k e))(r:Nat):(Op.equal t (.map (some r)) (.map none)).run P w=.ok false w:=by
 have H:∀d:Nat,(Op.equalIn (d+1) t (.map (some r)) (.map none)).run P w=.ok false w:=λd=>by simp only[Op.equalIn,aS,aX hu,aQ,bF]
 exact H 9999
theorem aeI{k:TypeId}(hu:P.underlying t=some (.map k e))(r:Nat):(Op.equal t (.map none) (.map (some r))).run P w=.ok false w:=by
 have H:∀d:Nat,(Op.equalIn (d+1) t (.map none) (.map (some r))).run P w=.ok false w:=λd=>by simp only[Op.equalIn,aS,aX hu,aQ,bF,JU]
 exact H 9999
end
theorem qQ{t:TypeId}{x y:Operand}{u u':Value}{r:Bool}(h:(Op.equal t u u').run P w=.ok r w)
 (hb:binOp .eql t u u'=(do pure (.bool (<-Op.equal t u u')))) (hg:(eqGuard .eql t x y u u').run P w=.ok () w):
 (do eqGuard .eql t x y u u';binOp .eql t u u':Sem Value).run P w=.ok (.bool r) w:=by
 simp only[aS,hg,aQ,hb,h,bF]
theorem qR{t:TypeId}{x y:Operand}{u u':Value}{r:Bool}(h:(Op.equal t u u').run P w=.ok r w)
 (hb:binOp .neq t u u'=(do pure (.bool (!(<-Op.equal t u u'))))) (hg:(eqGuard .neq t x y u u').run P w=.ok () w):
 (do eqGuard .neq t x y u u';binOp .neq t u u':Sem Value).run P w=.ok (.bool (!r)) w:=by
 simp only[aS,hg,aQ,hb,h,bF]
theorem adP{op:BinOp}{t:TypeId}{x y:Operand}{k:IntKind}{a b c d m n:Int}{v:AV}(hs:Sj op a b c d=some v)(h1:a<=m)(h2:m<=b)(h3:c<=n)(h4:n<=d):
 ∃z,(do eqGuard op t x y (.int k m) (.int k n);binOp op t (.int k m) (.int k n):Sem Value).run P w=.ok z w/\VR F v z:=by
 have key:∀(op:BinOp)(r:Bool),(eqGuard op t x y (.int k m) (.int k n)).run P w=.ok () w->binOp op t (.int k m) (.int k n)=(if k≠k then stuck "BinOp: operands of different kinds" else Op.intCmp op m n)->Op.intCmp op m n=pure (.bool r)->
  (do eqGuard op t x y (.int k m) (.int k n);binOp op t (.int k m) (.int k n):Sem Value).run P w=.ok (.bool r) w:=by
  intro op r hg hb hc;rw[aS,hg,aQ,hb,ah (by simp),hc];rfl
 cases op<;>simp only[Sj,reduceCtorEq]at hs
 all_goals split at hs
 all_goals try split at hs
 all_goals cases hs
 all_goals refine⟨_,key _ _ rfl rfl rfl,?_⟩
 all_goals simp only[VR,Value.bool.injEq]
 all_goals first|(exact G7 (by omega))|(exact G6 (by omega))|(simp;omega)|skip
theorem akI(h:SR P F J w){op:BinOp}{t:TypeId}{x y:Operand}{a b v:AV}{u u':Value}(hs:sQ P op t x y a b=some v)(hx:VR F a u)(hy:VR F b u'):
 ∃z,(do eqGuard op t x y u u';binOp op t u u':Sem Value).run P w=.ok z w/\VR F v z:=by
 unfold sQ at hs;split at hs
 ·split at hs
  ·next e hu=>
   split at hs
   ·next n hn=>
    split at hs
    ·next hc=>
     cases hs;obtain⟨rfl,h0⟩:=hc;simp only[VR]at hx hy;obtain⟨q,hq,rfl⟩:=hx;obtain⟨q',hq',rfl⟩:=hy;rw[hq]at hq';cases hq';exact⟨_,qQ (aeJ hu hn h0 _ _ _ _) rfl rfl,by simp only[VR]⟩
    ·cases hs
   ·cases hs
  ·cases hs
 ·split at hs
  ·next e hu=>
   split at hs
   ·next n hn=>
    split at hs
    ·next hc=>
     cases hs;obtain⟨rfl,h0⟩:=hc;simp only[VR]at hx hy;obtain⟨q,hq,rfl⟩:=hx;obtain⟨q',hq',rfl⟩:=hy;rw[hq]at hq';cases hq';exact⟨_,qR (aeJ hu hn h0 _ _ _ _) rfl rfl,by simp only[VR]⟩
    ·cases hs
   ·cases hs
  ·cases hs
 ·split at hs
  ·next hu=>cases hs;simp only[VR]at hx hy;obtain⟨q,hq,rfl⟩:=hx;subst hy;exact⟨_,qQ (EL hu _) rfl rfl,by simp only[VR]⟩
  ·cases hs
 ·split at hs
  ·next hu=>cases hs;simp only[VR]at hx hy;obtain⟨q,hq,rfl⟩:=hy;subst hx;exact⟨_,qQ (EK hu _) rfl rfl,by simp only[VR]⟩
  ·cases hs
 ·split at hs
  ·next hu=>cases hs;simp only[VR]at hx hy;obtain⟨q,hq,rfl⟩:=hx;subst hy;exact⟨_,qR (EL hu _) rfl rfl,by simp only[VR];rfl⟩
  ·cases hs
 ·split at hs
  ·next hu=>cases hs;simp only[VR]at hx hy;obtain⟨q,hq,rfl⟩:=hy;subst hx;exact⟨_,qR (EK hu _) rfl rfl,by simp only[VR];rfl⟩
  ·cases hs
 ·split at hs
  ·next hu=>cases hs;simp only[VR]at hx hy;obtain⟨bl,off,c,xs,sz,rfl,_⟩:=hx.resolve_left (by simp);subst hy;exact⟨_,qQ (SK hu _ _ _) rfl rfl,by simp only[VR]⟩
  ·cases hs
 ·split at hs
  ·next hu=>cases hs;simp only[VR]at hx hy;obtain⟨bl,off,c,xs,sz,rfl,_⟩:=hy.resolve_left (by simp);subst hx;exact⟨_,qQ (SI hu _ _ _) rfl rfl,by simp only[VR]⟩
  ·cases hs
 ·split at hs
  ·next hu=>cases hs;simp only[VR]at hx hy;obtain⟨bl,off,c,xs,sz,rfl,_⟩:=hx.resolve_left (by simp);subst hy;exact⟨_,qR (SK hu _ _ _) rfl rfl,by simp only[VR];rfl⟩
  ·cases hs
 ·split at hs
  ·next hu=>cases hs;simp only[VR]at hx hy;obtain⟨bl,off,c,xs,sz,rfl,_⟩:=hy.resolve_left (by simp);subst hx;exact⟨_,qR (SI hu _ _ _) rfl rfl,by simp only[VR];rfl⟩
  ·cases hs
 ·split at hs
  ·next hu=>cases hs;simp only[VR]at hx hy;obtain⟨bl,base,cs,elem,fr,x,_,_,rfl,_⟩:=hx;subst hy;exact⟨_,qQ (EL hu _) rfl rfl,by simp only[VR]⟩
  ·cases hs
 ·split at hs
  ·next hu=>cases hs;simp only[VR]at hx hy;obtain⟨bl,base,cs,elem,fr,x,_,_,rfl,_⟩:=hy;subst hx;exact⟨_,qQ (EK hu _) rfl rfl,by simp only[VR]⟩
  ·cases hs
 ·split at hs
  ·next hu=>cases hs;simp only[VR]at hx hy;obtain⟨bl,base,cs,elem,fr,x,_,_,rfl,_⟩:=hx;subst hy;exact⟨_,qR (EL hu _) rfl rfl,by simp only[VR];rfl⟩
  ·cases hs
 ·split at hs
  ·next hu=>cases hs;simp only[VR]at hx hy;obtain⟨bl,base,cs,elem,fr,x,_,_,rfl,_⟩:=hy;subst hx;exact⟨_,qR (EK hu _) rfl rfl,by simp only[VR];rfl⟩
  ·cases hs
 ·split at hs
  ·next hu=>cases hs;simp only[VR]at hx hy;obtain⟨q,hq,_,rfl⟩:=hx;subst hy;exact⟨_,qQ (SK hu _ _ _) rfl rfl,by simp only[VR]⟩
  ·cases hs
 ·split at hs
  ·next hu=>cases hs;simp only[VR]at hx hy;obtain⟨q,hq,_,rfl⟩:=hy;subst hx;exact⟨_,qQ (SI hu _ _ _) rfl rfl,by simp only[VR]⟩
  ·cases hs
 ·split at hs
  ·next hu=>cases hs;simp only[VR]at hx hy;obtain⟨q,hq,_,rfl⟩:=hx;subst hy;exact⟨_,qR (SK hu _ _ _) rfl rfl,by simp only[VR];rfl⟩
  ·cases hs
 ·split at hs
  ·next hu=>cases hs;simp only[VR]at hx hy;obtain⟨q,hq,_,rfl⟩:=hy;subst hx;exact⟨_,qR (SI hu _ _ _) rfl rfl,by simp only[VR];rfl⟩
  ·cases hs
 ·split at hs
  ·next hu=>cases hs;simp only[VR]at hx hy;obtain⟨q,rfl,hq⟩:=hx;subst hy;exact⟨_,qQ (aeF hu _ _) rfl rfl,by simp only[VR]⟩
  ·cases hs
 ·split at hs
  ·next hu=>cases hs;simp only[VR]at hx hy;obtain⟨q,rfl,hq⟩:=hy;subst hx;exact⟨_,qQ (aeH hu _ _) rfl rfl,by simp only[VR]⟩
  ·cases hs
 ·split at hs
  ·next hu=>cases hs;simp only[VR]at hx hy;obtain⟨q,rfl,hq⟩:=hx;subst hy;exact⟨_,qR (aeF hu _ _) rfl rfl,by simp only[VR];rfl⟩
  ·cases hs
 ·split at hs
  ·next hu=>cases hs;simp only[VR]at hx hy;obtain⟨q,rfl,hq⟩:=hy;subst hx;exact⟨_,qR (aeH hu _ _) rfl rfl,by simp only[VR];rfl⟩
  ·cases hs
 ·split at hs
  ·next hu=>cases hs;simp only[VR]at hx hy;obtain⟨q,hq,rfl⟩:=hx;subst hy;exact⟨_,qQ (aeG hu _) rfl rfl,by simp only[VR]⟩
  ·cases hs
 ·split at hs
  ·next hu=>cases hs;simp only[VR]at hx hy;obtain⟨q,hq,rfl⟩:=hy;subst hx;exact⟨_,qQ (aeI hu _) rfl rfl,by simp only[VR]⟩
  ·cases hs
 ·split at hs
  ·next hu=>cases hs;simp only[VR]at hx hy;obtain⟨q,hq,rfl⟩:=hx;subst hy;exact⟨_,qR (aeG hu _) rfl rfl,by simp only[VR];rfl⟩
  ·cases hs
 ·split at hs
  ·next hu=>cases hs;simp only[VR]at hx hy;obtain⟨q,hq,rfl⟩:=hy;subst hx;exact⟨_,qR (aeI hu _) rfl rfl,by simp only[VR];rfl⟩
  ·cases hs
 ·split at hs
  ·next hk=>subst hk;simp only[VR]at hx hy;obtain⟨m,h1,h2,rfl⟩:=hx;subst hy;exact adP hs h1 h2 (zM _) (zM _)
  ·cases hs
 ·split at hs
  ·next hk=>subst hk;simp only[VR]at hx hy;obtain⟨m,h1,h2,rfl⟩:=hy;subst hx;exact adP hs (zM _) (zM _) h1 h2
  ·cases hs
 ·split at hs
  ·next u1 u2 h1 h2=>
   simp only[vJ]at hs;obtain⟨z,hz,hv⟩:=hs;rw[Bh h1 hx,Bh h2 hy];exact⟨z,Bf hz w,Dq _ _ _ hv⟩
  ·cases hs
def BN(F:Env):Wf->List (Nat×Value)->Prop
 |[],ps=>ps=[]
 |(i,a)::l,ps=>∃x rest,ps=(i,x)::rest/\VR F a x/\BN F l rest
theorem ae0(off:Nat):∀(l:Q6)(k:Nat)(cs:QQ),
 (l.zipIdx k).foldl (λcs (c,j)=>cs.setIfInBounds (off+j) c) cs=setFrom cs (off+k) l
 |[],_,_=>rfl
 |v::l,k,cs=>by simp only[List.zipIdx_cons,List.foldl_cons];rw[ae0 off l (k+1)];rfl
theorem ay1{c c' vs:Q3}{off:Nat}{cs:QQ}{xs:Q6}(h:zG c off vs=some c')(hc:aC F c cs.toList)(hv:aC F vs xs):aC F c' (setFrom cs off xs).toList:=by
 obtain⟨h1,h2,h3⟩:=Vq h;have hl:=hc.length;have hl':=hv.length;simp only[Jy]at hl;refine aC.of ?_ λk a hk=>?_
 ·have:=Me xs cs off;simp only[Jy];omega
 ·rw[h3]at hk;rw[vC,Vp _ _ _ _ (by omega)];split at hk
  ·next h4=>
   rw[aj (by omega)];obtain⟨x,hx,kJ⟩:=hv.at hk;exact⟨x,hx,kJ⟩
  ·rw[ah (by omega)];obtain⟨x,hx,kJ⟩:=hc.at hk;rw[vC]at hx;exact⟨x,hx,kJ⟩
theorem KF{place:Nat->Option (Nat×Nat)}:∀{ps:Wf}{qs:List (Nat×Value)}{c c':Q3}{cs:QQ},
 zU place c ps=some c'->BN F ps qs->aC F c cs.toList->∃cs',Instr.fill place cs qs=some cs'/\aC F c' cs'.toList
 |[],qs,c,c',cs,h,hp,hc=>by simp only[BN]at hp;subst hp;simp only[zU,aW]at h;subst h;exact⟨cs,rfl,hc⟩
 |(i,a)::ps,qs,c,c',cs,h,hp,hc=>by
  simp only[BN]at hp;obtain⟨x,rest,rfl,hx,hp⟩:=hp;unfold zU at h;split at h
  ·cases h
  ·next off size hpl=>
   split at h
   ·next hsz=>
    split at h
    ·next c1 hr=>
     have hcells:=yX hx;have hlen:=hcells.length;have h1:=ay1 hr hc hcells;obtain⟨hb,_,_⟩:=Vq hr;have hcl:=hc.length;simp only[Jy]at hlen hcl;obtain⟨cs',hf,hv⟩:=KF h hp h1;refine⟨cs',?_,hv⟩;unfold Instr.fill;simp only[hpl];rw[ah (by simp;omega)];rw[<-hf];congr 1;have hz:=ae0 off x.cells.toList 0 cs;rw[nC]at hz;rw[<-hz,<-Array.foldl_toList,Array.toList_zipIdx]
    ·cases h
   ·cases h
theorem Yh{ev:QP}{U:Operand->Value}(hU:∀x a,ev x=some a->VR F a (U x)):∀{l:List (Nat×Operand)}{ps:Wf},
 EN ev l=some ps->BN F ps (l.map λ(i,x)=>(i,U x))
 |[],ps,h=>by simp[EN]at h;subst h;simp[BN]
 |(i,x)::l,ps,h=>by
  unfold EN at h;split at h
  ·next v r hv hr=>
   cases h;exact⟨U x,_,rfl,hU _ _ hv,Yh hU hr⟩
  ·cases h
theorem KC{ev:QP}{U:Operand->Value}(hU:∀x a,ev x=some a->VR F a (U x)):∀{l:List Operand}{vs:Q3},
 Au ev l=some vs->aC F vs (l.map U)
 |[],vs,h=>by simp[Au]at h;subst h;simp[aC]
 |x::l,vs,h=>by
  unfold Au at h;split at h
  ·next v r hv hr=>
   cases h;exact aC.cons (hU _ _ hv) (KC hU hr)
  ·cases h
theorem agG:∀{fs:List Field}{ps:Ww},P7 P fs=some ps->(fs.mapM λf=>do pure (f.offset,<-sizeOf f.type):Sem Ww).run P w=.ok ps w
 |[],ps,h=>by simp[P7]at h;subst h;rfl
 |f::fs,ps,h=>by
  unfold P7 at h;split at h
  ·next n r hn hr=>
   cases h;simp only[aci,aS,iY hn,aQ,bF,agG hr]
  ·cases h
theorem akM{t:TypeId}{ps:Wf}{qs:Array (Nat×Value)}{v:AV}(hs:QM P t ps=some v)(hp:BN F ps qs.toList):
 ∃y,(Instr.build t qs).run P w=.ok y w/\VR F v y:=by
 unfold QM at hs;split at hs
 ·next zero fields hz hu=>
  obtain⟨z,oN,hzv⟩:=FK hz;split at hs
  ·next places hpl=>
   simp only[aZ]at hs;obtain⟨c,hf,rfl⟩:=hs;obtain⟨cs,hf',hv⟩:=KF hf hp (hzv F);refine⟨.agg cs,?_,by simp only[VR];exact⟨cs.toList,rfl,hv⟩⟩;have hm:(fields.mapM λf=>do pure (f.offset,<-sizeOf f.type):Sem (Array (Nat×Nat))).run P w=.ok ⟨places⟩ w:=by rw[Wx];simp only[WY,agG hpl,aQ]
   simp only[Instr.build,aS,oN,aQ,aX hu,hm];have:(λi:Nat=>(⟨places⟩:Array (Nat×Nat))[i]?)=λi:Nat=>places[i]?:=by funext i;simp
   rw[this,hf'];rfl
  ·cases hs
 ·next zero n elem hz hu=>
  obtain⟨z,oN,hzv⟩:=FK hz;split at hs
  ·next size hn=>
   simp only[aZ]at hs;obtain⟨c,hf,rfl⟩:=hs;obtain⟨cs,hf',hv⟩:=KF hf hp (hzv F);refine⟨.agg cs,?_,by simp only[VR];exact⟨cs.toList,rfl,hv⟩⟩;simp only[Instr.build,aS,oN,aQ,aX hu,iY hn,hf'];rfl
  ·cases hs
 ·cases hs
theorem ath{t:TypeId}{a:AV}{x:Value}(h:Ia P t=some false)(hx:VR F a x):∃y,(Instr.makeInterface t x).run P w=.ok y w/\VR F (.iW t a) y:=by
 unfold Ia at h;split at h<;>cases h
 next d hno hu=>
 refine⟨.iface t x,?_,by simp only[VR];exact⟨x,rfl,hx⟩⟩;simp only[Instr.makeInterface,aS,aX hu,aQ];cases d<;>simp_all
theorem Wu{t:TypeId}{i:TypeInfo}{z:Value}{a:AV}(hi:P.info? t=some i)(hz:i.zero=some z)(ha:lT 4 z=some a):(zeroValue t).run P w=.ok z w/\VR F a z:=
 ⟨by simp[zeroValue,FI hi,hz],Dq _ _ _ ha⟩
theorem aAz{t xt:TypeId}{a v:AV}{x:Value}{ok:Bool}(hs:Q5 P a t ok=some v)(hx:VR F a x):
 ∃y,(Instr.typeAssert x xt t ok).run P w=.ok y w/\VR F v y:=by
 unfold Q5 at hs;split at hs
 ·next u b hi=>
  simp only[VR]at hx;obtain⟨y,rfl,hy⟩:=hx;have hd:∃d,P.underlying t=some d/\∀ms,d≠.interface ms:=by
   unfold Ia at hi;split at hi<;>cases hi
   next d hno hu=>exact⟨d,hu,λms e=>hno ms e⟩
  obtain⟨d,hu,hno⟩:=hd;split at hs
  ·next e=>
   cases hs;subst e;refine⟨if ok then .tuple #[y,.bool true]else y,?_,?_⟩
   ·simp only[Instr.typeAssert,aS,aX hu,aQ];cases d<;>simp_all
   ·cases ok
    ·simpa using hy
    ·simp only[VR];exact⟨[y,.bool true],rfl,aC.cons hy (aC.cons (by simp[VR]) (by simp[aC]))⟩
  ·next e=>
   split at hs
   ·next hok=>
    split at hs
    ·next i pJ=>
     split at hs
     ·next z hz=>
      simp only[aZ]at hs;obtain⟨a,ha,rfl⟩:=hs;obtain⟨h1,h2⟩:=Wu (w:=w) (F:=F) pJ hz ha;refine⟨.tuple #[z,.bool false],?_,?_⟩
      ·subst hok;simp only[Instr.typeAssert,aS,aX hu,aQ];have e':¬u=t:=e;cases d<;>simp_all
      ·simp only[VR];exact⟨[z,.bool false],rfl,aC.cons h2 (aC.cons (by simp[VR]) (by simp[aC]))⟩
     ·cases hs
    ·cases hs
   ·cases hs
 ·next hi=>
  simp only[VR]at hx;subst hx;have hd:∃d,P.underlying t=some d/\∀ms,d≠.interface ms:=by
   unfold Ia at hi;split at hi<;>cases hi
   next d hno hu=>exact⟨d,hu,λms e=>hno ms e⟩
  obtain⟨d,hu,hno⟩:=hd;split at hs
  ·next hok=>
   split at hs
   ·next i pJ=>
    split at hs
    ·next z hz=>
     simp only[aZ]at hs;obtain⟨a,ha,rfl⟩:=hs;obtain⟨h1,h2⟩:=Wu (w:=w) (F:=F) pJ hz ha;refine⟨.tuple #[z,.bool false],?_,?_⟩
     ·subst hok;simp only[Instr.typeAssert,aS,aX hu,aQ];cases d<;>simp_all
     ·simp only[VR];exact⟨[z,.bool false],rfl,aC.cons h2 (aC.cons (by simp[VR]) (by simp[aC]))⟩
    ·cases hs
   ·cases hs
  ·cases hs
 ·cases hs
theorem apv{l:Q3}{k:Nat}{v:AV}{x:Value}(hs:l[k]? =some v)(hx:VR F (.dP l) x):∃y,(Instr.extract x k).run P w=.ok y w/\VR F v y:=by simp only[VR]at hx;obtain⟨vs,rfl,hv⟩:=hx;obtain⟨y,hy,uQ⟩:=hv.at hs;exact⟨y,by simp[Instr.extract,hy],uQ⟩
theorem Gu(s s':Q0):((⟨⟨s⟩⟩:ByteArray)==⟨⟨s'⟩⟩)=(s==s'):=by
 show ByteArray.beq _ _=_
 unfold ByteArray.beq;simp
theorem afZ{kd:TypeDesc}{a b:AV}{x y:Value}{r:Bool}(hf:match kd,a with|.int _,.i _ _|.int _,.z _ _ _|.string,.s _|.bool,.b _=>True|_,_=>False)(h:Zd a b=some r)(hx:VR F a x)(hy:VR F b y):
 Instr.sameNow kd x y=some r:=by
 unfold Zd at h;split at h
 ·next k n k' n'=>
  simp only[VR]at hx hy;subst hx;subst hy;cases kd<;>simp at hf
  simp only[Instr.sameNow];split at h
  ·next e=>rw[aj e];exact h
  ·cases h
 ·next s s'=>
  simp only[VR]at hx hy;subst hx;subst hy;cases kd<;>simp at hf
  simp only[Instr.sameNow];rw[<-h,Gu]
 ·next s s'=>
  simp only[VR]at hx hy;subst hx;subst hy;cases kd<;>simp at hf
  simp only[Instr.sameNow];exact h
 ·next k lo hi k' n=>
  simp only[VR]at hx hy;obtain⟨m,h1,h2,rfl⟩:=hx;subst hy;cases kd<;>simp at hf
  split at h
  ·next e=>
   cases h;obtain⟨e,e2⟩:=e;simp only[Instr.sameNow];rw[aj e];have:m≠n:=by omega
   simp[this]
  ·cases h
 ·cases h
def zO(F:Env)(es:Xs)(ms:List MapEntry):Prop:=
 ms.length=es.length/\∀(k:Nat) e,es[k]? =some e->∃m,ms[k]? =some m/\VR F e.1 m.key/\VR F e.2 m.val
theorem zO.tail{e:AV×AV}{es:Xs}{ms:List MapEntry}(h:zO F (e::es) ms):∃m rest,ms=m::rest/\VR F e.1 m.key/\VR F e.2 m.val/\zO F es rest:=by
 obtain⟨hl,hp⟩:=h;cases ms with
 |nil=>simp at hl
 |cons m rest=>obtain⟨m',hm,h1,h2⟩:=hp 0 e (by simp);simp at hm;subst hm;exact⟨m,rest,rfl,h1,h2,by simpa using hl,λk e' hk=>by simpa using hp (k+1) e' (by simpa using hk)⟩
def JA(kd:TypeDesc)(a:AV):Prop:=match kd,a with|.int _,.i _ _|.int _,.z _ _ _|.string,.s _|.bool,.b _=>True|_,_=>False
theorem find_ok{kd:TypeDesc}{k:AV}{x:Value}(hf:JA kd k)(hx:VR F k x):∀{es:Xs}{ms:List MapEntry}{i:Nat}{r:Option (Nat×AV)},
 Hl k es i=some r->zO F es ms->∃r',Instr.findNow kd x ms i=some r'/\(match r,r' with|none,none=>True|some (j,v),some (j',y)=>j=j'/\i<=j/\j<i+es.length/\VR F v y|_,_=>False)
 |[],ms,i,r,h,hm=>by
  simp only[Hl,aW]at h;subst h;have:ms=[]:=by have:=hm.1;cases ms<;>simp_all
  subst this;exact⟨none,rfl,trivial⟩
 |e::es,ms,i,r,h,hm=>by
  obtain⟨m,rest,rfl,h1,h2,h3⟩:=hm.tail;unfold Hl at h;split at h
  ·next hk=>
   cases h;have hs:=afZ (kd:=kd) hf hk hx h1;exact⟨some (i,m.val),by simp[Instr.findNow,hs],rfl,bV _,by simp,h2⟩
  ·next hk=>
   have hs:=afZ (kd:=kd) hf hk hx h1;obtain⟨r',hr,hrel⟩:=find_ok hf hx h h3;refine⟨r',by simp[Instr.findNow,hs,hr],?_⟩;cases r<;>cases r'<;>simp only at hrel⊢
   obtain⟨a,b,c,d⟩:=hrel;exact⟨a,by omega,by simp;omega,d⟩
  ·cases h
theorem aeU{t:TypeId}{k:AV}(h:Tc P t k=true):∃kd,P.underlying t=some kd/\JA kd k:=by
 unfold Tc at h;split at h
 ·next hu=>exact⟨_,hu,trivial⟩
 ·next hu=>exact⟨_,hu,trivial⟩
 ·next hu=>exact⟨_,hu,trivial⟩
 ·next hu=>exact⟨_,hu,trivial⟩
 ·cases h
theorem adG{t:TypeId}{k:AV}{x:Value}{kd:TypeDesc}(hu:P.underlying t=some kd)(hf:JA kd k)(hx:VR F k x)(b:Bool):(Instr.checkKey b 10000 t x).run P w=.ok () w:=by
 have H:∀n:Nat,(Instr.checkKey b (n+1) t x).run P w=.ok () w:=λn=>by cases kd<;>cases k<;>simp only[JA]at hf<;>simp only[VR]at hx<;>(first|subst hx|obtain⟨_,_,_,rfl⟩:=hx)<;>simp only[Instr.checkKey,aS,aX hu,aQ,bF]
 exact H 9999
def rQ(kt et:TypeId)(y:Value)(ok:Bool)(es:Array MapEntry):Sem Value:=do
 Instr.checkKey es.isEmpty 10000 kt y
 let(v,k) <-match <-Instr.findKey kt y es.toList with
  |some (_,v)=>pure (v,true)
  |none=>pure (<-zeroValue et,false)
 pure (if ok then .tuple #[v,.bool k]else v)
theorem lookup_nil{t kt et:TypeId}(hu:P.underlying t=some (.map kt et))(y:Value)(ok:Bool):(Instr.lookup t (.map none) y ok).run P w=(rQ kt et y ok #[]).run P w:=by simp only[Instr.lookup,rQ,aS,aX hu,aQ,bF];congr 1
theorem Uz{t kt et:TypeId}(hu:P.underlying t=some (.map kt et))(y:Value)(ok:Bool){r:Nat}{ms:Array MapEntry}{clock:Nat}(hb:w.heap[r]? =some (.map ms clock)):
 (Instr.lookup t (.map (some r)) y ok).run P w=(rQ kt et y ok ms).run P w:=by
 have hg:(getObj r).run P w=.ok (.map ms clock) w:=by simp[getObj,Sem.run,hb]
 simp only[Instr.lookup,rQ,aS,aX hu,aQ,bF,hg];congr 1
theorem as9(h:SR P F J w){t:TypeId}{m k v:AV}{x y:Value}{ok:Bool}(hs:QT P t m k ok J=some v)(hx:VR F m x)(hy:VR F k y):
 ∃z,(Instr.lookup t x y ok).run P w=.ok z w/\VR F v z:=by
 unfold QT at hs;split at hs
 ·next kt et hu=>
  split at hs
  ·next es hes=>
   split at hs
   ·next hfit=>
    obtain⟨kd,nY,hf⟩:=aeU hfit;have hms:∃ms:Array MapEntry,(Instr.lookup t x y ok).run P w=(rQ kt et y ok ms).run P w/\zO F es ms.toList:=by
     split at hes
     ·cases hes;simp only[VR]at hx;subst hx;exact⟨#[],lookup_nil hu y ok,by simp[zO]⟩
     ·next id=>
      simp only[VR]at hx;obtain⟨q,hq,rfl⟩:=hx;split at hes
      ·next es' hg=>
       cases hes;obtain⟨q',hq',ms,clock,hb,hsz,hp⟩:=h.obj _ _ hg rfl;rw[hq]at hq';cases hq';refine⟨ms,Uz hu y ok hb,by simpa using hsz,λk e hk=>?_⟩;obtain⟨m,hm,h1,h2⟩:=hp k e hk;exact⟨m,by simpa using hm,h1,h2⟩
      ·cases hes
     ·cases hes
    obtain⟨ms,hrun,hmr⟩:=hms;rw[hrun];have hck:∀b,(Instr.checkKey b 10000 kt y).run P w=.ok () w:=λb=>adG nY hf hy b;have key:∀r,Hl k es 0=some r->∃r',(Instr.findKey kt y ms.toList).run P w=.ok r' w/\(match r,r' with|none,none=>True|some (j,v),some (j',y)=>j=j'/\0<=j/\j<0+es.length/\VR F v y|_,_=>False):=λr hr=>by obtain⟨r',h1,h2⟩:=find_ok hf hy hr hmr;exact⟨r',by simp only[Instr.findKey,aS,aX nY,aQ,h1,bF],h2⟩
    split at hs
    ·next j u hfound=>
     cases hs;obtain⟨r',h1,h2⟩:=key _ hfound;cases r' with
     |none=>exact h2.elim
     |some p=>
      obtain⟨j',z⟩:=p;obtain⟨rfl,_,_,wo⟩:=h2;refine⟨if ok then .tuple #[z,.bool true]else z,?_,?_⟩
      ·simp only[rQ,aS,aQ,hck,h1,bF]
      ·cases ok
       ·simpa using wo
       ·simp only[VR];exact⟨[z,.bool true],rfl,aC.cons wo (aC.cons (by simp[VR]) (by simp[aC]))⟩
    ·next hfound=>
     obtain⟨r',h1,h2⟩:=key _ hfound;cases r' with
     |some p=>exact h2.elim
     |none=>
      split at hs
      ·next i pJ=>
       split at hs
       ·next z hz=>
        simp only[aZ]at hs;obtain⟨a,ha,rfl⟩:=hs;obtain⟨h3,h4⟩:=Wu (w:=w) (F:=F) pJ hz ha;refine⟨if ok then .tuple #[z,.bool false]else z,?_,?_⟩
        ·simp only[rQ,aS,aQ,hck,h1,h3,bF]
        ·cases ok
         ·simpa using h4
         ·simp only[VR];exact⟨[z,.bool false],rfl,aC.cons h4 (aC.cons (by simp[VR]) (by simp[aC]))⟩
       ·cases hs
      ·cases hs
    ·cases hs
   ·cases hs
  ·cases hs
 ·cases hs
theorem ayU{k:AV}{x y:Value}{kd:TypeDesc}(hf:JA kd k)(hx:VR F k x)(hy:Instr.sameNow kd x y=some true)(n:Nat):Instr.sameBits (n+1) y x=true:=by
 cases kd<;>cases k<;>simp only[JA]at hf<;>simp only[VR]at hx<;>(first|subst hx|obtain⟨_,_,_,rfl⟩:=hx)<;>cases y<;>simp only[Instr.sameNow,aW,reduceCtorEq]at hy
 ·simp_all [Instr.sameBits]
 ·split at hy
  ·simp_all [Instr.sameBits]
  ·cases hy
 ·split at hy
  ·simp_all [Instr.sameBits]
  ·cases hy
 ·next s s'=>
  obtain⟨⟨l⟩⟩:=s';rw[Gu]at hy;simp only[Instr.sameBits,Gu];simp_all
theorem Cm(h:SR P F J w){c:Q3}{xs:QQ}{elem:TypeId}{opn:Bool}{es:Nat}(hv:aC F c (xs.toList.take c.length))(hle:c.length<=xs.size)(hshut:opn=false->c.length=xs.size)
 (hroom:opn=true->elem≠0/\0<es/\sizeT P elem=some es):
 St P F J w (F.put J.next ⟨w.heap.size,0,xs.size,es⟩) (J.new (.cells c elem true opn)) {w with heap:=w.heap.push (.cells xs elem)}:=by
 refine St.alloc h _ _ _ rfl ?_;refine⟨xs,elem,(0,0),by simp,?_⟩;refine {fits:=by simp,le:=hle,shut:=hshut,cell:=?_,free:=λ_ k _=>by simp,whole:=λ_=>⟨rfl,by simp,λ_=>rfl⟩,room:=hroom};intro k a hk;obtain⟨x,hx,kJ⟩:=hv.at hk;have hkl:k<c.length:=(eU.1 hk).1;rw[kS,aj hkl]at hx;exact⟨x,by simpa using hx,VR.mono (Env.FD h _) _ _ kJ⟩
theorem ag3{q:Place}{id:Nat}(h0:q.ba=0):VR (F.put id q) (.p id 0) (.pointer (some ⟨q.bl,0,none⟩)):=by simp only[VR];exact⟨q,by simp[Env.put],by simp[h0]⟩
theorem akn(h:SR P F J w){t:TypeId}{z:Q3}(hz:yH P t=some z):
 ∃y w' F',(Instr.alloc t true (.tuple #[])).run P w=.ok y w'/\St P F J w F' (J.new (.cells z t true false)) w'/\VR F' (.p J.next 0) y:=by
 obtain⟨zv,oN,hzv⟩:=FK hz;have hl:=(hzv F).length;refine⟨_,_,_,?_,Cm h (xs:=zv.cells) (es:=0) (opn:=false) ?_ (by simpa using JO hl) (λ_=>by simpa using hl) (by simp),ag3 rfl⟩
 ·simp only[Instr.alloc,aS,oN,aQ,newVar,newRow,newObj,Sem.run,bF]
 ·rw[hl,yO];exact hzv F
theorem ada(h:SR P F J w){t:TypeId}{a:AV}{x:Value}(hx:VR F a x):
 ∃y w' F',(Instr.box t x).run P w=.ok y w'/\St P F J w F' (J.new (.cells a.cells t true false)) w'/\VR F' (.p J.next 0) y:=by
 have hc:=yX hx;have hl:=hc.length;refine⟨_,_,_,?_,Cm h (xs:=x.cells) (es:=0) (opn:=false) ?_ (by simpa using JO hl) (λ_=>by simpa using hl) (by simp),ag3 rfl⟩
 ·simp only[Instr.box,aS,aQ,newVar,newRow,newObj,Sem.run,bF]
 ·rw[hl,yO];exact hc
theorem Ar{t e:TypeId}{size bytes:Nat}{z:Q3}(h:vW P t=some (e,size,bytes,z)):
 P.underlying t=some (.slice e)/\(∃i,P.info? e=some i/\i.size=size/\i.bytes=bytes)/\yH P e=some z/\e≠0/\z.length=size/\sizeT P e=some size:=by
 unfold vW at h;split at h
 ·next e' hu=>
  split at h
  ·next i z' hi hz=>
   split at h
   ·next hc=>
    cases h;exact⟨hu,⟨i,hi,rfl,rfl⟩,hz,hc.1,hc.2,by simp[sizeT,hi]⟩
   ·cases h
  ·cases h
 ·cases h
theorem ah7{z:Q3}:∀(n k:Nat),k<n*z.length->(jk n z)[k]? =z[k%z.length]?
 |0,k,h=>by simp at h
 |n+1,k,h=>by
  have hs:jk (n+1) z=z++jk n z:=by simp[jk,Ns]
  rw[hs];have hp:0<z.length:=by rcases QD z.length with e|e<;>simp_all
  by_cases hk:k<z.length
  ·rw[mP hk,Nv hk]
  ·rw[vF (by omega),ah7 n (k-z.length) (by rw[Nat.succ_mul]at h;omega)];congr 1;have:k=(k-z.length)+z.length:=by omega
   rw[this,Nat.add_mod_right];congr 1;omega
theorem U8{z:Q3}(n:Nat):(jk n z).length=n*z.length:=by simp[jk]
theorem Qq{z:Q3}{zv:QQ}{n size:Nat}(hz:aC F z zv.toList)(hs:z.length=size):aC F (jk n z) ((Array.range (n*size)).map (zv[· % zv.size]!)).toList:=by
 have hl:=hz.length;simp only[Jy]at hl;refine aC.of ?_ λk a hk=>?_
 ·rw[U8];simp[hs]
 ·have hkl:k<n*z.length:=by have:=(eU.1 hk).1;rwa [U8]at this
  rw[ah7 n k hkl]at hk;obtain⟨x,hx,hv⟩:=hz.at hk;refine⟨x,?_,hv⟩;have hk2:k<n*size:=by rw[<-hs];exact hkl
  rw[vC]at hx;rw[vC,Array.getElem?_map,Array.getElem?_range,aj hk2];have hm:k%zv.size<zv.size:=by have:=(qh.1 hx).1;rwa [hl]at this
  rw[hl]at hx;simp[hm,getElem!_pos];have:=(qh.1 hx).2;exact this
