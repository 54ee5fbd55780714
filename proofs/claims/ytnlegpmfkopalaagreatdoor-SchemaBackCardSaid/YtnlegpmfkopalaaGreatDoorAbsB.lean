/- The operations, one by one: what the model's operation does where the evaluator's answers. -/
import Derived.Test.YtnlegpmfkopalaaGreatDoorAbsA
import Derived.Lib.Builder
namespace Go.aN
set_option linter.unusedSimpArgs false
noncomputable section
variable [aF]
set_option linter.unusedSectionVars false
set_option linter.unusedVariables false
variable {P:Program} {η:Env} {σ σ':au} {w:World}
theorem aV {t:TypeId} {d:TypeDesc} (h:P.underlying t=some d):(underlying t).run P w=.ok d w:=by
 simp [underlying,program,Sem.run,h]
theorem iC {t:TypeId} {n:Nat} (h:sizeT P t=some n):(sizeOf t).run P w=.ok n w:=by
 simp only [sizeT,aW] at h;obtain ⟨i,hi,rfl⟩:=h;simp [sizeOf,typeInfo,program,Sem.run,hi]
theorem Fh {t:TypeId} {b:Bool} (h:mX P t=some b):(isAgg t).run P w=.ok b w:=by
 unfold mX at h;split at h<;>cases h
 ·next h'=>simp [isAgg,aV h']
 ·next h'=>simp [isAgg,aV h']
 ·next d h' h1 h2=>
  cases d<;>simp_all [isAgg,aV]
theorem CJ {t:TypeId} {i:TypeInfo} (h:P.info? t=some i):(typeInfo t).run P w=.ok i w:=by
 simp [typeInfo,program,Sem.run,h]
theorem acE {v:Value} (h:nT v=true):v.cells = #[v]:=by cases v<;>simp [nT] at h<;>rfl
theorem GR.nT {ro:Nat->Option Obj} {g:GV} {v:Value} (h:GR ro g v) (hs:g.scalar=true):nT v=true:=by
 cases g<;>simp only [GR] at h
 case g cs=>cases hs
 case l xs=>rcases h with ⟨_,_,rfl⟩ | ⟨bl,off,c,ys,sz,rfl,_⟩<;>rfl
 all_goals subst h;rfl
def AV.sym:AV->Bool
 | .nd _ | .rx _ _ | .sv _ _ | .pv _ _ _ | .pd _ _=>true
 | _=>false
theorem VR.aeg {a:AV} {v:Value} (ha:a.sym=true) (h:VR η a v):nT v=true:=by
 cases a<;>simp only [VR] at h<;>first | (cases ha;done) | skip
 case nd n=>obtain ⟨g,_,h2,h3⟩:=h;exact h3.nT h2
 case rx n off=>obtain ⟨g,bl,base,cs,elem,fr,x,h1,h2,h3,rfl,_⟩:=h;rfl
 case sv id n=>obtain ⟨xs,_,⟨q,_,_,rfl⟩ | ⟨_,_,rfl⟩⟩:=h<;>rfl
 case pv id n off=>obtain ⟨q,k,i,_,_,rfl⟩:=h;rfl
 case pd id n=>obtain ⟨xs,p,_,rfl,_⟩:=h;rfl
theorem af4 {a:AV} {v:Value} (ha:a.sym=true) (h:VR η a v):ay η a.cells v.cells.toList:=by
 have h1:=acE (VR.aeg ha h);have h2:a.cells=[a]:=by cases a<;>first | rfl | (cases ha)
 rw [h1,h2];exact ay.cons h (by simp [ay])
theorem wY {a:AV} {v:Value} (h:VR η a v):ay η a.cells v.cells.toList:=by
 by_cases hs:a.sym=true
 ·exact af4 hs h
 cases a<;>first | (exact absurd rfl hs) | skip
 all_goals simp only [VR] at h
 case agg l=>obtain ⟨vs,rfl,h1⟩:=h;simpa [AV.cells,Value.cells] using h1
 case dQ l=>obtain ⟨vs,rfl,h1⟩:=h;simp only [AV.cells,Value.cells];exact ay.cons (by simp only [VR];exact ⟨vs,rfl,h1⟩) (by simp [ay])
 case p id off=>obtain ⟨q,hq,rfl⟩:=h;exact ay.cons (by simp only [VR];exact ⟨q,hq,rfl⟩) (by simp [ay])
 case sl id off len cap=>obtain ⟨q,hq,hle,rfl⟩:=h;exact ay.cons (by simp only [VR];exact ⟨q,hq,hle,rfl⟩) (by simp [ay])
 case mp id=>obtain ⟨q,hq,rfl⟩:=h;exact ay.cons (by simp only [VR];exact ⟨q,hq,rfl⟩) (by simp [ay])
 case fn f fi cs=>obtain ⟨us,vs,rfl,h1,h2⟩:=h;exact ay.cons (by simp only [VR];exact ⟨us,vs,rfl,h1,h2⟩) (by simp [ay])
 case dZ t b=>obtain ⟨x,rfl,h1⟩:=h;exact ay.cons (by simp only [VR];exact ⟨x,rfl,h1⟩) (by simp [ay])
 case z k lo hi=>obtain ⟨n,h1,h2,rfl⟩:=h;exact ay.cons (by simp only [VR];exact ⟨n,h1,h2,rfl⟩) (by simp [ay])
 case ro l=>
  have h':VR η (.ro l) v:=by simp only [VR];exact h
  rcases h with ⟨_,_,rfl⟩ | ⟨bl,off,c,xs,sz,rfl,h1⟩
  ·exact ay.cons h' (by simp [ay])
  ·exact ay.cons h' (by simp [ay])
 case rp a off=>obtain ⟨bl,base,cs,elem,fr,x,h1,h2,rfl,h3⟩:=h;exact ay.cons (by simp only [VR];exact ⟨bl,base,cs,elem,fr,x,h1,h2,rfl,h3⟩) (by simp [ay])
 all_goals subst h;exact ay.cons (by simp only [VR]) (by simp [ay])
theorem VH {a:AV} {v:Value} (h:VR η a v) (ha:a.lM=true):nT v=true:=by
 by_cases hs:a.sym=true
 ·exact h.aeg hs
 cases a<;>first | (exact absurd rfl hs) | skip
 all_goals simp only [VR] at h
 all_goals simp [AV.lM] at ha
 case p id off=>obtain ⟨q,hq,rfl⟩:=h;rfl
 case sl id off len cap=>obtain ⟨q,hq,_,rfl⟩:=h;rfl
 case mp id=>obtain ⟨q,hq,rfl⟩:=h;rfl
 case fn f fi cs=>obtain ⟨us,vs,rfl,h1,h2⟩:=h;rfl
 case dZ t b=>obtain ⟨x,rfl,h1⟩:=h;rfl
 case z k lo hi=>obtain ⟨n,h1,h2,rfl⟩:=h;rfl
 case ro l=>rcases h with ⟨_,_,rfl⟩ | ⟨bl,off,c,xs,sz,rfl,h1⟩<;>rfl
 case rp a off=>obtain ⟨bl,base,cs,elem,fr,x,h1,h2,rfl,h3⟩:=h;rfl
 all_goals subst h;rfl
theorem DU {xs:List Value} {sz:Nat} (h:∀x∈xs,x.cells.size=sz):(dJ xs).length=xs.length * sz:=by
 induction xs with
 | nil=>simp [dJ]
 | cons x xs ih=>
   have h0:=h x (by simp);have:=ih λy hy=>h y (by simp [hy]);simp only [dJ,jl,dS,iT] at this ⊢;rw [this,oN,Dk,F6];simp [h0]
theorem Zn {xs:List Value} {sz:Nat} (h:∀x∈xs,x.cells.size=sz) (i:Nat):(dJ xs).drop (i * sz)=dJ (xs.drop i):=by
 induction xs generalizing i with
 | nil=>simp [dJ]
 | cons x xs ih=>
   cases i with
   | zero=>simp
   | succ i=>
     have h0:=h x (by simp);have:=ih (λy hy=>h y (by simp [hy])) i;simp only [Jl];rw [<- this];simp only [dJ,jl];have hl:x.cells.toList.length=sz:=by simpa using h0
     rw [show (i+1) * sz=x.cells.toList.length+i * sz by rw [hl,oN,Dk,F6]];rw [Yi,List.drop_of_length_le (by omega),dA,RS]
theorem afZ {xs:List Value} {sz:Nat} (h:∀x∈xs,x.cells.size=sz) (i:Nat):(dJ xs).take (i * sz)=dJ (xs.take i):=by
 induction xs generalizing i with
 | nil=>simp [dJ]
 | cons x xs ih=>
   cases i with
   | zero=>simp [dJ]
   | succ i=>
     have h0:=h x (by simp);have:=ih (λy hy=>h y (by simp [hy])) i;simp only [wP];simp only [dJ,jl] at this ⊢;have hl:x.cells.toList.length=sz:=by simpa using h0
     rw [show (i+1) * sz=x.cells.toList.length+i * sz by rw [hl,oN,Dk,F6]];rw [List.take_length_add_append,this]
theorem Zl {xs:List Value} {sz i:Nat} {x:Value} (h:∀x∈xs,x.cells.size=sz) (hi:xs[i]? = some x) (k:Nat) (hk:k < sz):(dJ xs)[i * sz+k]? = x.cells[k]?:=by
 have h1:=Zn h i;have hlt:=(dY.1 hi).1;have hd:xs.drop i=x::xs.drop (i+1):=by
  rw [<- (dY.1 hi).2];exact jc hlt
 have:(dJ xs)[i * sz+k]? = ((dJ xs).drop (i * sz))[k]?:=by rw [pU]
 rw [this,h1,hd];have hs:=h x (qK hi);simp only [dJ,jl];rw [kT (by simpa [hs] using hk)];simp
theorem NJ {a:AV} {v:Value} (h:VR η a v):a.cells.length=v.cells.size:=by
 have:=(wY h).length;simpa using this
theorem aaD {l:List AV} {xs:List Value} (h:ay η l xs):ay η (l.flatMap AV.cells) (dJ xs):=by
 induction l generalizing xs with
 | nil=>simp only [ay] at h;subst h;simp [ay,dJ]
 | cons a l ih=>
   simp only [ay] at h;obtain ⟨x,ys,rfl,h1,h2⟩:=h;simp only [jl,dJ];exact ay.append (wY h1) (ih h2)
theorem aft {l:List AV} {xs:List Value} {n:Nat} (h:ay η l xs) (ha:l.all (λa=>a.cells.length==n)=true):∀x∈xs,x.cells.size=n:=by
 intro x hx;obtain ⟨k,hk⟩:=RN.1 hx;have hlt:k < l.length:=by have:=(dY.1 hk).1;have:=h.length;omega
 obtain ⟨y,hy,rW⟩:=h.at (cO hlt);rw [hk] at hy;cases hy;have:=List.all_eq_true.1 ha _ (jo hlt);rw [<- NJ rW];simpa using this
theorem an1 {l:List AV} {v:Value} (h:VR η (.ro l) v) {i size:Nat} {a:AV} (hi:l[i]? = some a) (hs:a.cells.length=size) :
 ∃bl off c cs elem fr x,v=.slice (some ⟨bl,off,none⟩) l.length c/\l.length<=c/\η.ro bl=some (.cells cs elem fr)/\VR η a x/\off+i * size+x.cells.size<=cs.size/\Bh cs (off+i * size) x.cells.toList:=by
 simp only [VR] at h;rcases h with ⟨rfl,_⟩ | ⟨bl,off,c,xs,sz,rfl,hc,h1,h2,h3⟩
 ·simp at hi
 obtain ⟨x,hx,jQ⟩:=h1.at hi;obtain ⟨cs,elem,fr,h4,h5,h6⟩:=h3 (by intro e;subst e;simp at hi);have hsz:=h2 x (qK hx);have:sz=size:=by rw [<- hsz,<- NJ jQ,hs]
 subst this;have hlen:=DU h2;have hlt:=(dY.1 hx).1;have hmul:(i+1) * sz<=xs.length * sz:=qL _ hlt;rw [oN,Dk] at hmul;refine ⟨bl,off,c,cs,elem,fr,x,rfl,hc,h4,jQ,by omega,λk y hk=>?_⟩;have hks:k < sz:=by have:=(dY.1 hk).1;simp at this;omega
 have:=h6 (i * sz+k) y (by rw [Zl h2 hx k hks];simpa using hk);rw [<- iM] at this;exact this
theorem CO {t:TypeId} {zc:List AV} (h:wK P t=some zc):∃z,(∀w,(zeroValue t).run P w=.ok z w)/\∀η:Env,ay η zc z.cells.toList:=by
 unfold wK at h;split at h
 ·next i hi=>
  split at h
  ·next z hz=>
   simp only [aW] at h;obtain ⟨a,ha,rfl⟩:=h;exact ⟨z,λw=>by simp [zeroValue,CJ hi,hz],λη=>wY (zY _ _ _ ha)⟩
  ·cases h
 ·cases h
theorem pF {l r:List AV} {off n:Nat} (h:takeN l off n=some r):r=(l.drop off).take n/\r.length=n/\(n=0\/off+n<=l.length):=by
 simp only [takeN] at h;split at h
 ·next h1=>
  cases h;refine ⟨rfl,h1, ?_⟩;simp at h1;omega
 ·cases h
theorem aen {l r:List AV} {off n:Nat} (h:takeN l off n=some r) {k:Nat} {a:AV} (hk:r[k]? = some a):l[off+k]? = some a:=by
 obtain ⟨rfl,_,_⟩:=pF h;rw [kM] at hk;split at hk
 ·rw [pU] at hk;exact hk
 ·cases hk
theorem pK.take {q:Place} {c:List AV} {et:TypeId} {rw opn:Bool} {cs:Array Value} {elem:TypeId} {fr:Nat×Nat} (r:pK P η q c et rw opn cs elem fr)
 {off n:Nat} {l:List AV} (h:takeN c off n=some l):q.ba+off+n<=cs.size\/n=0:=by
 obtain ⟨_,_,h1⟩:=pF h;have:=r.fits;have:=r.le;omega
theorem pK.wH {q:Place} {c:List AV} {et:TypeId} {rw opn:Bool} {cs:Array Value} {elem:TypeId} {fr:Nat×Nat} (r:pK P η q c et rw opn cs elem fr)
 {off n:Nat} {l:List AV} (h:takeN c off n=some l):ay η l ((cs.toList.drop (q.ba+off)).take n):=by
 obtain ⟨hl,hlen,h1⟩:=pF h;have h2:=r.fits;have h3:=r.le;refine ay.of ?_ λk a hk=>?_
 ·simp;omega
 ·have h4:=aen h hk
  obtain ⟨x,hx,hv⟩:=r.cell _ _ h4;refine ⟨x, ?_,hv⟩;have hkn:k < n:=by have:=(dY.1 hk).1;omega
  rw [kM,aj hkn,pU];rw [<- iM] at hx;simpa using hx
theorem Ah {bl off n:Nat} {cs:Array Value} {elem:TypeId} {fr:Nat×Nat} (h:w.heap[bl]? = some (.cells cs elem fr)) (hle:off+n<=cs.size\/n=0) :
 (loadCells ⟨bl,off,none⟩ n).run P w=.ok ⟨(cs.toList.drop off).take n⟩ w:=by
 rcases hle with h1 | rfl
 ·exact run_loadCells h h1
 ·simp [loadCells,loadCellsFrom]
theorem BU (h:SR P η σ w) {t:TypeId} {a v:AV} {x:Value} (ha:tC P t σ a=some v) (hx:VR η a x) :
 ∃y,(Instr.loadAt t x).run P w=.ok y w/\VR η v y:=by
 unfold tC at ha;split at ha
 ·next id off=>
  split at ha
  ·next c et rw opn hg=>
   obtain ⟨q,hq,cs,elem,fr,hb,r⟩:=h.obj _ _ hg rfl;simp only [VR] at hx;obtain ⟨q',hq',rfl⟩:=hx;rw [hq] at hq';cases hq';split at ha
   ·next hagg=>
    split at ha
    ·next n hn=>
     simp only [aW] at ha;obtain ⟨l,hl,rfl⟩:=ha;refine ⟨.agg ⟨(cs.toList.drop (q.ba+off)).take n⟩, ?_, ?_⟩
     ·simp only [Instr.loadAt,Instr.sureAddr,aS,bC,aQ,loadVar,Fh hagg,if_true,iC hn,rJ]
      rw [Ah hb (r.take hl)];rfl
     ·simp only [VR];exact ⟨_,rfl,r.wH hl⟩
    ·cases ha
   ·next hagg=>
    obtain ⟨x,hx,hv⟩:=r.cell _ _ ha;refine ⟨x, ?_,hv⟩;simp only [Instr.loadAt,Instr.sureAddr,aS,bC,aQ,loadVar,Fh hagg,rJ];exact adL hb hx
   ·cases ha
  ·cases ha
 ·next e off=>
  simp only [VR] at hx;obtain ⟨bl,base,cs,elem,fr,x,h1,h2,rfl,h3,h4⟩:=hx;have hb:=h.iy _ _ h1;have hcv:=wY h2;have hcl:=NJ h2;split at ha
  ·next hagg=>
   split at ha
   ·next n hn=>
    simp only [aW] at ha;obtain ⟨l,hl,rfl⟩:=ha;obtain ⟨hl1,hl2,hl3⟩:=pF hl;have hfit:base+off+n<=cs.size\/n=0:=by omega
    refine ⟨.agg ⟨(cs.toList.drop (base+off)).take n⟩, ?_, ?_⟩
    ·simp only [Instr.loadAt,Instr.sureAddr,aS,bC,aQ,loadVar,Fh hagg,if_true,iC hn,rJ]
     rw [Ah hb hfit];rfl
    ·simp only [VR]
     refine ⟨_,rfl, ?_⟩;have heq:(cs.toList.drop (base+off)).take n=(x.cells.toList.drop off).take n:=by
      apply FY;intro k;rw [kM,kM];split
      ·next hk=>
       rw [pU,pU];have hlt:off+k < x.cells.toList.length:=by simp;omega
       have:=h4 (off+k) _ (cO hlt);rw [cO hlt,sN,iM];exact this
      ·rfl
     rw [heq,hl1];exact (hcv.drop off).take n
   ·cases ha
  ·next hagg=>
   obtain ⟨y,hy,hv⟩:=hcv.at ha;refine ⟨y, ?_,hv⟩;simp only [Instr.loadAt,Instr.sureAddr,aS,bC,aQ,loadVar,Fh hagg,rJ];exact adL hb (h4 off y hy)
  ·cases ha
 ·cases ha
theorem Qs {l l' vs:List AV} {off:Nat} (h:xI l off vs=some l'):off+vs.length<=l.length/\l'.length=l.length/\
 ∀ (k:Nat),l'[k]? = if off<=k/\k < off+vs.length then vs[k - off]? else l[k]?:=by
 unfold xI at h;split at h
 ·next h1=>
  cases h;refine ⟨h1,by simp;omega,λk=>?_⟩;by_cases h2:k < off
  ·rw [ah (by omega),List.append_assoc,kT (by simp;omega),kM,aj h2]
  ·by_cases h3:k < off+vs.length
   ·rw [aj ⟨by omega,h3⟩,kT (by simp;omega),sO (by simp;omega)]
    simp;congr 1;omega
   ·rw [ah (by omega),sO (by simp;omega),pU]
    congr 1;simp;omega
 ·cases h
theorem Rn (h:SR P η σ w) {id off:Nat} {c c':List AV} {et:TypeId} {opn:Bool} {vs:List AV} {xs:List Value} {q:Place} (hg:σ.get id=some (.cells c et true opn)) (hl:σ.lock<=id)
 (hq:η id=some q) (hs:xI c off vs=some c') (hv:ay η vs xs) (hone:vs.all AV.lM=true) :
 ∃w',(storeCells ⟨q.bl,q.ba+off,none⟩ xs).run P w=.ok () w'/\St P η σ w η (σ.put id (.cells c' et true opn)) w':=by
 obtain ⟨q',hq',cs,elem,fr,hb,r⟩:=h.obj _ _ hg rfl;rw [hq] at hq';cases hq';obtain ⟨h1,h2,h3⟩:=Qs hs;have hlen:=hv.length;have hf:=r.fits;have hle:=r.le;have hxs:∀x∈xs,nT x=true:=by
  intro x hx;obtain ⟨k,hk⟩:=RN.1 hx;have hlt:k < vs.length:=by have:=(dY.1 hk).1;omega
  obtain ⟨y,hy,rW⟩:=hv.at (cO hlt);rw [hk] at hy;cases hy;exact VH rW (List.all_eq_true.1 hone _ (jo hlt))
 have hrun:=Xe (P:=P) xs w q.bl (q.ba+off) 0 cs elem fr hb (by omega) hxs (λk a b=>by
  have:=r.free rfl (k - q.ba) (by omega);rw [MF (by omega)] at this;exact this)
 refine ⟨_,hrun, ?_⟩;refine St.write h hg rfl hl hq Aj (λk hk=>Ai hk) rfl rfl rfl ?_;refine ⟨_,elem,fr,yO hb, ?_⟩;refine { fits:=by rw [IU];exact hf,le:=by omega,shut:=λe=>by rw [h2];exact r.shut e,cell:=?_,free:=λe=>r.free e,whole:=λe=>by rw [IU];exact r.whole e,room:=r.room };intro k a hk;rw [h3] at hk;rw [Qr _ _ _ _ (by omega)];split at hk
 ·next h4=>
  rw [aj (by omega)];obtain ⟨x,hx,jQ⟩:=hv.at hk;refine ⟨x, ?_,jQ⟩;rw [<- hx];congr 1;omega
 ·next h4=>
  rw [ah (by omega)];exact r.cell k a hk
theorem QD (h:SR P η σ w) {t:TypeId} {a v:AV} {x y:Value} (hs:A8 P t σ a v=some σ') (hx:VR η a x) (hy:VR η v y) :
 ∃w',(Instr.storeAt t x y).run P w=.ok () w'/\St P η σ w η σ' w':=by
 unfold A8 at hs;split at hs
 ·next id off=>
  split at hs
  ·next c et opn hg=>
   split at hs
   ·next hc=>
    obtain ⟨hl,hsz,hone⟩:=hc;simp only [aW] at hs;obtain ⟨c',hr,rfl⟩:=hs;simp only [VR] at hx;obtain ⟨q,hq,rfl⟩:=hx;have hcells:=wY hy;obtain ⟨w',hrun,hst⟩:=Rn h hg hl hq hr hcells hone;refine ⟨w', ?_,hst⟩;have hlen:=hcells.length;simp only [Instr.storeAt,Instr.sureAddr,aS,bC,aQ,storeVar,iC hsz,rJ];rw [ah (by simp at hlen ⊢;omega)];simpa using hrun
   ·cases hs
  ·cases hs
 ·cases hs
end
end Go.aN
namespace Go.aN
set_option linter.unusedSimpArgs false
noncomputable section
variable [aF]
set_option linter.unusedSectionVars false
set_option linter.unusedVariables false
variable {P:Program} {η:Env} {σ σ':au} {w:World}
theorem wU {a:AV} {n:Int} {x:Value} (h:tu a=some n) (hx:VR η a x):∃k,x=.int k n:=by
 cases a<;>simp [tu] at h
 subst h;simp only [VR] at hx;exact ⟨_,hx⟩
theorem yN {a:AV} {v:Value} {x:Value} (h:uF a=some v) (hx:VR η a x):x=v:=aev 4 a v x h hx
theorem acR {t:TypeId} {cs:List AV} {vs:List Value} {off:Nat} {v:AV} (h:Nb P t cs off=some v) (hv:ay η cs vs) :
 ∃y,(part t ⟨vs⟩ off).run P w=.ok y w/\VR η v y:=by
 unfold Nb at h;split at h
 ·next hagg=>
  split at h
  ·next n hn=>
   simp only [aW] at h;obtain ⟨l,hl,rfl⟩:=h;refine ⟨.agg ((⟨vs⟩:Array Value).extract off (off+n)), ?_, ?_⟩
   ·simp [part,Fh hagg,iC hn]
   ·simp only [VR]
    obtain ⟨rfl,_,_⟩:=pF hl;refine ⟨(vs.drop off).take n, ?_,(hv.drop off).take n⟩;simp
  ·cases h
 ·next hagg=>
  obtain ⟨x,hx,jQ⟩:=hv.at h;refine ⟨x, ?_,jQ⟩;simp [part,Fh hagg,hx]
 ·cases h
theorem aiJ {t:TypeId} {a v:AV} {x:Value} {f:Nat} (h:MQ P t a f=some v) (hx:VR η a x) :
 ∃y,(Instr.field t x f).run P w=.ok y w/\VR η v y:=by
 unfold MQ at h;split at h
 ·next fields cs hu=>
  split at h
  ·next fd hf=>
   simp only [VR] at hx;obtain ⟨vs,rfl,hv⟩:=hx;obtain ⟨y,hy,rW⟩:=acR (w:=w) h hv;exact ⟨y,by simp [Instr.field,aV hu,hf,asAgg,hy],rW⟩
  ·cases h
 ·cases h
theorem aiI {t:TypeId} {a v:AV} {x:Value} {f:Nat} (h:MR P t a f=some v) (hx:VR η a x) :
 ∃y,(Instr.fieldAt t x f).run P w=.ok y w/\VR η v y:=by
 unfold MR at h;split at h
 ·next fields id off hu=>
  split at h
  ·next fd hf=>
   split at h
   ·next n hn=>
    split at h
    ·cases h
    ·next h0=>
     cases h;simp only [VR] at hx;obtain ⟨q,hq,rfl⟩:=hx;refine ⟨.pointer (some ⟨q.bl,q.ba+off+fd.offset,none⟩), ?_, ?_⟩
     ·simp [Instr.fieldAt,aV hu,hf,Instr.sureAddr,fieldPlace,iC hn,h0,oz]
     ·simp only [VR];exact ⟨q,hq,by rw [iM]⟩
   ·cases h
  ·cases h
 ·next fields b off hu=>
  split at h
  ·next fd hf=>
   split at h
   ·next n hn=>
    split at h
    ·cases h
    ·next h0=>
     cases h;simp only [VR] at hx;obtain ⟨bl,base,cs,elem,fr,x,h1,h2,rfl,h3⟩:=hx;refine ⟨.pointer (some ⟨bl,base+off+fd.offset,none⟩), ?_, ?_⟩
     ·simp [Instr.fieldAt,aV hu,hf,Instr.sureAddr,fieldPlace,iC hn,h0,oz]
     ·simp only [VR];exact ⟨bl,base,cs,elem,fr,x,h1,h2,by rw [iM],h3⟩
   ·cases h
  ·cases h
 ·cases h
theorem OZ {t:TypeId} {a i v:AV} {x y:Value} (h:xZ P t a i=some v) (hx:VR η a x) (hy:VR η i y) :
 ∃z,(Instr.indexAt t x y).run P w=.ok z w/\VR η v z:=by
 unfold xZ at h;split at h
 ·next e id off len cap k hu hk=>
  obtain ⟨kd,rfl⟩:=wU hk hy;split at h
  ·next size hn=>
   split at h
   ·next hr=>
    cases h;simp only [VR] at hx;obtain ⟨q,hq,hle,rfl⟩:=hx;refine ⟨.pointer (some ⟨q.bl,q.ba+off+k.toNat * size,none⟩), ?_, ?_⟩
    ·simp [Instr.indexAt,asIntOf,aV hu,iC hn,hr,oz]
    ·simp only [VR];exact ⟨q,hq,by rw [iM]⟩
   ·cases h
  ·cases h
 ·next len e id off k hu hk=>
  obtain ⟨kd,rfl⟩:=wU hk hy;split at h
  ·next size hn=>
   split at h
   ·next hr=>
    cases h;simp only [VR] at hx;obtain ⟨q,hq,rfl⟩:=hx;refine ⟨.pointer (some ⟨q.bl,q.ba+off+k.toNat * size,none⟩), ?_, ?_⟩
    ·simp [Instr.indexAt,asIntOf,aV hu,iC hn,hr,oz,Instr.sureAddr]
    ·simp only [VR];exact ⟨q,hq,by rw [iM]⟩
   ·cases h
  ·cases h
 ·next e l k hu hk=>
  obtain ⟨kd,rfl⟩:=wU hk hy;split at h
  ·next size hn=>
   split at h
   ·next h0=>
    split at h
    ·next b hb=>
     split at h
     ·next hsz=>
      cases h;obtain ⟨bl,off,c,cs,elem,fr,x,rfl,hc,h1,h2,h3,h4⟩:=an1 hx hb hsz;have hlt:=(dY.1 hb).1;have hr:0<=k/\k < (l.length:Int):=⟨h0,by omega⟩
      refine ⟨.pointer (some ⟨bl,off+k.toNat * size,none⟩), ?_, ?_⟩
      ·simp [Instr.indexAt,asIntOf,aV hu,iC hn,hr,oz]
      ·simp only [VR];exact ⟨bl,off+k.toNat * size,cs,elem,fr,x,h1,h2,rfl,h3,h4⟩
     ·cases h
    ·cases h
   ·cases h
  ·cases h
 ·next len e b off k hu hk=>
  obtain ⟨kd,rfl⟩:=wU hk hy;split at h
  ·next size hn=>
   split at h
   ·next hr=>
    cases h;simp only [VR] at hx;obtain ⟨bl,base,cs,elem,fr,x,h1,h2,rfl,h3⟩:=hx;refine ⟨.pointer (some ⟨bl,base+off+k.toNat * size,none⟩), ?_, ?_⟩
    ·simp [Instr.indexAt,asIntOf,aV hu,iC hn,hr,oz,Instr.sureAddr]
    ·simp only [VR];exact ⟨bl,base,cs,elem,fr,x,h1,h2,by rw [iM],h3⟩
   ·cases h
  ·cases h
 ·cases h
theorem aje (s:List UInt8) (k:Nat):((⟨⟨s⟩⟩:ByteArray)[k]?)=s[k]?:=by
 rw [getElem?_def,getElem?_def];rfl
theorem UN {t:TypeId} {a i v:AV} {x y:Value} (h:AZ P t a i=some v) (hx:VR η a x) (hy:VR η i y) :
 ∃z,(Instr.index t x y).run P w=.ok z w/\VR η v z:=by
 unfold AZ at h;split at h
 ·next s k hu hk=>
  obtain ⟨kd,rfl⟩:=wU hk hy;split at h
  ·next h0=>
   split at h
   ·next c hc=>
    cases h;simp only [VR] at hx;subst hx;refine ⟨.int .u8 c.toNat, ?_,by simp [VR]⟩;simp [Instr.index,asIntOf,aV hu,h0,aje,hc]
   ·cases h
  ·cases h
 ·next len e cs k hu hk=>
  obtain ⟨kd,rfl⟩:=wU hk hy;split at h
  ·next size hn=>
   split at h
   ·next hr=>
    simp only [VR] at hx;obtain ⟨vs,rfl,hv⟩:=hx;obtain ⟨z,hz,uj⟩:=acR (w:=w) h hv;exact ⟨z,by simp [Instr.index,asIntOf,aV hu,iC hn,hr,hz],uj⟩
   ·cases h
  ·cases h
 ·cases h
def jV (η:Env):Option AV->Option Value->Prop
 | none,none=>True
 | some a,some x=>VR η a x
 | _,_=>False
theorem Bg {sl:Bool} {len cap:Nat} {room:Nat->Bool} {lo hi:Option AV} {lo' hi':Option Value} {l h:Nat} (hb:uP len room lo hi=some (l,h)) (hroom:∀k,room k=true->k<=cap) (hlc:len<=cap)
 (hlo:jV η lo lo') (hhi:jV η hi hi') :
 (Instr.sliceBounds sl len cap lo' hi' none).run P w=.ok (l,h,cap) w/\l<=h/\h<=cap:=by
 unfold uP at hb;split at hb
 ·cases hb
 next hh e=>
 split at hb
 ·cases hb
 next ll e2=>
 simp only [aT,kH] at hb;obtain ⟨rfl,rfl⟩:=hb;have hH:∀c,(match hi' with | some v=>Instr.sliceBound v cap c | none=>pure len).run P w=.ok hh w/\hh<=cap:=by
  intro c;cases hi with
  | none=>cases hi' with
    | none=>simp [xY] at e;subst e;exact ⟨rfl,hlc⟩
    | some _=>exact hhi.elim
  | some a=>cases hi' with
    | none=>exact hhi.elim
    | some x=>
      simp only [xY] at e;simp only [jV] at hhi;split at e
      ·next n hn=>
       obtain ⟨kd,rfl⟩:=wU hn hhi;split at e
       ·next h1=>
        cases e;have:=hroom _ h1.2;refine ⟨?_,this⟩;simp [Instr.sliceBound,asIntOf,h1.1];intro hbad;omega
       ·cases e
      ·cases e
 have hL:∀c,(match lo' with | some v=>Instr.sliceBound v hh c | none=>pure 0).run P w=.ok ll w/\ll<=hh:=by
  intro c;cases lo with
  | none=>cases lo' with
    | none=>simp [Gj] at e2;subst e2;exact ⟨rfl,sW _⟩
    | some _=>exact hlo.elim
  | some a=>cases lo' with
    | none=>exact hlo.elim
    | some x=>
      simp only [Gj] at e2;simp only [jV] at hlo;split at e2
      ·next n hn=>
       obtain ⟨kd,rfl⟩:=wU hn hlo;split at e2
       ·next h1=>
        cases e2;refine ⟨?_,by omega⟩;simp [Instr.sliceBound,asIntOf,h1.1];intro hbad;omega
       ·cases e2
      ·cases e2
 refine ⟨?_,(hL .index).2,(hH .index).2⟩;unfold Instr.sliceBounds;have h1:=hH (if sl then .sliceAcap else .sliceAlen);have h2:=hL (if (none:Option Value).isSome then .slice3C else .sliceB);cases hi'<;>simp only [aS,bC,aQ] at h1 h2 ⊢<;>cases lo'<;>simp only [aS,bC,aQ] at h1 h2 ⊢<;>simp_all
end
end Go.aN
namespace Go.aN
set_option linter.unusedSimpArgs false
noncomputable section
variable [aF]
set_option linter.unusedSectionVars false
set_option linter.unusedVariables false
variable {P:Program} {η:Env} {σ σ':au} {w:World}
theorem strSize (s:List UInt8):(⟨⟨s⟩⟩:ByteArray).size=s.length:=rfl
theorem aeb (s:List UInt8) (l h:Nat):(⟨⟨s⟩⟩:ByteArray).extract l h=⟨⟨(s.take h).drop l⟩⟩:=by
 apply ByteArray.ext;rw [ByteArray.data_extract];apply Jg;simp [Df,List.extract_eq_take_drop]
theorem Lj {ad:Addr} {c:Nat} (hs:ad.spot=none:=by rfl):VR η (.ro []) (.slice (some ad) 0 c):=by
 simp only [VR];obtain ⟨bl,off,sp⟩:=ad;simp only at hs;subst hs;right;exact ⟨bl,off,c,[],0,rfl,sW _,by simp [ay],by simp,λh=>absurd rfl h⟩
theorem YL {len:Nat} {room:Nat->Bool} {lo hi:Option AV} {l h:Nat} (hb:uP len room lo hi=some (l,h)) (hr:∀k,room k=true->k<=len):h<=len:=by
 unfold uP at hb;split at hb
 ·cases hb
 ·next e=>
  split at hb
  ·cases hb
  ·cases hb
   cases hi with
   | none=>simp [xY] at e;omega
   | some v=>
     simp only [xY] at e;split at e
     ·split at e
      ·next h1=>cases e;exact hr _ h1.2
      ·cases e
     ·cases e
theorem Qv (h:SR P η σ w) {t:TypeId} {a v:AV} {x:Value} {lo hi:Option AV} {lo' hi':Option Value} (hs:yg P t σ a lo hi=some v) (hx:VR η a x) (hlo:jV η lo lo') (hhi:jV η hi hi') :
 ∃y,(Instr.sliceAt t x lo' hi' none).run P w=.ok y w/\VR η v y:=by
 unfold yg at hs;split at hs
 ·next s hu=>
  simp only [aW,Gf] at hs;obtain ⟨l,hh,hb,rfl⟩:=hs;simp only [VR] at hx;subst hx;have hB:=Bg (P:=P) (w:=w) (sl:=false) (cap:=s.length) hb (λk hk=>by simpa using hk) (dN _) hlo hhi;refine ⟨.string ⟨⟨(s.take hh).drop l⟩⟩, ?_,by simp [VR]⟩;simp only [Instr.sliceAt,Instr.slice,aV hu,aS,aQ,strSize,Option.isSome_none,gU,if_false,hB.1,bC,aeb,rJ]
 ·next e id off len cap hu=>
  simp only [VR] at hx;obtain ⟨q,hq,hle,rfl⟩:=hx;split at hs
  ·next size c hn=>
   simp only [sZ,Gf] at hs;obtain ⟨l,hh,hb,hs⟩:=hs;simp only [oO] at hle ⊢;have hB:=Bg (P:=P) (w:=w) (sl:=true) (cap:=c) hb (λk hk=>by simpa using hk) hle hlo hhi;split at hs
   ·next e1=>
    cases hs;subst e1;refine ⟨.slice (some ⟨q.bl,q.ba+off,none⟩) (hh - c) 0, ?_, ?_⟩
    ·simp only [Instr.sliceAt,Instr.slice,aV hu,aS,aQ,hB.1,iC hn,bC,if_true,xW]
    ·simp only [VR];exact ⟨q,hq,by simp;omega,rfl⟩
   ·next e1=>
    cases hs;refine ⟨.slice (some ⟨q.bl,q.ba+off+l * size,none⟩) (hh - l) (c - l), ?_, ?_⟩
    ·simp only [Instr.sliceAt,Instr.slice,aV hu,aS,aQ,hB.1,iC hn,bC,ah e1,gI,oz]
    ·simp only [VR];exact ⟨q,hq,by simp;omega,by rw [iM];rfl⟩
  ·next size hn=>
   split at hs
   ·next c et rw hg=>
    split at hs
    ·next het=>
     simp only [sZ,Gf] at hs;obtain ⟨l,hh,hb,hs⟩:=hs;obtain ⟨q',hq',cs,elem,fr,hbk,r⟩:=h.obj _ _ hg rfl;rw [hq] at hq';cases hq';obtain ⟨_,hes,hsz⟩:=r.room rfl;rw [het,hn] at hsz;cases hsz;simp only [uN] at hle ⊢;have hB:=Bg (P:=P) (w:=w) (sl:=true) (cap:=(q.sz - off) / q.es) hb (λk hk=>by simp at hk;omega) hle hlo hhi;have Kz:hh<=len:=by
      unfold uP at hb;split at hb
      ·cases hb
      ·next e=>
       split at hb
       ·cases hb
       ·cases hb
        cases hi with
        | none=>simp [xY] at e;omega
        | some v=>
          simp only [xY] at e;split at e
          ·split at e
           ·next h1=>cases e;simpa using h1.2
           ·cases e
          ·cases e
     have hsub:(q.sz - off) / q.es - l=(q.sz - (off+l * q.es)) / q.es:=by
      rw [<- Nat.sub_sub,zh l,Nat.sub_mul_div]
     split at hs
     ·next e1=>
      cases hs;refine ⟨.slice (some ⟨q.bl,q.ba+off+l * q.es,none⟩) (hh - l) ((q.sz - off) / q.es - l), ?_, ?_⟩
      ·simp only [Instr.sliceAt,Instr.slice,aV hu,aS,aQ,hB.1,iC hn,bC,gI,oz]
       rw [ah (by omega)]
      ·simp only [VR]
       refine ⟨q,hq, ?_, ?_⟩
       ·simp only [uN];rw [<- hsub];omega
       ·simp only [uN];rw [<- hsub,iM]
     ·split at hs
      ·next e1 e2=>
       cases hs;subst e2;refine ⟨.slice (some ⟨q.bl,q.ba+off,none⟩) (hh - 0) ((q.sz - off) / q.es - 0), ?_, ?_⟩
       ·simp only [Instr.sliceAt,Instr.slice,aV hu,aS,aQ,hB.1,iC hn,bC,gI,oz]
        split<;>simp
       ·simp only [VR];exact ⟨q,hq,by simp;omega,by simp⟩
      ·split at hs
       ·next e1 e2 e3=>
        cases hs;subst e3;simp only [Instr.sliceAt,Instr.slice,aV hu,aS,aQ,hB.1,iC hn,bC,gI,oz,xW];by_cases e4:(q.sz - off) / q.es=hh
        ·rw [aj e4];exact ⟨_,rfl,Lj⟩
        ·rw [ah e4];exact ⟨_,rfl,Lj⟩
       ·cases hs
    ·cases hs
   ·cases hs
  ·cases hs
 ·next e hu=>
  split at hs
  ·next n hn=>
   simp only [aW,Gf] at hs;obtain ⟨l,hh,hb,rfl⟩:=hs;simp only [VR] at hx;subst hx;have hB:=Bg (P:=P) (w:=w) (sl:=true) (cap:=0) hb (λk hk=>by simpa using hk) (dN _) hlo hhi;have hl0:l=0:=by omega
   have hh0:hh=0:=by omega
   subst hl0;subst hh0;refine ⟨.slice none 0 0, ?_,by simp [VR]⟩;simp only [Instr.sliceAt,Instr.slice,aV hu,aS,aQ,hB.1,iC hn,bC,if_true,xW]
  ·cases hs
 ·next e es hu=>
  split at hs
  ·next size hn=>
   simp only [sZ,Gf] at hs;obtain ⟨l,hh,hb,hs⟩:=hs;have hx0:=hx;simp only [VR] at hx;rcases hx with ⟨rfl,pa,rfl⟩ | ⟨bl,off,c,xs,sz,rfl,hc,h1,h2,h3⟩
   ·have hB:=Bg (P:=P) (w:=w) (sl:=true) (cap:=0) hb (λk hk=>by simpa using hk) (dN _) hlo hhi
    have hl0:l=0:=by omega
    have hh0:hh=0:=by omega
    subst hl0;subst hh0;simp [Nc] at hs;subst hs;refine ⟨.slice pa 0 0, ?_,by simp [VR]⟩;have hB1:=hB.1;rw [qI] at hB1;simp only [Instr.sliceAt,Instr.slice,aV hu,aS,aQ,hB1,iC hn,bC,if_true,xW]
   have hB:=Bg (P:=P) (w:=w) (sl:=true) (cap:=c) hb (λk hk=>by simp at hk;omega) hc hlo hhi;have Kz:=YL hb (λk hk=>by simpa using hk);simp only [Instr.sliceAt,Instr.slice,aV hu,aS,aQ,hB.1,iC hn,bC,gI,oz];unfold Nc at hs;split at hs
   ·next e1=>
    cases hs;subst e1;simp only [xW];by_cases e4:c=hh
    ·rw [aj e4];exact ⟨_,rfl,Lj⟩
    ·rw [ah e4];exact ⟨_,rfl,Lj⟩
   ·next e1=>
    split at hs
    ·next a ha=>
     split at hs
     ·next hsz=>
      cases hs;obtain ⟨x,hxx,jQ⟩:=h1.at ha;have hsx:=h2 x (qK hxx);have:sz=size:=by rw [<- hsx,<- NJ jQ,hsz]
      subst this;obtain ⟨cs,elem,fr,h4,h5,h6⟩:=h3 (by intro e;subst e;simp at ha);rw [ah (by omega)];refine ⟨_,rfl, ?_⟩;have hlen:=h1.length;simp only [VR];right;refine ⟨bl,off+l * sz,c - l,(xs.take hh).drop l,sz,by congr 1;simp;omega,by simp;omega,(h1.take hh).drop l,λy hy=>h2 y (FZ (AP hy)),λ_=>⟨cs,elem,fr,h4, ?_, ?_⟩⟩
      ·rw [DU (λy hy=>h2 y (FZ (AP hy)))]
       have hL:=DU h2;have hm:((xs.take hh).drop l).length=hh - l:=by simp;omega
       rw [hm];have h7:l * sz+(hh - l) * sz=hh * sz:=by rw [<- oN];congr 1;omega
       have h8:hh * sz<=xs.length * sz:=qL _ (by omega);omega
      ·intro k y hk
       rw [<- Zn (λy hy=>h2 y (FZ hy)),<- afZ h2,pU,kM] at hk;split at hk
       ·have:=h6 _ _ hk;rw [<- iM] at this;exact this
       ·cases hk
     ·cases hs
    ·cases hs
  ·cases hs
 ·next n e id off hu=>
  simp only [VR] at hx;obtain ⟨q,hq,rfl⟩:=hx;split at hs
  ·next size hn=>
   simp only [aW,Gf] at hs;obtain ⟨l,hh,hb,rfl⟩:=hs;have hB:=Bg (P:=P) (w:=w) (sl:=false) (cap:=n) hb (λk hk=>by simpa using hk) (dN _) hlo hhi;have Kz:=YL hb (λk hk=>by simpa using hk);simp only [Instr.sliceAt,Instr.sureAddr,aV hu,aS,aQ,hB.1,iC hn,bC];by_cases e1:n=l
   ·subst e1
    rw [aj rfl,aj rfl];refine ⟨_,rfl, ?_⟩;simp only [VR];exact ⟨q,hq,by simp;omega,by simp⟩
   ·rw [ah e1,ah e1]
    refine ⟨_,rfl, ?_⟩;simp only [VR,oz];exact ⟨q,hq,by simp;omega,by simp [iM]⟩
  ·cases hs
 ·cases hs
end
end Go.aN
namespace Go.aN
set_option linter.unusedSimpArgs false
noncomputable section
variable [aF]
set_option linter.unusedSectionVars false
set_option linter.unusedVariables false
variable {P:Program} {η:Env} {σ σ':au} {w:World}
theorem abE (h:SR P η σ w) {t:TypeId} {ts:Array TypeId} {ty:TypeId} {a v:AV} {x:Value} (ht:ts[0]? = some t) (hs:MS P σ t a=some v) (hx:VR η a x) :
 ∃y,(Builtin.len_ ts ty #[x]).run P w=.ok y w/\VR η v y:=by
 unfold MS at hs;split at hs
 ·next s hu=>cases hs;simp only [VR] at hx;subst hx;exact ⟨.int .i64 s.length,by simp [Builtin.len_,ht,aV hu,goInt,strSize],by simp [VR]⟩
 ·next e hu=>cases hs;simp only [VR] at hx;subst hx;exact ⟨.int .i64 0,by simp [Builtin.len_,ht,aV hu,goInt],by simp [VR]⟩
 ·next e id off n cap hu=>cases hs;simp only [VR] at hx;obtain ⟨q,hq,_,rfl⟩:=hx;exact ⟨.int .i64 n,by simp [Builtin.len_,ht,aV hu,goInt],by simp [VR]⟩
 ·next e l hu=>cases hs;simp only [VR] at hx;rcases hx with ⟨rfl,_,rfl⟩ | ⟨bl,off,c,xs,sz,rfl,_⟩;exact ⟨.int .i64 0,by simp [Builtin.len_,ht,aV hu,goInt],by simp [VR]⟩;exact ⟨.int .i64 l.length,by simp [Builtin.len_,ht,aV hu,goInt],by simp [VR]⟩
 ·next e1 e2 hu=>cases hs;simp only [VR] at hx;subst hx;exact ⟨.int .i64 0,by simp [Builtin.len_,ht,aV hu,goInt],by simp [VR]⟩
 ·next e1 e2 id hu=>
  split at hs
  ·next es hg=>
   cases hs;simp only [VR] at hx;obtain ⟨q,hq,rfl⟩:=hx;obtain ⟨q',hq',ms,clock,hb,hsz,_⟩:=h.obj _ _ hg rfl;rw [hq] at hq';cases hq';refine ⟨.int .i64 es.length, ?_,by simp [VR]⟩;simp [Builtin.len_,ht,aV hu,goInt,getObj,Sem.run,hb,hsz]
  ·cases hs
 ·next _ n _ hu=>cases hs;exact ⟨.int .i64 n,by cases x<;>simp [Builtin.len_,ht,aV hu,goInt],by simp [VR]⟩
 ·cases hs
theorem afD (b o i j:Nat):((⟨b,o+i,none⟩:Addr)==⟨b,o+j,none⟩)=(i==j):=by
 rw [pJ];simp
section
variable {t e:TypeId}
theorem aar {n:Nat} (hu:P.underlying t=some (.pointer e)) (hn:sizeT P e=some n) (h0:n≠0) (b o i j:Nat) :
 (Op.equal t (.pointer (some ⟨b,o+i,none⟩)) (.pointer (some ⟨b,o+j,none⟩))).run P w=.ok (i==j) w:=by
 have H:∀d:Nat,(Op.equalIn (d+1) t (.pointer (some ⟨b,o+i,none⟩)) (.pointer (some ⟨b,o+j,none⟩))).run P w=.ok (i==j) w:=λd=>by
  simp only [Op.equalIn,aS,aV hu,aQ,iC hn,aj h0,rJ];simp only [sameAddr,beq_self_eq_true,if_true,bC,afD,aS,aQ]
 exact H 9999
theorem Bz (hu:P.underlying t=some (.pointer e)) (a:Addr):(Op.equal t (.pointer (some a)) (.pointer none)).run P w=.ok false w:=by
 have H:∀d:Nat,(Op.equalIn (d+1) t (.pointer (some a)) (.pointer none)).run P w=.ok false w:=λd=>by
  simp only [Op.equalIn,aS,aV hu,aQ,bC]
 exact H 9999
theorem Bv (hu:P.underlying t=some (.pointer e)) (a:Addr):(Op.equal t (.pointer none) (.pointer (some a))).run P w=.ok false w:=by
 have H:∀d:Nat,(Op.equalIn (d+1) t (.pointer none) (.pointer (some a))).run P w=.ok false w:=λd=>by
  simp only [Op.equalIn,aS,aV hu,aQ,bC,F9]
 exact H 9999
theorem Oe (hu:P.underlying t=some (.slice e)) (a:Addr) (l c:Nat):(Op.equal t (.slice (some a) l c) (.slice none 0 0)).run P w=.ok false w:=by
 have H:∀d:Nat,(Op.equalIn (d+1) t (.slice (some a) l c) (.slice none 0 0)).run P w=.ok false w:=λd=>by
  simp only [Op.equalIn,aS,aV hu,aQ,bC]
 exact H 9999
theorem Oc (hu:P.underlying t=some (.slice e)) (a:Addr) (l c:Nat):(Op.equal t (.slice none 0 0) (.slice (some a) l c)).run P w=.ok false w:=by
 have H:∀d:Nat,(Op.equalIn (d+1) t (.slice none 0 0) (.slice (some a) l c)).run P w=.ok false w:=λd=>by
  simp only [Op.equalIn,aS,aV hu,aQ,bC,F9]
 exact H 9999
theorem aan {ms:Array (String×TypeId)} (hu:P.underlying t=some (.interface ms)) (u:TypeId) (x:Value):(Op.equal t (.iface u x) .nilIface).run P w=.ok false w:=by
 have H:∀d:Nat,(Op.equalIn (d+1) t (.iface u x) .nilIface).run P w=.ok false w:=λd=>by
  simp only [Op.equalIn,aS,aV hu,aQ,bC]
 exact H 9999
theorem aap {ms:Array (String×TypeId)} (hu:P.underlying t=some (.interface ms)) (u:TypeId) (x:Value):(Op.equal t .nilIface (.iface u x)).run P w=.ok false w:=by
 have H:∀d:Nat,(Op.equalIn (d+1) t .nilIface (.iface u x)).run P w=.ok false w:=λd=>by
  simp only [Op.equalIn,aS,aV hu,aQ,bC]
 exact H 9999
theorem aao {k:TypeId} (hu:P.underlying t=some (.map k e)) (r:Nat):(Op.equal t (.map (some r)) (.map none)).run P w=.ok false w:=by
 have H:∀d:Nat,(Op.equalIn (d+1) t (.map (some r)) (.map none)).run P w=.ok false w:=λd=>by
  simp only [Op.equalIn,aS,aV hu,aQ,bC]
 exact H 9999
theorem aaq {k:TypeId} (hu:P.underlying t=some (.map k e)) (r:Nat):(Op.equal t (.map none) (.map (some r))).run P w=.ok false w:=by
 have H:∀d:Nat,(Op.equalIn (d+1) t (.map none) (.map (some r))).run P w=.ok false w:=λd=>by
  simp only [Op.equalIn,aS,aV hu,aQ,bC,F9]
 exact H 9999
end
theorem oQ {t:TypeId} {x y:Operand} {u u':Value} {r:Bool} (h:(Op.equal t u u').run P w=.ok r w)
 (hb:binOp .eql t u u'=(do pure (.bool (<- Op.equal t u u')))) (hg:(eqGuard .eql t x y u u').run P w=.ok () w) :
 (do eqGuard .eql t x y u u';binOp .eql t u u':Sem Value).run P w=.ok (.bool r) w:=by
 simp only [aS,hg,aQ,hb,h,bC]
theorem oU {t:TypeId} {x y:Operand} {u u':Value} {r:Bool} (h:(Op.equal t u u').run P w=.ok r w)
 (hb:binOp .neq t u u'=(do pure (.bool (!(<- Op.equal t u u'))))) (hg:(eqGuard .neq t x y u u').run P w=.ok () w) :
 (do eqGuard .neq t x y u u';binOp .neq t u u':Sem Value).run P w=.ok (.bool (!r)) w:=by
 simp only [aS,hg,aQ,hb,h,bC]
theorem ZB {op:BinOp} {t:TypeId} {x y:Operand} {k:IntKind} {a b c d m n:Int} {v:AV} (hs:NR op a b c d=some v) (h1:a<=m) (h2:m<=b) (h3:c<=n) (h4:n<=d) :
 ∃z,(do eqGuard op t x y (.int k m) (.int k n);binOp op t (.int k m) (.int k n):Sem Value).run P w=.ok z w/\VR η v z:=by
 have key:∀ (op:BinOp) (r:Bool),(eqGuard op t x y (.int k m) (.int k n)).run P w=.ok () w->binOp op t (.int k m) (.int k n)=(if k≠k then stuck "BinOp: operands of different kinds" else Op.intCmp op m n)->Op.intCmp op m n=pure (.bool r)->
  (do eqGuard op t x y (.int k m) (.int k n);binOp op t (.int k m) (.int k n):Sem Value).run P w=.ok (.bool r) w:=by
  intro op r hg hb hc;rw [aS,hg,aQ,hb,ah (by simp),hc];rfl
 cases op<;>simp only [NR,reduceCtorEq] at hs
 all_goals split at hs
 all_goals try split at hs
 all_goals cases hs
 all_goals refine ⟨_,key _ _ rfl rfl rfl, ?_⟩
 all_goals simp only [VR,Value.bool.injEq]
 all_goals first | (exact DY (by omega)) | (exact Bo (by omega)) | (simp;omega) | skip
theorem afH (h:SR P η σ w) {op:BinOp} {t:TypeId} {x y:Operand} {a b v:AV} {u u':Value} (hs:qM P op t x y a b=some v) (hx:VR η a u) (hy:VR η b u') :
 ∃z,(do eqGuard op t x y u u';binOp op t u u':Sem Value).run P w=.ok z w/\VR η v z:=by
 unfold qM at hs;split at hs
 ·split at hs
  ·next e hu=>
   split at hs
   ·next n hn=>
    split at hs
    ·next hc=>
     cases hs;obtain ⟨rfl,h0⟩:=hc;simp only [VR] at hx hy;obtain ⟨q,hq,rfl⟩:=hx;obtain ⟨q',hq',rfl⟩:=hy;rw [hq] at hq';cases hq';exact ⟨_,oQ (aar hu hn h0 _ _ _ _) rfl rfl,by simp only [VR]⟩
    ·cases hs
   ·cases hs
  ·cases hs
 ·split at hs
  ·next e hu=>
   split at hs
   ·next n hn=>
    split at hs
    ·next hc=>
     cases hs;obtain ⟨rfl,h0⟩:=hc;simp only [VR] at hx hy;obtain ⟨q,hq,rfl⟩:=hx;obtain ⟨q',hq',rfl⟩:=hy;rw [hq] at hq';cases hq';exact ⟨_,oU (aar hu hn h0 _ _ _ _) rfl rfl,by simp only [VR]⟩
    ·cases hs
   ·cases hs
  ·cases hs
 ·split at hs
  ·next hu=>cases hs;simp only [VR] at hx hy;obtain ⟨q,hq,rfl⟩:=hx;subst hy;exact ⟨_,oQ (Bz hu _) rfl rfl,by simp only [VR]⟩
  ·cases hs
 ·split at hs
  ·next hu=>cases hs;simp only [VR] at hx hy;obtain ⟨q,hq,rfl⟩:=hy;subst hx;exact ⟨_,oQ (Bv hu _) rfl rfl,by simp only [VR]⟩
  ·cases hs
 ·split at hs
  ·next hu=>cases hs;simp only [VR] at hx hy;obtain ⟨q,hq,rfl⟩:=hx;subst hy;exact ⟨_,oU (Bz hu _) rfl rfl,by simp only [VR];rfl⟩
  ·cases hs
 ·split at hs
  ·next hu=>cases hs;simp only [VR] at hx hy;obtain ⟨q,hq,rfl⟩:=hy;subst hx;exact ⟨_,oU (Bv hu _) rfl rfl,by simp only [VR];rfl⟩
  ·cases hs
 ·split at hs
  ·next hu=>cases hs;simp only [VR] at hx hy;obtain ⟨bl,off,c,xs,sz,rfl,_⟩:=hx.resolve_left (by simp);subst hy;exact ⟨_,oQ (Oe hu _ _ _) rfl rfl,by simp only [VR]⟩
  ·cases hs
 ·split at hs
  ·next hu=>cases hs;simp only [VR] at hx hy;obtain ⟨bl,off,c,xs,sz,rfl,_⟩:=hy.resolve_left (by simp);subst hx;exact ⟨_,oQ (Oc hu _ _ _) rfl rfl,by simp only [VR]⟩
  ·cases hs
 ·split at hs
  ·next hu=>cases hs;simp only [VR] at hx hy;obtain ⟨bl,off,c,xs,sz,rfl,_⟩:=hx.resolve_left (by simp);subst hy;exact ⟨_,oU (Oe hu _ _ _) rfl rfl,by simp only [VR];rfl⟩
  ·cases hs
 ·split at hs
  ·next hu=>cases hs;simp only [VR] at hx hy;obtain ⟨bl,off,c,xs,sz,rfl,_⟩:=hy.resolve_left (by simp);subst hx;exact ⟨_,oU (Oc hu _ _ _) rfl rfl,by simp only [VR];rfl⟩
  ·cases hs
 ·split at hs
  ·next hu=>cases hs;simp only [VR] at hx hy;obtain ⟨bl,base,cs,elem,fr,x,_,_,rfl,_⟩:=hx;subst hy;exact ⟨_,oQ (Bz hu _) rfl rfl,by simp only [VR]⟩
  ·cases hs
 ·split at hs
  ·next hu=>cases hs;simp only [VR] at hx hy;obtain ⟨bl,base,cs,elem,fr,x,_,_,rfl,_⟩:=hy;subst hx;exact ⟨_,oQ (Bv hu _) rfl rfl,by simp only [VR]⟩
  ·cases hs
 ·split at hs
  ·next hu=>cases hs;simp only [VR] at hx hy;obtain ⟨bl,base,cs,elem,fr,x,_,_,rfl,_⟩:=hx;subst hy;exact ⟨_,oU (Bz hu _) rfl rfl,by simp only [VR];rfl⟩
  ·cases hs
 ·split at hs
  ·next hu=>cases hs;simp only [VR] at hx hy;obtain ⟨bl,base,cs,elem,fr,x,_,_,rfl,_⟩:=hy;subst hx;exact ⟨_,oU (Bv hu _) rfl rfl,by simp only [VR];rfl⟩
  ·cases hs
 ·split at hs
  ·next hu=>cases hs;simp only [VR] at hx hy;obtain ⟨q,hq,_,rfl⟩:=hx;subst hy;exact ⟨_,oQ (Oe hu _ _ _) rfl rfl,by simp only [VR]⟩
  ·cases hs
 ·split at hs
  ·next hu=>cases hs;simp only [VR] at hx hy;obtain ⟨q,hq,_,rfl⟩:=hy;subst hx;exact ⟨_,oQ (Oc hu _ _ _) rfl rfl,by simp only [VR]⟩
  ·cases hs
 ·split at hs
  ·next hu=>cases hs;simp only [VR] at hx hy;obtain ⟨q,hq,_,rfl⟩:=hx;subst hy;exact ⟨_,oU (Oe hu _ _ _) rfl rfl,by simp only [VR];rfl⟩
  ·cases hs
 ·split at hs
  ·next hu=>cases hs;simp only [VR] at hx hy;obtain ⟨q,hq,_,rfl⟩:=hy;subst hx;exact ⟨_,oU (Oc hu _ _ _) rfl rfl,by simp only [VR];rfl⟩
  ·cases hs
 ·split at hs
  ·next hu=>cases hs;simp only [VR] at hx hy;obtain ⟨q,rfl,hq⟩:=hx;subst hy;exact ⟨_,oQ (aan hu _ _) rfl rfl,by simp only [VR]⟩
  ·cases hs
 ·split at hs
  ·next hu=>cases hs;simp only [VR] at hx hy;obtain ⟨q,rfl,hq⟩:=hy;subst hx;exact ⟨_,oQ (aap hu _ _) rfl rfl,by simp only [VR]⟩
  ·cases hs
 ·split at hs
  ·next hu=>cases hs;simp only [VR] at hx hy;obtain ⟨q,rfl,hq⟩:=hx;subst hy;exact ⟨_,oU (aan hu _ _) rfl rfl,by simp only [VR];rfl⟩
  ·cases hs
 ·split at hs
  ·next hu=>cases hs;simp only [VR] at hx hy;obtain ⟨q,rfl,hq⟩:=hy;subst hx;exact ⟨_,oU (aap hu _ _) rfl rfl,by simp only [VR];rfl⟩
  ·cases hs
 ·split at hs
  ·next hu=>cases hs;simp only [VR] at hx hy;obtain ⟨q,hq,rfl⟩:=hx;subst hy;exact ⟨_,oQ (aao hu _) rfl rfl,by simp only [VR]⟩
  ·cases hs
 ·split at hs
  ·next hu=>cases hs;simp only [VR] at hx hy;obtain ⟨q,hq,rfl⟩:=hy;subst hx;exact ⟨_,oQ (aaq hu _) rfl rfl,by simp only [VR]⟩
  ·cases hs
 ·split at hs
  ·next hu=>cases hs;simp only [VR] at hx hy;obtain ⟨q,hq,rfl⟩:=hx;subst hy;exact ⟨_,oU (aao hu _) rfl rfl,by simp only [VR];rfl⟩
  ·cases hs
 ·split at hs
  ·next hu=>cases hs;simp only [VR] at hx hy;obtain ⟨q,hq,rfl⟩:=hy;subst hx;exact ⟨_,oU (aaq hu _) rfl rfl,by simp only [VR];rfl⟩
  ·cases hs
 ·split at hs
  ·next hk=>subst hk;simp only [VR] at hx hy;obtain ⟨m,h1,h2,rfl⟩:=hx;subst hy;exact ZB hs h1 h2 (FW _) (FW _)
  ·cases hs
 ·split at hs
  ·next hk=>subst hk;simp only [VR] at hx hy;obtain ⟨m,h1,h2,rfl⟩:=hy;subst hx;exact ZB hs (FW _) (FW _) h1 h2
  ·cases hs
 ·split at hs
  ·next u1 u2 h1 h2=>
   simp only [sZ] at hs;obtain ⟨z,hz,hv⟩:=hs;rw [yN h1 hx,yN h2 hy];exact ⟨z,yL hz w,zY _ _ _ hv⟩
  ·cases hs
end
end Go.aN
namespace Go.aN
set_option linter.unusedSimpArgs false
noncomputable section
variable [aF]
set_option linter.unusedSectionVars false
set_option linter.unusedVariables false
variable {P:Program} {η:Env} {σ σ':au} {w:World}
def zk (η:Env):List (Nat×AV)->List (Nat×Value)->Prop
 | [],ps=>ps=[]
 | (i,a)::l,ps=>∃x rest,ps=(i,x)::rest/\VR η a x/\zk η l rest
theorem aaG (off:Nat):∀ (l:List Value) (k:Nat) (cs:Array Value),
 (l.zipIdx k).foldl (λcs (c,j)=>cs.setIfInBounds (off+j) c) cs=setFrom cs (off+k) l
 | [],_,_=>rfl
 | v::l,k,cs=>by
   simp only [List.zipIdx_cons,List.foldl_cons];rw [aaG off l (k+1)];rfl
theorem ao4 {c c' vs:List AV} {off:Nat} {cs:Array Value} {xs:List Value} (h:xI c off vs=some c') (hc:ay η c cs.toList) (hv:ay η vs xs):ay η c' (setFrom cs off xs).toList:=by
 obtain ⟨h1,h2,h3⟩:=Qs h;have hl:=hc.length;have hl':=hv.length;simp only [FN] at hl;refine ay.of ?_ λk a hk=>?_
 ·have:=IU xs cs off;simp only [FN];omega
 ·rw [h3] at hk
  rw [sN,Qr _ _ _ _ (by omega)];split at hk
  ·next h4=>
   rw [aj (by omega)];obtain ⟨x,hx,jQ⟩:=hv.at hk;exact ⟨x,hx,jQ⟩
  ·rw [ah (by omega)]
   obtain ⟨x,hx,jQ⟩:=hc.at hk;rw [sN] at hx;exact ⟨x,hx,jQ⟩
theorem G7 {place:Nat->Option (Nat×Nat)}:∀ {ps:List (Nat×AV)} {qs:List (Nat×Value)} {c c':List AV} {cs:Array Value},
 xX place c ps=some c'->zk η ps qs->ay η c cs.toList->∃cs',Instr.fill place cs qs=some cs'/\ay η c' cs'.toList
 | [],qs,c,c',cs,h,hp,hc=>by
   simp only [zk] at hp;subst hp;simp only [xX,aT] at h;subst h;exact ⟨cs,rfl,hc⟩
 | (i,a)::ps,qs,c,c',cs,h,hp,hc=>by
   simp only [zk] at hp;obtain ⟨x,rest,rfl,hx,hp⟩:=hp;unfold xX at h;split at h
   ·cases h
   ·next off size hpl=>
    split at h
    ·next hsz=>
     split at h
     ·next c1 hr=>
      have hcells:=wY hx;have hlen:=hcells.length;have h1:=ao4 hr hc hcells;obtain ⟨hb,_,_⟩:=Qs hr;have hcl:=hc.length;simp only [FN] at hlen hcl;obtain ⟨cs',hf,hv⟩:=G7 h hp h1;refine ⟨cs', ?_,hv⟩;unfold Instr.fill;simp only [hpl];rw [ah (by simp;omega)];rw [<- hf];congr 1;have hz:=aaG off x.cells.toList 0 cs;rw [lG] at hz;rw [<- hz,<- Array.foldl_toList,Array.toList_zipIdx]
     ·cases h
    ·cases h
theorem TI {ev:Operand->Option AV} {ρ:Operand->Value} (hρ:∀x a,ev x=some a->VR η a (ρ x)):∀ {l:List (Nat×Operand)} {ps:List (Nat×AV)},
 BD ev l=some ps->zk η ps (l.map λ(i,x)=>(i,ρ x))
 | [],ps,h=>by simp [BD] at h;subst h;simp [zk]
 | (i,x)::l,ps,h=>by
   unfold BD at h;split at h
   ·next v r hv hr=>
    cases h;exact ⟨ρ x,_,rfl,hρ _ _ hv,TI hρ hr⟩
   ·cases h
theorem GZ {ev:Operand->Option AV} {ρ:Operand->Value} (hρ:∀x a,ev x=some a->VR η a (ρ x)):∀ {l:List Operand} {vs:List AV},
 yB ev l=some vs->ay η vs (l.map ρ)
 | [],vs,h=>by simp [yB] at h;subst h;simp [ay]
 | x::l,vs,h=>by
   unfold yB at h;split at h
   ·next v r hv hr=>
    cases h;exact ay.cons (hρ _ _ hv) (GZ hρ hr)
   ·cases h
theorem ab2:∀ {fs:List Field} {ps:List (Nat×Nat)},Lm P fs=some ps->(fs.mapM λf=>do pure (f.offset,<- sizeOf f.type):Sem (List (Nat×Nat))).run P w=.ok ps w
 | [],ps,h=>by simp [Lm] at h;subst h;rfl
 | f::fs,ps,h=>by
   unfold Lm at h;split at h
   ·next n r hn hr=>
    cases h;simp only [Yn,aS,iC hn,aQ,bC,ab2 hr]
   ·cases h
theorem afM {t:TypeId} {ps:List (Nat×AV)} {qs:Array (Nat×Value)} {v:AV} (hs:MN P t ps=some v) (hp:zk η ps qs.toList) :
 ∃y,(Instr.build t qs).run P w=.ok y w/\VR η v y:=by
 unfold MN at hs;split at hs
 ·next zero fields hz hu=>
  obtain ⟨z,mQ,hzv⟩:=CO hz;split at hs
  ·next places hpl=>
   simp only [aW] at hs;obtain ⟨c,hf,rfl⟩:=hs;obtain ⟨cs,hf',hv⟩:=G7 hf hp (hzv η);refine ⟨.agg cs, ?_,by simp only [VR];exact ⟨cs.toList,rfl,hv⟩⟩;have hm:(fields.mapM λf=>do pure (f.offset,<- sizeOf f.type):Sem (Array (Nat×Nat))).run P w=.ok ⟨places⟩ w:=by
    rw [Rw];simp only [RY,ab2 hpl,aQ]
   simp only [Instr.build,aS,mQ,aQ,aV hu,hm];have:(λi:Nat=>(⟨places⟩:Array (Nat×Nat))[i]?)=λi:Nat=>places[i]?:=by funext i;simp
   rw [this,hf'];rfl
  ·cases hs
 ·next zero n elem hz hu=>
  obtain ⟨z,mQ,hzv⟩:=CO hz;split at hs
  ·next size hn=>
   simp only [aW] at hs;obtain ⟨c,hf,rfl⟩:=hs;obtain ⟨cs,hf',hv⟩:=G7 hf hp (hzv η);refine ⟨.agg cs, ?_,by simp only [VR];exact ⟨cs.toList,rfl,hv⟩⟩;simp only [Instr.build,aS,mQ,aQ,aV hu,iC hn,hf'];rfl
  ·cases hs
 ·cases hs
theorem ak8 {t:TypeId} {a:AV} {x:Value} (h:Eh P t=some false) (hx:VR η a x):∃y,(Instr.makeInterface t x).run P w=.ok y w/\VR η (.dZ t a) y:=by
 unfold Eh at h;split at h<;>cases h
 next d hno hu=>
 refine ⟨.iface t x, ?_,by simp only [VR];exact ⟨x,rfl,hx⟩⟩;simp only [Instr.makeInterface,aS,aV hu,aQ];cases d<;>simp_all
theorem Rq {t:TypeId} {i:TypeInfo} {z:Value} {a:AV} (hi:P.info? t=some i) (hz:i.zero=some z) (ha:kL 4 z=some a):(zeroValue t).run P w=.ok z w/\VR η a z:=
 ⟨by simp [zeroValue,CJ hi,hz],zY _ _ _ ha⟩
theorem aqt {t xt:TypeId} {a v:AV} {x:Value} {ok:Bool} (hs:Nh P a t ok=some v) (hx:VR η a x) :
 ∃y,(Instr.typeAssert x xt t ok).run P w=.ok y w/\VR η v y:=by
 unfold Nh at hs;split at hs
 ·next u b hi=>
  simp only [VR] at hx;obtain ⟨y,rfl,hy⟩:=hx;have hd:∃d,P.underlying t=some d/\∀ms,d≠.interface ms:=by
   unfold Eh at hi;split at hi<;>cases hi
   next d hno hu=>exact ⟨d,hu,λms e=>hno ms e⟩
  obtain ⟨d,hu,hno⟩:=hd;split at hs
  ·next e=>
   cases hs;subst e;refine ⟨if ok then .tuple #[y,.bool true] else y, ?_, ?_⟩
   ·simp only [Instr.typeAssert,aS,aV hu,aQ]
    cases d<;>simp_all
   ·cases ok
    ·simpa using hy
    ·simp only [VR];exact ⟨[y,.bool true],rfl,ay.cons hy (ay.cons (by simp [VR]) (by simp [ay]))⟩
  ·next e=>
   split at hs
   ·next hok=>
    split at hs
    ·next i nN=>
     split at hs
     ·next z hz=>
      simp only [aW] at hs;obtain ⟨a,ha,rfl⟩:=hs;obtain ⟨h1,h2⟩:=Rq (w:=w) (η:=η) nN hz ha;refine ⟨.tuple #[z,.bool false], ?_, ?_⟩
      ·subst hok
       simp only [Instr.typeAssert,aS,aV hu,aQ];have e':¬ u=t:=e;cases d<;>simp_all
      ·simp only [VR];exact ⟨[z,.bool false],rfl,ay.cons h2 (ay.cons (by simp [VR]) (by simp [ay]))⟩
     ·cases hs
    ·cases hs
   ·cases hs
 ·next hi=>
  simp only [VR] at hx;subst hx;have hd:∃d,P.underlying t=some d/\∀ms,d≠.interface ms:=by
   unfold Eh at hi;split at hi<;>cases hi
   next d hno hu=>exact ⟨d,hu,λms e=>hno ms e⟩
  obtain ⟨d,hu,hno⟩:=hd;split at hs
  ·next hok=>
   split at hs
   ·next i nN=>
    split at hs
    ·next z hz=>
     simp only [aW] at hs;obtain ⟨a,ha,rfl⟩:=hs;obtain ⟨h1,h2⟩:=Rq (w:=w) (η:=η) nN hz ha;refine ⟨.tuple #[z,.bool false], ?_, ?_⟩
     ·subst hok
      simp only [Instr.typeAssert,aS,aV hu,aQ];cases d<;>simp_all
     ·simp only [VR];exact ⟨[z,.bool false],rfl,ay.cons h2 (ay.cons (by simp [VR]) (by simp [ay]))⟩
    ·cases hs
   ·cases hs
  ·cases hs
 ·cases hs
theorem ah4 {l:List AV} {k:Nat} {v:AV} {x:Value} (hs:l[k]? = some v) (hx:VR η (.dQ l) x):∃y,(Instr.extract x k).run P w=.ok y w/\VR η v y:=by
 simp only [VR] at hx;obtain ⟨vs,rfl,hv⟩:=hx;obtain ⟨y,hy,rW⟩:=hv.at hs;exact ⟨y,by simp [Instr.extract,hy],rW⟩
theorem Dy (s s':List UInt8):((⟨⟨s⟩⟩:ByteArray)==⟨⟨s'⟩⟩)=(s==s'):=by
 show ByteArray.beq _ _=_
 unfold ByteArray.beq;simp
theorem abn {kd:TypeDesc} {a b:AV} {x y:Value} {r:Bool} (hf:match kd,a with | .int _,.i _ _ | .int _,.z _ _ _ | .string,.s _ | .bool,.b _=>True | _,_=>False) (h:KF a b=some r) (hx:VR η a x) (hy:VR η b y) :
 Instr.sameNow kd x y=some r:=by
 unfold KF at h;split at h
 ·next k n k' n'=>
  simp only [VR] at hx hy;subst hx;subst hy;cases kd<;>simp at hf
  simp only [Instr.sameNow];split at h
  ·next e=>rw [aj e];exact h
  ·cases h
 ·next s s'=>
  simp only [VR] at hx hy;subst hx;subst hy;cases kd<;>simp at hf
  simp only [Instr.sameNow];rw [<- h,Dy]
 ·next s s'=>
  simp only [VR] at hx hy;subst hx;subst hy;cases kd<;>simp at hf
  simp only [Instr.sameNow];exact h
 ·next k lo hi k' n=>
  simp only [VR] at hx hy;obtain ⟨m,h1,h2,rfl⟩:=hx;subst hy;cases kd<;>simp at hf
  split at h
  ·next e=>
   cases h;obtain ⟨e,e2⟩:=e;simp only [Instr.sameNow];rw [aj e];have:m≠n:=by omega
   simp [this]
  ·cases h
 ·cases h
end
end Go.aN
namespace Go.aN
set_option linter.unusedSimpArgs false
noncomputable section
variable [aF]
set_option linter.unusedSectionVars false
set_option linter.unusedVariables false
variable {P:Program} {η:Env} {σ σ':au} {w:World}
def vP (η:Env) (es:List (AV×AV)) (ms:List MapEntry):Prop:=
 ms.length=es.length/\∀ (k:Nat) e,es[k]? = some e->∃m,ms[k]? = some m/\VR η e.1 m.key/\VR η e.2 m.val
theorem vP.tail {e:AV×AV} {es:List (AV×AV)} {ms:List MapEntry} (h:vP η (e::es) ms):∃m rest,ms=m::rest/\VR η e.1 m.key/\VR η e.2 m.val/\vP η es rest:=by
 obtain ⟨hl,hp⟩:=h;cases ms with
 | nil=>simp at hl
 | cons m rest=>
   obtain ⟨m',hm,h1,h2⟩:=hp 0 e (by simp);simp at hm;subst hm;exact ⟨m,rest,rfl,h1,h2,by simpa using hl,λk e' hk=>by simpa using hp (k+1) e' (by simpa using hk)⟩
def FQ (kd:TypeDesc) (a:AV):Prop:=match kd,a with | .int _,.i _ _ | .int _,.z _ _ _ | .string,.s _ | .bool,.b _=>True | _,_=>False
theorem find_ok {kd:TypeDesc} {k:AV} {x:Value} (hf:FQ kd k) (hx:VR η k x):∀ {es:List (AV×AV)} {ms:List MapEntry} {i:Nat} {r:Option (Nat×AV)},
 yC k es i=some r->vP η es ms->∃r',Instr.findNow kd x ms i=some r'/\(match r,r' with | none,none=>True | some (j,v),some (j',y)=>j=j'/\i<=j/\j < i+es.length/\VR η v y | _,_=>False)
 | [],ms,i,r,h,hm=>by
   simp only [yC,aT] at h;subst h;have:ms=[]:=by have:=hm.1;cases ms<;>simp_all
   subst this;exact ⟨none,rfl,trivial⟩
 | e::es,ms,i,r,h,hm=>by
   obtain ⟨m,rest,rfl,h1,h2,h3⟩:=hm.tail;unfold yC at h;split at h
   ·next hk=>
    cases h;have hs:=abn (kd:=kd) hf hk hx h1;exact ⟨some (i,m.val),by simp [Instr.findNow,hs],rfl,dN _,by simp,h2⟩
   ·next hk=>
    have hs:=abn (kd:=kd) hf hk hx h1;obtain ⟨r',hr,hrel⟩:=find_ok hf hx h h3;refine ⟨r',by simp [Instr.findNow,hs,hr], ?_⟩;cases r<;>cases r'<;>simp only at hrel ⊢
    obtain ⟨a,b,c,d⟩:=hrel;exact ⟨a,by omega,by simp;omega,d⟩
   ·cases h
theorem aaC {t:TypeId} {k:AV} (h:Hf P t k=true):∃kd,P.underlying t=some kd/\FQ kd k:=by
 unfold Hf at h;split at h
 ·next hu=>exact ⟨_,hu,trivial⟩
 ·next hu=>exact ⟨_,hu,trivial⟩
 ·next hu=>exact ⟨_,hu,trivial⟩
 ·next hu=>exact ⟨_,hu,trivial⟩
 ·cases h
theorem Zt {t:TypeId} {k:AV} {x:Value} {kd:TypeDesc} (hu:P.underlying t=some kd) (hf:FQ kd k) (hx:VR η k x) (b:Bool):(Instr.checkKey b 10000 t x).run P w=.ok () w:=by
 have H:∀n:Nat,(Instr.checkKey b (n+1) t x).run P w=.ok () w:=λn=>by
  cases kd<;>cases k<;>simp only [FQ] at hf<;>simp only [VR] at hx<;>(first | subst hx | obtain ⟨_,_,_,rfl⟩:=hx)<;>simp only [Instr.checkKey,aS,aV hu,aQ,bC]
 exact H 9999
def qj (kt et:TypeId) (y:Value) (ok:Bool) (es:Array MapEntry):Sem Value:=do
 Instr.checkKey es.isEmpty 10000 kt y
 let (v,k) <- match <- Instr.findKey kt y es.toList with
  | some (_,v)=>pure (v,true)
  | none=>pure (<- zeroValue et,false)
 pure (if ok then .tuple #[v,.bool k] else v)
theorem lookup_nil {t kt et:TypeId} (hu:P.underlying t=some (.map kt et)) (y:Value) (ok:Bool):(Instr.lookup t (.map none) y ok).run P w=(qj kt et y ok #[]).run P w:=by
 simp only [Instr.lookup,qj,aS,aV hu,aQ,bC];congr 1
theorem Px {t kt et:TypeId} (hu:P.underlying t=some (.map kt et)) (y:Value) (ok:Bool) {r:Nat} {ms:Array MapEntry} {clock:Nat} (hb:w.heap[r]? = some (.map ms clock)) :
 (Instr.lookup t (.map (some r)) y ok).run P w=(qj kt et y ok ms).run P w:=by
 have hg:(getObj r).run P w=.ok (.map ms clock) w:=by simp [getObj,Sem.run,hb]
 simp only [Instr.lookup,qj,aS,aV hu,aQ,bC,hg];congr 1
theorem akX (h:SR P η σ w) {t:TypeId} {m k v:AV} {x y:Value} {ok:Bool} (hs:MV P t m k ok σ=some v) (hx:VR η m x) (hy:VR η k y) :
 ∃z,(Instr.lookup t x y ok).run P w=.ok z w/\VR η v z:=by
 unfold MV at hs;split at hs
 ·next kt et hu=>
  split at hs
  ·next es hes=>
   split at hs
   ·next hfit=>
    obtain ⟨kd,lW,hf⟩:=aaC hfit;have hms:∃ms:Array MapEntry,(Instr.lookup t x y ok).run P w=(qj kt et y ok ms).run P w/\vP η es ms.toList:=by
     split at hes
     ·cases hes
      simp only [VR] at hx;subst hx;exact ⟨#[],lookup_nil hu y ok,by simp [vP]⟩
     ·next id=>
      simp only [VR] at hx;obtain ⟨q,hq,rfl⟩:=hx;split at hes
      ·next es' hg=>
       cases hes;obtain ⟨q',hq',ms,clock,hb,hsz,hp⟩:=h.obj _ _ hg rfl;rw [hq] at hq';cases hq';refine ⟨ms,Px hu y ok hb,by simpa using hsz,λk e hk=>?_⟩;obtain ⟨m,hm,h1,h2⟩:=hp k e hk;exact ⟨m,by simpa using hm,h1,h2⟩
      ·cases hes
     ·cases hes
    obtain ⟨ms,hrun,hmr⟩:=hms;rw [hrun];have hck:∀b,(Instr.checkKey b 10000 kt y).run P w=.ok () w:=λb=>Zt lW hf hy b;have key:∀r,yC k es 0=some r->∃r',(Instr.findKey kt y ms.toList).run P w=.ok r' w/\(match r,r' with | none,none=>True | some (j,v),some (j',y)=>j=j'/\0<=j/\j < 0+es.length/\VR η v y | _,_=>False):=λr hr=>by
     obtain ⟨r',h1,h2⟩:=find_ok hf hy hr hmr;exact ⟨r',by simp only [Instr.findKey,aS,aV lW,aQ,h1,bC],h2⟩
    split at hs
    ·next j u hfound=>
     cases hs;obtain ⟨r',h1,h2⟩:=key _ hfound;cases r' with
     | none=>exact h2.elim
     | some p=>
       obtain ⟨j',z⟩:=p;obtain ⟨rfl,_,_,uj⟩:=h2;refine ⟨if ok then .tuple #[z,.bool true] else z, ?_, ?_⟩
       ·simp only [qj,aS,aQ,hck,h1,bC]
       ·cases ok
        ·simpa using uj
        ·simp only [VR];exact ⟨[z,.bool true],rfl,ay.cons uj (ay.cons (by simp [VR]) (by simp [ay]))⟩
    ·next hfound=>
     obtain ⟨r',h1,h2⟩:=key _ hfound;cases r' with
     | some p=>exact h2.elim
     | none=>
       split at hs
       ·next i nN=>
        split at hs
        ·next z hz=>
         simp only [aW] at hs;obtain ⟨a,ha,rfl⟩:=hs;obtain ⟨h3,h4⟩:=Rq (w:=w) (η:=η) nN hz ha;refine ⟨if ok then .tuple #[z,.bool false] else z, ?_, ?_⟩
         ·simp only [qj,aS,aQ,hck,h1,h3,bC]
         ·cases ok
          ·simpa using h4
          ·simp only [VR];exact ⟨[z,.bool false],rfl,ay.cons h4 (ay.cons (by simp [VR]) (by simp [ay]))⟩
        ·cases hs
       ·cases hs
    ·cases hs
   ·cases hs
  ·cases hs
 ·cases hs
theorem aoX {k:AV} {x y:Value} {kd:TypeDesc} (hf:FQ kd k) (hx:VR η k x) (hy:Instr.sameNow kd x y=some true) (n:Nat):Instr.sameBits (n+1) y x=true:=by
 cases kd<;>cases k<;>simp only [FQ] at hf<;>simp only [VR] at hx<;>(first | subst hx | obtain ⟨_,_,_,rfl⟩:=hx)<;>cases y<;>simp only [Instr.sameNow,aT,reduceCtorEq] at hy
 ·simp_all [Instr.sameBits]
 ·split at hy
  ·simp_all [Instr.sameBits]
  ·cases hy
 ·split at hy
  ·simp_all [Instr.sameBits]
  ·cases hy
 ·next s s'=>
  obtain ⟨⟨l⟩⟩:=s';rw [Dy] at hy;simp only [Instr.sameBits,Dy];simp_all
theorem zD (h:SR P η σ w) {c:List AV} {xs:Array Value} {elem:TypeId} {opn:Bool} {es:Nat} (hv:ay η c (xs.toList.take c.length)) (hle:c.length<=xs.size) (hshut:opn=false->c.length=xs.size)
 (hroom:opn=true->elem≠0/\0 < es/\sizeT P elem=some es) :
 St P η σ w (η.put σ.next ⟨w.heap.size,0,xs.size,es⟩) (σ.new (.cells c elem true opn)) { w with heap:=w.heap.push (.cells xs elem) }:=by
 refine St.alloc h _ _ _ rfl ?_;refine ⟨xs,elem,(0,0),by simp, ?_⟩;refine { fits:=by simp,le:=hle,shut:=hshut,cell:=?_,free:=λ_ k _=>by simp,whole:=λ_=>⟨rfl,by simp,λ_=>rfl⟩,room:=hroom };intro k a hk;obtain ⟨x,hx,jQ⟩:=hv.at hk;have hkl:k < c.length:=(dY.1 hk).1;rw [kM,aj hkl] at hx;exact ⟨x,by simpa using hx,VR.mono (Env.E5 h _) _ _ jQ⟩
theorem acw {q:Place} {id:Nat} (h0:q.ba=0):VR (η.put id q) (.p id 0) (.pointer (some ⟨q.bl,0,none⟩)):=by
 simp only [VR];exact ⟨q,by simp [Env.put],by simp [h0]⟩
theorem afu (h:SR P η σ w) {t:TypeId} {z:List AV} (hz:wK P t=some z) :
 ∃y w' η',(Instr.alloc t true (.tuple #[])).run P w=.ok y w'/\St P η σ w η' (σ.new (.cells z t true false)) w'/\VR η' (.p σ.next 0) y:=by
 obtain ⟨zv,mQ,hzv⟩:=CO hz;have hl:=(hzv η).length;refine ⟨_,_,_, ?_,zD h (xs:=zv.cells) (es:=0) (opn:=false) ?_ (by simpa using F7 hl) (λ_=>by simpa using hl) (by simp),acw rfl⟩
 ·simp only [Instr.alloc,aS,mQ,aQ,newVar,newRow,newObj,Sem.run,bC]
 ·rw [hl,xU];exact hzv η
theorem Y9 (h:SR P η σ w) {t:TypeId} {a:AV} {x:Value} (hx:VR η a x) :
 ∃y w' η',(Instr.box t x).run P w=.ok y w'/\St P η σ w η' (σ.new (.cells a.cells t true false)) w'/\VR η' (.p σ.next 0) y:=by
 have hc:=wY hx;have hl:=hc.length;refine ⟨_,_,_, ?_,zD h (xs:=x.cells) (es:=0) (opn:=false) ?_ (by simpa using F7 hl) (λ_=>by simpa using hl) (by simp),acw rfl⟩
 ·simp only [Instr.box,aS,aQ,newVar,newRow,newObj,Sem.run,bC]
 ·rw [hl,xU];exact hc
theorem yA {t e:TypeId} {size bytes:Nat} {z:List AV} (h:tV P t=some (e,size,bytes,z)) :
 P.underlying t=some (.slice e)/\(∃i,P.info? e=some i/\i.size=size/\i.bytes=bytes)/\wK P e=some z/\e≠0/\z.length=size/\sizeT P e=some size:=by
 unfold tV at h;split at h
 ·next e' hu=>
  split at h
  ·next i z' hi hz=>
   split at h
   ·next hc=>
    cases h;exact ⟨hu,⟨i,hi,rfl,rfl⟩,hz,hc.1,hc.2,by simp [sizeT,hi]⟩
   ·cases h
  ·cases h
 ·cases h
theorem adH {z:List AV}:∀ (n k:Nat),k < n * z.length->(iL n z)[k]? = z[k % z.length]?
 | 0,k,h=>by simp at h
 | n+1,k,h=>by
   have hs:iL (n+1) z=z++iL n z:=by simp [iL,Jq]
   rw [hs];have hp:0 < z.length:=by rcases RU z.length with e | e<;>simp_all
   by_cases hk:k < z.length
   ·rw [kT hk,MG hk]
   ·rw [sO (by omega),adH n (k - z.length) (by rw [Nat.succ_mul] at h;omega)]
    congr 1;have:k=(k - z.length)+z.length:=by omega
    rw [this,Nat.add_mod_right];congr 1;omega
theorem Qk {z:List AV} (n:Nat):(iL n z).length=n * z.length:=by simp [iL]
theorem LW {z:List AV} {zv:Array Value} {n size:Nat} (hz:ay η z zv.toList) (hs:z.length=size):ay η (iL n z) ((Array.range (n * size)).map (zv[· % zv.size]!)).toList:=by
 have hl:=hz.length;simp only [FN] at hl;refine ay.of ?_ λk a hk=>?_
 ·rw [Qk];simp [hs]
 ·have hkl:k < n * z.length:=by have:=(dY.1 hk).1;rwa [Qk] at this
  rw [adH n k hkl] at hk;obtain ⟨x,hx,hv⟩:=hz.at hk;refine ⟨x, ?_,hv⟩;have hk2:k < n * size:=by rw [<- hs];exact hkl
  rw [sN] at hx;rw [sN,Array.getElem?_map,Array.getElem?_range,aj hk2];have hm:k % zv.size < zv.size:=by
   have:=(nZ.1 hx).1;rwa [hl] at this
  rw [hl] at hx;simp [hm,getElem!_pos];have:=(nZ.1 hx).2;exact this
end
end Go.aN
