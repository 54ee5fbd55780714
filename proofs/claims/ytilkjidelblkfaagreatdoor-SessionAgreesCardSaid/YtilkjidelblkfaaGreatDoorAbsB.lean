/- The operations, one by one: what the model's operation does where the evaluator's answers. -/
import Derived.Test.YtilkjidelblkfaaGreatDoorAbsA
import Derived.Lib.Builder
namespace Go.aJ
set_option linter.unusedSimpArgs false
noncomputable section
variable [aG]
set_option linter.unusedSectionVars false
set_option linter.unusedVariables false
variable {P:Program} {η:Env} {σ σ':au} {w:World}
theorem aW {t:TypeId} {d:TypeDesc} (h:P.underlying t=some d):(underlying t).run P w=.ok d w:=by
 simp [underlying,program,Sem.run,h]
theorem iI {t:TypeId} {n:Nat} (h:sizeT P t=some n):(sizeOf t).run P w=.ok n w:=by
 simp only [sizeT,aX] at h;obtain ⟨i,hi,rfl⟩:=h;simp [sizeOf,typeInfo,program,Sem.run,hi]
theorem Gf {t:TypeId} {b:Bool} (h:nD P t=some b):(isAgg t).run P w=.ok b w:=by
 unfold nD at h;split at h<;>cases h
 ·next h'=>simp [isAgg,aW h']
 ·next h'=>simp [isAgg,aW h']
 ·next d h' h1 h2=>
  cases d<;>simp_all [isAgg,aW]
theorem DN {t:TypeId} {i:TypeInfo} (h:P.info? t=some i):(typeInfo t).run P w=.ok i w:=by
 simp [typeInfo,program,Sem.run,h]
theorem adZ {v:Value} (h:oD v=true):v.cells = #[v]:=by cases v<;>simp [oD] at h<;>rfl
theorem GR.oD {ro:Nat->Option Obj} {g:GV} {v:Value} (h:GR ro g v) (hs:g.scalar=true):oD v=true:=by
 cases g<;>simp only [GR] at h
 case g cs=>cases hs
 case l xs=>rcases h with ⟨_,_,rfl⟩ | ⟨bl,off,c,ys,sz,rfl,_⟩<;>rfl
 all_goals subst h;rfl
def AV.sym:AV->Bool
 | .nd _ | .rx _ _ | .sv _ _ | .pv _ _ _ | .pd _ _=>true
 | _=>false
theorem VR.afC {a:AV} {v:Value} (ha:a.sym=true) (h:VR η a v):oD v=true:=by
 cases a<;>simp only [VR] at h<;>first | (cases ha;done) | skip
 case nd n=>obtain ⟨g,_,h2,h3⟩:=h;exact h3.oD h2
 case rx n off=>obtain ⟨g,bl,base,cs,elem,fr,x,h1,h2,h3,rfl,_⟩:=h;rfl
 case sv id n=>obtain ⟨xs,_,⟨q,_,_,rfl⟩ | ⟨_,_,rfl⟩⟩:=h<;>rfl
 case pv id n off=>obtain ⟨q,k,i,_,_,rfl⟩:=h;rfl
 case pd id n=>obtain ⟨xs,p,_,rfl,_⟩:=h;rfl
theorem ahA {a:AV} {v:Value} (ha:a.sym=true) (h:VR η a v):aA η a.cells v.cells.toList:=by
 have h1:=adZ (VR.afC ha h);have h2:a.cells=[a]:=by cases a<;>first | rfl | (cases ha)
 rw [h1,h2];exact aA.cons h (by simp [aA])
theorem xO {a:AV} {v:Value} (h:VR η a v):aA η a.cells v.cells.toList:=by
 by_cases hs:a.sym=true
 ·exact ahA hs h
 cases a<;>first | (exact absurd rfl hs) | skip
 all_goals simp only [VR] at h
 case agg l=>obtain ⟨vs,rfl,h1⟩:=h;simpa [AV.cells,Value.cells] using h1
 case bY l=>obtain ⟨vs,rfl,h1⟩:=h;simp only [AV.cells,Value.cells];exact aA.cons (by simp only [VR];exact ⟨vs,rfl,h1⟩) (by simp [aA])
 case p id off=>obtain ⟨q,hq,rfl⟩:=h;exact aA.cons (by simp only [VR];exact ⟨q,hq,rfl⟩) (by simp [aA])
 case sl id off len cap=>obtain ⟨q,hq,hle,rfl⟩:=h;exact aA.cons (by simp only [VR];exact ⟨q,hq,hle,rfl⟩) (by simp [aA])
 case mp id=>obtain ⟨q,hq,rfl⟩:=h;exact aA.cons (by simp only [VR];exact ⟨q,hq,rfl⟩) (by simp [aA])
 case fn f fi cs=>obtain ⟨us,vs,rfl,h1,h2⟩:=h;exact aA.cons (by simp only [VR];exact ⟨us,vs,rfl,h1,h2⟩) (by simp [aA])
 case dY t b=>obtain ⟨x,rfl,h1⟩:=h;exact aA.cons (by simp only [VR];exact ⟨x,rfl,h1⟩) (by simp [aA])
 case z k lo hi=>obtain ⟨n,h1,h2,rfl⟩:=h;exact aA.cons (by simp only [VR];exact ⟨n,h1,h2,rfl⟩) (by simp [aA])
 case ro l=>
  have h':VR η (.ro l) v:=by simp only [VR];exact h
  rcases h with ⟨_,_,rfl⟩ | ⟨bl,off,c,xs,sz,rfl,h1⟩
  ·exact aA.cons h' (by simp [aA])
  ·exact aA.cons h' (by simp [aA])
 case rp a off=>obtain ⟨bl,base,cs,elem,fr,x,h1,h2,rfl,h3⟩:=h;exact aA.cons (by simp only [VR];exact ⟨bl,base,cs,elem,fr,x,h1,h2,rfl,h3⟩) (by simp [aA])
 all_goals subst h;exact aA.cons (by simp only [VR]) (by simp [aA])
theorem Xb {a:AV} {v:Value} (h:VR η a v) (ha:a.lJ=true):oD v=true:=by
 by_cases hs:a.sym=true
 ·exact h.afC hs
 cases a<;>first | (exact absurd rfl hs) | skip
 all_goals simp only [VR] at h
 all_goals simp [AV.lJ] at ha
 case p id off=>obtain ⟨q,hq,rfl⟩:=h;rfl
 case sl id off len cap=>obtain ⟨q,hq,_,rfl⟩:=h;rfl
 case mp id=>obtain ⟨q,hq,rfl⟩:=h;rfl
 case fn f fi cs=>obtain ⟨us,vs,rfl,h1,h2⟩:=h;rfl
 case dY t b=>obtain ⟨x,rfl,h1⟩:=h;rfl
 case z k lo hi=>obtain ⟨n,h1,h2,rfl⟩:=h;rfl
 case ro l=>rcases h with ⟨_,_,rfl⟩ | ⟨bl,off,c,xs,sz,rfl,h1⟩<;>rfl
 case rp a off=>obtain ⟨bl,base,cs,elem,fr,x,h1,h2,rfl,h3⟩:=h;rfl
 all_goals subst h;rfl
theorem Ez {xs:List Value} {sz:Nat} (h:∀x∈xs,x.cells.size=sz):(dh xs).length=xs.length * sz:=by
 induction xs with
 | nil=>simp [dh]
 | cons x xs ih=>
   have h0:=h x (by simp);have:=ih λy hy=>h y (by simp [hy]);simp only [dh,ji,fG,jK] at this ⊢;rw [this,qC,D8,JO];simp [h0]
theorem aaH {xs:List Value} {sz:Nat} (h:∀x∈xs,x.cells.size=sz) (i:Nat):(dh xs).drop (i * sz)=dh (xs.drop i):=by
 induction xs generalizing i with
 | nil=>simp [dh]
 | cons x xs ih=>
   cases i with
   | zero=>simp
   | succ i=>
     have h0:=h x (by simp);have:=ih (λy hy=>h y (by simp [hy])) i;simp only [Tz];rw [<- this];simp only [dh,ji];have hl:x.cells.toList.length=sz:=by simpa using h0
     rw [show (i+1) * sz=x.cells.toList.length+i * sz by rw [hl,qC,D8,JO]];rw [Zo,List.drop_of_length_le (by omega),bn,TN]
theorem ahw {xs:List Value} {sz:Nat} (h:∀x∈xs,x.cells.size=sz) (i:Nat):(dh xs).take (i * sz)=dh (xs.take i):=by
 induction xs generalizing i with
 | nil=>simp [dh]
 | cons x xs ih=>
   cases i with
   | zero=>simp [dh]
   | succ i=>
     have h0:=h x (by simp);have:=ih (λy hy=>h y (by simp [hy])) i;simp only [zZ];simp only [dh,ji] at this ⊢;have hl:x.cells.toList.length=sz:=by simpa using h0
     rw [show (i+1) * sz=x.cells.toList.length+i * sz by rw [hl,qC,D8,JO]];rw [List.take_length_add_append,this]
theorem aaF {xs:List Value} {sz i:Nat} {x:Value} (h:∀x∈xs,x.cells.size=sz) (hi:xs[i]? = some x) (k:Nat) (hk:k < sz):(dh xs)[i * sz+k]? = x.cells[k]?:=by
 have h1:=aaH h i;have hlt:=(dX.1 hi).1;have hd:xs.drop i=x::xs.drop (i+1):=by
  rw [<- (dX.1 hi).2];exact iC hlt
 have:(dh xs)[i * sz+k]? = ((dh xs).drop (i * sz))[k]?:=by rw [qw]
 rw [this,h1,hd];have hs:=h x (oL hi);simp only [dh,ji];rw [lV (by simpa [hs] using hk)];simp
theorem OO {a:AV} {v:Value} (h:VR η a v):a.cells.length=v.cells.size:=by
 have:=(xO h).length;simpa using this
theorem abN {l:List AV} {xs:List Value} (h:aA η l xs):aA η (l.flatMap AV.cells) (dh xs):=by
 induction l generalizing xs with
 | nil=>simp only [aA] at h;subst h;simp [aA,dh]
 | cons a l ih=>
   simp only [aA] at h;obtain ⟨x,ys,rfl,h1,h2⟩:=h;simp only [ji,dh];exact aA.append (xO h1) (ih h2)
theorem agX {l:List AV} {xs:List Value} {n:Nat} (h:aA η l xs) (ha:l.all (λa=>a.cells.length==n)=true):∀x∈xs,x.cells.size=n:=by
 intro x hx;obtain ⟨k,hk⟩:=TI.1 hx;have hlt:k < l.length:=by have:=(dX.1 hk).1;have:=h.length;omega
 obtain ⟨y,hy,sW⟩:=h.at (bM hlt);rw [hk] at hy;cases hy;have:=List.all_eq_true.1 ha _ (gU hlt);rw [<- OO sW];simpa using this
theorem apY {l:List AV} {v:Value} (h:VR η (.ro l) v) {i size:Nat} {a:AV} (hi:l[i]? = some a) (hs:a.cells.length=size) :
 ∃bl off c cs elem fr x,v=.slice (some ⟨bl,off,none⟩) l.length c/\l.length<=c/\η.ro bl=some (.cells cs elem fr)/\VR η a x/\off+i * size+x.cells.size<=cs.size/\CW cs (off+i * size) x.cells.toList:=by
 simp only [VR] at h;rcases h with ⟨rfl,_⟩ | ⟨bl,off,c,xs,sz,rfl,hc,h1,h2,h3⟩
 ·simp at hi
 obtain ⟨x,hx,jP⟩:=h1.at hi;obtain ⟨cs,elem,fr,h4,h5,h6⟩:=h3 (by intro e;subst e;simp at hi);have hsz:=h2 x (oL hx);have:sz=size:=by rw [<- hsz,<- OO jP,hs]
 subst this;have hlen:=Ez h2;have hlt:=(dX.1 hx).1;have hmul:(i+1) * sz<=xs.length * sz:=sH _ hlt;rw [qC,D8] at hmul;refine ⟨bl,off,c,cs,elem,fr,x,rfl,hc,h4,jP,by omega,λk y hk=>?_⟩;have hks:k < sz:=by have:=(dX.1 hk).1;simp at this;omega
 have:=h6 (i * sz+k) y (by rw [aaF h2 hx k hks];simpa using hk);rw [<- jv] at this;exact this
theorem DR {t:TypeId} {zc:List AV} (h:xB P t=some zc):∃z,(∀w,(zeroValue t).run P w=.ok z w)/\∀η:Env,aA η zc z.cells.toList:=by
 unfold xB at h;split at h
 ·next i hi=>
  split at h
  ·next z hz=>
   simp only [aX] at h;obtain ⟨a,ha,rfl⟩:=h;exact ⟨z,λw=>by simp [zeroValue,DN hi,hz],λη=>xO (Bj _ _ _ ha)⟩
  ·cases h
 ·cases h
theorem qg {l r:List AV} {off n:Nat} (h:takeN l off n=some r):r=(l.drop off).take n/\r.length=n/\(n=0\/off+n<=l.length):=by
 simp only [takeN] at h;split at h
 ·next h1=>
  cases h;refine ⟨rfl,h1, ?_⟩;simp at h1;omega
 ·cases h
theorem afJ {l r:List AV} {off n:Nat} (h:takeN l off n=some r) {k:Nat} {a:AV} (hk:r[k]? = some a):l[off+k]? = some a:=by
 obtain ⟨rfl,_,_⟩:=qg h;rw [kQ] at hk;split at hk
 ·rw [qw] at hk;exact hk
 ·cases hk
theorem ql.take {q:Place} {c:List AV} {et:TypeId} {rw opn:Bool} {cs:Array Value} {elem:TypeId} {fr:Nat×Nat} (r:ql P η q c et rw opn cs elem fr)
 {off n:Nat} {l:List AV} (h:takeN c off n=some l):q.ba+off+n<=cs.size\/n=0:=by
 obtain ⟨_,_,h1⟩:=qg h;have:=r.fits;have:=r.le;omega
theorem ql.xA {q:Place} {c:List AV} {et:TypeId} {rw opn:Bool} {cs:Array Value} {elem:TypeId} {fr:Nat×Nat} (r:ql P η q c et rw opn cs elem fr)
 {off n:Nat} {l:List AV} (h:takeN c off n=some l):aA η l ((cs.toList.drop (q.ba+off)).take n):=by
 obtain ⟨hl,hlen,h1⟩:=qg h;have h2:=r.fits;have h3:=r.le;refine aA.of ?_ λk a hk=>?_
 ·simp;omega
 ·have h4:=afJ h hk
  obtain ⟨x,hx,hv⟩:=r.cell _ _ h4;refine ⟨x, ?_,hv⟩;have hkn:k < n:=by have:=(dX.1 hk).1;omega
  rw [kQ,aj hkn,qw];rw [<- jv] at hx;simpa using hx
theorem BA {bl off n:Nat} {cs:Array Value} {elem:TypeId} {fr:Nat×Nat} (h:w.heap[bl]? = some (.cells cs elem fr)) (hle:off+n<=cs.size\/n=0) :
 (loadCells ⟨bl,off,none⟩ n).run P w=.ok ⟨(cs.toList.drop off).take n⟩ w:=by
 rcases hle with h1 | rfl
 ·exact run_loadCells h h1
 ·simp [loadCells,loadCellsFrom]
theorem Dy (h:SR P η σ w) {t:TypeId} {a v:AV} {x:Value} (ha:uq P t σ a=some v) (hx:VR η a x) :
 ∃y,(Instr.loadAt t x).run P w=.ok y w/\VR η v y:=by
 unfold uq at ha;split at ha
 ·next id off=>
  split at ha
  ·next c et rw opn hg=>
   obtain ⟨q,hq,cs,elem,fr,hb,r⟩:=h.obj _ _ hg rfl;simp only [VR] at hx;obtain ⟨q',hq',rfl⟩:=hx;rw [hq] at hq';cases hq';split at ha
   ·next hagg=>
    split at ha
    ·next n hn=>
     simp only [aX] at ha;obtain ⟨l,hl,rfl⟩:=ha;refine ⟨.agg ⟨(cs.toList.drop (q.ba+off)).take n⟩, ?_, ?_⟩
     ·simp only [Instr.loadAt,Instr.sureAddr,aO,aZ,aN,loadVar,Gf hagg,if_true,iI hn,sK]
      rw [BA hb (r.take hl)];rfl
     ·simp only [VR];exact ⟨_,rfl,r.xA hl⟩
    ·cases ha
   ·next hagg=>
    obtain ⟨x,hx,hv⟩:=r.cell _ _ ha;refine ⟨x, ?_,hv⟩;simp only [Instr.loadAt,Instr.sureAddr,aO,aZ,aN,loadVar,Gf hagg,sK];exact ae8 hb hx
   ·cases ha
  ·cases ha
 ·next e off=>
  simp only [VR] at hx;obtain ⟨bl,base,cs,elem,fr,x,h1,h2,rfl,h3,h4⟩:=hx;have hb:=h.iP _ _ h1;have hcv:=xO h2;have hcl:=OO h2;split at ha
  ·next hagg=>
   split at ha
   ·next n hn=>
    simp only [aX] at ha;obtain ⟨l,hl,rfl⟩:=ha;obtain ⟨hl1,hl2,hl3⟩:=qg hl;have hfit:base+off+n<=cs.size\/n=0:=by omega
    refine ⟨.agg ⟨(cs.toList.drop (base+off)).take n⟩, ?_, ?_⟩
    ·simp only [Instr.loadAt,Instr.sureAddr,aO,aZ,aN,loadVar,Gf hagg,if_true,iI hn,sK]
     rw [BA hb hfit];rfl
    ·simp only [VR]
     refine ⟨_,rfl, ?_⟩;have heq:(cs.toList.drop (base+off)).take n=(x.cells.toList.drop off).take n:=by
      apply GX;intro k;rw [kQ,kQ];split
      ·next hk=>
       rw [qw,qw];have hlt:off+k < x.cells.toList.length:=by simp;omega
       have:=h4 (off+k) _ (bM hlt);rw [bM hlt,tX,jv];exact this
      ·rfl
     rw [heq,hl1];exact (hcv.drop off).take n
   ·cases ha
  ·next hagg=>
   obtain ⟨y,hy,hv⟩:=hcv.at ha;refine ⟨y, ?_,hv⟩;simp only [Instr.loadAt,Instr.sureAddr,aO,aZ,aN,loadVar,Gf hagg,sK];exact ae8 hb (h4 off y hy)
  ·cases ha
 ·cases ha
theorem Rz {l l' vs:List AV} {off:Nat} (h:yA l off vs=some l'):off+vs.length<=l.length/\l'.length=l.length/\
 ∀ (k:Nat),l'[k]? = if off<=k/\k < off+vs.length then vs[k - off]? else l[k]?:=by
 unfold yA at h;split at h
 ·next h1=>
  cases h;refine ⟨h1,by simp;omega,λk=>?_⟩;by_cases h2:k < off
  ·rw [ah (by omega),List.append_assoc,lV (by simp;omega),kQ,aj h2]
  ·by_cases h3:k < off+vs.length
   ·rw [aj ⟨by omega,h3⟩,lV (by simp;omega),tY (by simp;omega)]
    simp;congr 1;omega
   ·rw [ah (by omega),tY (by simp;omega),qw]
    congr 1;simp;omega
 ·cases h
theorem Td (h:SR P η σ w) {id off:Nat} {c c':List AV} {et:TypeId} {opn:Bool} {vs:List AV} {xs:List Value} {q:Place} (hg:σ.get id=some (.cells c et true opn)) (hl:σ.lock<=id)
 (hq:η id=some q) (hs:yA c off vs=some c') (hv:aA η vs xs) (hone:vs.all AV.lJ=true) :
 ∃w',(storeCells ⟨q.bl,q.ba+off,none⟩ xs).run P w=.ok () w'/\St P η σ w η (σ.put id (.cells c' et true opn)) w':=by
 obtain ⟨q',hq',cs,elem,fr,hb,r⟩:=h.obj _ _ hg rfl;rw [hq] at hq';cases hq';obtain ⟨h1,h2,h3⟩:=Rz hs;have hlen:=hv.length;have hf:=r.fits;have hle:=r.le;have hxs:∀x∈xs,oD x=true:=by
  intro x hx;obtain ⟨k,hk⟩:=TI.1 hx;have hlt:k < vs.length:=by have:=(dX.1 hk).1;omega
  obtain ⟨y,hy,sW⟩:=hv.at (bM hlt);rw [hk] at hy;cases hy;exact Xb sW (List.all_eq_true.1 hone _ (gU hlt))
 have hrun:=Yk (P:=P) xs w q.bl (q.ba+off) 0 cs elem fr hb (by omega) hxs (λk a b=>by
  have:=r.free rfl (k - q.ba) (by omega);rw [NQ (by omega)] at this;exact this)
 refine ⟨_,hrun, ?_⟩;refine St.write h hg rfl hl hq BG (λk hk=>BD hk) rfl rfl rfl ?_;refine ⟨_,elem,fr,zI hb, ?_⟩;refine { fits:=by rw [Jq];exact hf,le:=by omega,shut:=λe=>by rw [h2];exact r.shut e,cell:=?_,free:=λe=>r.free e,whole:=λe=>by rw [Jq];exact r.whole e,room:=r.room };intro k a hk;rw [h3] at hk;rw [Ry _ _ _ _ (by omega)];split at hk
 ·next h4=>
  rw [aj (by omega)];obtain ⟨x,hx,jP⟩:=hv.at hk;refine ⟨x, ?_,jP⟩;rw [<- hx];congr 1;omega
 ·next h4=>
  rw [ah (by omega)];exact r.cell k a hk
theorem RS (h:SR P η σ w) {t:TypeId} {a v:AV} {x y:Value} (hs:CP P t σ a v=some σ') (hx:VR η a x) (hy:VR η v y) :
 ∃w',(Instr.storeAt t x y).run P w=.ok () w'/\St P η σ w η σ' w':=by
 unfold CP at hs;split at hs
 ·next id off=>
  split at hs
  ·next c et opn hg=>
   split at hs
   ·next hc=>
    obtain ⟨hl,hsz,hone⟩:=hc;simp only [aX] at hs;obtain ⟨c',hr,rfl⟩:=hs;simp only [VR] at hx;obtain ⟨q,hq,rfl⟩:=hx;have hcells:=xO hy;obtain ⟨w',hrun,hst⟩:=Td h hg hl hq hr hcells hone;refine ⟨w', ?_,hst⟩;have hlen:=hcells.length;simp only [Instr.storeAt,Instr.sureAddr,aO,aZ,aN,storeVar,iI hsz,sK];rw [ah (by simp at hlen ⊢;omega)];simpa using hrun
   ·cases hs
  ·cases hs
 ·cases hs
end
end Go.aJ
namespace Go.aJ
set_option linter.unusedSimpArgs false
noncomputable section
variable [aG]
set_option linter.unusedSectionVars false
set_option linter.unusedVariables false
variable {P:Program} {η:Env} {σ σ':au} {w:World}
theorem xH {a:AV} {n:Int} {x:Value} (h:uo a=some n) (hx:VR η a x):∃k,x=.int k n:=by
 cases a<;>simp [uo] at h
 subst h;simp only [VR] at hx;exact ⟨_,hx⟩
theorem zH {a:AV} {v:Value} {x:Value} (h:uY a=some v) (hx:VR η a x):x=v:=afP 4 a v x h hx
theorem aeb {t:TypeId} {cs:List AV} {vs:List Value} {off:Nat} {v:AV} (h:Oi P t cs off=some v) (hv:aA η cs vs) :
 ∃y,(part t ⟨vs⟩ off).run P w=.ok y w/\VR η v y:=by
 unfold Oi at h;split at h
 ·next hagg=>
  split at h
  ·next n hn=>
   simp only [aX] at h;obtain ⟨l,hl,rfl⟩:=h;refine ⟨.agg ((⟨vs⟩:Array Value).extract off (off+n)), ?_, ?_⟩
   ·simp [part,Gf hagg,iI hn]
   ·simp only [VR]
    obtain ⟨rfl,_,_⟩:=qg hl;refine ⟨(vs.drop off).take n, ?_,(hv.drop off).take n⟩;simp
  ·cases h
 ·next hagg=>
  obtain ⟨x,hx,jP⟩:=hv.at h;refine ⟨x, ?_,jP⟩;simp [part,Gf hagg,hx]
 ·cases h
theorem akw {t:TypeId} {a v:AV} {x:Value} {f:Nat} (h:N8 P t a f=some v) (hx:VR η a x) :
 ∃y,(Instr.field t x f).run P w=.ok y w/\VR η v y:=by
 unfold N8 at h;split at h
 ·next fields cs hu=>
  split at h
  ·next fd hf=>
   simp only [VR] at hx;obtain ⟨vs,rfl,hv⟩:=hx;obtain ⟨y,hy,sW⟩:=aeb (w:=w) h hv;exact ⟨y,by simp [Instr.field,aW hu,hf,asAgg,hy],sW⟩
  ·cases h
 ·cases h
theorem akv {t:TypeId} {a v:AV} {x:Value} {f:Nat} (h:N9 P t a f=some v) (hx:VR η a x) :
 ∃y,(Instr.fieldAt t x f).run P w=.ok y w/\VR η v y:=by
 unfold N9 at h;split at h
 ·next fields id off hu=>
  split at h
  ·next fd hf=>
   split at h
   ·next n hn=>
    split at h
    ·cases h
    ·next h0=>
     cases h;simp only [VR] at hx;obtain ⟨q,hq,rfl⟩:=hx;refine ⟨.pointer (some ⟨q.bl,q.ba+off+fd.offset,none⟩), ?_, ?_⟩
     ·simp [Instr.fieldAt,aW hu,hf,Instr.sureAddr,fieldPlace,iI hn,h0,oO]
     ·simp only [VR];exact ⟨q,hq,by rw [jv]⟩
   ·cases h
  ·cases h
 ·next fields b off hu=>
  split at h
  ·next fd hf=>
   split at h
   ·next n hn=>
    split at h
    ·cases h
    ·next h0=>
     cases h;simp only [VR] at hx;obtain ⟨bl,base,cs,elem,fr,x,h1,h2,rfl,h3⟩:=hx;refine ⟨.pointer (some ⟨bl,base+off+fd.offset,none⟩), ?_, ?_⟩
     ·simp [Instr.fieldAt,aW hu,hf,Instr.sureAddr,fieldPlace,iI hn,h0,oO]
     ·simp only [VR];exact ⟨bl,base,cs,elem,fr,x,h1,h2,by rw [jv],h3⟩
   ·cases h
  ·cases h
 ·cases h
theorem LD {t:TypeId} {a i v:AV} {x y:Value} (h:wV P t a i=some v) (hx:VR η a x) (hy:VR η i y) :
 ∃z,(Instr.indexAt t x y).run P w=.ok z w/\VR η v z:=by
 unfold wV at h;split at h
 ·next e id off len cap k hu hk=>
  obtain ⟨kd,rfl⟩:=xH hk hy;split at h
  ·next size hn=>
   split at h
   ·next hr=>
    cases h;simp only [VR] at hx;obtain ⟨q,hq,hle,rfl⟩:=hx;refine ⟨.pointer (some ⟨q.bl,q.ba+off+k.toNat * size,none⟩), ?_, ?_⟩
    ·simp [Instr.indexAt,asIntOf,aW hu,iI hn,hr,oO]
    ·simp only [VR];exact ⟨q,hq,by rw [jv]⟩
   ·cases h
  ·cases h
 ·next len e id off k hu hk=>
  obtain ⟨kd,rfl⟩:=xH hk hy;split at h
  ·next size hn=>
   split at h
   ·next hr=>
    cases h;simp only [VR] at hx;obtain ⟨q,hq,rfl⟩:=hx;refine ⟨.pointer (some ⟨q.bl,q.ba+off+k.toNat * size,none⟩), ?_, ?_⟩
    ·simp [Instr.indexAt,asIntOf,aW hu,iI hn,hr,oO,Instr.sureAddr]
    ·simp only [VR];exact ⟨q,hq,by rw [jv]⟩
   ·cases h
  ·cases h
 ·next e l k hu hk=>
  obtain ⟨kd,rfl⟩:=xH hk hy;split at h
  ·next size hn=>
   split at h
   ·next h0=>
    split at h
    ·next b hb=>
     split at h
     ·next hsz=>
      cases h;obtain ⟨bl,off,c,cs,elem,fr,x,rfl,hc,h1,h2,h3,h4⟩:=apY hx hb hsz;have hlt:=(dX.1 hb).1;have hr:0<=k/\k < (l.length:Int):=⟨h0,by omega⟩
      refine ⟨.pointer (some ⟨bl,off+k.toNat * size,none⟩), ?_, ?_⟩
      ·simp [Instr.indexAt,asIntOf,aW hu,iI hn,hr,oO]
      ·simp only [VR];exact ⟨bl,off+k.toNat * size,cs,elem,fr,x,h1,h2,rfl,h3,h4⟩
     ·cases h
    ·cases h
   ·cases h
  ·cases h
 ·next len e b off k hu hk=>
  obtain ⟨kd,rfl⟩:=xH hk hy;split at h
  ·next size hn=>
   split at h
   ·next hr=>
    cases h;simp only [VR] at hx;obtain ⟨bl,base,cs,elem,fr,x,h1,h2,rfl,h3⟩:=hx;refine ⟨.pointer (some ⟨bl,base+off+k.toNat * size,none⟩), ?_, ?_⟩
    ·simp [Instr.indexAt,asIntOf,aW hu,iI hn,hr,oO,Instr.sureAddr]
    ·simp only [VR];exact ⟨bl,base,cs,elem,fr,x,h1,h2,by rw [jv],h3⟩
   ·cases h
  ·cases h
 ·cases h
theorem ak6 (s:List UInt8) (k:Nat):((⟨⟨s⟩⟩:ByteArray)[k]?)=s[k]?:=by
 rw [getElem?_def,getElem?_def];rfl
theorem VZ {t:TypeId} {a i v:AV} {x y:Value} (h:CO P t a i=some v) (hx:VR η a x) (hy:VR η i y) :
 ∃z,(Instr.index t x y).run P w=.ok z w/\VR η v z:=by
 unfold CO at h;split at h
 ·next s k hu hk=>
  obtain ⟨kd,rfl⟩:=xH hk hy;split at h
  ·next h0=>
   split at h
   ·next c hc=>
    cases h;simp only [VR] at hx;subst hx;refine ⟨.int .u8 c.toNat, ?_,by simp [VR]⟩;simp [Instr.index,asIntOf,aW hu,h0,ak6,hc]
   ·cases h
  ·cases h
 ·next len e cs k hu hk=>
  obtain ⟨kd,rfl⟩:=xH hk hy;split at h
  ·next size hn=>
   split at h
   ·next hr=>
    simp only [VR] at hx;obtain ⟨vs,rfl,hv⟩:=hx;obtain ⟨z,hz,uP⟩:=aeb (w:=w) h hv;exact ⟨z,by simp [Instr.index,asIntOf,aW hu,iI hn,hr,hz],uP⟩
   ·cases h
  ·cases h
 ·cases h
def jS (η:Env):Option AV->Option Value->Prop
 | none,none=>True
 | some a,some x=>VR η a x
 | _,_=>False
theorem CV {sl:Bool} {len cap:Nat} {room:Nat->Bool} {lo hi:Option AV} {lo' hi':Option Value} {l h:Nat} (hb:vO len room lo hi=some (l,h)) (hroom:∀k,room k=true->k<=cap) (hlc:len<=cap)
 (hlo:jS η lo lo') (hhi:jS η hi hi') :
 (Instr.sliceBounds sl len cap lo' hi' none).run P w=.ok (l,h,cap) w/\l<=h/\h<=cap:=by
 unfold vO at hb;split at hb
 ·cases hb
 next hh e=>
 split at hb
 ·cases hb
 next ll e2=>
 simp only [aT,kH] at hb;obtain ⟨rfl,rfl⟩:=hb;have hH:∀c,(match hi' with | some v=>Instr.sliceBound v cap c | none=>pure len).run P w=.ok hh w/\hh<=cap:=by
  intro c;cases hi with
  | none=>cases hi' with
    | none=>simp [yN] at e;subst e;exact ⟨rfl,hlc⟩
    | some _=>exact hhi.elim
  | some a=>cases hi' with
    | none=>exact hhi.elim
    | some x=>
      simp only [yN] at e;simp only [jS] at hhi;split at e
      ·next n hn=>
       obtain ⟨kd,rfl⟩:=xH hn hhi;split at e
       ·next h1=>
        cases e;have:=hroom _ h1.2;refine ⟨?_,this⟩;simp [Instr.sliceBound,asIntOf,h1.1];intro hbad;omega
       ·cases e
      ·cases e
 have hL:∀c,(match lo' with | some v=>Instr.sliceBound v hh c | none=>pure 0).run P w=.ok ll w/\ll<=hh:=by
  intro c;cases lo with
  | none=>cases lo' with
    | none=>simp [Hg] at e2;subst e2;exact ⟨rfl,uj _⟩
    | some _=>exact hlo.elim
  | some a=>cases lo' with
    | none=>exact hlo.elim
    | some x=>
      simp only [Hg] at e2;simp only [jS] at hlo;split at e2
      ·next n hn=>
       obtain ⟨kd,rfl⟩:=xH hn hlo;split at e2
       ·next h1=>
        cases e2;refine ⟨?_,by omega⟩;simp [Instr.sliceBound,asIntOf,h1.1];intro hbad;omega
       ·cases e2
      ·cases e2
 refine ⟨?_,(hL .index).2,(hH .index).2⟩;unfold Instr.sliceBounds;have h1:=hH (if sl then .sliceAcap else .sliceAlen);have h2:=hL (if (none:Option Value).isSome then .slice3C else .sliceB);cases hi'<;>simp only [aO,aZ,aN] at h1 h2 ⊢<;>cases lo'<;>simp only [aO,aZ,aN] at h1 h2 ⊢<;>simp_all
end
end Go.aJ
namespace Go.aJ
set_option linter.unusedSimpArgs false
noncomputable section
variable [aG]
set_option linter.unusedSectionVars false
set_option linter.unusedVariables false
variable {P:Program} {η:Env} {σ σ':au} {w:World}
theorem strSize (s:List UInt8):(⟨⟨s⟩⟩:ByteArray).size=s.length:=rfl
theorem afA (s:List UInt8) (l h:Nat):(⟨⟨s⟩⟩:ByteArray).extract l h=⟨⟨(s.take h).drop l⟩⟩:=by
 apply ByteArray.ext;rw [ByteArray.data_extract];apply JE;simp [GU,List.extract_eq_take_drop]
theorem MK {ad:Addr} {c:Nat} (hs:ad.spot=none:=by rfl):VR η (.ro []) (.slice (some ad) 0 c):=by
 simp only [VR];obtain ⟨bl,off,sp⟩:=ad;simp only at hs;subst hs;right;exact ⟨bl,off,c,[],0,rfl,uj _,by simp [aA],by simp,λh=>absurd rfl h⟩
theorem ZT {len:Nat} {room:Nat->Bool} {lo hi:Option AV} {l h:Nat} (hb:vO len room lo hi=some (l,h)) (hr:∀k,room k=true->k<=len):h<=len:=by
 unfold vO at hb;split at hb
 ·cases hb
 ·next e=>
  split at hb
  ·cases hb
  ·cases hb
   cases hi with
   | none=>simp [yN] at e;omega
   | some v=>
     simp only [yN] at e;split at e
     ·split at e
      ·next h1=>cases e;exact hr _ h1.2
      ·cases e
     ·cases e
theorem RD (h:SR P η σ w) {t:TypeId} {a v:AV} {x:Value} {lo hi:Option AV} {lo' hi':Option Value} (hs:yP P t σ a lo hi=some v) (hx:VR η a x) (hlo:jS η lo lo') (hhi:jS η hi hi') :
 ∃y,(Instr.sliceAt t x lo' hi' none).run P w=.ok y w/\VR η v y:=by
 unfold yP at hs;split at hs
 ·next s hu=>
  simp only [aX,G9] at hs;obtain ⟨l,hh,hb,rfl⟩:=hs;simp only [VR] at hx;subst hx;have hB:=CV (P:=P) (w:=w) (sl:=false) (cap:=s.length) hb (λk hk=>by simpa using hk) (dH _) hlo hhi;refine ⟨.string ⟨⟨(s.take hh).drop l⟩⟩, ?_,by simp [VR]⟩;simp only [Instr.sliceAt,Instr.slice,aW hu,aO,aN,strSize,Option.isSome_none,fV,if_false,hB.1,aZ,afA,sK]
 ·next e id off len cap hu=>
  simp only [VR] at hx;obtain ⟨q,hq,hle,rfl⟩:=hx;split at hs
  ·next size c hn=>
   simp only [vJ,G9] at hs;obtain ⟨l,hh,hb,hs⟩:=hs;simp only [pJ] at hle ⊢;have hB:=CV (P:=P) (w:=w) (sl:=true) (cap:=c) hb (λk hk=>by simpa using hk) hle hlo hhi;split at hs
   ·next e1=>
    cases hs;subst e1;refine ⟨.slice (some ⟨q.bl,q.ba+off,none⟩) (hh - c) 0, ?_, ?_⟩
    ·simp only [Instr.sliceAt,Instr.slice,aW hu,aO,aN,hB.1,iI hn,aZ,if_true,yI]
    ·simp only [VR];exact ⟨q,hq,by simp;omega,rfl⟩
   ·next e1=>
    cases hs;refine ⟨.slice (some ⟨q.bl,q.ba+off+l * size,none⟩) (hh - l) (c - l), ?_, ?_⟩
    ·simp only [Instr.sliceAt,Instr.slice,aW hu,aO,aN,hB.1,iI hn,aZ,ah e1,fK,oO]
    ·simp only [VR];exact ⟨q,hq,by simp;omega,by rw [jv];rfl⟩
  ·next size hn=>
   split at hs
   ·next c et rw hg=>
    split at hs
    ·next het=>
     simp only [vJ,G9] at hs;obtain ⟨l,hh,hb,hs⟩:=hs;obtain ⟨q',hq',cs,elem,fr,hbk,r⟩:=h.obj _ _ hg rfl;rw [hq] at hq';cases hq';obtain ⟨_,hes,hsz⟩:=r.room rfl;rw [het,hn] at hsz;cases hsz;simp only [vK] at hle ⊢;have hB:=CV (P:=P) (w:=w) (sl:=true) (cap:=(q.sz - off) / q.es) hb (λk hk=>by simp at hk;omega) hle hlo hhi;have Lr:hh<=len:=by
      unfold vO at hb;split at hb
      ·cases hb
      ·next e=>
       split at hb
       ·cases hb
       ·cases hb
        cases hi with
        | none=>simp [yN] at e;omega
        | some v=>
          simp only [yN] at e;split at e
          ·split at e
           ·next h1=>cases e;simpa using h1.2
           ·cases e
          ·cases e
     have hsub:(q.sz - off) / q.es - l=(q.sz - (off+l * q.es)) / q.es:=by
      rw [<- Nat.sub_sub,D7 l,Nat.sub_mul_div]
     split at hs
     ·next e1=>
      cases hs;refine ⟨.slice (some ⟨q.bl,q.ba+off+l * q.es,none⟩) (hh - l) ((q.sz - off) / q.es - l), ?_, ?_⟩
      ·simp only [Instr.sliceAt,Instr.slice,aW hu,aO,aN,hB.1,iI hn,aZ,fK,oO]
       rw [ah (by omega)]
      ·simp only [VR]
       refine ⟨q,hq, ?_, ?_⟩
       ·simp only [vK];rw [<- hsub];omega
       ·simp only [vK];rw [<- hsub,jv]
     ·split at hs
      ·next e1 e2=>
       cases hs;subst e2;refine ⟨.slice (some ⟨q.bl,q.ba+off,none⟩) (hh - 0) ((q.sz - off) / q.es - 0), ?_, ?_⟩
       ·simp only [Instr.sliceAt,Instr.slice,aW hu,aO,aN,hB.1,iI hn,aZ,fK,oO]
        split<;>simp
       ·simp only [VR];exact ⟨q,hq,by simp;omega,by simp⟩
      ·split at hs
       ·next e1 e2 e3=>
        cases hs;subst e3;simp only [Instr.sliceAt,Instr.slice,aW hu,aO,aN,hB.1,iI hn,aZ,fK,oO,yI];by_cases e4:(q.sz - off) / q.es=hh
        ·rw [aj e4];exact ⟨_,rfl,MK⟩
        ·rw [ah e4];exact ⟨_,rfl,MK⟩
       ·cases hs
    ·cases hs
   ·cases hs
  ·cases hs
 ·next e hu=>
  split at hs
  ·next n hn=>
   simp only [aX,G9] at hs;obtain ⟨l,hh,hb,rfl⟩:=hs;simp only [VR] at hx;subst hx;have hB:=CV (P:=P) (w:=w) (sl:=true) (cap:=0) hb (λk hk=>by simpa using hk) (dH _) hlo hhi;have hl0:l=0:=by omega
   have hh0:hh=0:=by omega
   subst hl0;subst hh0;refine ⟨.slice none 0 0, ?_,by simp [VR]⟩;simp only [Instr.sliceAt,Instr.slice,aW hu,aO,aN,hB.1,iI hn,aZ,if_true,yI]
  ·cases hs
 ·next e es hu=>
  split at hs
  ·next size hn=>
   simp only [vJ,G9] at hs;obtain ⟨l,hh,hb,hs⟩:=hs;have hx0:=hx;simp only [VR] at hx;rcases hx with ⟨rfl,pa,rfl⟩ | ⟨bl,off,c,xs,sz,rfl,hc,h1,h2,h3⟩
   ·have hB:=CV (P:=P) (w:=w) (sl:=true) (cap:=0) hb (λk hk=>by simpa using hk) (dH _) hlo hhi
    have hl0:l=0:=by omega
    have hh0:hh=0:=by omega
    subst hl0;subst hh0;simp [Oj] at hs;subst hs;refine ⟨.slice pa 0 0, ?_,by simp [VR]⟩;have hB1:=hB.1;rw [qy] at hB1;simp only [Instr.sliceAt,Instr.slice,aW hu,aO,aN,hB1,iI hn,aZ,if_true,yI]
   have hB:=CV (P:=P) (w:=w) (sl:=true) (cap:=c) hb (λk hk=>by simp at hk;omega) hc hlo hhi;have Lr:=ZT hb (λk hk=>by simpa using hk);simp only [Instr.sliceAt,Instr.slice,aW hu,aO,aN,hB.1,iI hn,aZ,fK,oO];unfold Oj at hs;split at hs
   ·next e1=>
    cases hs;subst e1;simp only [yI];by_cases e4:c=hh
    ·rw [aj e4];exact ⟨_,rfl,MK⟩
    ·rw [ah e4];exact ⟨_,rfl,MK⟩
   ·next e1=>
    split at hs
    ·next a ha=>
     split at hs
     ·next hsz=>
      cases hs;obtain ⟨x,hxx,jP⟩:=h1.at ha;have hsx:=h2 x (oL hxx);have:sz=size:=by rw [<- hsx,<- OO jP,hsz]
      subst this;obtain ⟨cs,elem,fr,h4,h5,h6⟩:=h3 (by intro e;subst e;simp at ha);rw [ah (by omega)];refine ⟨_,rfl, ?_⟩;have hlen:=h1.length;simp only [VR];right;refine ⟨bl,off+l * sz,c - l,(xs.take hh).drop l,sz,by congr 1;simp;omega,by simp;omega,(h1.take hh).drop l,λy hy=>h2 y (GZ (JK hy)),λ_=>⟨cs,elem,fr,h4, ?_, ?_⟩⟩
      ·rw [Ez (λy hy=>h2 y (GZ (JK hy)))]
       have hL:=Ez h2;have hm:((xs.take hh).drop l).length=hh - l:=by simp;omega
       rw [hm];have h7:l * sz+(hh - l) * sz=hh * sz:=by rw [<- qC];congr 1;omega
       have h8:hh * sz<=xs.length * sz:=sH _ (by omega);omega
      ·intro k y hk
       rw [<- aaH (λy hy=>h2 y (GZ hy)),<- ahw h2,qw,kQ] at hk;split at hk
       ·have:=h6 _ _ hk;rw [<- jv] at this;exact this
       ·cases hk
     ·cases hs
    ·cases hs
  ·cases hs
 ·next n e id off hu=>
  simp only [VR] at hx;obtain ⟨q,hq,rfl⟩:=hx;split at hs
  ·next size hn=>
   simp only [aX,G9] at hs;obtain ⟨l,hh,hb,rfl⟩:=hs;have hB:=CV (P:=P) (w:=w) (sl:=false) (cap:=n) hb (λk hk=>by simpa using hk) (dH _) hlo hhi;have Lr:=ZT hb (λk hk=>by simpa using hk);simp only [Instr.sliceAt,Instr.sureAddr,aW hu,aO,aN,hB.1,iI hn,aZ];by_cases e1:n=l
   ·subst e1
    rw [aj rfl,aj rfl];refine ⟨_,rfl, ?_⟩;simp only [VR];exact ⟨q,hq,by simp;omega,by simp⟩
   ·rw [ah e1,ah e1]
    refine ⟨_,rfl, ?_⟩;simp only [VR,oO];exact ⟨q,hq,by simp;omega,by simp [jv]⟩
  ·cases hs
 ·cases hs
end
end Go.aJ
namespace Go.aJ
set_option linter.unusedSimpArgs false
noncomputable section
variable [aG]
set_option linter.unusedSectionVars false
set_option linter.unusedVariables false
variable {P:Program} {η:Env} {σ σ':au} {w:World}
theorem ac1 (h:SR P η σ w) {t:TypeId} {ts:Array TypeId} {ty:TypeId} {a v:AV} {x:Value} (ht:ts[0]? = some t) (hs:Oa P σ t a=some v) (hx:VR η a x) :
 ∃y,(Builtin.len_ ts ty #[x]).run P w=.ok y w/\VR η v y:=by
 unfold Oa at hs;split at hs
 ·next s hu=>cases hs;simp only [VR] at hx;subst hx;exact ⟨.int .i64 s.length,by simp [Builtin.len_,ht,aW hu,goInt,strSize],by simp [VR]⟩
 ·next e hu=>cases hs;simp only [VR] at hx;subst hx;exact ⟨.int .i64 0,by simp [Builtin.len_,ht,aW hu,goInt],by simp [VR]⟩
 ·next e id off n cap hu=>cases hs;simp only [VR] at hx;obtain ⟨q,hq,_,rfl⟩:=hx;exact ⟨.int .i64 n,by simp [Builtin.len_,ht,aW hu,goInt],by simp [VR]⟩
 ·next e l hu=>cases hs;simp only [VR] at hx;rcases hx with ⟨rfl,_,rfl⟩ | ⟨bl,off,c,xs,sz,rfl,_⟩;exact ⟨.int .i64 0,by simp [Builtin.len_,ht,aW hu,goInt],by simp [VR]⟩;exact ⟨.int .i64 l.length,by simp [Builtin.len_,ht,aW hu,goInt],by simp [VR]⟩
 ·next e1 e2 hu=>cases hs;simp only [VR] at hx;subst hx;exact ⟨.int .i64 0,by simp [Builtin.len_,ht,aW hu,goInt],by simp [VR]⟩
 ·next e1 e2 id hu=>
  split at hs
  ·next es hg=>
   cases hs;simp only [VR] at hx;obtain ⟨q,hq,rfl⟩:=hx;obtain ⟨q',hq',ms,clock,hb,hsz,_⟩:=h.obj _ _ hg rfl;rw [hq] at hq';cases hq';refine ⟨.int .i64 es.length, ?_,by simp [VR]⟩;simp [Builtin.len_,ht,aW hu,goInt,getObj,Sem.run,hb,hsz]
  ·cases hs
 ·next _ n _ hu=>cases hs;exact ⟨.int .i64 n,by cases x<;>simp [Builtin.len_,ht,aW hu,goInt],by simp [VR]⟩
 ·cases hs
theorem aha (b o i j:Nat):((⟨b,o+i,none⟩:Addr)==⟨b,o+j,none⟩)=(i==j):=by
 rw [vF];simp
section
variable {t e:TypeId}
theorem abC {n:Nat} (hu:P.underlying t=some (.pointer e)) (hn:sizeT P e=some n) (h0:n≠0) (b o i j:Nat) :
 (Op.equal t (.pointer (some ⟨b,o+i,none⟩)) (.pointer (some ⟨b,o+j,none⟩))).run P w=.ok (i==j) w:=by
 have H:∀d:Nat,(Op.equalIn (d+1) t (.pointer (some ⟨b,o+i,none⟩)) (.pointer (some ⟨b,o+j,none⟩))).run P w=.ok (i==j) w:=λd=>by
  simp only [Op.equalIn,aO,aW hu,aN,iI hn,aj h0,sK];simp only [sameAddr,beq_self_eq_true,if_true,aZ,aha,aO,aN]
 exact H 9999
theorem Dh (hu:P.underlying t=some (.pointer e)) (a:Addr):(Op.equal t (.pointer (some a)) (.pointer none)).run P w=.ok false w:=by
 have H:∀d:Nat,(Op.equalIn (d+1) t (.pointer (some a)) (.pointer none)).run P w=.ok false w:=λd=>by
  simp only [Op.equalIn,aO,aW hu,aN,aZ]
 exact H 9999
theorem Df (hu:P.underlying t=some (.pointer e)) (a:Addr):(Op.equal t (.pointer none) (.pointer (some a))).run P w=.ok false w:=by
 have H:∀d:Nat,(Op.equalIn (d+1) t (.pointer none) (.pointer (some a))).run P w=.ok false w:=λd=>by
  simp only [Op.equalIn,aO,aW hu,aN,aZ,G8]
 exact H 9999
theorem Pm (hu:P.underlying t=some (.slice e)) (a:Addr) (l c:Nat):(Op.equal t (.slice (some a) l c) (.slice none 0 0)).run P w=.ok false w:=by
 have H:∀d:Nat,(Op.equalIn (d+1) t (.slice (some a) l c) (.slice none 0 0)).run P w=.ok false w:=λd=>by
  simp only [Op.equalIn,aO,aW hu,aN,aZ]
 exact H 9999
theorem Pj (hu:P.underlying t=some (.slice e)) (a:Addr) (l c:Nat):(Op.equal t (.slice none 0 0) (.slice (some a) l c)).run P w=.ok false w:=by
 have H:∀d:Nat,(Op.equalIn (d+1) t (.slice none 0 0) (.slice (some a) l c)).run P w=.ok false w:=λd=>by
  simp only [Op.equalIn,aO,aW hu,aN,aZ,G8]
 exact H 9999
theorem aby {ms:Array (String×TypeId)} (hu:P.underlying t=some (.interface ms)) (u:TypeId) (x:Value):(Op.equal t (.iface u x) .nilIface).run P w=.ok false w:=by
 have H:∀d:Nat,(Op.equalIn (d+1) t (.iface u x) .nilIface).run P w=.ok false w:=λd=>by
  simp only [Op.equalIn,aO,aW hu,aN,aZ]
 exact H 9999
theorem abA {ms:Array (String×TypeId)} (hu:P.underlying t=some (.interface ms)) (u:TypeId) (x:Value):(Op.equal t .nilIface (.iface u x)).run P w=.ok false w:=by
 have H:∀d:Nat,(Op.equalIn (d+1) t .nilIface (.iface u x)).run P w=.ok false w:=λd=>by
  simp only [Op.equalIn,aO,aW hu,aN,aZ]
 exact H 9999
theorem abz {k:TypeId} (hu:P.underlying t=some (.map k e)) (r:Nat):(Op.equal t (.map (some r)) (.map none)).run P w=.ok false w:=by
 have H:∀d:Nat,(Op.equalIn (d+1) t (.map (some r)) (.map none)).run P w=.ok false w:=λd=>by
  simp only [Op.equalIn,aO,aW hu,aN,aZ]
 exact H 9999
theorem abB {k:TypeId} (hu:P.underlying t=some (.map k e)) (r:Nat):(Op.equal t (.map none) (.map (some r))).run P w=.ok false w:=by
 have H:∀d:Nat,(Op.equalIn (d+1) t (.map none) (.map (some r))).run P w=.ok false w:=λd=>by
  simp only [Op.equalIn,aO,aW hu,aN,aZ,G8]
 exact H 9999
end
theorem pU {t:TypeId} {x y:Operand} {u u':Value} {r:Bool} (h:(Op.equal t u u').run P w=.ok r w)
 (hb:binOp .eql t u u'=(do pure (.bool (<- Op.equal t u u')))) (hg:(eqGuard .eql t x y u u').run P w=.ok () w) :
 (do eqGuard .eql t x y u u';binOp .eql t u u':Sem Value).run P w=.ok (.bool r) w:=by
 simp only [aO,hg,aN,hb,h,aZ]
theorem pV {t:TypeId} {x y:Operand} {u u':Value} {r:Bool} (h:(Op.equal t u u').run P w=.ok r w)
 (hb:binOp .neq t u u'=(do pure (.bool (!(<- Op.equal t u u'))))) (hg:(eqGuard .neq t x y u u').run P w=.ok () w) :
 (do eqGuard .neq t x y u u';binOp .neq t u u':Sem Value).run P w=.ok (.bool (!r)) w:=by
 simp only [aO,hg,aN,hb,h,aZ]
theorem aaR {op:BinOp} {t:TypeId} {x y:Operand} {k:IntKind} {a b c d m n:Int} {v:AV} (hs:OZ op a b c d=some v) (h1:a<=m) (h2:m<=b) (h3:c<=n) (h4:n<=d) :
 ∃z,(do eqGuard op t x y (.int k m) (.int k n);binOp op t (.int k m) (.int k n):Sem Value).run P w=.ok z w/\VR η v z:=by
 have key:∀ (op:BinOp) (r:Bool),(eqGuard op t x y (.int k m) (.int k n)).run P w=.ok () w->binOp op t (.int k m) (.int k n)=(if k≠k then stuck "BinOp: operands of different kinds" else Op.intCmp op m n)->Op.intCmp op m n=pure (.bool r)->
  (do eqGuard op t x y (.int k m) (.int k n);binOp op t (.int k m) (.int k n):Sem Value).run P w=.ok (.bool r) w:=by
  intro op r hg hb hc;rw [aO,hg,aN,hb,ah (by simp),hc];rfl
 cases op<;>simp only [OZ,reduceCtorEq] at hs
 all_goals split at hs
 all_goals try split at hs
 all_goals cases hs
 all_goals refine ⟨_,key _ _ rfl rfl rfl, ?_⟩
 all_goals simp only [VR,Value.bool.injEq]
 all_goals first | (exact Ic (by omega)) | (exact Ib (by omega)) | (simp;omega) | skip
theorem ahe (h:SR P η σ w) {op:BinOp} {t:TypeId} {x y:Operand} {a b v:AV} {u u':Value} (hs:qY P op t x y a b=some v) (hx:VR η a u) (hy:VR η b u') :
 ∃z,(do eqGuard op t x y u u';binOp op t u u':Sem Value).run P w=.ok z w/\VR η v z:=by
 unfold qY at hs;split at hs
 ·split at hs
  ·next e hu=>
   split at hs
   ·next n hn=>
    split at hs
    ·next hc=>
     cases hs;obtain ⟨rfl,h0⟩:=hc;simp only [VR] at hx hy;obtain ⟨q,hq,rfl⟩:=hx;obtain ⟨q',hq',rfl⟩:=hy;rw [hq] at hq';cases hq';exact ⟨_,pU (abC hu hn h0 _ _ _ _) rfl rfl,by simp only [VR]⟩
    ·cases hs
   ·cases hs
  ·cases hs
 ·split at hs
  ·next e hu=>
   split at hs
   ·next n hn=>
    split at hs
    ·next hc=>
     cases hs;obtain ⟨rfl,h0⟩:=hc;simp only [VR] at hx hy;obtain ⟨q,hq,rfl⟩:=hx;obtain ⟨q',hq',rfl⟩:=hy;rw [hq] at hq';cases hq';exact ⟨_,pV (abC hu hn h0 _ _ _ _) rfl rfl,by simp only [VR]⟩
    ·cases hs
   ·cases hs
  ·cases hs
 ·split at hs
  ·next hu=>cases hs;simp only [VR] at hx hy;obtain ⟨q,hq,rfl⟩:=hx;subst hy;exact ⟨_,pU (Dh hu _) rfl rfl,by simp only [VR]⟩
  ·cases hs
 ·split at hs
  ·next hu=>cases hs;simp only [VR] at hx hy;obtain ⟨q,hq,rfl⟩:=hy;subst hx;exact ⟨_,pU (Df hu _) rfl rfl,by simp only [VR]⟩
  ·cases hs
 ·split at hs
  ·next hu=>cases hs;simp only [VR] at hx hy;obtain ⟨q,hq,rfl⟩:=hx;subst hy;exact ⟨_,pV (Dh hu _) rfl rfl,by simp only [VR];rfl⟩
  ·cases hs
 ·split at hs
  ·next hu=>cases hs;simp only [VR] at hx hy;obtain ⟨q,hq,rfl⟩:=hy;subst hx;exact ⟨_,pV (Df hu _) rfl rfl,by simp only [VR];rfl⟩
  ·cases hs
 ·split at hs
  ·next hu=>cases hs;simp only [VR] at hx hy;obtain ⟨bl,off,c,xs,sz,rfl,_⟩:=hx.resolve_left (by simp);subst hy;exact ⟨_,pU (Pm hu _ _ _) rfl rfl,by simp only [VR]⟩
  ·cases hs
 ·split at hs
  ·next hu=>cases hs;simp only [VR] at hx hy;obtain ⟨bl,off,c,xs,sz,rfl,_⟩:=hy.resolve_left (by simp);subst hx;exact ⟨_,pU (Pj hu _ _ _) rfl rfl,by simp only [VR]⟩
  ·cases hs
 ·split at hs
  ·next hu=>cases hs;simp only [VR] at hx hy;obtain ⟨bl,off,c,xs,sz,rfl,_⟩:=hx.resolve_left (by simp);subst hy;exact ⟨_,pV (Pm hu _ _ _) rfl rfl,by simp only [VR];rfl⟩
  ·cases hs
 ·split at hs
  ·next hu=>cases hs;simp only [VR] at hx hy;obtain ⟨bl,off,c,xs,sz,rfl,_⟩:=hy.resolve_left (by simp);subst hx;exact ⟨_,pV (Pj hu _ _ _) rfl rfl,by simp only [VR];rfl⟩
  ·cases hs
 ·split at hs
  ·next hu=>cases hs;simp only [VR] at hx hy;obtain ⟨bl,base,cs,elem,fr,x,_,_,rfl,_⟩:=hx;subst hy;exact ⟨_,pU (Dh hu _) rfl rfl,by simp only [VR]⟩
  ·cases hs
 ·split at hs
  ·next hu=>cases hs;simp only [VR] at hx hy;obtain ⟨bl,base,cs,elem,fr,x,_,_,rfl,_⟩:=hy;subst hx;exact ⟨_,pU (Df hu _) rfl rfl,by simp only [VR]⟩
  ·cases hs
 ·split at hs
  ·next hu=>cases hs;simp only [VR] at hx hy;obtain ⟨bl,base,cs,elem,fr,x,_,_,rfl,_⟩:=hx;subst hy;exact ⟨_,pV (Dh hu _) rfl rfl,by simp only [VR];rfl⟩
  ·cases hs
 ·split at hs
  ·next hu=>cases hs;simp only [VR] at hx hy;obtain ⟨bl,base,cs,elem,fr,x,_,_,rfl,_⟩:=hy;subst hx;exact ⟨_,pV (Df hu _) rfl rfl,by simp only [VR];rfl⟩
  ·cases hs
 ·split at hs
  ·next hu=>cases hs;simp only [VR] at hx hy;obtain ⟨q,hq,_,rfl⟩:=hx;subst hy;exact ⟨_,pU (Pm hu _ _ _) rfl rfl,by simp only [VR]⟩
  ·cases hs
 ·split at hs
  ·next hu=>cases hs;simp only [VR] at hx hy;obtain ⟨q,hq,_,rfl⟩:=hy;subst hx;exact ⟨_,pU (Pj hu _ _ _) rfl rfl,by simp only [VR]⟩
  ·cases hs
 ·split at hs
  ·next hu=>cases hs;simp only [VR] at hx hy;obtain ⟨q,hq,_,rfl⟩:=hx;subst hy;exact ⟨_,pV (Pm hu _ _ _) rfl rfl,by simp only [VR];rfl⟩
  ·cases hs
 ·split at hs
  ·next hu=>cases hs;simp only [VR] at hx hy;obtain ⟨q,hq,_,rfl⟩:=hy;subst hx;exact ⟨_,pV (Pj hu _ _ _) rfl rfl,by simp only [VR];rfl⟩
  ·cases hs
 ·split at hs
  ·next hu=>cases hs;simp only [VR] at hx hy;obtain ⟨q,rfl,hq⟩:=hx;subst hy;exact ⟨_,pU (aby hu _ _) rfl rfl,by simp only [VR]⟩
  ·cases hs
 ·split at hs
  ·next hu=>cases hs;simp only [VR] at hx hy;obtain ⟨q,rfl,hq⟩:=hy;subst hx;exact ⟨_,pU (abA hu _ _) rfl rfl,by simp only [VR]⟩
  ·cases hs
 ·split at hs
  ·next hu=>cases hs;simp only [VR] at hx hy;obtain ⟨q,rfl,hq⟩:=hx;subst hy;exact ⟨_,pV (aby hu _ _) rfl rfl,by simp only [VR];rfl⟩
  ·cases hs
 ·split at hs
  ·next hu=>cases hs;simp only [VR] at hx hy;obtain ⟨q,rfl,hq⟩:=hy;subst hx;exact ⟨_,pV (abA hu _ _) rfl rfl,by simp only [VR];rfl⟩
  ·cases hs
 ·split at hs
  ·next hu=>cases hs;simp only [VR] at hx hy;obtain ⟨q,hq,rfl⟩:=hx;subst hy;exact ⟨_,pU (abz hu _) rfl rfl,by simp only [VR]⟩
  ·cases hs
 ·split at hs
  ·next hu=>cases hs;simp only [VR] at hx hy;obtain ⟨q,hq,rfl⟩:=hy;subst hx;exact ⟨_,pU (abB hu _) rfl rfl,by simp only [VR]⟩
  ·cases hs
 ·split at hs
  ·next hu=>cases hs;simp only [VR] at hx hy;obtain ⟨q,hq,rfl⟩:=hx;subst hy;exact ⟨_,pV (abz hu _) rfl rfl,by simp only [VR];rfl⟩
  ·cases hs
 ·split at hs
  ·next hu=>cases hs;simp only [VR] at hx hy;obtain ⟨q,hq,rfl⟩:=hy;subst hx;exact ⟨_,pV (abB hu _) rfl rfl,by simp only [VR];rfl⟩
  ·cases hs
 ·split at hs
  ·next hk=>subst hk;simp only [VR] at hx hy;obtain ⟨m,h1,h2,rfl⟩:=hx;subst hy;exact aaR hs h1 h2 (NI _) (NI _)
  ·cases hs
 ·split at hs
  ·next hk=>subst hk;simp only [VR] at hx hy;obtain ⟨m,h1,h2,rfl⟩:=hy;subst hx;exact aaR hs (NI _) (NI _) h1 h2
  ·cases hs
 ·split at hs
  ·next u1 u2 h1 h2=>
   simp only [vJ] at hs;obtain ⟨z,hz,hv⟩:=hs;rw [zH h1 hx,zH h2 hy];exact ⟨z,zF hz w,Bj _ _ _ hv⟩
  ·cases hs
end
end Go.aJ
namespace Go.aJ
set_option linter.unusedSimpArgs false
noncomputable section
variable [aG]
set_option linter.unusedSectionVars false
set_option linter.unusedVariables false
variable {P:Program} {η:Env} {σ σ':au} {w:World}
def Ad (η:Env):List (Nat×AV)->List (Nat×Value)->Prop
 | [],ps=>ps=[]
 | (i,a)::l,ps=>∃x rest,ps=(i,x)::rest/\VR η a x/\Ad η l rest
theorem abS (off:Nat):∀ (l:List Value) (k:Nat) (cs:Array Value),
 (l.zipIdx k).foldl (λcs (c,j)=>cs.setIfInBounds (off+j) c) cs=setFrom cs (off+k) l
 | [],_,_=>rfl
 | v::l,k,cs=>by
   simp only [List.zipIdx_cons,List.foldl_cons];rw [abS off l (k+1)];rfl
theorem arA {c c' vs:List AV} {off:Nat} {cs:Array Value} {xs:List Value} (h:yA c off vs=some c') (hc:aA η c cs.toList) (hv:aA η vs xs):aA η c' (setFrom cs off xs).toList:=by
 obtain ⟨h1,h2,h3⟩:=Rz h;have hl:=hc.length;have hl':=hv.length;simp only [GI] at hl;refine aA.of ?_ λk a hk=>?_
 ·have:=Jq xs cs off;simp only [GI];omega
 ·rw [h3] at hk
  rw [tX,Ry _ _ _ _ (by omega)];split at hk
  ·next h4=>
   rw [aj (by omega)];obtain ⟨x,hx,jP⟩:=hv.at hk;exact ⟨x,hx,jP⟩
  ·rw [ah (by omega)]
   obtain ⟨x,hx,jP⟩:=hc.at hk;rw [tX] at hx;exact ⟨x,hx,jP⟩
theorem Ik {place:Nat->Option (Nat×Nat)}:∀ {ps:List (Nat×AV)} {qs:List (Nat×Value)} {c c':List AV} {cs:Array Value},
 yM place c ps=some c'->Ad η ps qs->aA η c cs.toList->∃cs',Instr.fill place cs qs=some cs'/\aA η c' cs'.toList
 | [],qs,c,c',cs,h,hp,hc=>by
   simp only [Ad] at hp;subst hp;simp only [yM,aT] at h;subst h;exact ⟨cs,rfl,hc⟩
 | (i,a)::ps,qs,c,c',cs,h,hp,hc=>by
   simp only [Ad] at hp;obtain ⟨x,rest,rfl,hx,hp⟩:=hp;unfold yM at h;split at h
   ·cases h
   ·next off size hpl=>
    split at h
    ·next hsz=>
     split at h
     ·next c1 hr=>
      have hcells:=xO hx;have hlen:=hcells.length;have h1:=arA hr hc hcells;obtain ⟨hb,_,_⟩:=Rz hr;have hcl:=hc.length;simp only [GI] at hlen hcl;obtain ⟨cs',hf,hv⟩:=Ik h hp h1;refine ⟨cs', ?_,hv⟩;unfold Instr.fill;simp only [hpl];rw [ah (by simp;omega)];rw [<- hf];congr 1;have hz:=abS off x.cells.toList 0 cs;rw [jR] at hz;rw [<- hz,<- Array.foldl_toList,Array.toList_zipIdx]
     ·cases h
    ·cases h
theorem U1 {ev:Operand->Option AV} {ρ:Operand->Value} (hρ:∀x a,ev x=some a->VR η a (ρ x)):∀ {l:List (Nat×Operand)} {ps:List (Nat×AV)},
 Dj ev l=some ps->Ad η ps (l.map λ(i,x)=>(i,ρ x))
 | [],ps,h=>by simp [Dj] at h;subst h;simp [Ad]
 | (i,x)::l,ps,h=>by
   unfold Dj at h;split at h
   ·next v r hv hr=>
    cases h;exact ⟨ρ x,_,rfl,hρ _ _ hv,U1 hρ hr⟩
   ·cases h
theorem Ii {ev:Operand->Option AV} {ρ:Operand->Value} (hρ:∀x a,ev x=some a->VR η a (ρ x)):∀ {l:List Operand} {vs:List AV},
 y8 ev l=some vs->aA η vs (l.map ρ)
 | [],vs,h=>by simp [y8] at h;subst h;simp [aA]
 | x::l,vs,h=>by
   unfold y8 at h;split at h
   ·next v r hv hr=>
    cases h;exact aA.cons (hρ _ _ hv) (Ii hρ hr)
   ·cases h
theorem adr:∀ {fs:List Field} {ps:List (Nat×Nat)},MS P fs=some ps->(fs.mapM λf=>do pure (f.offset,<- sizeOf f.type):Sem (List (Nat×Nat))).run P w=.ok ps w
 | [],ps,h=>by simp [MS] at h;subst h;rfl
 | f::fs,ps,h=>by
   unfold MS at h;split at h
   ·next n r hn hr=>
    cases h;simp only [Zu,aO,iI hn,aN,aZ,adr hr]
   ·cases h
theorem ahi {t:TypeId} {ps:List (Nat×AV)} {qs:Array (Nat×Value)} {v:AV} (hs:NZ P t ps=some v) (hp:Ad η ps qs.toList) :
 ∃y,(Instr.build t qs).run P w=.ok y w/\VR η v y:=by
 unfold NZ at hs;split at hs
 ·next zero fields hz hu=>
  obtain ⟨z,ny,hzv⟩:=DR hz;split at hs
  ·next places hpl=>
   simp only [aX] at hs;obtain ⟨c,hf,rfl⟩:=hs;obtain ⟨cs,hf',hv⟩:=Ik hf hp (hzv η);refine ⟨.agg cs, ?_,by simp only [VR];exact ⟨cs.toList,rfl,hv⟩⟩;have hm:(fields.mapM λf=>do pure (f.offset,<- sizeOf f.type):Sem (Array (Nat×Nat))).run P w=.ok ⟨places⟩ w:=by
    rw [Tq];simp only [TQ,adr hpl,aN]
   simp only [Instr.build,aO,ny,aN,aW hu,hm];have:(λi:Nat=>(⟨places⟩:Array (Nat×Nat))[i]?)=λi:Nat=>places[i]?:=by funext i;simp
   rw [this,hf'];rfl
  ·cases hs
 ·next zero n elem hz hu=>
  obtain ⟨z,ny,hzv⟩:=DR hz;split at hs
  ·next size hn=>
   simp only [aX] at hs;obtain ⟨c,hf,rfl⟩:=hs;obtain ⟨cs,hf',hv⟩:=Ik hf hp (hzv η);refine ⟨.agg cs, ?_,by simp only [VR];exact ⟨cs.toList,rfl,hv⟩⟩;simp only [Instr.build,aO,ny,aN,aW hu,iI hn,hf'];rfl
  ·cases hs
 ·cases hs
theorem am0 {t:TypeId} {a:AV} {x:Value} (h:ER P t=some false) (hx:VR η a x):∃y,(Instr.makeInterface t x).run P w=.ok y w/\VR η (.dY t a) y:=by
 unfold ER at h;split at h<;>cases h
 next d hno hu=>
 refine ⟨.iface t x, ?_,by simp only [VR];exact ⟨x,rfl,hx⟩⟩;simp only [Instr.makeInterface,aO,aW hu,aN];cases d<;>simp_all
theorem Tf {t:TypeId} {i:TypeInfo} {z:Value} {a:AV} (hi:P.info? t=some i) (hz:i.zero=some z) (ha:kN 4 z=some a):(zeroValue t).run P w=.ok z w/\VR η a z:=
 ⟨by simp [zeroValue,DN hi,hz],Bj _ _ _ ha⟩
theorem asK {t xt:TypeId} {a v:AV} {x:Value} {ok:Bool} (hs:Ol P a t ok=some v) (hx:VR η a x) :
 ∃y,(Instr.typeAssert x xt t ok).run P w=.ok y w/\VR η v y:=by
 unfold Ol at hs;split at hs
 ·next u b hi=>
  simp only [VR] at hx;obtain ⟨y,rfl,hy⟩:=hx;have hd:∃d,P.underlying t=some d/\∀ms,d≠.interface ms:=by
   unfold ER at hi;split at hi<;>cases hi
   next d hno hu=>exact ⟨d,hu,λms e=>hno ms e⟩
  obtain ⟨d,hu,hno⟩:=hd;split at hs
  ·next e=>
   cases hs;subst e;refine ⟨if ok then .tuple #[y,.bool true] else y, ?_, ?_⟩
   ·simp only [Instr.typeAssert,aO,aW hu,aN]
    cases d<;>simp_all
   ·cases ok
    ·simpa using hy
    ·simp only [VR];exact ⟨[y,.bool true],rfl,aA.cons hy (aA.cons (by simp [VR]) (by simp [aA]))⟩
  ·next e=>
   split at hs
   ·next hok=>
    split at hs
    ·next i nZ=>
     split at hs
     ·next z hz=>
      simp only [aX] at hs;obtain ⟨a,ha,rfl⟩:=hs;obtain ⟨h1,h2⟩:=Tf (w:=w) (η:=η) nZ hz ha;refine ⟨.tuple #[z,.bool false], ?_, ?_⟩
      ·subst hok
       simp only [Instr.typeAssert,aO,aW hu,aN];have e':¬ u=t:=e;cases d<;>simp_all
      ·simp only [VR];exact ⟨[z,.bool false],rfl,aA.cons h2 (aA.cons (by simp [VR]) (by simp [aA]))⟩
     ·cases hs
    ·cases hs
   ·cases hs
 ·next hi=>
  simp only [VR] at hx;subst hx;have hd:∃d,P.underlying t=some d/\∀ms,d≠.interface ms:=by
   unfold ER at hi;split at hi<;>cases hi
   next d hno hu=>exact ⟨d,hu,λms e=>hno ms e⟩
  obtain ⟨d,hu,hno⟩:=hd;split at hs
  ·next hok=>
   split at hs
   ·next i nZ=>
    split at hs
    ·next z hz=>
     simp only [aX] at hs;obtain ⟨a,ha,rfl⟩:=hs;obtain ⟨h1,h2⟩:=Tf (w:=w) (η:=η) nZ hz ha;refine ⟨.tuple #[z,.bool false], ?_, ?_⟩
     ·subst hok
      simp only [Instr.typeAssert,aO,aW hu,aN];cases d<;>simp_all
     ·simp only [VR];exact ⟨[z,.bool false],rfl,aA.cons h2 (aA.cons (by simp [VR]) (by simp [aA]))⟩
    ·cases hs
   ·cases hs
  ·cases hs
 ·cases hs
theorem ajU {l:List AV} {k:Nat} {v:AV} {x:Value} (hs:l[k]? = some v) (hx:VR η (.bY l) x):∃y,(Instr.extract x k).run P w=.ok y w/\VR η v y:=by
 simp only [VR] at hx;obtain ⟨vs,rfl,hv⟩:=hx;obtain ⟨y,hy,sW⟩:=hv.at hs;exact ⟨y,by simp [Instr.extract,hy],sW⟩
theorem Eh (s s':List UInt8):((⟨⟨s⟩⟩:ByteArray)==⟨⟨s'⟩⟩)=(s==s'):=by
 show ByteArray.beq _ _=_
 unfold ByteArray.beq;simp
theorem acL {kd:TypeDesc} {a b:AV} {x y:Value} {r:Bool} (hf:match kd,a with | .int _,.i _ _ | .int _,.z _ _ _ | .string,.s _ | .bool,.b _=>True | _,_=>False) (h:LH a b=some r) (hx:VR η a x) (hy:VR η b y) :
 Instr.sameNow kd x y=some r:=by
 unfold LH at h;split at h
 ·next k n k' n'=>
  simp only [VR] at hx hy;subst hx;subst hy;cases kd<;>simp at hf
  simp only [Instr.sameNow];split at h
  ·next e=>rw [aj e];exact h
  ·cases h
 ·next s s'=>
  simp only [VR] at hx hy;subst hx;subst hy;cases kd<;>simp at hf
  simp only [Instr.sameNow];rw [<- h,Eh]
 ·next s s'=>
  simp only [VR] at hx hy;subst hx;subst hy;cases kd<;>simp at hf
  simp only [Instr.sameNow];exact h
 ·next k lo hi k' n=>
  simp only [VR] at hx hy;obtain ⟨m,h1,h2,rfl⟩:=hx;subst hy;cases kd<;>simp at hf
  split at h
  ·next e=>
   cases h;obtain ⟨e,e2⟩:=e;simp only [Instr.sameNow];rw [aj e];have:m≠n:=by omega
   simp [this]
  ·cases h
 ·cases h
end
end Go.aJ
namespace Go.aJ
set_option linter.unusedSimpArgs false
noncomputable section
variable [aG]
set_option linter.unusedSectionVars false
set_option linter.unusedVariables false
variable {P:Program} {η:Env} {σ σ':au} {w:World}
def wO (η:Env) (es:List (AV×AV)) (ms:List MapEntry):Prop:=
 ms.length=es.length/\∀ (k:Nat) e,es[k]? = some e->∃m,ms[k]? = some m/\VR η e.1 m.key/\VR η e.2 m.val
theorem wO.tail {e:AV×AV} {es:List (AV×AV)} {ms:List MapEntry} (h:wO η (e::es) ms):∃m rest,ms=m::rest/\VR η e.1 m.key/\VR η e.2 m.val/\wO η es rest:=by
 obtain ⟨hl,hp⟩:=h;cases ms with
 | nil=>simp at hl
 | cons m rest=>
   obtain ⟨m',hm,h1,h2⟩:=hp 0 e (by simp);simp at hm;subst hm;exact ⟨m,rest,rfl,h1,h2,by simpa using hl,λk e' hk=>by simpa using hp (k+1) e' (by simpa using hk)⟩
def GK (kd:TypeDesc) (a:AV):Prop:=match kd,a with | .int _,.i _ _ | .int _,.z _ _ _ | .string,.s _ | .bool,.b _=>True | _,_=>False
theorem find_ok {kd:TypeDesc} {k:AV} {x:Value} (hf:GK kd k) (hx:VR η k x):∀ {es:List (AV×AV)} {ms:List MapEntry} {i:Nat} {r:Option (Nat×AV)},
 y9 k es i=some r->wO η es ms->∃r',Instr.findNow kd x ms i=some r'/\(match r,r' with | none,none=>True | some (j,v),some (j',y)=>j=j'/\i<=j/\j < i+es.length/\VR η v y | _,_=>False)
 | [],ms,i,r,h,hm=>by
   simp only [y9,aT] at h;subst h;have:ms=[]:=by have:=hm.1;cases ms<;>simp_all
   subst this;exact ⟨none,rfl,trivial⟩
 | e::es,ms,i,r,h,hm=>by
   obtain ⟨m,rest,rfl,h1,h2,h3⟩:=hm.tail;unfold y9 at h;split at h
   ·next hk=>
    cases h;have hs:=acL (kd:=kd) hf hk hx h1;exact ⟨some (i,m.val),by simp [Instr.findNow,hs],rfl,dH _,by simp,h2⟩
   ·next hk=>
    have hs:=acL (kd:=kd) hf hk hx h1;obtain ⟨r',hr,hrel⟩:=find_ok hf hx h h3;refine ⟨r',by simp [Instr.findNow,hs,hr], ?_⟩;cases r<;>cases r'<;>simp only at hrel ⊢
    obtain ⟨a,b,c,d⟩:=hrel;exact ⟨a,by omega,by simp;omega,d⟩
   ·cases h
theorem abM {t:TypeId} {k:AV} (h:Ip P t k=true):∃kd,P.underlying t=some kd/\GK kd k:=by
 unfold Ip at h;split at h
 ·next hu=>exact ⟨_,hu,trivial⟩
 ·next hu=>exact ⟨_,hu,trivial⟩
 ·next hu=>exact ⟨_,hu,trivial⟩
 ·next hu=>exact ⟨_,hu,trivial⟩
 ·cases h
theorem aaL {t:TypeId} {k:AV} {x:Value} {kd:TypeDesc} (hu:P.underlying t=some kd) (hf:GK kd k) (hx:VR η k x) (b:Bool):(Instr.checkKey b 10000 t x).run P w=.ok () w:=by
 have H:∀n:Nat,(Instr.checkKey b (n+1) t x).run P w=.ok () w:=λn=>by
  cases kd<;>cases k<;>simp only [GK] at hf<;>simp only [VR] at hx<;>(first | subst hx | obtain ⟨_,_,_,rfl⟩:=hx)<;>simp only [Instr.checkKey,aO,aW hu,aN,aZ]
 exact H 9999
def qJ (kt et:TypeId) (y:Value) (ok:Bool) (es:Array MapEntry):Sem Value:=do
 Instr.checkKey es.isEmpty 10000 kt y
 let (v,k) <- match <- Instr.findKey kt y es.toList with
  | some (_,v)=>pure (v,true)
  | none=>pure (<- zeroValue et,false)
 pure (if ok then .tuple #[v,.bool k] else v)
theorem lookup_nil {t kt et:TypeId} (hu:P.underlying t=some (.map kt et)) (y:Value) (ok:Bool):(Instr.lookup t (.map none) y ok).run P w=(qJ kt et y ok #[]).run P w:=by
 simp only [Instr.lookup,qJ,aO,aW hu,aN,aZ];congr 1
theorem QG {t kt et:TypeId} (hu:P.underlying t=some (.map kt et)) (y:Value) (ok:Bool) {r:Nat} {ms:Array MapEntry} {clock:Nat} (hb:w.heap[r]? = some (.map ms clock)) :
 (Instr.lookup t (.map (some r)) y ok).run P w=(qJ kt et y ok ms).run P w:=by
 have hg:(getObj r).run P w=.ok (.map ms clock) w:=by simp [getObj,Sem.run,hb]
 simp only [Instr.lookup,qJ,aO,aW hu,aN,aZ,hg];congr 1
theorem amU (h:SR P η σ w) {t:TypeId} {m k v:AV} {x y:Value} {ok:Bool} (hs:Ob P t m k ok σ=some v) (hx:VR η m x) (hy:VR η k y) :
 ∃z,(Instr.lookup t x y ok).run P w=.ok z w/\VR η v z:=by
 unfold Ob at hs;split at hs
 ·next kt et hu=>
  split at hs
  ·next es hes=>
   split at hs
   ·next hfit=>
    obtain ⟨kd,mD,hf⟩:=abM hfit;have hms:∃ms:Array MapEntry,(Instr.lookup t x y ok).run P w=(qJ kt et y ok ms).run P w/\wO η es ms.toList:=by
     split at hes
     ·cases hes
      simp only [VR] at hx;subst hx;exact ⟨#[],lookup_nil hu y ok,by simp [wO]⟩
     ·next id=>
      simp only [VR] at hx;obtain ⟨q,hq,rfl⟩:=hx;split at hes
      ·next es' hg=>
       cases hes;obtain ⟨q',hq',ms,clock,hb,hsz,hp⟩:=h.obj _ _ hg rfl;rw [hq] at hq';cases hq';refine ⟨ms,QG hu y ok hb,by simpa using hsz,λk e hk=>?_⟩;obtain ⟨m,hm,h1,h2⟩:=hp k e hk;exact ⟨m,by simpa using hm,h1,h2⟩
      ·cases hes
     ·cases hes
    obtain ⟨ms,hrun,hmr⟩:=hms;rw [hrun];have hck:∀b,(Instr.checkKey b 10000 kt y).run P w=.ok () w:=λb=>aaL mD hf hy b;have key:∀r,y9 k es 0=some r->∃r',(Instr.findKey kt y ms.toList).run P w=.ok r' w/\(match r,r' with | none,none=>True | some (j,v),some (j',y)=>j=j'/\0<=j/\j < 0+es.length/\VR η v y | _,_=>False):=λr hr=>by
     obtain ⟨r',h1,h2⟩:=find_ok hf hy hr hmr;exact ⟨r',by simp only [Instr.findKey,aO,aW mD,aN,h1,aZ],h2⟩
    split at hs
    ·next j u hfound=>
     cases hs;obtain ⟨r',h1,h2⟩:=key _ hfound;cases r' with
     | none=>exact h2.elim
     | some p=>
       obtain ⟨j',z⟩:=p;obtain ⟨rfl,_,_,uP⟩:=h2;refine ⟨if ok then .tuple #[z,.bool true] else z, ?_, ?_⟩
       ·simp only [qJ,aO,aN,hck,h1,aZ]
       ·cases ok
        ·simpa using uP
        ·simp only [VR];exact ⟨[z,.bool true],rfl,aA.cons uP (aA.cons (by simp [VR]) (by simp [aA]))⟩
    ·next hfound=>
     obtain ⟨r',h1,h2⟩:=key _ hfound;cases r' with
     | some p=>exact h2.elim
     | none=>
       split at hs
       ·next i nZ=>
        split at hs
        ·next z hz=>
         simp only [aX] at hs;obtain ⟨a,ha,rfl⟩:=hs;obtain ⟨h3,h4⟩:=Tf (w:=w) (η:=η) nZ hz ha;refine ⟨if ok then .tuple #[z,.bool false] else z, ?_, ?_⟩
         ·simp only [qJ,aO,aN,hck,h1,h3,aZ]
         ·cases ok
          ·simpa using h4
          ·simp only [VR];exact ⟨[z,.bool false],rfl,aA.cons h4 (aA.cons (by simp [VR]) (by simp [aA]))⟩
        ·cases hs
       ·cases hs
    ·cases hs
   ·cases hs
  ·cases hs
 ·cases hs
theorem arq {k:AV} {x y:Value} {kd:TypeDesc} (hf:GK kd k) (hx:VR η k x) (hy:Instr.sameNow kd x y=some true) (n:Nat):Instr.sameBits (n+1) y x=true:=by
 cases kd<;>cases k<;>simp only [GK] at hf<;>simp only [VR] at hx<;>(first | subst hx | obtain ⟨_,_,_,rfl⟩:=hx)<;>cases y<;>simp only [Instr.sameNow,aT,reduceCtorEq] at hy
 ·simp_all [Instr.sameBits]
 ·split at hy
  ·simp_all [Instr.sameBits]
  ·cases hy
 ·split at hy
  ·simp_all [Instr.sameBits]
  ·cases hy
 ·next s s'=>
  obtain ⟨⟨l⟩⟩:=s';rw [Eh] at hy;simp only [Instr.sameBits,Eh];simp_all
theorem Au (h:SR P η σ w) {c:List AV} {xs:Array Value} {elem:TypeId} {opn:Bool} {es:Nat} (hv:aA η c (xs.toList.take c.length)) (hle:c.length<=xs.size) (hshut:opn=false->c.length=xs.size)
 (hroom:opn=true->elem≠0/\0 < es/\sizeT P elem=some es) :
 St P η σ w (η.put σ.next ⟨w.heap.size,0,xs.size,es⟩) (σ.new (.cells c elem true opn)) { w with heap:=w.heap.push (.cells xs elem) }:=by
 refine St.alloc h _ _ _ rfl ?_;refine ⟨xs,elem,(0,0),by simp, ?_⟩;refine { fits:=by simp,le:=hle,shut:=hshut,cell:=?_,free:=λ_ k _=>by simp,whole:=λ_=>⟨rfl,by simp,λ_=>rfl⟩,room:=hroom };intro k a hk;obtain ⟨x,hx,jP⟩:=hv.at hk;have hkl:k < c.length:=(dX.1 hk).1;rw [kQ,aj hkl] at hx;exact ⟨x,by simpa using hx,VR.mono (Env.FY h _) _ _ jP⟩
theorem adS {q:Place} {id:Nat} (h0:q.ba=0):VR (η.put id q) (.p id 0) (.pointer (some ⟨q.bl,0,none⟩)):=by
 simp only [VR];exact ⟨q,by simp [Env.put],by simp [h0]⟩
theorem agY (h:SR P η σ w) {t:TypeId} {z:List AV} (hz:xB P t=some z) :
 ∃y w' η',(Instr.alloc t true (.tuple #[])).run P w=.ok y w'/\St P η σ w η' (σ.new (.cells z t true false)) w'/\VR η' (.p σ.next 0) y:=by
 obtain ⟨zv,ny,hzv⟩:=DR hz;have hl:=(hzv η).length;refine ⟨_,_,_, ?_,Au h (xs:=zv.cells) (es:=0) (opn:=false) ?_ (by simpa using G6 hl) (λ_=>by simpa using hl) (by simp),adS rfl⟩
 ·simp only [Instr.alloc,aO,ny,aN,newVar,newRow,newObj,Sem.run,aZ]
 ·rw [hl,yH];exact hzv η
theorem aat (h:SR P η σ w) {t:TypeId} {a:AV} {x:Value} (hx:VR η a x) :
 ∃y w' η',(Instr.box t x).run P w=.ok y w'/\St P η σ w η' (σ.new (.cells a.cells t true false)) w'/\VR η' (.p σ.next 0) y:=by
 have hc:=xO hx;have hl:=hc.length;refine ⟨_,_,_, ?_,Au h (xs:=x.cells) (es:=0) (opn:=false) ?_ (by simpa using G6 hl) (λ_=>by simpa using hl) (by simp),adS rfl⟩
 ·simp only [Instr.box,aO,aN,newVar,newRow,newObj,Sem.run,aZ]
 ·rw [hl,yH];exact hc
theorem y7 {t e:TypeId} {size bytes:Nat} {z:List AV} (h:uG P t=some (e,size,bytes,z)) :
 P.underlying t=some (.slice e)/\(∃i,P.info? e=some i/\i.size=size/\i.bytes=bytes)/\xB P e=some z/\e≠0/\z.length=size/\sizeT P e=some size:=by
 unfold uG at h;split at h
 ·next e' hu=>
  split at h
  ·next i z' hi hz=>
   split at h
   ·next hc=>
    cases h;exact ⟨hu,⟨i,hi,rfl,rfl⟩,hz,hc.1,hc.2,by simp [sizeT,hi]⟩
   ·cases h
  ·cases h
 ·cases h
theorem ae0 {z:List AV}:∀ (n k:Nat),k < n * z.length->(iU n z)[k]? = z[k % z.length]?
 | 0,k,h=>by simp at h
 | n+1,k,h=>by
   have hs:iU (n+1) z=z++iU n z:=by simp [iU,JL]
   rw [hs];have hp:0 < z.length:=by rcases ZE z.length with e | e<;>simp_all
   by_cases hk:k < z.length
   ·rw [lV hk,NR hk]
   ·rw [tY (by omega),ae0 n (k - z.length) (by rw [Nat.succ_mul] at h;omega)]
    congr 1;have:k=(k - z.length)+z.length:=by omega
    rw [this,Nat.add_mod_right];congr 1;omega
theorem Rn {z:List AV} (n:Nat):(iU n z).length=n * z.length:=by simp [iU]
theorem Nu {z:List AV} {zv:Array Value} {n size:Nat} (hz:aA η z zv.toList) (hs:z.length=size):aA η (iU n z) ((Array.range (n * size)).map (zv[· % zv.size]!)).toList:=by
 have hl:=hz.length;simp only [GI] at hl;refine aA.of ?_ λk a hk=>?_
 ·rw [Rn];simp [hs]
 ·have hkl:k < n * z.length:=by have:=(dX.1 hk).1;rwa [Rn] at this
  rw [ae0 n k hkl] at hk;obtain ⟨x,hx,hv⟩:=hz.at hk;refine ⟨x, ?_,hv⟩;have hk2:k < n * size:=by rw [<- hs];exact hkl
  rw [tX] at hx;rw [tX,Array.getElem?_map,Array.getElem?_range,aj hk2];have hm:k % zv.size < zv.size:=by
   have:=(nN.1 hx).1;rwa [hl] at this
  rw [hl] at hx;simp [hm,getElem!_pos];have:=(nN.1 hx).2;exact this
end
end Go.aJ
