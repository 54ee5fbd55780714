/- The operations, one by one: what the model's operation does where the evaluator's answers. -/
import Derived.Test.YtmkkknckcnpljaaGreatDoorAbsA
import Derived.Lib.Builder
set_option linter.all false
namespace Go.aO
noncomputable section
variable[aI]
variable{P:Program}{H:Env}{J J':aA}{w:World}
def bf{t:TypeId}{d:TypeDesc}(h:P.underlying t=some d):(underlying t).run P w=.ok d w:=by simp[underlying,program,Sem.run,h]
def jd{t:TypeId}{n:Nat}(h:sizeT P t=some n):(sizeOf t).run P w=.ok n w:=by simp only[sizeT,bg]at h;obtain⟨i,hi,rfl⟩:=h;simp[sizeOf,typeInfo,program,Sem.run,hi]
def Jw{t:TypeId}{b:Bool}(h:oO P t=some b):(isAgg t).run P w=.ok b w:=by
 unfold oO at h;split at h<;>cases h
 ·next a=>simp[isAgg,bf a]
 ·next a=>simp[isAgg,bf a]
 ·next d a c f=>
  cases d<;>simp_all [isAgg,bf]
def Gv{t:TypeId}{i:TypeInfo}(h:P.info? t=some i):(typeInfo t).run P w=.ok i w:=by simp[typeInfo,program,Sem.run,h]
def ahl{v:Value}(h:pX v=true):v.cells =#[v]:=by cases v<;>simp[pX]at h<;>rfl
def GR.pX{ro:Qf}{g:GV}{v:Value}(h:GR ro g v)(a:g.scalar=true):pX v=true:=by
 cases g<;>simp only[GR]at h
 case g cs=>cases a
 case l xs=>rcases h with⟨_,_,rfl⟩|⟨d,b,c,f,i,rfl,_⟩<;>rfl
 all_goals subst h;rfl
def AV.sym:AV->Bool
 |.nd _|.rx _ _|.sv _ _|.pv _ _ _|.pd _ _=>true
 |_=>false
def VR.ajA{a:AV}{v:Value}(f:a.sym=true)(h:VR H a v):pX v=true:=by
 cases a<;>simp only[VR]at h<;>first|(cases f;done)|skip
 case nd n=>obtain⟨g,_,b,c⟩:=h;exact c.pX b
 case rx n off=>obtain⟨g,l,base,m,d,o,x,r,b,c,rfl,_⟩:=h;rfl
 case sv id n=>obtain⟨j,_,⟨q,_,_,rfl⟩|⟨_,_,rfl⟩⟩:=h<;>rfl
 case pv id n off=>obtain⟨q,k,i,_,_,rfl⟩:=h;rfl
 case pd id n=>obtain⟨j,p,_,rfl,_⟩:=h;rfl
def alI{a:AV}{v:Value}(b:a.sym=true)(h:VR H a v):aF H a.cells v.cells.toList:=by
 have c:=ahl (VR.ajA b h);have d:a.cells=[a]:=by cases a<;>first|rfl|(cases b)
 rw[c,d];exact aF.cons h (by simp[aF])
def zB{a:AV}{v:Value}(h:VR H a v):aF H a.cells v.cells.toList:=by
 by_cases s:a.sym=true
 ·exact alI s h
 cases a<;>first|(exact absurd rfl s)|skip
 all_goals simp only[VR]at h
 case agg l=>obtain⟨o,rfl,d⟩:=h;simpa[AV.cells,Value.cells]using d
 case eG l=>obtain⟨o,rfl,d⟩:=h;simp only[AV.cells,Value.cells];exact aF.cons (by simp only[VR];exact⟨o,rfl,d⟩) (by simp[aF])
 case p id g=>obtain⟨q,i,rfl⟩:=h;exact aF.cons (by simp only[VR];exact⟨q,i,rfl⟩) (by simp[aF])
 case sl id g len cap=>obtain⟨q,i,r,rfl⟩:=h;exact aF.cons (by simp only[VR];exact⟨q,i,r,rfl⟩) (by simp[aF])
 case mp id=>obtain⟨q,i,rfl⟩:=h;exact aF.cons (by simp only[VR];exact⟨q,i,rfl⟩) (by simp[aF])
 case fn f fi u=>obtain⟨B,o,rfl,d,j⟩:=h;exact aF.cons (by simp only[VR];exact⟨B,o,rfl,d,j⟩) (by simp[aF])
 case jc t b=>obtain⟨x,rfl,d⟩:=h;exact aF.cons (by simp only[VR];exact⟨x,rfl,d⟩) (by simp[aF])
 case z k lo hi=>obtain⟨n,d,j,rfl⟩:=h;exact aF.cons (by simp only[VR];exact⟨n,d,j,rfl⟩) (by simp[aF])
 case ro l=>
  have y:VR H (.ro l) v:=by simp only[VR];exact h
  rcases h with⟨_,_,rfl⟩|⟨A,g,c,F,G,rfl,d⟩
  ·exact aF.cons y (by simp[aF])
  ·exact aF.cons y (by simp[aF])
 case rp a g=>obtain⟨A,base,u,m,D,x,d,j,rfl,E⟩:=h;exact aF.cons (by simp only[VR];exact⟨A,base,u,m,D,x,d,j,rfl,E⟩) (by simp[aF])
 all_goals subst h;exact aF.cons (by simp only[VR]) (by simp[aF])
def aaj{a:AV}{v:Value}(h:VR H a v)(r:a.nU=true):pX v=true:=by
 by_cases i:a.sym=true
 ·exact h.ajA i
 cases a<;>first|(exact absurd rfl i)|skip
 all_goals simp only[VR]at h
 all_goals simp[AV.nU]at r
 case p id d=>obtain⟨q,j,rfl⟩:=h;rfl
 case sl id d len cap=>obtain⟨q,j,_,rfl⟩:=h;rfl
 case mp id=>obtain⟨q,j,rfl⟩:=h;rfl
 case fn f fi s=>obtain⟨y,A,rfl,g,m⟩:=h;rfl
 case jc t b=>obtain⟨x,rfl,g⟩:=h;rfl
 case z k lo hi=>obtain⟨n,g,m,rfl⟩:=h;rfl
 case ro l=>rcases h with⟨_,_,rfl⟩|⟨u,d,c,B,D,rfl,g⟩<;>rfl
 case rp a d=>obtain⟨u,base,s,o,E,x,g,m,rfl,F⟩:=h;rfl
 all_goals subst h;rfl
def Iq{xs:Q6}{sz:Nat}(h:∀x∈xs,x.cells.size=sz):(dS xs).length=xs.length*sz:=by
 induction xs with
 |nil=>simp[dS]
 |cons x xs a=>have b:=h x (by simp);have:=a λy c=>h y (by simp[c]);simp only[dS,jF,eX,jw]at this⊢;rw[this,rH,Hq,NC];simp[b]
def ad1{xs:Q6}{sz:Nat}(h:∀x∈xs,x.cells.size=sz)(i:Nat):(dS xs).drop (i*sz)=dS (xs.drop i):=by
 induction xs generalizing i with
 |nil=>simp[dS]
 |cons x xs a=>
  cases i with
  |zero=>simp
  |succ i=>
   have b:=h x (by simp);have:=a (λy c=>h y (by simp[c])) i;simp only[WM];rw[<-this];simp only[dS,jF];have d:x.cells.toList.length=sz:=by simpa using b
   rw[show(i+1)*sz=x.cells.toList.length+i*sz by rw[d,rH,Hq,NC]];rw[acA,List.drop_of_length_le (by omega),aW,Xb]
def alE{xs:Q6}{sz:Nat}(h:∀x∈xs,x.cells.size=sz)(i:Nat):(dS xs).take (i*sz)=dS (xs.take i):=by
 induction xs generalizing i with
 |nil=>simp[dS]
 |cons x xs a=>
  cases i with
  |zero=>simp[dS]
  |succ i=>
   have b:=h x (by simp);have:=a (λy c=>h y (by simp[c])) i;simp only[AA];simp only[dS,jF]at this⊢;have d:x.cells.toList.length=sz:=by simpa using b
   rw[show(i+1)*sz=x.cells.toList.length+i*sz by rw[d,rH,Hq,NC]];rw[List.take_length_add_append,this]
def adY{xs:Q6}{sz i:Nat}{x:Value}(h:∀x∈xs,x.cells.size=sz)(hi:xs[i]? =some x)(k:Nat)(b:k<sz):(dS xs)[i*sz+k]? =x.cells[k]?:=by
 have c:=ad1 h i;have a:=(fB.1 hi).1;have d:xs.drop i=x::xs.drop (i+1):=by rw[<-(fB.1 hi).2];exact dF a
 have:(dS xs)[i*sz+k]? =((dS xs).drop (i*sz))[k]?:=by rw[rF]
 rw[this,c,d];have f:=h x (qp hi);simp only[dS,jF];rw[ny (by simpa[f]using b)];simp
def Sz{a:AV}{v:Value}(h:VR H a v):a.cells.length=v.cells.size:=by have:=(zB h).length;simpa using this
def ae6{l:Q3}{xs:Q6}(h:aF H l xs):aF H (l.flatMap AV.cells) (dS xs):=by
 induction l generalizing xs with
 |nil=>simp only[aF]at h;subst h;simp[aF,dS]
 |cons a l b=>simp only[aF]at h;obtain⟨x,f,rfl,c,d⟩:=h;simp only[jF,dS];exact aF.append (zB c) (b d)
def akU{l:Q3}{xs:Q6}{n:Nat}(h:aF H l xs)(f:l.all (λa=>a.cells.length==n)=true):∀x∈xs,x.cells.size=n:=by
 intro x g;obtain⟨k,c⟩:=WY.1 g;have b:k<l.length:=by have:=(fB.1 c).1;have:=h.length;omega
 obtain⟨y,d,i⟩:=h.at (bP b);rw[c]at d;cases d;have:=List.all_eq_true.1 f _ (dW b);rw[<-Sz i];simpa using this
def ayy{l:Q3}{v:Value}(h:VR H (.ro l) v){i size:Nat}{a:AV}(hi:l[i]? =some a)(s:a.cells.length=size):
 ∃bl off c cs elem f x,v=.slice (some ⟨bl,off,none⟩) l.length c/\l.length<=c/\H.ro bl=some (.cells cs elem f)/\VR H a x/\off+i*size+x.cells.size<=cs.size/\EW cs (off+i*size) x.cells.toList:=by
 simp only[VR]at h;rcases h with⟨rfl,_⟩|⟨bl,off,c,u,b,rfl,z,A,g,B⟩
 ·simp at hi
 obtain⟨x,j,p⟩:=A.at hi;obtain⟨cs,elem,f,D,F,E⟩:=B (by intro e;subst e;simp at hi);have m:=g x (qp j);have:b=size:=by rw[<-m,<-Sz p,s]
 subst this;have q:=Iq g;have n:=(fB.1 j).1;have d:(i+1)*b<=u.length*b:=vS _ n;rw[rH,Hq]at d;refine⟨bl,off,c,cs,elem,f,x,rfl,z,D,p,by omega,λk y r=>?_⟩;have o:k<b:=by have:=(fB.1 r).1;simp at this;omega
 have:=E (i*b+k) y (by rw[adY g j k o];simpa using r);rw[<-jH]at this;exact this
def Gw{t:TypeId}{b:Q3}(h:y8 P t=some b):∃z,(∀w,(zeroValue t).run P w=.ok z w)/\∀H:Env,aF H b z.cells.toList:=by
 unfold y8 at h;split at h
 ·next i hi=>
  split at h
  ·next z c=>
   simp only[bg]at h;obtain⟨a,d,rfl⟩:=h;exact⟨z,λw=>by simp[zeroValue,Gv hi,c],λH=>zB (DX _ _ _ d)⟩
  ·cases h
 ·cases h
def ru{l r:Q3}{off n:Nat}(h:takeN l off n=some r):r=(l.drop off).take n/\r.length=n/\(n=0\/off+n<=l.length):=by
 simp only[takeN]at h;split at h
 ·next a=>
  cases h;refine⟨rfl,a,?_⟩;simp at a;omega
 ·cases h
def ajH{l r:Q3}{off n:Nat}(h:takeN l off n=some r){k:Nat}{a:AV}(b:r[k]? =some a):l[off+k]? =some a:=by
 obtain⟨rfl,_,_⟩:=ru h;rw[mG]at b;split at b
 ·rw[rF]at b;exact b
 ·cases b
def rE.take{q:Place}{c:Q3}{a:TypeId}{rw opn:Bool}{cs:QQ}{elem:TypeId}{b:Nat×Nat}(r:rE P H q c a rw opn cs elem b)
 {off n:Nat} {l:Q3} (h:takeN c off n=some l):q.ba+off+n<=cs.size\/n=0:=by
 obtain⟨_,_,d⟩:=ru h;have:=r.fits;have:=r.le;omega
def rE.y7{q:Place}{c:Q3}{i:TypeId}{rw opn:Bool}{cs:QQ}{elem:TypeId}{j:Nat×Nat}(r:rE P H q c i rw opn cs elem j)
 {off n:Nat} {l:Q3} (h:takeN c off n=some l):aF H l ((cs.toList.drop (q.ba+off)).take n):=by
 obtain⟨p,d,s⟩:=ru h;have u:=r.fits;have v:=r.le;refine aF.of ?_ λk a f=>?_
 ·simp;omega
 ·have m:=ajH h f;obtain⟨x,g,o⟩:=r.cell _ _ m;refine⟨x,?_,o⟩;have b:k<n:=by have:=(fB.1 f).1;omega
  rw[mG,aj b,rF];rw[<-jH]at g;simpa using g
def Ee{bl off n:Nat}{cs:QQ}{elem:TypeId}{b:Nat×Nat}(h:w.heap[bl]? =some (.cells cs elem b))(a:off+n<=cs.size\/n=0):
 (loadCells ⟨bl,off,none⟩ n).run P w=.ok ⟨(cs.toList.drop off).take n⟩ w:=by
 rcases a with c|rfl
 ·exact run_loadCells h c
 ·simp[loadCells,loadCellsFrom]
def FM(h:SR P H J w){t:TypeId}{a v:AV}{x:Value}(f:vY P t J a=some v)(g:VR H a x):
 ∃y,(Instr.loadAt t x).run P w=.ok y w/\VR H v y:=by
 unfold vY at f;split at f
 ·next id d=>
  split at f
  ·next c V rw I L=>
   obtain⟨q,M,i,j,N,m,r⟩:=h.obj _ _ L rfl;simp only[VR]at g;obtain⟨W,o,rfl⟩:=g;rw[M]at o;cases o;split at f
   ·next b=>
    split at f
    ·next n A=>
     simp only[bg]at f;obtain⟨l,z,rfl⟩:=f;refine⟨.agg ⟨(i.toList.drop (q.ba+d)).take n⟩,?_,?_⟩
     ·simp only[Instr.loadAt,Instr.sureAddr,aT,bF,aQ,loadVar,Jw b,if_true,jd A,uM];rw[Ee m (r.take z)];rfl
     ·simp only[VR];exact⟨_,rfl,r.y7 z⟩
    ·cases f
   ·next b=>
    obtain⟨x,g,B⟩:=r.cell _ _ f;refine⟨x,?_,B⟩;simp only[Instr.loadAt,Instr.sureAddr,aT,bF,aQ,loadVar,Jw b,uM];exact aiZ m g
   ·cases f
  ·cases f
 ·next e d=>
  simp only[VR]at g;obtain⟨X,base,i,j,N,x,O,F,rfl,Y,G⟩:=g;have m:=h.ji _ _ O;have p:=zB F;have Q:=Sz F;split at f
  ·next b=>
   split at f
   ·next n A=>
    simp only[bg]at f;obtain⟨l,z,rfl⟩:=f;obtain⟨D,S,T⟩:=ru z;have s:base+d+n<=i.size\/n=0:=by omega
    refine⟨.agg ⟨(i.toList.drop (base+d)).take n⟩,?_,?_⟩
    ·simp only[Instr.loadAt,Instr.sureAddr,aT,bF,aQ,loadVar,Jw b,if_true,jd A,uM];rw[Ee m s];rfl
    ·simp only[VR];refine⟨_,rfl,?_⟩;have E:(i.toList.drop (base+d)).take n=(x.cells.toList.drop d).take n:=by
      apply J4;intro k;rw[mG,mG];split
      ·next Z=>
       rw[rF,rF];have u:d+k<x.cells.toList.length:=by simp;omega
       have:=G (d+k) _ (bP u);rw[bP u,vJ,jH];exact this
      ·rfl
     rw[E,D];exact(p.drop d).take n
   ·cases f
  ·next b=>
   obtain⟨y,U,B⟩:=p.at f;refine⟨y,?_,B⟩;simp only[Instr.loadAt,Instr.sureAddr,aT,bF,aQ,loadVar,Jw b,uM];exact aiZ m (G d y U)
  ·cases f
 ·cases f
def VE{l a vs:Q3}{off:Nat}(h:Ad l off vs=some a):off+vs.length<=l.length/\a.length=l.length/\
 ∀(k:Nat),a[k]? =if off<=k/\k<off+vs.length then vs[k-off]? else l[k]?:=by
 unfold Ad at h;split at h
 ·next b=>
  cases h;refine⟨b,by simp;omega,λk=>?_⟩;by_cases c:k<off
  ·rw[ah (by omega),List.append_assoc,ny (by simp;omega),mG,aj c]
  ·by_cases d:k<off+vs.length
   ·rw[aj ⟨by omega,d⟩,ny (by simp;omega),vK (by simp;omega)];simp;congr 1;omega
   ·rw[ah (by omega),vK (by simp;omega),rF];congr 1;simp;omega
 ·cases h
def Wy(h:SR P H J w){id off:Nat}{c p:Q3}{s:TypeId}{opn:Bool}{vs:Q3}{xs:Q6}{q:Place}(u:J.get id=some (.cells c s true opn))(E:J.lock<=id)
 (v:H id=some q) (F:Ad c off vs=some p) (m:aF H vs xs) (g:vs.all AV.nU=true):
 ∃w',(storeCells ⟨q.bl,q.ba+off,none⟩ xs).run P w=.ok () w'/\St P H J w H (J.put id (.cells p s true opn)) w':=by
 obtain⟨T,i,G,f,z,A,r⟩:=h.obj _ _ u rfl;rw[v]at i;cases i;obtain⟨U,I,L⟩:=VE F;have B:=m.length;have M:=r.fits;have N:=r.le;have n:∀x∈xs,pX x=true:=by
  intro x o;obtain⟨k,d⟩:=WY.1 o;have j:k<vs.length:=by have:=(fB.1 d).1;omega
  obtain⟨y,D,O⟩:=m.at (bP j);rw[d]at D;cases D;exact aaj O (List.all_eq_true.1 g _ (dW j))
 have l:=abp (P:=P) xs w q.bl (q.ba+off) 0 G f z A (by omega) n (λk a b=>by have:=r.free rfl (k-q.ba) (by omega);rw[QT (by omega)]at this;exact this)
 refine⟨_,l,?_⟩;refine St.write h u rfl E v Eh (λk d=>Ef d) rfl rfl rfl ?_;refine⟨_,f,z,BZ A,?_⟩;refine {fits:=by rw[ML];exact M,le:=by omega,shut:=λe=>by rw[I];exact r.shut e,cell:=?_,free:=λe=>r.free e,whole:=λe=>by rw[ML];exact r.whole e,room:=r.room};intro k a d;rw[L]at d;rw[VD _ _ _ _ (by omega)];split at d
 ·next Q=>
  rw[aj (by omega)];obtain⟨x,o,S⟩:=m.at d;refine⟨x,?_,S⟩;rw[<-o];congr 1;omega
 ·next Q=>
  rw[ah (by omega)];exact r.cell k a d
def VN(h:SR P H J w){t:TypeId}{a v:AV}{x y:Value}(d:EK P t J a v=some J')(l:VR H a x)(m:VR H v y):
 ∃w',(Instr.storeAt t x y).run P w=.ok () w'/\St P H J w H J' w':=by
 unfold EK at d;split at d
 ·next id n=>
  split at d
  ·next c A o p=>
   split at d
   ·next r=>
    obtain⟨s,j,f⟩:=r;simp only[bg]at d;obtain⟨B,u,rfl⟩:=d;simp only[VR]at l;obtain⟨q,z,rfl⟩:=l;have b:=zB m;obtain⟨w',g,k⟩:=Wy h p s z u b f;refine⟨w',?_,k⟩;have i:=b.length;simp only[Instr.storeAt,Instr.sureAddr,aT,bF,aQ,storeVar,jd j,uM];rw[ah (by simp at i⊢;omega)];simpa using g
   ·cases d
  ·cases d
 ·cases d
def zo{a:AV}{n:Int}{x:Value}(h:vX a=some n)(b:VR H a x):∃k,x=.int k n:=by
 cases a<;>simp[vX]at h
 subst h;simp only[VR]at b;exact⟨_,b⟩
def BX{a:AV}{v:Value}{x:Value}(h:xq a=some v)(b:VR H a x):x=v:=ajO 4 a v x h b
def ahs{t:TypeId}{cs:Q3}{vs:Q6}{off:Nat}{v:AV}(h:Rn P t cs off=some v)(b:aF H cs vs):
 ∃y,(part t ⟨vs⟩ off).run P w=.ok y w/\VR H v y:=by
 unfold Rn at h;split at h
 ·next a=>
  split at h
  ·next n c=>
   simp only[bg]at h;obtain⟨l,d,rfl⟩:=h;refine⟨.agg ((⟨vs⟩:QQ).extract off (off+n)),?_,?_⟩
   ·simp[part,Jw a,jd c]
   ·simp only[VR];obtain⟨rfl,_,_⟩:=ru d;refine⟨(vs.drop off).take n,?_,(b.drop off).take n⟩;simp
  ·cases h
 ·next a=>
  obtain⟨x,f,g⟩:=b.at h;refine⟨x,?_,g⟩;simp[part,Jw a,f]
 ·cases h
def arz{t:TypeId}{a v:AV}{x:Value}{f:Nat}(h:Q8 P t a f=some v)(c:VR H a x):
 ∃y,(Instr.field t x f).run P w=.ok y w/\VR H v y:=by
 unfold Q8 at h;split at h
 ·next b l d=>
  split at h
  ·next m g=>
   simp only[VR]at c;obtain⟨n,rfl,i⟩:=c;obtain⟨y,j,k⟩:=ahs (w:=w) h i;exact⟨y,by simp[Instr.field,bf d,g,asAgg,j],k⟩
  ·cases h
 ·cases h
def arx{t:TypeId}{a v:AV}{x:Value}{f:Nat}(h:Q9 P t a f=some v)(i:VR H a x):
 ∃y,(Instr.fieldAt t x f).run P w=.ok y w/\VR H v y:=by
 unfold Q9 at h;split at h
 ·next c id d j=>
  split at h
  ·next k l=>
   split at h
   ·next n m=>
    split at h
    ·cases h
    ·next o=>
     cases h;simp only[VR]at i;obtain⟨q,r,rfl⟩:=i;refine⟨.pointer (some ⟨q.bl,q.ba+d+k.offset,none⟩),?_,?_⟩
     ·simp[Instr.fieldAt,bf j,l,Instr.sureAddr,fieldPlace,jd m,o,qy]
     ·simp only[VR];exact⟨q,r,by rw[jH]⟩
   ·cases h
  ·cases h
 ·next c b d j=>
  split at h
  ·next k l=>
   split at h
   ·next n m=>
    split at h
    ·cases h
    ·next o=>
     cases h;simp only[VR]at i;obtain⟨p,base,s,g,u,x,z,A,rfl,B⟩:=i;refine⟨.pointer (some ⟨p,base+d+k.offset,none⟩),?_,?_⟩
     ·simp[Instr.fieldAt,bf j,l,Instr.sureAddr,fieldPlace,jd m,o,qy]
     ·simp only[VR];exact⟨p,base,s,g,u,x,z,A,by rw[jH],B⟩
   ·cases h
  ·cases h
 ·cases h
def Pn{t:TypeId}{a i v:AV}{x y:Value}(h:yG P t a i=some v)(j:VR H a x)(s:VR H i y):
 ∃z,(Instr.indexAt t x y).run P w=.ok z w/\VR H v z:=by
 unfold yG at h;split at h
 ·next e id f len M k m n=>
  obtain⟨u,rfl⟩:=zo n s;split at h
  ·next d o=>
   split at h
   ·next p=>
    cases h;simp only[VR]at j;obtain⟨q,A,N,rfl⟩:=j;refine⟨.pointer (some ⟨q.bl,q.ba+f+k.toNat*d,none⟩),?_,?_⟩
    ·simp[Instr.indexAt,asIntOf,bf m,jd o,p,qy]
    ·simp only[VR];exact⟨q,A,by rw[jH]⟩
   ·cases h
  ·cases h
 ·next len e id f k m n=>
  obtain⟨u,rfl⟩:=zo n s;split at h
  ·next d o=>
   split at h
   ·next p=>
    cases h;simp only[VR]at j;obtain⟨q,A,rfl⟩:=j;refine⟨.pointer (some ⟨q.bl,q.ba+f+k.toNat*d,none⟩),?_,?_⟩
    ·simp[Instr.indexAt,asIntOf,bf m,jd o,p,qy,Instr.sureAddr]
    ·simp only[VR];exact⟨q,A,by rw[jH]⟩
   ·cases h
  ·cases h
 ·next e l k m n=>
  obtain⟨u,rfl⟩:=zo n s;split at h
  ·next d o=>
   split at h
   ·next O=>
    split at h
    ·next b L=>
     split at h
     ·next B=>
      cases h;obtain⟨r,f,c,D,g,E,x,rfl,T,F,G,I,Q⟩:=ayy j L B;have S:=(fB.1 L).1;have p:0<=k/\k<(l.length:Int):=⟨O,by omega⟩
      refine⟨.pointer (some ⟨r,f+k.toNat*d,none⟩),?_,?_⟩
      ·simp[Instr.indexAt,asIntOf,bf m,jd o,p,qy]
      ·simp only[VR];exact⟨r,f+k.toNat*d,D,g,E,x,F,G,rfl,I,Q⟩
     ·cases h
    ·cases h
   ·cases h
  ·cases h
 ·next len e b f k m n=>
  obtain⟨u,rfl⟩:=zo n s;split at h
  ·next d o=>
   split at h
   ·next p=>
    cases h;simp only[VR]at j;obtain⟨r,base,D,g,E,x,F,G,rfl,I⟩:=j;refine⟨.pointer (some ⟨r,base+f+k.toNat*d,none⟩),?_,?_⟩
    ·simp[Instr.indexAt,asIntOf,bf m,jd o,p,qy,Instr.sureAddr]
    ·simp only[VR];exact⟨r,base,D,g,E,x,F,G,by rw[jH],I⟩
   ·cases h
  ·cases h
 ·cases h
def as5(s:Q0)(k:Nat):((⟨⟨s⟩⟩:ByteArray)[k]?)=s[k]?:=by rw[getElem?_def,getElem?_def];rfl
def Zm{t:TypeId}{a i v:AV}{x y:Value}(h:EJ P t a i=some v)(b:VR H a x)(g:VR H i y):
 ∃z,(Instr.index t x y).run P w=.ok z w/\VR H v z:=by
 unfold EJ at h;split at h
 ·next s k d f=>
  obtain⟨l,rfl⟩:=zo f g;split at h
  ·next m=>
   split at h
   ·next c n=>
    cases h;simp only[VR]at b;subst b;refine⟨.int .u8 c.toNat,?_,by simp[VR]⟩;simp[Instr.index,asIntOf,bf d,m,as5,n]
   ·cases h
  ·cases h
 ·next len e A k d f=>
  obtain⟨l,rfl⟩:=zo f g;split at h
  ·next j o=>
   split at h
   ·next p=>
    simp only[VR]at b;obtain⟨B,rfl,q⟩:=b;obtain⟨z,r,u⟩:=ahs (w:=w) h q;exact⟨z,by simp[Instr.index,asIntOf,bf d,jd o,p,r],u⟩
   ·cases h
  ·cases h
 ·cases h
def lF(H:Env):Q4->Option Value->Prop
 |none,none=>True
 |some a,some x=>VR H a x
 |_,_=>False
def ES{sl:Bool}{len cap:Nat}{i:Nat->Bool}{lo hi:Q4}{b d:Wr}{l h:Nat}(m:xM len i lo hi=some (l,h))(o:∀k,i k=true->k<=cap)(s:len<=cap)
 (f:lF H lo b) (g:lF H hi d):
 (Instr.sliceBounds sl len cap b d none).run P w=.ok (l,h,cap) w/\l<=h/\h<=cap:=by
 unfold xM at m;split at m
 ·cases m
 next r e=>
 split at m
 ·cases m
 next y j=>
 simp only[aZ,og]at m;obtain⟨rfl,rfl⟩:=m;have z:∀c,(match d with|some v=>Instr.sliceBound v cap c|none=>pure len).run P w=.ok r w/\r<=cap:=by
  intro c;cases hi with
  |none=>cases d with
   |none=>simp[AU]at e;subst e;exact⟨rfl,s⟩
   |some _=>exact g.elim
  |some a=>cases d with
   |none=>exact g.elim
   |some x=>
    simp only[AU]at e;simp only[lF]at g;split at e
    ·next n u=>
     obtain⟨D,rfl⟩:=zo u g;split at e
     ·next p=>
      cases e;have:=o _ p.2;refine⟨?_,this⟩;simp[Instr.sliceBound,asIntOf,p.1];intro q;omega
     ·cases e
    ·cases e
 have A:∀c,(match b with|some v=>Instr.sliceBound v r c|none=>pure 0).run P w=.ok y w/\y<=r:=by
  intro c;cases lo with
  |none=>cases b with
   |none=>simp[Kq]at j;subst j;exact⟨rfl,vT _⟩
   |some _=>exact f.elim
  |some a=>cases b with
   |none=>exact f.elim
   |some x=>
    simp only[Kq]at j;simp only[lF]at f;split at j
    ·next n u=>
     obtain⟨D,rfl⟩:=zo u f;split at j
     ·next p=>
      cases j;refine⟨?_,by omega⟩;simp[Instr.sliceBound,asIntOf,p.1];intro q;omega
     ·cases j
    ·cases j
 refine⟨?_,(A .index).2,(z .index).2⟩;unfold Instr.sliceBounds;have p:=z (if sl then .sliceAcap else .sliceAlen);have B:=A (if(none:Wr).isSome then .slice3C else .sliceB);cases d<;>simp only[aT,bF,aQ]at p B⊢<;>cases b<;>simp only[aT,bF,aQ]at p B⊢<;>simp_all
def strSize(s:Q0):(⟨⟨s⟩⟩:ByteArray).size=s.length:=rfl
def ajw(s:Q0)(l h:Nat):(⟨⟨s⟩⟩:ByteArray).extract l h=⟨⟨(s.take h).drop l⟩⟩:=by apply ByteArray.ext;rw[ByteArray.data_extract];apply Np;simp[Aw,List.extract_eq_take_drop]
def Qe{a:Addr}{c:Nat}(d:a.spot=none:=by rfl):VR H (.ro []) (.slice (some a) 0 c):=by simp only[VR];obtain⟨f,b,g⟩:=a;simp only at d;subst d;right;exact⟨f,b,c,[],0,rfl,vT _,by simp[aF],by simp,λh=>absurd rfl h⟩
def ac3{len:Nat}{a:Nat->Bool}{lo hi:Q4}{l h:Nat}(b:xM len a lo hi=some (l,h))(c:∀k,a k=true->k<=len):h<=len:=by
 unfold xM at b;split at b
 ·cases b
 ·next e=>
  split at b
  ·cases b
  ·cases b;cases hi with
   |none=>simp[AU]at e;omega
   |some v=>
    simp only[AU]at e;split at e
    ·split at e
     ·next d=>cases e;exact c _ d.2
     ·cases e
    ·cases e
def VH(h:SR P H J w){t:TypeId}{a v:AV}{x:Value}{lo hi:Q4}{S T:Wr}(b:AY P t J a lo hi=some v)(D:VR H a x)(o:lF H lo S)(p:lF H hi T):
 ∃y,(Instr.sliceAt t x S T none).run P w=.ok y w/\VR H v y:=by
 unfold AY at b;split at b
 ·next s z=>
  simp only[bg,J9]at b;obtain⟨l,f,i,rfl⟩:=b;simp only[VR]at D;subst D;have m:=ES (P:=P) (w:=w) (sl:=false) (cap:=s.length) i (λk g=>by simpa using g) (dY _) o p;refine⟨.string ⟨⟨(s.take f).drop l⟩⟩,?_,by simp[VR]⟩;simp only[Instr.sliceAt,Instr.slice,bf z,aT,aQ,strSize,acS,gy,if_false,m.1,bF,ajw,uM]
 ·next e id d len u z=>
  simp only[VR]at D;obtain⟨q,G,E,rfl⟩:=D;split at b
  ·next j c A=>
   simp only[xH,J9]at b;obtain⟨l,f,i,b⟩:=b;simp only[qP]at E⊢;have m:=ES (P:=P) (w:=w) (sl:=true) (cap:=c) i (λk g=>by simpa using g) E o p;split at b
   ·next B=>
    cases b;subst B;refine⟨.slice (some ⟨q.bl,q.ba+d,none⟩) (f-c) 0,?_,?_⟩
    ·simp only[Instr.sliceAt,Instr.slice,bf z,aT,aQ,m.1,jd A,bF,if_true,AL]
    ·simp only[VR];exact⟨q,G,by simp;omega,rfl⟩
   ·next B=>
    cases b;refine⟨.slice (some ⟨q.bl,q.ba+d+l*j,none⟩) (f-l) (c-l),?_,?_⟩
    ·simp only[Instr.sliceAt,Instr.slice,bf z,aT,aQ,m.1,jd A,bF,ah B,gB,qy]
    ·simp only[VR];exact⟨q,G,by simp;omega,by rw[jH];rfl⟩
  ·next j A=>
   split at b
   ·next c et rw hg=>
    split at b
    ·next Z=>
     simp only[xH,J9]at b;obtain⟨l,f,i,b⟩:=b;obtain⟨q',U,cs,I,fr,ad,r⟩:=h.obj _ _ hg rfl;rw[G]at U;cases U;obtain⟨_,ae,F⟩:=r.room rfl;rw[Z,A]at F;cases F;simp only[xI]at E⊢;have m:=ES (P:=P) (w:=w) (sl:=true) (cap:=(q.sz-d)/q.es) i (λk g=>by simp at g;omega) E o p;have O9:f<=len:=by
      unfold xM at i;split at i
      ·cases i
      ·next e=>
       split at i
       ·cases i
       ·cases i;cases hi with
        |none=>simp[AU]at e;omega
        |some v=>
         simp only[AU]at e;split at e
         ·split at e
          ·next V=>cases e;simpa using V.2
          ·cases e
         ·cases e
     have L:(q.sz-d)/q.es-l=(q.sz-(d+l*q.es))/q.es:=by rw[<-Nat.sub_sub,CS l,Nat.sub_mul_div]
     split at b
     ·next B=>
      cases b;refine⟨.slice (some ⟨q.bl,q.ba+d+l*q.es,none⟩) (f-l) ((q.sz-d)/q.es-l),?_,?_⟩
      ·simp only[Instr.sliceAt,Instr.slice,bf z,aT,aQ,m.1,jd A,bF,gB,qy];rw[ah (by omega)]
      ·simp only[VR];refine⟨q,G,?_,?_⟩
       ·simp only[xI];rw[<-L];omega
       ·simp only[xI];rw[<-L,jH]
     ·split at b
      ·next B e2=>
       cases b;subst e2;refine⟨.slice (some ⟨q.bl,q.ba+d,none⟩) (f-0) ((q.sz-d)/q.es-0),?_,?_⟩
       ·simp only[Instr.sliceAt,Instr.slice,bf z,aT,aQ,m.1,jd A,bF,gB,qy];split<;>simp
       ·simp only[VR];exact⟨q,G,by simp;omega,by simp⟩
      ·split at b
       ·next B e2 e3=>
        cases b;subst e3;simp only[Instr.sliceAt,Instr.slice,bf z,aT,aQ,m.1,jd A,bF,gB,qy,AL];by_cases W:(q.sz-d)/q.es=f
        ·rw[aj W];exact⟨_,rfl,Qe⟩
        ·rw[ah W];exact⟨_,rfl,Qe⟩
       ·cases b
    ·cases b
   ·cases b
  ·cases b
 ·next e z=>
  split at b
  ·next n A=>
   simp only[bg,J9]at b;obtain⟨l,f,i,rfl⟩:=b;simp only[VR]at D;subst D;have m:=ES (P:=P) (w:=w) (sl:=true) (cap:=0) i (λk g=>by simpa using g) (dY _) o p;have N:l=0:=by omega
   have O:f=0:=by omega
   subst N;subst O;refine⟨.slice none 0 0,?_,by simp[VR]⟩;simp only[Instr.sliceAt,Instr.slice,bf z,aT,aQ,m.1,jd A,bF,if_true,AL]
  ·cases b
 ·next e es z=>
  split at b
  ·next j A=>
   simp only[xH,J9]at b;obtain⟨l,f,i,b⟩:=b;have af:=D;simp only[VR]at D;rcases D with⟨rfl,pa,rfl⟩|⟨bl,d,c,xs,M,rfl,hc,V,Q,h3⟩
   ·have m:=ES (P:=P) (w:=w) (sl:=true) (cap:=0) i (λk g=>by simpa using g) (dY _) o p;have N:l=0:=by omega
    have O:f=0:=by omega
    subst N;subst O;simp[Ro]at b;subst b;refine⟨.slice pa 0 0,?_,by simp[VR]⟩;have X:=m.1;rw[nZ]at X;simp only[Instr.sliceAt,Instr.slice,bf z,aT,aQ,X,jd A,bF,if_true,AL]
   have m:=ES (P:=P) (w:=w) (sl:=true) (cap:=c) i (λk g=>by simp at g;omega) hc o p;have O9:=ac3 i (λk g=>by simpa using g);simp only[Instr.sliceAt,Instr.slice,bf z,aT,aQ,m.1,jd A,bF,gB,qy];unfold Ro at b;split at b
   ·next B=>
    cases b;subst B;simp only[AL];by_cases W:c=f
    ·rw[aj W];exact⟨_,rfl,Qe⟩
    ·rw[ah W];exact⟨_,rfl,Qe⟩
   ·next B=>
    split at b
    ·next a ha=>
     split at b
     ·next F=>
      cases b;obtain⟨x,aa,kZ⟩:=V.at ha;have ab:=Q x (qp aa);have:M=j:=by rw[<-ab,<-Sz kZ,F]
      subst this;obtain⟨cs,I,fr,h4,h5,h6⟩:=h3 (by intro e;subst e;simp at ha);rw[ah (by omega)];refine⟨_,rfl,?_⟩;have ac:=V.length;simp only[VR];right;refine⟨bl,d+l*M,c-l,(xs.take f).drop l,M,by congr 1;simp;omega,by simp;omega,(V.take f).drop l,λy Y=>Q y (Hg (J5 Y)),λ_=>⟨cs,I,fr,h4,?_,?_⟩⟩
      ·rw[Iq (λy Y=>Q y (Hg (J5 Y)))];have hL:=Iq Q;have hm:((xs.take f).drop l).length=f-l:=by simp;omega
       rw[hm];have h7:l*M+(f-l)*M=f*M:=by rw[<-rH];congr 1;omega
       have h8:f*M<=xs.length*M:=vS _ (by omega);omega
      ·intro k y g;rw[<-ad1 (λy Y=>Q y (Hg Y)),<-alE Q,rF,mG]at g;split at g
       ·have:=h6 _ _ g;rw[<-jH]at this;exact this
       ·cases g
     ·cases b
    ·cases b
  ·cases b
 ·next n e id d z=>
  simp only[VR]at D;obtain⟨q,G,rfl⟩:=D;split at b
  ·next j A=>
   simp only[bg,J9]at b;obtain⟨l,f,i,rfl⟩:=b;have m:=ES (P:=P) (w:=w) (sl:=false) (cap:=n) i (λk g=>by simpa using g) (dY _) o p;have O9:=ac3 i (λk g=>by simpa using g);simp only[Instr.sliceAt,Instr.sureAddr,bf z,aT,aQ,m.1,jd A,bF];by_cases B:n=l
   ·subst B;rw[aj rfl,aj rfl];refine⟨_,rfl,?_⟩;simp only[VR];exact⟨q,G,by simp;omega,by simp⟩
   ·rw[ah B,ah B];refine⟨_,rfl,?_⟩;simp only[VR,qy];exact⟨q,G,by simp;omega,by simp[jH]⟩
  ·cases b
 ·cases b
def af9(h:SR P H J w){t:TypeId}{ts:Wm}{ty:TypeId}{a v:AV}{x:Value}(g:ts[0]? =some t)(d:Rf P J t a=some v)(f:VR H a x):
 ∃y,(Builtin.len_ ts ty #[x]).run P w=.ok y w/\VR H v y:=by
 unfold Rf at d;split at d
 ·next s b=>cases d;simp only[VR]at f;subst f;exact⟨.int .i64 s.length,by simp[Builtin.len_,g,bf b,goInt,strSize],by simp[VR]⟩
 ·next e b=>cases d;simp only[VR]at f;subst f;exact⟨.int .i64 0,by simp[Builtin.len_,g,bf b,goInt],by simp[VR]⟩
 ·next e id j n p b=>cases d;simp only[VR]at f;obtain⟨q,o,_,rfl⟩:=f;exact⟨.int .i64 n,by simp[Builtin.len_,g,bf b,goInt],by simp[VR]⟩
 ·next e l b=>cases d;simp only[VR]at f;rcases f with⟨rfl,_,rfl⟩|⟨B,j,c,D,E,rfl,_⟩;exact⟨.int .i64 0,by simp[Builtin.len_,g,bf b,goInt],by simp[VR]⟩;exact⟨.int .i64 l.length,by simp[Builtin.len_,g,bf b,goInt],by simp[VR]⟩
 ·next r u b=>cases d;simp only[VR]at f;subst f;exact⟨.int .i64 0,by simp[Builtin.len_,g,bf b,goInt],by simp[VR]⟩
 ·next r u id b=>
  split at d
  ·next es z=>
   cases d;simp only[VR]at f;obtain⟨q,o,rfl⟩:=f;obtain⟨F,i,G,k,A,m,_⟩:=h.obj _ _ z rfl;rw[o]at i;cases i;refine⟨.int .i64 es.length,?_,by simp[VR]⟩;simp[Builtin.len_,g,bf b,goInt,getObj,Sem.run,A,m]
  ·cases d
 ·next _ n _ b=>cases d;exact⟨.int .i64 n,by cases x<;>simp[Builtin.len_,g,bf b,goInt],by simp[VR]⟩
 ·cases d
def ald(b o i j:Nat):((⟨b,o+i,none⟩:Addr)==⟨b,o+j,none⟩)=(i==j):=by rw[qN];simp
section
variable{t e:TypeId}
def aeW{n:Nat}(a:P.underlying t=some (.pointer e))(c:sizeT P e=some n)(h0:n≠0)(b o i j:Nat):
 (Op.equal t (.pointer (some ⟨b,o+i,none⟩)) (.pointer (some ⟨b,o+j,none⟩))).run P w=.ok (i==j) w:=by
 have f:∀d:Nat,(Op.equalIn (d+1) t (.pointer (some ⟨b,o+i,none⟩)) (.pointer (some ⟨b,o+j,none⟩))).run P w=.ok (i==j) w:=λd=>by simp only[Op.equalIn,aT,bf a,aQ,jd c,aj h0,uM];simp only[sameAddr,beq_self_eq_true,if_true,bF,ald,aT,aQ]
 exact f 9999
def Fa(b:P.underlying t=some (.pointer e))(a:Addr):(Op.equal t (.pointer (some a)) (.pointer none)).run P w=.ok false w:=by
 have c:∀d:Nat,(Op.equalIn (d+1) t (.pointer (some a)) (.pointer none)).run P w=.ok false w:=λd=>by simp only[Op.equalIn,aT,bf b,aQ,bF]
 exact c 9999
def E9(b:P.underlying t=some (.pointer e))(a:Addr):(Op.equal t (.pointer none) (.pointer (some a))).run P w=.ok false w:=by
 have c:∀d:Nat,(Op.equalIn (d+1) t (.pointer none) (.pointer (some a))).run P w=.ok false w:=λd=>by simp only[Op.equalIn,aT,bf b,aQ,bF,J8]
 exact c 9999
def Tt(b:P.underlying t=some (.slice e))(a:Addr)(l c:Nat):(Op.equal t (.slice (some a) l c) (.slice none 0 0)).run P w=.ok false w:=by
 have f:∀d:Nat,(Op.equalIn (d+1) t (.slice (some a) l c) (.slice none 0 0)).run P w=.ok false w:=λd=>by simp only[Op.equalIn,aT,bf b,aQ,bF]
 exact f 9999
def Tq(b:P.underlying t=some (.slice e))(a:Addr)(l c:Nat):(Op.equal t (.slice none 0 0) (.slice (some a) l c)).run P w=.ok false w:=by
 have f:∀d:Nat,(Op.equalIn (d+1) t (.slice none 0 0) (.slice (some a) l c)).run P w=.ok false w:=λd=>by simp only[Op.equalIn,aT,bf b,aQ,bF,J8]
 exact f 9999
def aeS{a:Array (String×TypeId)}(b:P.underlying t=some (.interface a))(u:TypeId)(x:Value):(Op.equal t (.iface u x) .nilIface).run P w=.ok false w:=by
 have c:∀d:Nat,(Op.equalIn (d+1) t (.iface u x) .nilIface).run P w=.ok false w:=λd=>by simp only[Op.equalIn,aT,bf b,aQ,bF]
 exact c 9999
def aeU{a:Array (String×TypeId)}(b:P.underlying t=some (.interface a))(u:TypeId)(x:Value):(Op.equal t .nilIface (.iface u x)).run P w=.ok false w:=by
 have c:∀d:Nat,(Op.equalIn (d+1) t .nilIface (.iface u x)).run P w=.ok false w:=λd=>by simp only[Op.equalIn,aT,bf b,aQ,bF]
 exact c 9999
def aeT{k:TypeId}(a:P.underlying t=some (.map k e))(r:Nat):(Op.equal t (.map (some r)) (.map none)).run P w=.ok false w:=by
 have b:∀d:Nat,(Op.equalIn (d+1) t (.map (some r)) (.map none)).run P w=.ok false w:=λd=>by simp only[Op.equalIn,aT,bf a,aQ,bF]
 exact b 9999
def aeV{k:TypeId}(a:P.underlying t=some (.map k e))(r:Nat):(Op.equal t (.map none) (.map (some r))).run P w=.ok false w:=by
 have b:∀d:Nat,(Op.equalIn (d+1) t (.map none) (.map (some r))).run P w=.ok false w:=λd=>by simp only[Op.equalIn,aT,bf a,aQ,bF,J8]
 exact b 9999
end
def qR{t:TypeId}{x y:Operand}{u a:Value}{r:Bool}(h:(Op.equal t u a).run P w=.ok r w)
 (b:binOp .eql t u a=(do pure (.bool (<-Op.equal t u a)))) (c:(eqGuard .eql t x y u a).run P w=.ok () w):
 (do eqGuard .eql t x y u a;binOp .eql t u a:Sem Value).run P w=.ok (.bool r) w:=by
 simp only[aT,c,aQ,b,h,bF]
def qU{t:TypeId}{x y:Operand}{u a:Value}{r:Bool}(h:(Op.equal t u a).run P w=.ok r w)
 (b:binOp .neq t u a=(do pure (.bool (!(<-Op.equal t u a))))) (c:(eqGuard .neq t x y u a).run P w=.ok () w):
 (do eqGuard .neq t x y u a;binOp .neq t u a:Sem Value).run P w=.ok (.bool (!r)) w:=by
 simp only[aT,c,aQ,b,h,bF]
def aee{f:BinOp}{t:TypeId}{x y:Operand}{k:IntKind}{a b c d m n:Int}{v:AV}(g:SN f a b c d=some v)(h1:a<=m)(o:m<=b)(p:c<=n)(q:n<=d):
 ∃z,(do eqGuard f t x y (.int k m) (.int k n);binOp f t (.int k m) (.int k n):Sem Value).run P w=.ok z w/\VR H v z:=by
 have h:∀(f:BinOp)(r:Bool),(eqGuard f t x y (.int k m) (.int k n)).run P w=.ok () w->binOp f t (.int k m) (.int k n)=(if k≠k then stuck "BinOp: operands of different kinds" else Op.intCmp f m n)->Op.intCmp f m n=pure (.bool r)->
  (do eqGuard f t x y (.int k m) (.int k n);binOp f t (.int k m) (.int k n):Sem Value).run P w=.ok (.bool r) w:=by
  intro f r i j l;rw[aT,i,aQ,j,ah (by simp),l];rfl
 cases f<;>simp only[SN,reduceCtorEq]at g
 all_goals split at g
 all_goals try split at g
 all_goals cases g
 all_goals refine⟨_,h _ _ rfl rfl rfl,?_⟩
 all_goals simp only[VR,Value.bool.injEq]
 all_goals first|(exact Bh (by omega))|(exact zF (by omega))|(simp;omega)|skip
def alh(h:SR P H J w){A:BinOp}{t:TypeId}{x y:Operand}{a b v:AV}{u B:Value}(d:tH P A t x y a b=some v)(f:VR H a u)(g:VR H b B):
 ∃z,(do eqGuard A t x y u B;binOp A t u B:Sem Value).run P w=.ok z w/\VR H v z:=by
 unfold tH at d;split at d
 ·split at d
  ·next e i=>
   split at d
   ·next n D=>
    split at d
    ·next E=>
     cases d;obtain⟨rfl,F⟩:=E;simp only[VR]at f g;obtain⟨q,j,rfl⟩:=f;obtain⟨O,k,rfl⟩:=g;rw[j]at k;cases k;exact⟨_,qR (aeW i D F _ _ _ _) rfl rfl,by simp only[VR]⟩
    ·cases d
   ·cases d
  ·cases d
 ·split at d
  ·next e i=>
   split at d
   ·next n D=>
    split at d
    ·next E=>
     cases d;obtain⟨rfl,F⟩:=E;simp only[VR]at f g;obtain⟨q,j,rfl⟩:=f;obtain⟨O,k,rfl⟩:=g;rw[j]at k;cases k;exact⟨_,qU (aeW i D F _ _ _ _) rfl rfl,by simp only[VR]⟩
    ·cases d
   ·cases d
  ·cases d
 ·split at d
  ·next i=>cases d;simp only[VR]at f g;obtain⟨q,j,rfl⟩:=f;subst g;exact⟨_,qR (Fa i _) rfl rfl,by simp only[VR]⟩
  ·cases d
 ·split at d
  ·next i=>cases d;simp only[VR]at f g;obtain⟨q,j,rfl⟩:=g;subst f;exact⟨_,qR (E9 i _) rfl rfl,by simp only[VR]⟩
  ·cases d
 ·split at d
  ·next i=>cases d;simp only[VR]at f g;obtain⟨q,j,rfl⟩:=f;subst g;exact⟨_,qU (Fa i _) rfl rfl,by simp only[VR];rfl⟩
  ·cases d
 ·split at d
  ·next i=>cases d;simp only[VR]at f g;obtain⟨q,j,rfl⟩:=g;subst f;exact⟨_,qU (E9 i _) rfl rfl,by simp only[VR];rfl⟩
  ·cases d
 ·split at d
  ·next i=>cases d;simp only[VR]at f g;obtain⟨o,p,c,G,I,rfl,_⟩:=f.resolve_left (by simp);subst g;exact⟨_,qR (Tt i _ _ _) rfl rfl,by simp only[VR]⟩
  ·cases d
 ·split at d
  ·next i=>cases d;simp only[VR]at f g;obtain⟨o,p,c,G,I,rfl,_⟩:=g.resolve_left (by simp);subst f;exact⟨_,qR (Tq i _ _ _) rfl rfl,by simp only[VR]⟩
  ·cases d
 ·split at d
  ·next i=>cases d;simp only[VR]at f g;obtain⟨o,p,c,G,I,rfl,_⟩:=f.resolve_left (by simp);subst g;exact⟨_,qU (Tt i _ _ _) rfl rfl,by simp only[VR];rfl⟩
  ·cases d
 ·split at d
  ·next i=>cases d;simp only[VR]at f g;obtain⟨o,p,c,G,I,rfl,_⟩:=g.resolve_left (by simp);subst f;exact⟨_,qU (Tq i _ _ _) rfl rfl,by simp only[VR];rfl⟩
  ·cases d
 ·split at d
  ·next i=>cases d;simp only[VR]at f g;obtain⟨o,base,L,l,M,x,_,_,rfl,_⟩:=f;subst g;exact⟨_,qR (Fa i _) rfl rfl,by simp only[VR]⟩
  ·cases d
 ·split at d
  ·next i=>cases d;simp only[VR]at f g;obtain⟨o,base,L,l,M,x,_,_,rfl,_⟩:=g;subst f;exact⟨_,qR (E9 i _) rfl rfl,by simp only[VR]⟩
  ·cases d
 ·split at d
  ·next i=>cases d;simp only[VR]at f g;obtain⟨o,base,L,l,M,x,_,_,rfl,_⟩:=f;subst g;exact⟨_,qU (Fa i _) rfl rfl,by simp only[VR];rfl⟩
  ·cases d
 ·split at d
  ·next i=>cases d;simp only[VR]at f g;obtain⟨o,base,L,l,M,x,_,_,rfl,_⟩:=g;subst f;exact⟨_,qU (E9 i _) rfl rfl,by simp only[VR];rfl⟩
  ·cases d
 ·split at d
  ·next i=>cases d;simp only[VR]at f g;obtain⟨q,j,_,rfl⟩:=f;subst g;exact⟨_,qR (Tt i _ _ _) rfl rfl,by simp only[VR]⟩
  ·cases d
 ·split at d
  ·next i=>cases d;simp only[VR]at f g;obtain⟨q,j,_,rfl⟩:=g;subst f;exact⟨_,qR (Tq i _ _ _) rfl rfl,by simp only[VR]⟩
  ·cases d
 ·split at d
  ·next i=>cases d;simp only[VR]at f g;obtain⟨q,j,_,rfl⟩:=f;subst g;exact⟨_,qU (Tt i _ _ _) rfl rfl,by simp only[VR];rfl⟩
  ·cases d
 ·split at d
  ·next i=>cases d;simp only[VR]at f g;obtain⟨q,j,_,rfl⟩:=g;subst f;exact⟨_,qU (Tq i _ _ _) rfl rfl,by simp only[VR];rfl⟩
  ·cases d
 ·split at d
  ·next i=>cases d;simp only[VR]at f g;obtain⟨q,rfl,j⟩:=f;subst g;exact⟨_,qR (aeS i _ _) rfl rfl,by simp only[VR]⟩
  ·cases d
 ·split at d
  ·next i=>cases d;simp only[VR]at f g;obtain⟨q,rfl,j⟩:=g;subst f;exact⟨_,qR (aeU i _ _) rfl rfl,by simp only[VR]⟩
  ·cases d
 ·split at d
  ·next i=>cases d;simp only[VR]at f g;obtain⟨q,rfl,j⟩:=f;subst g;exact⟨_,qU (aeS i _ _) rfl rfl,by simp only[VR];rfl⟩
  ·cases d
 ·split at d
  ·next i=>cases d;simp only[VR]at f g;obtain⟨q,rfl,j⟩:=g;subst f;exact⟨_,qU (aeU i _ _) rfl rfl,by simp only[VR];rfl⟩
  ·cases d
 ·split at d
  ·next i=>cases d;simp only[VR]at f g;obtain⟨q,j,rfl⟩:=f;subst g;exact⟨_,qR (aeT i _) rfl rfl,by simp only[VR]⟩
  ·cases d
 ·split at d
  ·next i=>cases d;simp only[VR]at f g;obtain⟨q,j,rfl⟩:=g;subst f;exact⟨_,qR (aeV i _) rfl rfl,by simp only[VR]⟩
  ·cases d
 ·split at d
  ·next i=>cases d;simp only[VR]at f g;obtain⟨q,j,rfl⟩:=f;subst g;exact⟨_,qU (aeT i _) rfl rfl,by simp only[VR];rfl⟩
  ·cases d
 ·split at d
  ·next i=>cases d;simp only[VR]at f g;obtain⟨q,j,rfl⟩:=g;subst f;exact⟨_,qU (aeV i _) rfl rfl,by simp only[VR];rfl⟩
  ·cases d
 ·split at d
  ·next N=>subst N;simp only[VR]at f g;obtain⟨m,r,s,rfl⟩:=f;subst g;exact aee d r s (QH _) (QH _)
  ·cases d
 ·split at d
  ·next N=>subst N;simp only[VR]at f g;obtain⟨m,r,s,rfl⟩:=g;subst f;exact aee d (QH _) (QH _) r s
  ·cases d
 ·split at d
  ·next T U r s=>
   simp only[xH]at d;obtain⟨z,Q,S⟩:=d;rw[BX r f,BX s g];exact⟨z,BQ Q w,DX _ _ _ S⟩
  ·cases d
def CV(H:Env):Wf->List (Nat×Value)->Prop
 |[],b=>b=[]
 |(i,a)::l,b=>∃x rest,b=(i,x)::rest/\VR H a x/\CV H l rest
def ae9(off:Nat):∀(l:Q6)(k:Nat)(cs:QQ),
 (l.zipIdx k).foldl (λcs (c,j)=>cs.setIfInBounds (off+j) c) cs=setFrom cs (off+k) l
 |[],_,_=>rfl
 |v::l,k,cs=>by simp only[List.zipIdx_cons,List.foldl_cons];rw[ae9 off l (k+1)];rfl
def aBi{c g vs:Q3}{off:Nat}{cs:QQ}{xs:Q6}(h:Ad c off vs=some g)(i:aF H c cs.toList)(j:aF H vs xs):aF H g (setFrom cs off xs).toList:=by
 obtain⟨o,p,l⟩:=VE h;have m:=i.length;have n:=j.length;simp only[JW]at m;refine aF.of ?_ λk a b=>?_
 ·have:=ML xs cs off;simp only[JW];omega
 ·rw[l]at b;rw[vJ,VD _ _ _ _ (by omega)];split at b
  ·next q=>
   rw[aj (by omega)];obtain⟨x,d,f⟩:=j.at b;exact⟨x,d,f⟩
  ·rw[ah (by omega)];obtain⟨x,d,f⟩:=i.at b;rw[vJ]at d;exact⟨x,d,f⟩
def KZ{d:Nat->Option (Nat×Nat)}:∀{m:Wf}{qs:List (Nat×Value)}{c k:Q3}{cs:QQ},
 AQ d c m=some k->CV H m qs->aF H c cs.toList->∃f,Instr.fill d cs qs=some f/\aF H k f.toList
 |[],qs,c,k,cs,h,g,l=>by simp only[CV]at g;subst g;simp only[AQ,aZ]at h;subst h;exact⟨cs,rfl,l⟩
 |(i,a)::m,qs,c,k,cs,h,g,l=>by
  simp only[CV]at g;obtain⟨x,rest,rfl,u,g⟩:=g;unfold AQ at h;split at h
  ·cases h
  ·next n q o=>
   split at h
   ·next v=>
    split at h
    ·next B r=>
     have b:=zB u;have j:=b.length;have y:=aBi r l b;obtain⟨D,_,_⟩:=VE r;have p:=l.length;simp only[JW]at j p;obtain⟨f,z,A⟩:=KZ h g y;refine⟨f,?_,A⟩;unfold Instr.fill;simp only[o];rw[ah (by simp;omega)];rw[<-z];congr 1;have s:=ae9 n x.cells.toList 0 cs;rw[lD]at s;rw[<-s,<-Array.foldl_toList,Array.toList_zipIdx]
    ·cases h
   ·cases h
def Yr{c:QP}{U:Operand->Value}(d:∀x a,c x=some a->VR H a (U x)):∀{l:List (Nat×Operand)}{b:Wf},
 Fe c l=some b->CV H b (l.map λ(i,x)=>(i,U x))
 |[],b,h=>by simp[Fe]at h;subst h;simp[CV]
 |(i,x)::l,b,h=>by
  unfold Fe at h;split at h
  ·next v r f g=>
   cases h;exact⟨U x,_,rfl,d _ _ f,Yr d g⟩
  ·cases h
def KX{b:QP}{U:Operand->Value}(c:∀x a,b x=some a->VR H a (U x)):∀{l:List Operand}{vs:Q3},
 Bo b l=some vs->aF H vs (l.map U)
 |[],vs,h=>by simp[Bo]at h;subst h;simp[aF]
 |x::l,vs,h=>by
  unfold Bo at h;split at h
  ·next v r d f=>
   cases h;exact aF.cons (c _ _ d) (KX c f)
  ·cases h
def agN:∀{fs:List Field}{a:Wt},Qk P fs=some a->(fs.mapM λf=>do pure (f.offset,<-sizeOf f.type):Sem Wt).run P w=.ok a w
 |[],a,h=>by simp[Qk]at h;subst h;rfl
 |f::fs,a,h=>by
  unfold Qk at h;split at h
  ·next n r b c=>
   cases h;simp only[acH,aT,jd b,aQ,bF,agN c]
  ·cases h
def aln{t:TypeId}{r:Wf}{qs:Array (Nat×Value)}{v:AV}(b:Q7 P t r=some v)(s:CV H r qs.toList):
 ∃y,(Instr.build t qs).run P w=.ok y w/\VR H v y:=by
 unfold Q7 at b;split at b
 ·next zero d k l=>
  obtain⟨z,m,g⟩:=Gw k;split at b
  ·next a o=>
   simp only[bg]at b;obtain⟨c,p,rfl⟩:=b;obtain⟨j,h,q⟩:=KZ p s (g H);refine⟨.agg j,?_,by simp only[VR];exact⟨j.toList,rfl,q⟩⟩;have A:(d.mapM λf=>do pure (f.offset,<-sizeOf f.type):Sem (Array (Nat×Nat))).run P w=.ok ⟨a⟩ w:=by rw[WE];simp only[Xi,agN o,aQ]
   simp only[Instr.build,aT,m,aQ,bf l,A];have:(λi:Nat=>(⟨a⟩:Array (Nat×Nat))[i]?)=λi:Nat=>a[i]?:=by funext i;simp
   rw[this,h];rfl
  ·cases b
 ·next zero n u k l=>
  obtain⟨z,m,g⟩:=Gw k;split at b
  ·next x B=>
   simp only[bg]at b;obtain⟨c,p,rfl⟩:=b;obtain⟨j,h,q⟩:=KZ p s (g H);refine⟨.agg j,?_,by simp only[VR];exact⟨j.toList,rfl,q⟩⟩;simp only[Instr.build,aT,m,aQ,bf l,jd B,h];rfl
  ·cases b
 ·cases b
def au5{t:TypeId}{a:AV}{x:Value}(h:I4 P t=some false)(b:VR H a x):∃y,(Instr.makeInterface t x).run P w=.ok y w/\VR H (.jc t a) y:=by
 unfold I4 at h;split at h<;>cases h
 next d c f=>
 refine⟨.iface t x,?_,by simp only[VR];exact⟨x,rfl,b⟩⟩;simp only[Instr.makeInterface,aT,bf f,aQ];cases d<;>simp_all
def WB{t:TypeId}{i:TypeInfo}{z:Value}{a:AV}(hi:P.info? t=some i)(b:i.zero=some z)(c:mF 4 z=some a):(zeroValue t).run P w=.ok z w/\VR H a z:=
 ⟨by simp[zeroValue,Gv hi,b],DX _ _ _ c⟩
def aCq{t r:TypeId}{a v:AV}{x:Value}{ok:Bool}(c:Rq P a t ok=some v)(k:VR H a x):
 ∃y,(Instr.typeAssert x r t ok).run P w=.ok y w/\VR H v y:=by
 unfold Rq at c;split at c
 ·next u b hi=>
  simp only[VR]at k;obtain⟨y,rfl,q⟩:=k;have l:∃d,P.underlying t=some d/\∀h,d≠.interface h:=by
   unfold I4 at hi;split at hi<;>cases hi
   next d f g=>exact⟨d,g,λh e=>f h e⟩
  obtain⟨d,g,f⟩:=l;split at c
  ·next e=>
   cases c;subst e;refine⟨if ok then .tuple #[y,.bool true]else y,?_,?_⟩
   ·simp only[Instr.typeAssert,aT,bf g,aQ];cases d<;>simp_all
   ·cases ok
    ·simpa using q
    ·simp only[VR];exact⟨[y,.bool true],rfl,aF.cons q (aF.cons (by simp[VR]) (by simp[aF]))⟩
  ·next e=>
   split at c
   ·next j=>
    split at c
    ·next i m=>
     split at c
     ·next z n=>
      simp only[bg]at c;obtain⟨a,o,rfl⟩:=c;obtain⟨s,p⟩:=WB (w:=w) (H:=H) m n o;refine⟨.tuple #[z,.bool false],?_,?_⟩
      ·subst j;simp only[Instr.typeAssert,aT,bf g,aQ];have A:¬u=t:=e;cases d<;>simp_all
      ·simp only[VR];exact⟨[z,.bool false],rfl,aF.cons p (aF.cons (by simp[VR]) (by simp[aF]))⟩
     ·cases c
    ·cases c
   ·cases c
 ·next hi=>
  simp only[VR]at k;subst k;have l:∃d,P.underlying t=some d/\∀h,d≠.interface h:=by
   unfold I4 at hi;split at hi<;>cases hi
   next d f g=>exact⟨d,g,λh e=>f h e⟩
  obtain⟨d,g,f⟩:=l;split at c
  ·next j=>
   split at c
   ·next i m=>
    split at c
    ·next z n=>
     simp only[bg]at c;obtain⟨a,o,rfl⟩:=c;obtain⟨s,p⟩:=WB (w:=w) (H:=H) m n o;refine⟨.tuple #[z,.bool false],?_,?_⟩
     ·subst j;simp only[Instr.typeAssert,aT,bf g,aQ];cases d<;>simp_all
     ·simp only[VR];exact⟨[z,.bool false],rfl,aF.cons p (aF.cons (by simp[VR]) (by simp[aF]))⟩
    ·cases c
   ·cases c
  ·cases c
 ·cases c
def aqQ{l:Q3}{k:Nat}{v:AV}{x:Value}(b:l[k]? =some v)(a:VR H (.eG l) x):∃y,(Instr.extract x k).run P w=.ok y w/\VR H v y:=by simp only[VR]at a;obtain⟨g,rfl,c⟩:=a;obtain⟨y,d,f⟩:=c.at b;exact⟨y,by simp[Instr.extract,d],f⟩
def H8(s a:Q0):((⟨⟨s⟩⟩:ByteArray)==⟨⟨a⟩⟩)=(s==a):=by
 show ByteArray.beq _ _=_
 unfold ByteArray.beq;simp
def afS{kd:TypeDesc}{a b:AV}{x y:Value}{r:Bool}(f:match kd,a with|.int _,.i _ _|.int _,.z _ _ _|.string,.s _|.bool,.b _=>True|_,_=>False)(h:Zr a b=some r)(c:VR H a x)(d:VR H b y):
 Instr.sameNow kd x y=some r:=by
 unfold Zr at h;split at h
 ·next k n g j=>
  simp only[VR]at c d;subst c;subst d;cases kd<;>simp at f
  simp only[Instr.sameNow];split at h
  ·next e=>rw[aj e];exact h
  ·cases h
 ·next s i=>
  simp only[VR]at c d;subst c;subst d;cases kd<;>simp at f
  simp only[Instr.sameNow];rw[<-h,H8]
 ·next s i=>
  simp only[VR]at c d;subst c;subst d;cases kd<;>simp at f
  simp only[Instr.sameNow];exact h
 ·next k lo hi g n=>
  simp only[VR]at c d;obtain⟨m,l,o,rfl⟩:=c;subst d;cases kd<;>simp at f
  split at h
  ·next e=>
   cases h;obtain⟨e,p⟩:=e;simp only[Instr.sameNow];rw[aj e];have:m≠n:=by omega
   simp[this]
  ·cases h
 ·cases h
def AB(H:Env)(es:X2)(a:List MapEntry):Prop:=
 a.length=es.length/\∀(k:Nat) e,es[k]? =some e->∃m,a[k]? =some m/\VR H e.1 m.key/\VR H e.2 m.val
def AB.tail{e:AV×AV}{es:X2}{a:List MapEntry}(h:AB H (e::es) a):∃m rest,a=m::rest/\VR H e.1 m.key/\VR H e.2 m.val/\AB H es rest:=by
 obtain⟨b,c⟩:=h;cases a with
 |nil=>simp at b
 |cons m rest=>obtain⟨l,d,f,g⟩:=c 0 e (by simp);simp at d;subst d;exact⟨m,rest,rfl,f,g,by simpa using b,λk i j=>by simpa using c (k+1) i (by simpa using j)⟩
def JX(kd:TypeDesc)(a:AV):Prop:=match kd,a with|.int _,.i _ _|.int _,.z _ _ _|.string,.s _|.bool,.b _=>True|_,_=>False
def find_ok{kd:TypeDesc}{k:AV}{x:Value}(n:JX kd k)(o:VR H k x):∀{es:X2}{g:List MapEntry}{i:Nat}{r:Option (Nat×AV)},
 IG k es i=some r->AB H es g->∃l,Instr.findNow kd x g i=some l/\(match r,l with|none,none=>True|some (j,v),some (A,y)=>j=A/\i<=j/\j<i+es.length/\VR H v y|_,_=>False)
 |[],g,i,r,h,p=>by
  simp only[IG,aZ]at h;subst h;have:g=[]:=by have:=p.1;cases g<;>simp_all
  subst this;exact⟨none,rfl,trivial⟩
 |e::es,g,i,r,h,p=>by
  obtain⟨m,u,rfl,z,B,D⟩:=p.tail;unfold IG at h;split at h
  ·next q=>
   cases h;have s:=afS (kd:=kd) n q o z;exact⟨some (i,m.val),by simp[Instr.findNow,s],rfl,dY _,by simp,B⟩
  ·next q=>
   have s:=afS (kd:=kd) n q o z;obtain⟨l,E,f⟩:=find_ok n o h D;refine⟨l,by simp[Instr.findNow,s,E],?_⟩;cases r<;>cases l<;>simp only at f⊢
   obtain⟨a,b,c,d⟩:=f;exact⟨a,by omega,by simp;omega,d⟩
  ·cases h
def ae5{t:TypeId}{k:AV}(h:TJ P t k=true):∃kd,P.underlying t=some kd/\JX kd k:=by
 unfold TJ at h;split at h
 ·next a=>exact⟨_,a,trivial⟩
 ·next a=>exact⟨_,a,trivial⟩
 ·next a=>exact⟨_,a,trivial⟩
 ·next a=>exact⟨_,a,trivial⟩
 ·cases h
def ad6{t:TypeId}{k:AV}{x:Value}{kd:TypeDesc}(c:P.underlying t=some kd)(d:JX kd k)(a:VR H k x)(b:Bool):(Instr.checkKey b 10000 t x).run P w=.ok () w:=by
 have f:∀n:Nat,(Instr.checkKey b (n+1) t x).run P w=.ok () w:=λn=>by cases kd<;>cases k<;>simp only[JX]at d<;>simp only[VR]at a<;>(first|subst a|obtain⟨_,_,_,rfl⟩:=a)<;>simp only[Instr.checkKey,aT,bf c,aQ,bF]
 exact f 9999
def sD(a b:TypeId)(y:Value)(ok:Bool)(es:Array MapEntry):Sem Value:=do
 Instr.checkKey es.isEmpty 10000 a y
 let(v,k) <-match <-Instr.findKey a y es.toList with
  |some (_,v)=>pure (v,true)
  |none=>pure (<-zeroValue b,false)
 pure (if ok then .tuple #[v,.bool k]else v)
def lookup_nil{t a b:TypeId}(c:P.underlying t=some (.map a b))(y:Value)(ok:Bool):(Instr.lookup t (.map none) y ok).run P w=(sD a b y ok #[]).run P w:=by simp only[Instr.lookup,sD,aT,bf c,aQ,bF];congr 1
def UL{t c d:TypeId}(f:P.underlying t=some (.map c d))(y:Value)(ok:Bool){r:Nat}{b:Array MapEntry}{a:Nat}(g:w.heap[r]? =some (.map b a)):
 (Instr.lookup t (.map (some r)) y ok).run P w=(sD c d y ok b).run P w:=by
 have h:(getObj r).run P w=.ok (.map b a) w:=by simp[getObj,Sem.run,g]
 simp only[Instr.lookup,sD,aT,bf f,aQ,bF,h];congr 1
def auR(h:SR P H J w){t:TypeId}{m k v:AV}{x y:Value}{ok:Bool}(d:Rh P t m k ok J=some v)(F:VR H m x)(O:VR H k y):
 ∃z,(Instr.lookup t x y ok).run P w=.ok z w/\VR H v z:=by
 unfold Rh at d;split at d
 ·next G X Q=>
  split at d
  ·next es f=>
   split at d
   ·next s=>
    obtain⟨kd,S,T⟩:=ae5 s;have I:∃o:Array MapEntry,(Instr.lookup t x y ok).run P w=(sD G X y ok o).run P w/\AB H es o.toList:=by
     split at f
     ·cases f;simp only[VR]at F;subst F;exact⟨#[],lookup_nil Q y ok,by simp[AB]⟩
     ·next id=>
      simp only[VR]at F;obtain⟨q,Y,rfl⟩:=F;split at f
      ·next Z hg=>
       cases f;obtain⟨q',A,o,L,hb,M,hp⟩:=h.obj _ _ hg rfl;rw[Y]at A;cases A;refine⟨o,UL Q y ok hb,by simpa using M,λk e hk=>?_⟩;obtain⟨m,hm,n,g⟩:=hp k e hk;exact⟨m,by simpa using hm,n,g⟩
      ·cases f
     ·cases f
    obtain⟨o,B,N⟩:=I;rw[B];have D:∀b,(Instr.checkKey b 10000 G y).run P w=.ok () w:=λb=>ad6 S T O b;have E:∀r,IG k es 0=some r->∃l,(Instr.findKey G y o.toList).run P w=.ok l w/\(match r,l with|none,none=>True|some (j,v),some (U,y)=>j=U/\0<=j/\j<0+es.length/\VR H v y|_,_=>False):=λr hr=>by obtain⟨l,n,g⟩:=find_ok T O hr N;exact⟨l,by simp only[Instr.findKey,aT,bf S,aQ,n,bF],g⟩
    split at d
    ·next j u c=>
     cases d;obtain⟨l,n,g⟩:=E _ c;cases l with
     |none=>exact g.elim
     |some p=>
      obtain⟨U,z⟩:=p;obtain⟨rfl,_,_,V⟩:=g;refine⟨if ok then .tuple #[z,.bool true]else z,?_,?_⟩
      ·simp only[sD,aT,aQ,D,n,bF]
      ·cases ok
       ·simpa using V
       ·simp only[VR];exact⟨[z,.bool true],rfl,aF.cons V (aF.cons (by simp[VR]) (by simp[aF]))⟩
    ·next c=>
     obtain⟨l,n,g⟩:=E _ c;cases l with
     |some p=>exact g.elim
     |none=>
      split at d
      ·next i pO=>
       split at d
       ·next z hz=>
        simp only[bg]at d;obtain⟨a,ha,rfl⟩:=d;obtain⟨h3,W⟩:=WB (w:=w) (H:=H) pO hz ha;refine⟨if ok then .tuple #[z,.bool false]else z,?_,?_⟩
        ·simp only[sD,aT,aQ,D,n,h3,bF]
        ·cases ok
         ·simpa using W
         ·simp only[VR];exact⟨[z,.bool false],rfl,aF.cons W (aF.cons (by simp[VR]) (by simp[aF]))⟩
       ·cases d
      ·cases d
    ·cases d
   ·cases d
  ·cases d
 ·cases d
def aA7{k:AV}{x y:Value}{kd:TypeDesc}(c:JX kd k)(b:VR H k x)(a:Instr.sameNow kd x y=some true)(n:Nat):Instr.sameBits (n+1) y x=true:=by
 cases kd<;>cases k<;>simp only[JX]at c<;>simp only[VR]at b<;>(first|subst b|obtain⟨_,_,_,rfl⟩:=b)<;>cases y<;>simp only[Instr.sameNow,aZ,reduceCtorEq]at a
 ·simp_all [Instr.sameBits]
 ·split at a
  ·simp_all [Instr.sameBits]
  ·cases a
 ·split at a
  ·simp_all [Instr.sameBits]
  ·cases a
 ·next s d=>
  obtain⟨⟨l⟩⟩:=d;rw[H8]at a;simp only[Instr.sameBits,H8];simp_all
def Dj(h:SR P H J w){c:Q3}{xs:QQ}{elem:TypeId}{opn:Bool}{es:Nat}(l:aF H c (xs.toList.take c.length))(f:c.length<=xs.size)(b:opn=false->c.length=xs.size)
 (d:opn=true->elem≠0/\0<es/\sizeT P elem=some es):
 St P H J w (H.put J.next ⟨w.heap.size,0,xs.size,es⟩) (J.new (.cells c elem true opn)) {w with heap:=w.heap.push (.cells xs elem)}:=by
 refine St.alloc h _ _ _ rfl ?_;refine⟨xs,elem,(0,0),by simp,?_⟩;refine {fits:=by simp,le:=f,shut:=b,cell:=?_,free:=λ_ k _=>by simp,whole:=λ_=>⟨rfl,by simp,λ_=>rfl⟩,room:=d};intro k a i;obtain⟨x,j,m⟩:=l.at i;have g:k<c.length:=(fB.1 i).1;rw[mG,aj g]at j;exact⟨x,by simpa using j,VR.mono (Env.Js h _) _ _ m⟩
def ahd{q:Place}{id:Nat}(h0:q.ba=0):VR (H.put id q) (.p id 0) (.pointer (some ⟨q.bl,0,none⟩)):=by simp only[VR];exact⟨q,by simp[Env.put],by simp[h0]⟩
def akV(h:SR P H J w){t:TypeId}{z:Q3}(c:y8 P t=some z):
 ∃y w' H',(Instr.alloc t true (.tuple #[])).run P w=.ok y w'/\St P H J w H' (J.new (.cells z t true false)) w'/\VR H' (.p J.next 0) y:=by
 obtain⟨d,f,a⟩:=Gw c;have b:=(a H).length;refine⟨_,_,_,?_,Dj h (xs:=d.cells) (es:=0) (opn:=false) ?_ (by simpa using J6 b) (λ_=>by simpa using b) (by simp),ahd rfl⟩
 ·simp only[Instr.alloc,aT,f,aQ,newVar,newRow,newObj,Sem.run,bF]
 ·rw[b,pq];exact a H
def adB(h:SR P H J w){t:TypeId}{a:AV}{x:Value}(d:VR H a x):
 ∃y w' H',(Instr.box t x).run P w=.ok y w'/\St P H J w H' (J.new (.cells a.cells t true false)) w'/\VR H' (.p J.next 0) y:=by
 have c:=zB d;have b:=c.length;refine⟨_,_,_,?_,Dj h (xs:=x.cells) (es:=0) (opn:=false) ?_ (by simpa using J6 b) (λ_=>by simpa using b) (by simp),ahd rfl⟩
 ·simp only[Instr.box,aT,aQ,newVar,newRow,newObj,Sem.run,bF]
 ·rw[b,pq];exact c
def Bl{t e:TypeId}{size bytes:Nat}{z:Q3}(h:wJ P t=some (e,size,bytes,z)):
 P.underlying t=some (.slice e)/\(∃i,P.info? e=some i/\i.size=size/\i.bytes=bytes)/\y8 P e=some z/\e≠0/\z.length=size/\sizeT P e=some size:=by
 unfold wJ at h;split at h
 ·next d b=>
  split at h
  ·next i f hi c=>
   split at h
   ·next a=>
    cases h;exact⟨b,⟨i,hi,rfl,rfl⟩,c,a.1,a.2,by simp[sizeT,hi]⟩
   ·cases h
  ·cases h
 ·cases h
def aiA{z:Q3}:∀(n k:Nat),k<n*z.length->(jv n z)[k]? =z[k%z.length]?
 |0,k,h=>by simp at h
 |n+1,k,h=>by
  have b:jv (n+1) z=z++jv n z:=by simp[jv,Nz]
  rw[b];have c:0<z.length:=by rcases Xc z.length with e|e<;>simp_all
  by_cases a:k<z.length
  ·rw[ny a,NG a]
  ·rw[vK (by omega),aiA n (k-z.length) (by rw[Nat.succ_mul]at h;omega)];congr 1;have:k=(k-z.length)+z.length:=by omega
   rw[this,Nat.add_mod_right];congr 1;omega
def Vr{z:Q3}(n:Nat):(jv n z).length=n*z.length:=by simp[jv]
def QB{z:Q3}{b:QQ}{n size:Nat}(i:aF H z b.toList)(j:z.length=size):aF H (jv n z) ((Array.range (n*size)).map (b[· % b.size]!)).toList:=by
 have f:=i.length;simp only[JW]at f;refine aF.of ?_ λk a g=>?_
 ·rw[Vr];simp[j]
 ·have c:k<n*z.length:=by have:=(fB.1 g).1;rwa [Vr]at this
  rw[aiA n k c]at g;obtain⟨x,d,l⟩:=i.at g;refine⟨x,?_,l⟩;have h:k<n*size:=by rw[<-j];exact c
  rw[vJ]at d;rw[vJ,Array.getElem?_map,Array.getElem?_range,aj h];have m:k%b.size<b.size:=by have:=(qj.1 d).1;rwa [f]at this
  rw[f]at d;simp[m,getElem!_pos];have:=(qj.1 d).2;exact this
