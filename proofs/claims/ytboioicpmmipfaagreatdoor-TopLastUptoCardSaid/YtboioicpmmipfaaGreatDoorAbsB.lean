/- The operations, one by one: what the model's operation does where the evaluator's answers. -/
import Derived.Test.YtboioicpmmipfaaGreatDoorAbsA
import Derived.Lib.Builder
set_option linter.all false
namespace Go.aP
noncomputable section
variable[aJ]
variable{P:Program}{H:Env}{F F':aC}{w:World}
def bF{t:TypeId}{d:TypeDesc}(h:P.underlying t=some d):(underlying t).run P w=.ok d w:=by simp[underlying,program,Sem.run,h]
def jP{t:TypeId}{n:Nat}(h:sizeT P t=some n):(sizeOf t).run P w=.ok n w:=by simp only[sizeT,bI]at h;obtain⟨i,hi,rfl⟩:=h;simp[sizeOf,typeInfo,program,Sem.run,hi]
def LK{t:TypeId}{b:Bool}(h:qw P t=some b):(isAgg t).run P w=.ok b w:=by
 unfold qw at h;split at h<;>cases h
 ·next a=>simp[isAgg,bF a]
 ·next a=>simp[isAgg,bF a]
 ·next d a c f=>
  cases d<;>simp_all [isAgg,bF]
def IQ{t:TypeId}{i:TypeInfo}(h:P.info? t=some i):(typeInfo t).run P w=.ok i w:=by simp[typeInfo,program,Sem.run,h]
def akt{v:Value}(h:sW v=true):v.cells =#[v]:=by cases v<;>simp[sW]at h<;>rfl
def GR.sW{ro:Qf}{g:GV}{v:Value}(h:GR ro g v)(a:g.scalar=true):sW v=true:=by
 cases g<;>simp only[GR]at h
 case g cs=>cases a
 case l xs=>rcases h with⟨_,_,rfl⟩|⟨d,b,c,f,i,rfl,_⟩<;>rfl
 all_goals subst h;rfl
def AV.sym:AV->Bool
 |.nd _|.rx _ _|.sv _ _|.pv _ _ _|.pd _ _=>true
 |_=>false
def VR.amI{a:AV}{v:Value}(f:a.sym=true)(h:VR H a v):sW v=true:=by
 cases a<;>simp only[VR]at h<;>first|(cases f;done)|skip
 case nd n=>obtain⟨g,_,b,c⟩:=h;exact c.sW b
 case rx n off=>obtain⟨g,l,base,m,d,o,x,r,b,c,rfl,_⟩:=h;rfl
 case sv id n=>obtain⟨j,_,⟨q,_,_,rfl⟩|⟨_,_,rfl⟩⟩:=h<;>rfl
 case pv id n off=>obtain⟨q,k,i,_,_,rfl⟩:=h;rfl
 case pd id n=>obtain⟨j,p,_,rfl,_⟩:=h;rfl
def apd{a:AV}{v:Value}(b:a.sym=true)(h:VR H a v):aG H a.cells v.cells.toList:=by
 have c:=akt (VR.amI b h);have d:a.cells=[a]:=by cases a<;>first|rfl|(cases b)
 rw[c,d];exact aG.cons h (by simp[aG])
def BL{a:AV}{v:Value}(h:VR H a v):aG H a.cells v.cells.toList:=by
 by_cases s:a.sym=true
 ·exact apd s h
 cases a<;>first|(exact absurd rfl s)|skip
 all_goals simp only[VR]at h
 case agg l=>obtain⟨o,rfl,d⟩:=h;simpa[AV.cells,Value.cells]using d
 case fK l=>obtain⟨o,rfl,d⟩:=h;simp only[AV.cells,Value.cells];exact aG.cons (by simp only[VR];exact⟨o,rfl,d⟩) (by simp[aG])
 case p id g=>obtain⟨q,i,rfl⟩:=h;exact aG.cons (by simp only[VR];exact⟨q,i,rfl⟩) (by simp[aG])
 case sl id g len cap=>obtain⟨q,i,r,rfl⟩:=h;exact aG.cons (by simp only[VR];exact⟨q,i,r,rfl⟩) (by simp[aG])
 case mp id=>obtain⟨q,i,rfl⟩:=h;exact aG.cons (by simp only[VR];exact⟨q,i,rfl⟩) (by simp[aG])
 case fn f fi u=>obtain⟨B,o,rfl,d,j⟩:=h;exact aG.cons (by simp only[VR];exact⟨B,o,rfl,d,j⟩) (by simp[aG])
 case jM t b=>obtain⟨x,rfl,d⟩:=h;exact aG.cons (by simp only[VR];exact⟨x,rfl,d⟩) (by simp[aG])
 case z k lo hi=>obtain⟨n,d,j,rfl⟩:=h;exact aG.cons (by simp only[VR];exact⟨n,d,j,rfl⟩) (by simp[aG])
 case ro l=>
  have y:VR H (.ro l) v:=by simp only[VR];exact h
  rcases h with⟨_,_,rfl⟩|⟨A,g,c,G,I,rfl,d⟩
  ·exact aG.cons y (by simp[aG])
  ·exact aG.cons y (by simp[aG])
 case rp a g=>obtain⟨A,base,u,m,D,x,d,j,rfl,E⟩:=h;exact aG.cons (by simp only[VR];exact⟨A,base,u,m,D,x,d,j,rfl,E⟩) (by simp[aG])
 all_goals subst h;exact aG.cons (by simp only[VR]) (by simp[aG])
def acj{a:AV}{v:Value}(h:VR H a v)(r:a.qp=true):sW v=true:=by
 by_cases i:a.sym=true
 ·exact h.amI i
 cases a<;>first|(exact absurd rfl i)|skip
 all_goals simp only[VR]at h
 all_goals simp[AV.qp]at r
 case p id d=>obtain⟨q,j,rfl⟩:=h;rfl
 case sl id d len cap=>obtain⟨q,j,_,rfl⟩:=h;rfl
 case mp id=>obtain⟨q,j,rfl⟩:=h;rfl
 case fn f fi s=>obtain⟨y,A,rfl,g,m⟩:=h;rfl
 case jM t b=>obtain⟨x,rfl,g⟩:=h;rfl
 case z k lo hi=>obtain⟨n,g,m,rfl⟩:=h;rfl
 case ro l=>rcases h with⟨_,_,rfl⟩|⟨u,d,c,B,D,rfl,g⟩<;>rfl
 case rp a d=>obtain⟨u,base,s,o,E,x,g,m,rfl,G⟩:=h;rfl
 all_goals subst h;rfl
def JO{xs:Q6}{sz:Nat}(h:∀x∈xs,x.cells.size=sz):(eX xs).length=xs.length*sz:=by
 induction xs with
 |nil=>simp[eX]
 |cons x xs a=>have b:=h x aA;have:=a λy c=>h y (by simp[c]);simp only[eX,kY,eP,iE]at this⊢;rw[this,uK,Jo,MS];simp[b]
def agn{xs:Q6}{sz:Nat}(h:∀x∈xs,x.cells.size=sz)(i:Nat):(eX xs).drop (i*sz)=eX (xs.drop i):=by
 induction xs generalizing i with
 |nil=>simp[eX]
 |cons x xs a=>
  cases i with
  |zero=>simp
  |succ i=>
   have b:=h x aA;have:=a (λy c=>h y (by simp[c])) i;simp only[Zc];rw[<-this];simp only[eX,kY];have d:x.cells.toList.length=sz:=by simpa using b
   rw[show(i+1)*sz=x.cells.toList.length+i*sz by rw[d,uK,Jo,MS]];rw[aeY,List.drop_of_length_le ah,aZ,Zl]
def ao9{xs:Q6}{sz:Nat}(h:∀x∈xs,x.cells.size=sz)(i:Nat):(eX xs).take (i*sz)=eX (xs.take i):=by
 induction xs generalizing i with
 |nil=>simp[eX]
 |cons x xs a=>
  cases i with
  |zero=>simp[eX]
  |succ i=>
   have b:=h x aA;have:=a (λy c=>h y (by simp[c])) i;simp only[Bz];simp only[eX,kY]at this⊢;have d:x.cells.toList.length=sz:=by simpa using b
   rw[show(i+1)*sz=x.cells.toList.length+i*sz by rw[d,uK,Jo,MS]];rw[List.take_length_add_append,this]
def agl{xs:Q6}{sz i:Nat}{x:Value}(h:∀x∈xs,x.cells.size=sz)(hi:xs[i]? =some x)(k:Nat)(b:k<sz):(eX xs)[i*sz+k]? =x.cells[k]?:=by
 have c:=agn h i;have a:=(gy.1 hi).1;have d:xs.drop i=x::xs.drop (i+1):=by rw[<-(gy.1 hi).2];exact iY a
 have:(eX xs)[i*sz+k]? =((eX xs).drop (i*sz))[k]?:=by rw[uJ]
 rw[this,c,d];have f:=h x (tN hi);simp only[eX,kY];rw[pF (by simpa[f]using b)];simp
def Vq{a:AV}{v:Value}(h:VR H a v):a.cells.length=v.cells.size:=by have:=(BL h).length;simpa using this
def ahO{l:Q3}{xs:Q6}(h:aG H l xs):aG H (l.flatMap AV.cells) (eX xs):=by
 induction l generalizing xs with
 |nil=>simp only[aG]at h;subst h;simp[aG,eX]
 |cons a l b=>simp only[aG]at h;obtain⟨x,f,rfl,c,d⟩:=h;simp only[kY,eX];exact aG.append (BL c) (b d)
def aoh{l:Q3}{xs:Q6}{n:Nat}(h:aG H l xs)(f:l.all (λa=>a.cells.length==n)=true):∀x∈xs,x.cells.size=n:=by
 intro x g;obtain⟨k,c⟩:=Zj.1 g;have b:k<l.length:=by have:=(gy.1 c).1;have:=h.length;omega
 obtain⟨y,d,i⟩:=h.at (cO b);rw[c]at d;cases d;have:=List.all_eq_true.1 f _ (iZ b);rw[<-Vq i];simpa using this
def aBT{l:Q3}{v:Value}(h:VR H (.ro l) v){i size:Nat}{a:AV}(hi:l[i]? =some a)(s:a.cells.length=size):
 ∃bl off c cs elem f x,v=.slice (some ⟨bl,off,none⟩) l.length c/\l.length<=c/\H.ro bl=some (.cells cs elem f)/\VR H a x/\off+i*size+x.cells.size<=cs.size/\Ho cs (off+i*size) x.cells.toList:=by
 simp only[VR]at h;rcases h with⟨rfl,_⟩|⟨bl,off,c,u,b,rfl,z,A,g,B⟩
 ·simp at hi
 obtain⟨x,j,p⟩:=A.at hi;obtain⟨cs,elem,f,D,G,E⟩:=B (by intro e;subst e;simp at hi);have m:=g x (tN j);have:b=size:=by rw[<-m,<-Vq p,s]
 subst this;have q:=JO g;have n:=(gy.1 j).1;have d:(i+1)*b<=u.length*b:=wC _ n;rw[uK,Jo]at d;refine⟨bl,off,c,cs,elem,f,x,rfl,z,D,p,ah,λk y r=>?_⟩;have o:k<b:=by have:=(gy.1 r).1;simp at this;omega
 have:=E (i*b+k) y (by rw[agl g j k o];simpa using r);rw[<-kE]at this;exact this
def IU{t:TypeId}{b:Q3}(h:Bg P t=some b):∃z,(∀w,(zeroValue t).run P w=.ok z w)/\∀H:Env,aG H b z.cells.toList:=by
 unfold Bg at h;split at h
 ·next i hi=>
  split at h
  ·next z c=>
   simp only[bI]at h;obtain⟨a,d,rfl⟩:=h;exact⟨z,λw=>by simp[zeroValue,IQ hi,c],λH=>BL (FI _ _ _ d)⟩
  ·cases h
 ·cases h
def vg{l r:Q3}{off n:Nat}(h:takeN l off n=some r):r=(l.drop off).take n/\r.length=n/\(n=0\/off+n<=l.length):=by
 simp only[takeN]at h;split at h
 ·next a=>
  cases h;refine⟨rfl,a,?_⟩;simp at a;omega
 ·cases h
def amR{l r:Q3}{off n:Nat}(h:takeN l off n=some r){k:Nat}{a:AV}(b:r[k]? =some a):l[off+k]? =some a:=by
 obtain⟨rfl,_,_⟩:=vg h;rw[oh]at b;split at b
 ·rw[uJ]at b;exact b
 ·cases b
def vC.take{q:Place}{c:Q3}{et:TypeId}{rw opn:Bool}{cs:QR}{elem:TypeId}{a:Nat×Nat}(r:vC P H q c et rw opn cs elem a)
 {off n:Nat} {l:Q3} (h:takeN c off n=some l):q.ba+off+n<=cs.size\/n=0:=by
 obtain⟨_,_,b⟩:=vg h;have:=r.fits;have:=r.le;omega
def vC.Bd{q:Place}{c:Q3}{et:TypeId}{rw opn:Bool}{cs:QR}{elem:TypeId}{i:Nat×Nat}(r:vC P H q c et rw opn cs elem i)
 {off n:Nat} {l:Q3} (h:takeN c off n=some l):aG H l ((cs.toList.drop (q.ba+off)).take n):=by
 obtain⟨o,d,p⟩:=vg h;have s:=r.fits;have u:=r.le;refine aG.of ?_ λk a f=>?_
 ·simp;omega
 ·have j:=amR h f;obtain⟨x,g,m⟩:=r.cell _ _ j;refine⟨x,?_,m⟩;have b:k<n:=by have:=(gy.1 f).1;omega
  rw[oh,au b,uJ];rw[<-kE]at g;simpa using g
def FV{bl off n:Nat}{cs:QR}{elem:TypeId}{b:Nat×Nat}(h:w.heap[bl]? =some (.cells cs elem b))(a:off+n<=cs.size\/n=0):
 (loadCells ⟨bl,off,none⟩ n).run P w=.ok ⟨(cs.toList.drop off).take n⟩ w:=by
 rcases a with c|rfl
 ·exact run_loadCells h c
 ·simp[loadCells,loadCellsFrom]
def Io(h:SR P H F w){t:TypeId}{a v:AV}{x:Value}(f:yK P t F a=some v)(g:VR H a x):
 ∃y,(Instr.loadAt t x).run P w=.ok y w/\VR H v y:=by
 unfold yK at f;split at f
 ·next id d=>
  split at f
  ·next c V rw L M=>
   obtain⟨q,N,i,j,O,m,r⟩:=h.obj _ _ M rfl;simp only[VR]at g;obtain⟨W,o,rfl⟩:=g;rw[N]at o;cases o;split at f
   ·next b=>
    split at f
    ·next n A=>
     simp only[bI]at f;obtain⟨l,z,rfl⟩:=f;refine⟨.agg ⟨(i.toList.drop (q.ba+d)).take n⟩,?_,?_⟩
     ·simp only[Instr.loadAt,Instr.sureAddr,aY,bQ,aX,loadVar,LK b,if_true,jP A,xF];rw[FV m (r.take z)];rfl
     ·simp only[VR];exact⟨_,rfl,r.Bd z⟩
    ·cases f
   ·next b=>
    obtain⟨x,g,B⟩:=r.cell _ _ f;refine⟨x,?_,B⟩;simp only[Instr.loadAt,Instr.sureAddr,aY,bQ,aX,loadVar,LK b,xF];exact alS m g
   ·cases f
  ·cases f
 ·next e d=>
  simp only[VR]at g;obtain⟨X,base,i,j,O,x,Q,G,rfl,Y,I⟩:=g;have m:=h.jH _ _ Q;have p:=BL G;have R:=Vq G;split at f
  ·next b=>
   split at f
   ·next n A=>
    simp only[bI]at f;obtain⟨l,z,rfl⟩:=f;obtain⟨D,S,T⟩:=vg z;have s:base+d+n<=i.size\/n=0:=ah;refine⟨.agg ⟨(i.toList.drop (base+d)).take n⟩,?_,?_⟩
    ·simp only[Instr.loadAt,Instr.sureAddr,aY,bQ,aX,loadVar,LK b,if_true,jP A,xF];rw[FV m s];rfl
    ·simp only[VR];refine⟨_,rfl,?_⟩;have E:(i.toList.drop (base+d)).take n=(x.cells.toList.drop d).take n:=by
      apply Jh;intro k;rw[oh,oh];split
      ·next Z=>
       rw[uJ,uJ];have u:d+k<x.cells.toList.length:=by simp;omega
       have:=I (d+k) _ (cO u);rw[cO u,yA,kE];exact this
      ·rfl
     rw[E,D];exact(p.drop d).take n
   ·cases f
  ·next b=>
   obtain⟨y,U,B⟩:=p.at f;refine⟨y,?_,B⟩;simp only[Instr.loadAt,Instr.sureAddr,aY,bQ,aX,loadVar,LK b,xF];exact alS m (I d y U)
  ·cases f
 ·cases f
def Yh{l a vs:Q3}{off:Nat}(h:CP l off vs=some a):off+vs.length<=l.length/\a.length=l.length/\
 ∀(k:Nat),a[k]? =if off<=k/\k<off+vs.length then vs[k-off]? else l[k]?:=by
 unfold CP at h;split at h
 ·next b=>
  cases h;refine⟨b,by simp;omega,λk=>?_⟩;by_cases c:k<off
  ·rw[aj ah,List.append_assoc,pF (by simp;omega),oh,au c]
  ·by_cases d:k<off+vs.length
   ·rw[au ⟨ah,d⟩,pF (by simp;omega),yD (by simp;omega)];simp;congr 1;omega
   ·rw[aj ah,yD (by simp;omega),uJ];congr 1;simp;omega
 ·cases h
def Y1(h:SR P H F w){id off:Nat}{c p:Q3}{et:TypeId}{opn:Bool}{vs:Q3}{xs:Q6}{q:Place}(s:F.get id=some (.cells c et true opn))(D:F.lock<=id)
 (u:H id=some q) (E:CP c off vs=some p) (m:aG H vs xs) (g:vs.all AV.qp=true):
 ∃w',(storeCells ⟨q.bl,q.ba+off,none⟩ xs).run P w=.ok () w'/\St P H F w H (F.put id (.cells p et true opn)) w':=by
 obtain⟨S,i,G,f,v,z,r⟩:=h.obj _ _ s rfl;rw[u]at i;cases i;obtain⟨T,I,L⟩:=Yh E;have A:=m.length;have M:=r.fits;have N:=r.le;have n:∀x∈xs,sW x=true:=by
  intro x o;obtain⟨k,d⟩:=Zj.1 o;have j:k<vs.length:=by have:=(gy.1 d).1;omega
  obtain⟨y,B,O⟩:=m.at (cO j);rw[d]at B;cases B;exact acj O (List.all_eq_true.1 g _ (iZ j))
 have l:=adF (P:=P) xs w q.bl (q.ba+off) 0 G f v z ah n (λk a b=>by have:=r.free rfl (k-q.ba) ah;rw[Uu ah]at this;exact this)
 refine⟨_,l,?_⟩;refine St.write h s rfl D u FX (λk d=>FW d) rfl rfl rfl ?_;refine⟨_,f,v,Eb z,?_⟩;refine {fits:=by rw[O6];exact M,le:=ah,shut:=λe=>by rw[I];exact r.shut e,cell:=?_,free:=λe=>r.free e,whole:=λe=>by rw[O6];exact r.whole e,room:=r.room};intro k a d;rw[L]at d;rw[Yg _ _ _ _ ah];split at d
 ·next Q=>
  rw[au ah];obtain⟨x,o,R⟩:=m.at d;refine⟨x,?_,R⟩;rw[<-o];congr 1;omega
 ·next Q=>
  rw[aj ah];exact r.cell k a d
def Yu(h:SR P H F w){t:TypeId}{a v:AV}{x y:Value}(d:GN P t F a v=some F')(l:VR H a x)(m:VR H v y):
 ∃w',(Instr.storeAt t x y).run P w=.ok () w'/\St P H F w H F' w':=by
 unfold GN at d;split at d
 ·next id n=>
  split at d
  ·next c A o p=>
   split at d
   ·next r=>
    obtain⟨s,j,f⟩:=r;simp only[bI]at d;obtain⟨B,u,rfl⟩:=d;simp only[VR]at l;obtain⟨q,z,rfl⟩:=l;have b:=BL m;obtain⟨w',g,k⟩:=Y1 h p s z u b f;refine⟨w',?_,k⟩;have i:=b.length;simp only[Instr.storeAt,Instr.sureAddr,aY,bQ,aX,storeVar,jP j,xF];rw[aj (by simp at i⊢;omega)];simpa using g
   ·cases d
  ·cases d
 ·cases d
def BI{a:AV}{n:Int}{x:Value}(h:yJ a=some n)(b:VR H a x):∃k,x=.int k n:=by
 cases a<;>simp[yJ]at h
 subst h;simp only[VR]at b;exact⟨_,b⟩
def Ea{a:AV}{v:Value}{x:Value}(h:zi a=some v)(b:VR H a x):x=v:=am0 4 a v x h b
def akH{t:TypeId}{cs:Q3}{vs:Q6}{off:Nat}{v:AV}(h:UR P t cs off=some v)(b:aG H cs vs):
 ∃y,(part t ⟨vs⟩ off).run P w=.ok y w/\VR H v y:=by
 unfold UR at h;split at h
 ·next a=>
  split at h
  ·next n c=>
   simp only[bI]at h;obtain⟨l,d,rfl⟩:=h;refine⟨.agg ((⟨vs⟩:QR).extract off (off+n)),?_,?_⟩
   ·simp[part,LK a,jP c]
   ·simp only[VR];obtain⟨rfl,_,_⟩:=vg d;refine⟨(vs.drop off).take n,?_,(b.drop off).take n⟩;simp
  ·cases h
 ·next a=>
  obtain⟨x,f,g⟩:=b.at h;refine⟨x,?_,g⟩;simp[part,LK a,f]
 ·cases h
def auK{t:TypeId}{a v:AV}{x:Value}{f:Nat}(h:UH P t a f=some v)(c:VR H a x):
 ∃y,(Instr.field t x f).run P w=.ok y w/\VR H v y:=by
 unfold UH at h;split at h
 ·next b l d=>
  split at h
  ·next m g=>
   simp only[VR]at c;obtain⟨n,rfl,i⟩:=c;obtain⟨y,j,k⟩:=akH (w:=w) h i;exact⟨y,by simp[Instr.field,bF d,g,asAgg,j],k⟩
  ·cases h
 ·cases h
def auJ{t:TypeId}{a v:AV}{x:Value}{f:Nat}(h:UJ P t a f=some v)(i:VR H a x):
 ∃y,(Instr.fieldAt t x f).run P w=.ok y w/\VR H v y:=by
 unfold UJ at h;split at h
 ·next c id d j=>
  split at h
  ·next k l=>
   split at h
   ·next n m=>
    split at h
    ·cases h
    ·next o=>
     cases h;simp only[VR]at i;obtain⟨q,r,rfl⟩:=i;refine⟨.pointer (some ⟨q.bl,q.ba+d+k.offset,none⟩),?_,?_⟩
     ·simp[Instr.fieldAt,bF j,l,Instr.sureAddr,fieldPlace,jP m,o,tY]
     ·simp only[VR];exact⟨q,r,by rw[kE]⟩
   ·cases h
  ·cases h
 ·next c b d j=>
  split at h
  ·next k l=>
   split at h
   ·next n m=>
    split at h
    ·cases h
    ·next o=>
     cases h;simp only[VR]at i;obtain⟨p,base,s,g,u,x,z,A,rfl,B⟩:=i;refine⟨.pointer (some ⟨p,base+d+k.offset,none⟩),?_,?_⟩
     ·simp[Instr.fieldAt,bF j,l,Instr.sureAddr,fieldPlace,jP m,o,tY]
     ·simp only[VR];exact⟨p,base,s,g,u,x,z,A,by rw[kE],B⟩
   ·cases h
  ·cases h
 ·cases h
def Rw{t:TypeId}{a i v:AV}{x y:Value}(h:Aq P t a i=some v)(j:VR H a x)(s:VR H i y):
 ∃z,(Instr.indexAt t x y).run P w=.ok z w/\VR H v z:=by
 unfold Aq at h;split at h
 ·next e id f len N k m n=>
  obtain⟨u,rfl⟩:=BI n s;split at h
  ·next d o=>
   split at h
   ·next p=>
    cases h;simp only[VR]at j;obtain⟨q,A,O,rfl⟩:=j;refine⟨.pointer (some ⟨q.bl,q.ba+f+k.toNat*d,none⟩),?_,?_⟩
    ·simp[Instr.indexAt,asIntOf,bF m,jP o,p,tY]
    ·simp only[VR];exact⟨q,A,by rw[kE]⟩
   ·cases h
  ·cases h
 ·next len e id f k m n=>
  obtain⟨u,rfl⟩:=BI n s;split at h
  ·next d o=>
   split at h
   ·next p=>
    cases h;simp only[VR]at j;obtain⟨q,A,rfl⟩:=j;refine⟨.pointer (some ⟨q.bl,q.ba+f+k.toNat*d,none⟩),?_,?_⟩
    ·simp[Instr.indexAt,asIntOf,bF m,jP o,p,tY,Instr.sureAddr]
    ·simp only[VR];exact⟨q,A,by rw[kE]⟩
   ·cases h
  ·cases h
 ·next e l k m n=>
  obtain⟨u,rfl⟩:=BI n s;split at h
  ·next d o=>
   split at h
   ·next Q=>
    split at h
    ·next b M=>
     split at h
     ·next B=>
      cases h;obtain⟨r,f,c,D,g,E,x,rfl,T,G,I,L,R⟩:=aBT j M B;have S:=(gy.1 M).1;have p:0<=k/\k<(l.length:Int):=⟨Q,ah⟩
      refine⟨.pointer (some ⟨r,f+k.toNat*d,none⟩),?_,?_⟩
      ·simp[Instr.indexAt,asIntOf,bF m,jP o,p,tY]
      ·simp only[VR];exact⟨r,f+k.toNat*d,D,g,E,x,G,I,rfl,L,R⟩
     ·cases h
    ·cases h
   ·cases h
  ·cases h
 ·next len e b f k m n=>
  obtain⟨u,rfl⟩:=BI n s;split at h
  ·next d o=>
   split at h
   ·next p=>
    cases h;simp only[VR]at j;obtain⟨r,base,D,g,E,x,G,I,rfl,L⟩:=j;refine⟨.pointer (some ⟨r,base+f+k.toNat*d,none⟩),?_,?_⟩
    ·simp[Instr.indexAt,asIntOf,bF m,jP o,p,tY,Instr.sureAddr]
    ·simp only[VR];exact⟨r,base,D,g,E,x,G,I,by rw[kE],L⟩
   ·cases h
  ·cases h
 ·cases h
def avR(s:Q0)(k:Nat):((⟨⟨s⟩⟩:ByteArray)[k]?)=s[k]?:=by rw[getElem?_def,getElem?_def];rfl
def aby{t:TypeId}{a i v:AV}{x y:Value}(h:GL P t a i=some v)(b:VR H a x)(g:VR H i y):
 ∃z,(Instr.index t x y).run P w=.ok z w/\VR H v z:=by
 unfold GL at h;split at h
 ·next s k d f=>
  obtain⟨l,rfl⟩:=BI f g;split at h
  ·next m=>
   split at h
   ·next c n=>
    cases h;simp only[VR]at b;subst b;refine⟨.int .u8 c.toNat,?_,by simp[VR]⟩;simp[Instr.index,asIntOf,bF d,m,avR,n]
   ·cases h
  ·cases h
 ·next len e A k d f=>
  obtain⟨l,rfl⟩:=BI f g;split at h
  ·next j o=>
   split at h
   ·next p=>
    simp only[VR]at b;obtain⟨B,rfl,q⟩:=b;obtain⟨z,r,u⟩:=akH (w:=w) h q;exact⟨z,by simp[Instr.index,asIntOf,bF d,jP o,p,r],u⟩
   ·cases h
  ·cases h
 ·cases h
def nJ(H:Env):Q4->Option Value->Prop
 |none,none=>True
 |some a,some x=>VR H a x
 |_,_=>False
def G8{sl:Bool}{len cap:Nat}{i:Nat->Bool}{lo hi:Q4}{b d:WD}{l h:Nat}(m:zM len i lo hi=some (l,h))(o:∀k,i k=true->k<=cap)(s:len<=cap)
 (f:nJ H lo b) (g:nJ H hi d):
 (Instr.sliceBounds sl len cap b d none).run P w=.ok (l,h,cap) w/\l<=h/\h<=cap:=by
 unfold zM at m;split at m
 ·cases m
 next r e=>
 split at m
 ·cases m
 next y j=>
 simp only[bD,qI]at m;obtain⟨rfl,rfl⟩:=m;have z:∀c,(match d with|some v=>Instr.sliceBound v cap c|none=>pure len).run P w=.ok r w/\r<=cap:=by
  intro c;cases hi with
  |none=>cases d with
   |none=>simp[Df]at e;subst e;exact⟨rfl,s⟩
   |some _=>exact g.elim
  |some a=>cases d with
   |none=>exact g.elim
   |some x=>
    simp only[Df]at e;simp only[nJ]at g;split at e
    ·next n u=>
     obtain⟨D,rfl⟩:=BI u g;split at e
     ·next p=>
      cases e;have:=o _ p.2;refine⟨?_,this⟩;simp[Instr.sliceBound,asIntOf,p.1];intro q;omega
     ·cases e
    ·cases e
 have A:∀c,(match b with|some v=>Instr.sliceBound v r c|none=>pure 0).run P w=.ok y w/\y<=r:=by
  intro c;cases lo with
  |none=>cases b with
   |none=>simp[Nj]at j;subst j;exact⟨rfl,vG _⟩
   |some _=>exact f.elim
  |some a=>cases b with
   |none=>exact f.elim
   |some x=>
    simp only[Nj]at j;simp only[nJ]at f;split at j
    ·next n u=>
     obtain⟨D,rfl⟩:=BI u f;split at j
     ·next p=>
      cases j;refine⟨?_,ah⟩;simp[Instr.sliceBound,asIntOf,p.1];intro q;omega
     ·cases j
    ·cases j
 refine⟨?_,(A .index).2,(z .index).2⟩;unfold Instr.sliceBounds;have p:=z (if sl then .sliceAcap else .sliceAlen);have B:=A (if(none:WD).isSome then .slice3C else .sliceB);cases d<;>simp only[aY,bQ,aX]at p B⊢<;>cases b<;>simp only[aY,bQ,aX]at p B⊢<;>simp_all
def strSize(s:Q0):(⟨⟨s⟩⟩:ByteArray).size=s.length:=rfl
def amE(s:Q0)(l h:Nat):(⟨⟨s⟩⟩:ByteArray).extract l h=⟨⟨(s.take h).drop l⟩⟩:=by apply ByteArray.ext;rw[ByteArray.data_extract];apply PO;simp[ML,List.extract_eq_take_drop]
def Tf{a:Addr}{c:Nat}(d:a.spot=none:=by rfl):VR H (.ro []) (.slice (some a) 0 c):=by simp only[VR];obtain⟨f,b,g⟩:=a;simp only at d;subst d;right;exact⟨f,b,c,[],0,rfl,vG _,by simp[aG],aA,λh=>absurd rfl h⟩
def afs{len:Nat}{a:Nat->Bool}{lo hi:Q4}{l h:Nat}(b:zM len a lo hi=some (l,h))(c:∀k,a k=true->k<=len):h<=len:=by
 unfold zM at b;split at b
 ·cases b
 ·next e=>
  split at b
  ·cases b
  ·cases b;cases hi with
   |none=>simp[Df]at e;omega
   |some v=>
    simp only[Df]at e;split at e
    ·split at e
     ·next d=>cases e;exact c _ d.2
     ·cases e
    ·cases e
def Ym(h:SR P H F w){t:TypeId}{a v:AV}{x:Value}{lo hi:Q4}{S T:WD}(b:Di P t F a lo hi=some v)(D:VR H a x)(o:nJ H lo S)(p:nJ H hi T):
 ∃y,(Instr.sliceAt t x S T none).run P w=.ok y w/\VR H v y:=by
 unfold Di at b;split at b
 ·next s z=>
  simp only[bI,Na]at b;obtain⟨l,f,i,rfl⟩:=b;simp only[VR]at D;subst D;have m:=G8 (P:=P) (w:=w) (sl:=false) (cap:=s.length) i (λk g=>by simpa using g) (dP _) o p;refine⟨.string ⟨⟨(s.take f).drop l⟩⟩,?_,by simp[VR]⟩;simp only[Instr.sliceAt,Instr.slice,bF z,aY,aX,strSize,Zn,iI,if_false,m.1,bQ,amE,xF]
 ·next e id d len u z=>
  simp only[VR]at D;obtain⟨q,I,E,rfl⟩:=D;split at b
  ·next j c A=>
   simp only[yH,Na]at b;obtain⟨l,f,i,b⟩:=b;simp only[tX]at E⊢;have m:=G8 (P:=P) (w:=w) (sl:=true) (cap:=c) i (λk g=>by simpa using g) E o p;split at b
   ·next B=>
    cases b;subst B;refine⟨.slice (some ⟨q.bl,q.ba+d,none⟩) (f-c) 0,?_,?_⟩
    ·simp only[Instr.sliceAt,Instr.slice,bF z,aY,aX,m.1,jP A,bQ,if_true,C9]
    ·simp only[VR];exact⟨q,I,by simp;omega,rfl⟩
   ·next B=>
    cases b;refine⟨.slice (some ⟨q.bl,q.ba+d+l*j,none⟩) (f-l) (c-l),?_,?_⟩
    ·simp only[Instr.sliceAt,Instr.slice,bF z,aY,aX,m.1,jP A,bQ,aj B,iO,tY]
    ·simp only[VR];exact⟨q,I,by simp;omega,by rw[kE];rfl⟩
  ·next j A=>
   split at b
   ·next c et rw hg=>
    split at b
    ·next Z=>
     simp only[yH,Na]at b;obtain⟨l,f,i,b⟩:=b;obtain⟨q',U,cs,L,fr,ad,r⟩:=h.obj _ _ hg rfl;rw[I]at U;cases U;obtain⟨_,ae,G⟩:=r.room rfl;rw[Z,A]at G;cases G;simp only[wE]at E⊢;have m:=G8 (P:=P) (w:=w) (sl:=true) (cap:=(q.sz-d)/q.es) i (λk g=>by simp at g;omega) E o p;have Rk:f<=len:=by
      unfold zM at i;split at i
      ·cases i
      ·next e=>
       split at i
       ·cases i
       ·cases i;cases hi with
        |none=>simp[Df]at e;omega
        |some v=>
         simp only[Df]at e;split at e
         ·split at e
          ·next V=>cases e;simpa using V.2
          ·cases e
         ·cases e
     have M:(q.sz-d)/q.es-l=(q.sz-(d+l*q.es))/q.es:=by rw[<-Nat.sub_sub,Jm l,Nat.sub_mul_div]
     split at b
     ·next B=>
      cases b;refine⟨.slice (some ⟨q.bl,q.ba+d+l*q.es,none⟩) (f-l) ((q.sz-d)/q.es-l),?_,?_⟩
      ·simp only[Instr.sliceAt,Instr.slice,bF z,aY,aX,m.1,jP A,bQ,iO,tY];rw[aj ah]
      ·simp only[VR];refine⟨q,I,?_,?_⟩
       ·simp only[wE];rw[<-M];omega
       ·simp only[wE];rw[<-M,kE]
     ·split at b
      ·next B e2=>
       cases b;subst e2;refine⟨.slice (some ⟨q.bl,q.ba+d,none⟩) (f-0) ((q.sz-d)/q.es-0),?_,?_⟩
       ·simp only[Instr.sliceAt,Instr.slice,bF z,aY,aX,m.1,jP A,bQ,iO,tY];split<;>simp
       ·simp only[VR];exact⟨q,I,by simp;omega,aA⟩
      ·split at b
       ·next B e2 e3=>
        cases b;subst e3;simp only[Instr.sliceAt,Instr.slice,bF z,aY,aX,m.1,jP A,bQ,iO,tY,C9];by_cases W:(q.sz-d)/q.es=f
        ·rw[au W];exact⟨_,rfl,Tf⟩
        ·rw[aj W];exact⟨_,rfl,Tf⟩
       ·cases b
    ·cases b
   ·cases b
  ·cases b
 ·next e z=>
  split at b
  ·next n A=>
   simp only[bI,Na]at b;obtain⟨l,f,i,rfl⟩:=b;simp only[VR]at D;subst D;have m:=G8 (P:=P) (w:=w) (sl:=true) (cap:=0) i (λk g=>by simpa using g) (dP _) o p;have O:l=0:=ah;have Q:f=0:=ah;subst O;subst Q;refine⟨.slice none 0 0,?_,by simp[VR]⟩;simp only[Instr.sliceAt,Instr.slice,bF z,aY,aX,m.1,jP A,bQ,if_true,C9]
  ·cases b
 ·next e es z=>
  split at b
  ·next j A=>
   simp only[yH,Na]at b;obtain⟨l,f,i,b⟩:=b;have af:=D;simp only[VR]at D;rcases D with⟨rfl,pa,rfl⟩|⟨bl,d,c,xs,N,rfl,hc,V,R,h3⟩
   ·have m:=G8 (P:=P) (w:=w) (sl:=true) (cap:=0) i (λk g=>by simpa using g) (dP _) o p;have O:l=0:=ah;have Q:f=0:=ah;subst O;subst Q;simp[UU]at b;subst b;refine⟨.slice pa 0 0,?_,by simp[VR]⟩;have X:=m.1;rw[lQ]at X;simp only[Instr.sliceAt,Instr.slice,bF z,aY,aX,X,jP A,bQ,if_true,C9]
   have m:=G8 (P:=P) (w:=w) (sl:=true) (cap:=c) i (λk g=>by simp at g;omega) hc o p;have Rk:=afs i (λk g=>by simpa using g);simp only[Instr.sliceAt,Instr.slice,bF z,aY,aX,m.1,jP A,bQ,iO,tY];unfold UU at b;split at b
   ·next B=>
    cases b;subst B;simp only[C9];by_cases W:c=f
    ·rw[au W];exact⟨_,rfl,Tf⟩
    ·rw[aj W];exact⟨_,rfl,Tf⟩
   ·next B=>
    split at b
    ·next a ha=>
     split at b
     ·next G=>
      cases b;obtain⟨x,aa,mY⟩:=V.at ha;have ab:=R x (tN aa);have:N=j:=by rw[<-ab,<-Vq mY,G]
      subst this;obtain⟨cs,L,fr,h4,h5,h6⟩:=h3 (by intro e;subst e;simp at ha);rw[aj ah];refine⟨_,rfl,?_⟩;have ac:=V.length;simp only[VR];right;refine⟨bl,d+l*N,c-l,(xs.take f).drop l,N,by congr 1;simp;omega,by simp;omega,(V.take f).drop l,λy Y=>R y (MQ (MO Y)),λ_=>⟨cs,L,fr,h4,?_,?_⟩⟩
      ·rw[JO (λy Y=>R y (MQ (MO Y)))];have hL:=JO R;have hm:((xs.take f).drop l).length=f-l:=by simp;omega
       rw[hm];have h7:l*N+(f-l)*N=f*N:=by rw[<-uK];congr 1;omega
       have h8:f*N<=xs.length*N:=wC _ ah;omega
      ·intro k y g;rw[<-agn (λy Y=>R y (MQ Y)),<-ao9 R,uJ,oh]at g;split at g
       ·have:=h6 _ _ g;rw[<-kE]at this;exact this
       ·cases g
     ·cases b
    ·cases b
  ·cases b
 ·next n e id d z=>
  simp only[VR]at D;obtain⟨q,I,rfl⟩:=D;split at b
  ·next j A=>
   simp only[bI,Na]at b;obtain⟨l,f,i,rfl⟩:=b;have m:=G8 (P:=P) (w:=w) (sl:=false) (cap:=n) i (λk g=>by simpa using g) (dP _) o p;have Rk:=afs i (λk g=>by simpa using g);simp only[Instr.sliceAt,Instr.sureAddr,bF z,aY,aX,m.1,jP A,bQ];by_cases B:n=l
   ·subst B;rw[au rfl,au rfl];refine⟨_,rfl,?_⟩;simp only[VR];exact⟨q,I,by simp;omega,aA⟩
   ·rw[aj B,aj B];refine⟨_,rfl,?_⟩;simp only[VR,tY];exact⟨q,I,by simp;omega,by simp[kE]⟩
  ·cases b
 ·cases b
def aju(h:SR P H F w){t:TypeId}{ts:Wt}{ty:TypeId}{a v:AV}{x:Value}(g:ts[0]? =some t)(d:UK P F t a=some v)(f:VR H a x):
 ∃y,(Builtin.len_ ts ty #[x]).run P w=.ok y w/\VR H v y:=by
 unfold UK at d;split at d
 ·next s b=>cases d;simp only[VR]at f;subst f;exact⟨.int .i64 s.length,by simp[Builtin.len_,g,bF b,goInt,strSize],by simp[VR]⟩
 ·next e b=>cases d;simp only[VR]at f;subst f;exact⟨.int .i64 0,by simp[Builtin.len_,g,bF b,goInt],by simp[VR]⟩
 ·next e id j n p b=>cases d;simp only[VR]at f;obtain⟨q,o,_,rfl⟩:=f;exact⟨.int .i64 n,by simp[Builtin.len_,g,bF b,goInt],by simp[VR]⟩
 ·next e l b=>cases d;simp only[VR]at f;rcases f with⟨rfl,_,rfl⟩|⟨B,j,c,D,E,rfl,_⟩;exact⟨.int .i64 0,by simp[Builtin.len_,g,bF b,goInt],by simp[VR]⟩;exact⟨.int .i64 l.length,by simp[Builtin.len_,g,bF b,goInt],by simp[VR]⟩
 ·next r u b=>cases d;simp only[VR]at f;subst f;exact⟨.int .i64 0,by simp[Builtin.len_,g,bF b,goInt],by simp[VR]⟩
 ·next r u id b=>
  split at d
  ·next es z=>
   cases d;simp only[VR]at f;obtain⟨q,o,rfl⟩:=f;obtain⟨G,i,I,k,A,m,_⟩:=h.obj _ _ z rfl;rw[o]at i;cases i;refine⟨.int .i64 es.length,?_,by simp[VR]⟩;simp[Builtin.len_,g,bF b,goInt,getObj,Sem.run,A,m]
  ·cases d
 ·next _ n _ b=>cases d;exact⟨.int .i64 n,by cases x<;>simp[Builtin.len_,g,bF b,goInt],by simp[VR]⟩
 ·cases d
def aoz(b o i j:Nat):((⟨b,o+i,none⟩:Addr)==⟨b,o+j,none⟩)=(i==j):=by rw[zA];simp
section
variable{t e:TypeId}
def ahC{n:Nat}(a:P.underlying t=some (.pointer e))(c:sizeT P e=some n)(h0:n≠0)(b o i j:Nat):
 (Op.equal t (.pointer (some ⟨b,o+i,none⟩)) (.pointer (some ⟨b,o+j,none⟩))).run P w=.ok (i==j) w:=by
 have f:∀d:Nat,(Op.equalIn (d+1) t (.pointer (some ⟨b,o+i,none⟩)) (.pointer (some ⟨b,o+j,none⟩))).run P w=.ok (i==j) w:=λd=>by simp only[Op.equalIn,aY,bF a,aX,jP c,au h0,xF];simp only[sameAddr,beq_self_eq_true,if_true,bQ,aoz,aY,aX]
 exact f 9999
def H6(b:P.underlying t=some (.pointer e))(a:Addr):(Op.equal t (.pointer (some a)) (.pointer none)).run P w=.ok false w:=by
 have c:∀d:Nat,(Op.equalIn (d+1) t (.pointer (some a)) (.pointer none)).run P w=.ok false w:=λd=>by simp only[Op.equalIn,aY,bF b,aX,bQ]
 exact c 9999
def HY(b:P.underlying t=some (.pointer e))(a:Addr):(Op.equal t (.pointer none) (.pointer (some a))).run P w=.ok false w:=by
 have c:∀d:Nat,(Op.equalIn (d+1) t (.pointer none) (.pointer (some a))).run P w=.ok false w:=λd=>by simp only[Op.equalIn,aY,bF b,aX,bQ,MZ]
 exact c 9999
def VW(b:P.underlying t=some (.slice e))(a:Addr)(l c:Nat):(Op.equal t (.slice (some a) l c) (.slice none 0 0)).run P w=.ok false w:=by
 have f:∀d:Nat,(Op.equalIn (d+1) t (.slice (some a) l c) (.slice none 0 0)).run P w=.ok false w:=λd=>by simp only[Op.equalIn,aY,bF b,aX,bQ]
 exact f 9999
def VU(b:P.underlying t=some (.slice e))(a:Addr)(l c:Nat):(Op.equal t (.slice none 0 0) (.slice (some a) l c)).run P w=.ok false w:=by
 have f:∀d:Nat,(Op.equalIn (d+1) t (.slice none 0 0) (.slice (some a) l c)).run P w=.ok false w:=λd=>by simp only[Op.equalIn,aY,bF b,aX,bQ,MZ]
 exact f 9999
def ahy{a:Array (String×TypeId)}(b:P.underlying t=some (.interface a))(u:TypeId)(x:Value):(Op.equal t (.iface u x) .nilIface).run P w=.ok false w:=by
 have c:∀d:Nat,(Op.equalIn (d+1) t (.iface u x) .nilIface).run P w=.ok false w:=λd=>by simp only[Op.equalIn,aY,bF b,aX,bQ]
 exact c 9999
def ahA{a:Array (String×TypeId)}(b:P.underlying t=some (.interface a))(u:TypeId)(x:Value):(Op.equal t .nilIface (.iface u x)).run P w=.ok false w:=by
 have c:∀d:Nat,(Op.equalIn (d+1) t .nilIface (.iface u x)).run P w=.ok false w:=λd=>by simp only[Op.equalIn,aY,bF b,aX,bQ]
 exact c 9999
def ahz{k:TypeId}(a:P.underlying t=some (.map k e))(r:Nat):(Op.equal t (.map (some r)) (.map none)).run P w=.ok false w:=by
 have b:∀d:Nat,(Op.equalIn (d+1) t (.map (some r)) (.map none)).run P w=.ok false w:=λd=>by simp only[Op.equalIn,aY,bF a,aX,bQ]
 exact b 9999
def ahB{k:TypeId}(a:P.underlying t=some (.map k e))(r:Nat):(Op.equal t (.map none) (.map (some r))).run P w=.ok false w:=by
 have b:∀d:Nat,(Op.equalIn (d+1) t (.map none) (.map (some r))).run P w=.ok false w:=λd=>by simp only[Op.equalIn,aY,bF a,aX,bQ,MZ]
 exact b 9999
end
def uP{t:TypeId}{x y:Operand}{u a:Value}{r:Bool}(h:(Op.equal t u a).run P w=.ok r w)
 (b:binOp .eql t u a=(do pure (.bool (<-Op.equal t u a)))) (c:(eqGuard .eql t x y u a).run P w=.ok () w):
 (do eqGuard .eql t x y u a;binOp .eql t u a:Sem Value).run P w=.ok (.bool r) w:=by
 simp only[aY,c,aX,b,h,bQ]
def uQ{t:TypeId}{x y:Operand}{u a:Value}{r:Bool}(h:(Op.equal t u a).run P w=.ok r w)
 (b:binOp .neq t u a=(do pure (.bool (!(<-Op.equal t u a))))) (c:(eqGuard .neq t x y u a).run P w=.ok () w):
 (do eqGuard .neq t x y u a;binOp .neq t u a:Sem Value).run P w=.ok (.bool (!r)) w:=by
 simp only[aY,c,aX,b,h,bQ]
def agB{f:BinOp}{t:TypeId}{x y:Operand}{k:IntKind}{a b c d m n:Int}{v:AV}(g:Vx f a b c d=some v)(h1:a<=m)(o:m<=b)(p:c<=n)(q:n<=d):
 ∃z,(do eqGuard f t x y (.int k m) (.int k n);binOp f t (.int k m) (.int k n):Sem Value).run P w=.ok z w/\VR H v z:=by
 have h:∀(f:BinOp)(r:Bool),(eqGuard f t x y (.int k m) (.int k n)).run P w=.ok () w->binOp f t (.int k m) (.int k n)=(if k≠k then stuck "BinOp: operands of different kinds" else Op.intCmp f m n)->Op.intCmp f m n=pure (.bool r)->
  (do eqGuard f t x y (.int k m) (.int k n);binOp f t (.int k m) (.int k n):Sem Value).run P w=.ok (.bool r) w:=by
  intro f r i j l;rw[aY,i,aX,j,aj aA,l];rfl
 cases f<;>simp only[Vx,reduceCtorEq]at g
 all_goals split at g
 all_goals try split at g
 all_goals cases g
 all_goals refine⟨_,h _ _ rfl rfl rfl,?_⟩
 all_goals simp only[VR,Value.bool.injEq]
 all_goals first|(exact EN ah)|(exact Dx ah)|(simp;omega)|skip
def aoD(h:SR P H F w){A:BinOp}{t:TypeId}{x y:Operand}{a b v:AV}{u B:Value}(d:wH P A t x y a b=some v)(f:VR H a u)(g:VR H b B):
 ∃z,(do eqGuard A t x y u B;binOp A t u B:Sem Value).run P w=.ok z w/\VR H v z:=by
 unfold wH at d;split at d
 ·split at d
  ·next e i=>
   split at d
   ·next n D=>
    split at d
    ·next E=>
     cases d;obtain⟨rfl,G⟩:=E;simp only[VR]at f g;obtain⟨q,j,rfl⟩:=f;obtain⟨Q,k,rfl⟩:=g;rw[j]at k;cases k;exact⟨_,uP (ahC i D G _ _ _ _) rfl rfl,by simp only[VR]⟩
    ·cases d
   ·cases d
  ·cases d
 ·split at d
  ·next e i=>
   split at d
   ·next n D=>
    split at d
    ·next E=>
     cases d;obtain⟨rfl,G⟩:=E;simp only[VR]at f g;obtain⟨q,j,rfl⟩:=f;obtain⟨Q,k,rfl⟩:=g;rw[j]at k;cases k;exact⟨_,uQ (ahC i D G _ _ _ _) rfl rfl,by simp only[VR]⟩
    ·cases d
   ·cases d
  ·cases d
 ·split at d
  ·next i=>cases d;simp only[VR]at f g;obtain⟨q,j,rfl⟩:=f;subst g;exact⟨_,uP (H6 i _) rfl rfl,by simp only[VR]⟩
  ·cases d
 ·split at d
  ·next i=>cases d;simp only[VR]at f g;obtain⟨q,j,rfl⟩:=g;subst f;exact⟨_,uP (HY i _) rfl rfl,by simp only[VR]⟩
  ·cases d
 ·split at d
  ·next i=>cases d;simp only[VR]at f g;obtain⟨q,j,rfl⟩:=f;subst g;exact⟨_,uQ (H6 i _) rfl rfl,by simp only[VR];rfl⟩
  ·cases d
 ·split at d
  ·next i=>cases d;simp only[VR]at f g;obtain⟨q,j,rfl⟩:=g;subst f;exact⟨_,uQ (HY i _) rfl rfl,by simp only[VR];rfl⟩
  ·cases d
 ·split at d
  ·next i=>cases d;simp only[VR]at f g;obtain⟨o,p,c,I,L,rfl,_⟩:=f.resolve_left aA;subst g;exact⟨_,uP (VW i _ _ _) rfl rfl,by simp only[VR]⟩
  ·cases d
 ·split at d
  ·next i=>cases d;simp only[VR]at f g;obtain⟨o,p,c,I,L,rfl,_⟩:=g.resolve_left aA;subst f;exact⟨_,uP (VU i _ _ _) rfl rfl,by simp only[VR]⟩
  ·cases d
 ·split at d
  ·next i=>cases d;simp only[VR]at f g;obtain⟨o,p,c,I,L,rfl,_⟩:=f.resolve_left aA;subst g;exact⟨_,uQ (VW i _ _ _) rfl rfl,by simp only[VR];rfl⟩
  ·cases d
 ·split at d
  ·next i=>cases d;simp only[VR]at f g;obtain⟨o,p,c,I,L,rfl,_⟩:=g.resolve_left aA;subst f;exact⟨_,uQ (VU i _ _ _) rfl rfl,by simp only[VR];rfl⟩
  ·cases d
 ·split at d
  ·next i=>cases d;simp only[VR]at f g;obtain⟨o,base,M,l,N,x,_,_,rfl,_⟩:=f;subst g;exact⟨_,uP (H6 i _) rfl rfl,by simp only[VR]⟩
  ·cases d
 ·split at d
  ·next i=>cases d;simp only[VR]at f g;obtain⟨o,base,M,l,N,x,_,_,rfl,_⟩:=g;subst f;exact⟨_,uP (HY i _) rfl rfl,by simp only[VR]⟩
  ·cases d
 ·split at d
  ·next i=>cases d;simp only[VR]at f g;obtain⟨o,base,M,l,N,x,_,_,rfl,_⟩:=f;subst g;exact⟨_,uQ (H6 i _) rfl rfl,by simp only[VR];rfl⟩
  ·cases d
 ·split at d
  ·next i=>cases d;simp only[VR]at f g;obtain⟨o,base,M,l,N,x,_,_,rfl,_⟩:=g;subst f;exact⟨_,uQ (HY i _) rfl rfl,by simp only[VR];rfl⟩
  ·cases d
 ·split at d
  ·next i=>cases d;simp only[VR]at f g;obtain⟨q,j,_,rfl⟩:=f;subst g;exact⟨_,uP (VW i _ _ _) rfl rfl,by simp only[VR]⟩
  ·cases d
 ·split at d
  ·next i=>cases d;simp only[VR]at f g;obtain⟨q,j,_,rfl⟩:=g;subst f;exact⟨_,uP (VU i _ _ _) rfl rfl,by simp only[VR]⟩
  ·cases d
 ·split at d
  ·next i=>cases d;simp only[VR]at f g;obtain⟨q,j,_,rfl⟩:=f;subst g;exact⟨_,uQ (VW i _ _ _) rfl rfl,by simp only[VR];rfl⟩
  ·cases d
 ·split at d
  ·next i=>cases d;simp only[VR]at f g;obtain⟨q,j,_,rfl⟩:=g;subst f;exact⟨_,uQ (VU i _ _ _) rfl rfl,by simp only[VR];rfl⟩
  ·cases d
 ·split at d
  ·next i=>cases d;simp only[VR]at f g;obtain⟨q,rfl,j⟩:=f;subst g;exact⟨_,uP (ahy i _ _) rfl rfl,by simp only[VR]⟩
  ·cases d
 ·split at d
  ·next i=>cases d;simp only[VR]at f g;obtain⟨q,rfl,j⟩:=g;subst f;exact⟨_,uP (ahA i _ _) rfl rfl,by simp only[VR]⟩
  ·cases d
 ·split at d
  ·next i=>cases d;simp only[VR]at f g;obtain⟨q,rfl,j⟩:=f;subst g;exact⟨_,uQ (ahy i _ _) rfl rfl,by simp only[VR];rfl⟩
  ·cases d
 ·split at d
  ·next i=>cases d;simp only[VR]at f g;obtain⟨q,rfl,j⟩:=g;subst f;exact⟨_,uQ (ahA i _ _) rfl rfl,by simp only[VR];rfl⟩
  ·cases d
 ·split at d
  ·next i=>cases d;simp only[VR]at f g;obtain⟨q,j,rfl⟩:=f;subst g;exact⟨_,uP (ahz i _) rfl rfl,by simp only[VR]⟩
  ·cases d
 ·split at d
  ·next i=>cases d;simp only[VR]at f g;obtain⟨q,j,rfl⟩:=g;subst f;exact⟨_,uP (ahB i _) rfl rfl,by simp only[VR]⟩
  ·cases d
 ·split at d
  ·next i=>cases d;simp only[VR]at f g;obtain⟨q,j,rfl⟩:=f;subst g;exact⟨_,uQ (ahz i _) rfl rfl,by simp only[VR];rfl⟩
  ·cases d
 ·split at d
  ·next i=>cases d;simp only[VR]at f g;obtain⟨q,j,rfl⟩:=g;subst f;exact⟨_,uQ (ahB i _) rfl rfl,by simp only[VR];rfl⟩
  ·cases d
 ·split at d
  ·next O=>subst O;simp only[VR]at f g;obtain⟨m,r,s,rfl⟩:=f;subst g;exact agB d r s (iG _) (iG _)
  ·cases d
 ·split at d
  ·next O=>subst O;simp only[VR]at f g;obtain⟨m,r,s,rfl⟩:=g;subst f;exact agB d (iG _) (iG _) r s
  ·cases d
 ·split at d
  ·next T U r s=>
   simp only[yH]at d;obtain⟨z,R,S⟩:=d;rw[Ea r f,Ea s g];exact⟨z,D6 R w,FI _ _ _ S⟩
  ·cases d
def Ew(H:Env):Wo->List (Nat×Value)->Prop
 |[],b=>b=[]
 |(i,a)::l,b=>∃x rest,b=(i,x)::rest/\VR H a x/\Ew H l rest
def ahS(off:Nat):∀(l:Q6)(k:Nat)(cs:QR),
 (l.zipIdx k).foldl (λcs (c,j)=>cs.setIfInBounds (off+j) c) cs=setFrom cs (off+k) l
 |[],_,_=>rfl
 |v::l,k,cs=>by simp only[List.zipIdx_cons,List.foldl_cons];rw[ahS off l (k+1)];rfl
def aEw{c g vs:Q3}{off:Nat}{cs:QR}{xs:Q6}(h:CP c off vs=some g)(i:aG H c cs.toList)(j:aG H vs xs):aG H g (setFrom cs off xs).toList:=by
 obtain⟨o,p,l⟩:=Yh h;have m:=i.length;have n:=j.length;simp only[MC]at m;refine aG.of ?_ λk a b=>?_
 ·have:=O6 xs cs off;simp only[MC];omega
 ·rw[l]at b;rw[yA,Yg _ _ _ _ ah];split at b
  ·next q=>
   rw[au ah];obtain⟨x,d,f⟩:=j.at b;exact⟨x,d,f⟩
  ·rw[aj ah];obtain⟨x,d,f⟩:=i.at b;rw[yA]at d;exact⟨x,d,f⟩
def NT{d:Nat->Option (Nat×Nat)}:∀{m:Wo}{qs:List (Nat×Value)}{c k:Q3}{cs:QR},
 Dc d c m=some k->Ew H m qs->aG H c cs.toList->∃f,Instr.fill d cs qs=some f/\aG H k f.toList
 |[],qs,c,k,cs,h,g,l=>by simp only[Ew]at g;subst g;simp only[Dc,bD]at h;subst h;exact⟨cs,rfl,l⟩
 |(i,a)::m,qs,c,k,cs,h,g,l=>by
  simp only[Ew]at g;obtain⟨x,rest,rfl,u,g⟩:=g;unfold Dc at h;split at h
  ·cases h
  ·next n q o=>
   split at h
   ·next v=>
    split at h
    ·next B r=>
     have b:=BL u;have j:=b.length;have y:=aEw r l b;obtain⟨D,_,_⟩:=Yh r;have p:=l.length;simp only[MC]at j p;obtain⟨f,z,A⟩:=NT h g y;refine⟨f,?_,A⟩;unfold Instr.fill;simp only[o];rw[aj (by simp;omega)];rw[<-z];congr 1;have s:=ahS n x.cells.toList 0 cs;rw[qg]at s;rw[<-s,<-Array.foldl_toList,Array.toList_zipIdx]
    ·cases h
   ·cases h
def aaI{c:QQ}{U:Operand->Value}(d:∀x a,c x=some a->VR H a (U x)):∀{l:List (Nat×Operand)}{b:Wo},
 H8 c l=some b->Ew H b (l.map λ(i,x)=>(i,U x))
 |[],b,h=>by simp[H8]at h;subst h;simp[Ew]
 |(i,x)::l,b,h=>by
  unfold H8 at h;split at h
  ·next v r f g=>
   cases h;exact⟨U x,_,rfl,d _ _ f,aaI d g⟩
  ·cases h
def NQ{b:QQ}{U:Operand->Value}(c:∀x a,b x=some a->VR H a (U x)):∀{l:List Operand}{vs:Q3},
 DC b l=some vs->aG H vs (l.map U)
 |[],vs,h=>by simp[DC]at h;subst h;simp[aG]
 |x::l,vs,h=>by
  unfold DC at h;split at h
  ·next v r d f=>
   cases h;exact aG.cons (c _ _ d) (NQ c f)
  ·cases h
def ajS:∀{fs:List Field}{a:WF},Tz P fs=some a->(fs.mapM λf=>do pure (f.offset,<-sizeOf f.type):Sem WF).run P w=.ok a w
 |[],a,h=>by simp[Tz]at h;subst h;rfl
 |f::fs,a,h=>by
  unfold Tz at h;split at h
  ·next n r b c=>
   cases h;simp only[ae5,aY,jP b,aX,bQ,ajS c]
  ·cases h
def aoH{t:TypeId}{r:Wo}{qs:Array (Nat×Value)}{v:AV}(b:UF P t r=some v)(s:Ew H r qs.toList):
 ∃y,(Instr.build t qs).run P w=.ok y w/\VR H v y:=by
 unfold UF at b;split at b
 ·next zero d k l=>
  obtain⟨z,m,g⟩:=IU k;split at b
  ·next a o=>
   simp only[bI]at b;obtain⟨c,p,rfl⟩:=b;obtain⟨j,h,q⟩:=NT p s (g H);refine⟨.agg j,?_,by simp only[VR];exact⟨j.toList,rfl,q⟩⟩;have A:(d.mapM λf=>do pure (f.offset,<-sizeOf f.type):Sem (Array (Nat×Nat))).run P w=.ok ⟨a⟩ w:=by rw[Y6];simp only[Zp,ajS o,aX]
   simp only[Instr.build,aY,m,aX,bF l,A];have:(λi:Nat=>(⟨a⟩:Array (Nat×Nat))[i]?)=λi:Nat=>a[i]?:=by funext i;simp
   rw[this,h];rfl
  ·cases b
 ·next zero n u k l=>
  obtain⟨z,m,g⟩:=IU k;split at b
  ·next x B=>
   simp only[bI]at b;obtain⟨c,p,rfl⟩:=b;obtain⟨j,h,q⟩:=NT p s (g H);refine⟨.agg j,?_,by simp only[VR];exact⟨j.toList,rfl,q⟩⟩;simp only[Instr.build,aY,m,aX,bF l,jP B,h];rfl
  ·cases b
 ·cases b
def ax6{t:TypeId}{a:AV}{x:Value}(h:Ku P t=some false)(b:VR H a x):∃y,(Instr.makeInterface t x).run P w=.ok y w/\VR H (.jM t a) y:=by
 unfold Ku at h;split at h<;>cases h
 next d c f=>
 refine⟨.iface t x,?_,by simp only[VR];exact⟨x,rfl,b⟩⟩;simp only[Instr.makeInterface,aY,bF f,aX];cases d<;>simp_all
def Y3{t:TypeId}{i:TypeInfo}{z:Value}{a:AV}(hi:P.info? t=some i)(b:i.zero=some z)(c:oH 4 z=some a):(zeroValue t).run P w=.ok z w/\VR H a z:=
 ⟨by simp[zeroValue,IQ hi,b],FI _ _ _ c⟩
def aGa{t r:TypeId}{a v:AV}{x:Value}{ok:Bool}(c:UW P a t ok=some v)(k:VR H a x):
 ∃y,(Instr.typeAssert x r t ok).run P w=.ok y w/\VR H v y:=by
 unfold UW at c;split at c
 ·next u b hi=>
  simp only[VR]at k;obtain⟨y,rfl,q⟩:=k;have l:∃d,P.underlying t=some d/\∀h,d≠.interface h:=by
   unfold Ku at hi;split at hi<;>cases hi
   next d f g=>exact⟨d,g,λh e=>f h e⟩
  obtain⟨d,g,f⟩:=l;split at c
  ·next e=>
   cases c;subst e;refine⟨if ok then .tuple #[y,.bool true]else y,?_,?_⟩
   ·simp only[Instr.typeAssert,aY,bF g,aX];cases d<;>simp_all
   ·cases ok
    ·simpa using q
    ·simp only[VR];exact⟨[y,.bool true],rfl,aG.cons q (aG.cons (by simp[VR]) (by simp[aG]))⟩
  ·next e=>
   split at c
   ·next j=>
    split at c
    ·next i m=>
     split at c
     ·next z n=>
      simp only[bI]at c;obtain⟨a,o,rfl⟩:=c;obtain⟨s,p⟩:=Y3 (w:=w) (H:=H) m n o;refine⟨.tuple #[z,.bool false],?_,?_⟩
      ·subst j;simp only[Instr.typeAssert,aY,bF g,aX];have A:¬u=t:=e;cases d<;>simp_all
      ·simp only[VR];exact⟨[z,.bool false],rfl,aG.cons p (aG.cons (by simp[VR]) (by simp[aG]))⟩
     ·cases c
    ·cases c
   ·cases c
 ·next hi=>
  simp only[VR]at k;subst k;have l:∃d,P.underlying t=some d/\∀h,d≠.interface h:=by
   unfold Ku at hi;split at hi<;>cases hi
   next d f g=>exact⟨d,g,λh e=>f h e⟩
  obtain⟨d,g,f⟩:=l;split at c
  ·next j=>
   split at c
   ·next i m=>
    split at c
    ·next z n=>
     simp only[bI]at c;obtain⟨a,o,rfl⟩:=c;obtain⟨s,p⟩:=Y3 (w:=w) (H:=H) m n o;refine⟨.tuple #[z,.bool false],?_,?_⟩
     ·subst j;simp only[Instr.typeAssert,aY,bF g,aX];cases d<;>simp_all
     ·simp only[VR];exact⟨[z,.bool false],rfl,aG.cons p (aG.cons (by simp[VR]) (by simp[aG]))⟩
    ·cases c
   ·cases c
  ·cases c
 ·cases c
def atX{l:Q3}{k:Nat}{v:AV}{x:Value}(b:l[k]? =some v)(a:VR H (.fK l) x):∃y,(Instr.extract x k).run P w=.ok y w/\VR H v y:=by simp only[VR]at a;obtain⟨g,rfl,c⟩:=a;obtain⟨y,d,f⟩:=c.at b;exact⟨y,by simp[Instr.extract,d],f⟩
def JA(s a:Q0):((⟨⟨s⟩⟩:ByteArray)==⟨⟨a⟩⟩)=(s==a):=by
 show ByteArray.beq _ _=_
 unfold ByteArray.beq;simp
def ai9{kd:TypeDesc}{a b:AV}{x y:Value}{r:Bool}(f:match kd,a with|.int _,.i _ _|.int _,.z _ _ _|.string,.s _|.bool,.b _=>True|_,_=>False)(h:abD a b=some r)(c:VR H a x)(d:VR H b y):
 Instr.sameNow kd x y=some r:=by
 unfold abD at h;split at h
 ·next k n g j=>
  simp only[VR]at c d;subst c;subst d;cases kd<;>simp at f
  simp only[Instr.sameNow];split at h
  ·next e=>rw[au e];exact h
  ·cases h
 ·next s i=>
  simp only[VR]at c d;subst c;subst d;cases kd<;>simp at f
  simp only[Instr.sameNow];rw[<-h,JA]
 ·next s i=>
  simp only[VR]at c d;subst c;subst d;cases kd<;>simp at f
  simp only[Instr.sameNow];exact h
 ·next k lo hi g n=>
  simp only[VR]at c d;obtain⟨m,l,o,rfl⟩:=c;subst d;cases kd<;>simp at f
  split at h
  ·next e=>
   cases h;obtain⟨e,p⟩:=e;simp only[Instr.sameNow];rw[au e];have:m≠n:=ah;simp[this]
  ·cases h
 ·cases h
def CZ(H:Env)(es:XX)(a:List MapEntry):Prop:=
 a.length=es.length/\∀(k:Nat) e,es[k]? =some e->∃m,a[k]? =some m/\VR H e.1 m.key/\VR H e.2 m.val
def CZ.tail{e:AV×AV}{es:XX}{a:List MapEntry}(h:CZ H (e::es) a):∃m rest,a=m::rest/\VR H e.1 m.key/\VR H e.2 m.val/\CZ H es rest:=by
 obtain⟨b,c⟩:=h;cases a with
 |nil=>simp at b
 |cons m rest=>obtain⟨l,d,f,g⟩:=c 0 e aA;simp at d;subst d;exact⟨m,rest,rfl,f,g,by simpa using b,λk i j=>by simpa using c (k+1) i (by simpa using j)⟩
def MH(kd:TypeDesc)(a:AV):Prop:=match kd,a with|.int _,.i _ _|.int _,.z _ _ _|.string,.s _|.bool,.b _=>True|_,_=>False
def find_ok{kd:TypeDesc}{k:AV}{x:Value}(n:MH kd k)(o:VR H k x):∀{es:XX}{g:List MapEntry}{i:Nat}{r:Option (Nat×AV)},
 JY k es i=some r->CZ H es g->∃l,Instr.findNow kd x g i=some l/\(match r,l with|none,none=>True|some (j,v),some (A,y)=>j=A/\i<=j/\j<i+es.length/\VR H v y|_,_=>False)
 |[],g,i,r,h,p=>by
  simp only[JY,bD]at h;subst h;have:g=[]:=by have:=p.1;cases g<;>simp_all
  subst this;exact⟨none,rfl,trivial⟩
 |e::es,g,i,r,h,p=>by
  obtain⟨m,u,rfl,z,B,D⟩:=p.tail;unfold JY at h;split at h
  ·next q=>
   cases h;have s:=ai9 (kd:=kd) n q o z;exact⟨some (i,m.val),by simp[Instr.findNow,s],rfl,dP _,aA,B⟩
  ·next q=>
   have s:=ai9 (kd:=kd) n q o z;obtain⟨l,E,f⟩:=find_ok n o h D;refine⟨l,by simp[Instr.findNow,s,E],?_⟩;cases r<;>cases l<;>simp only at f⊢
   obtain⟨a,b,c,d⟩:=f;exact⟨a,ah,by simp;omega,d⟩
  ·cases h
def ahN{t:TypeId}{k:AV}(h:V8 P t k=true):∃kd,P.underlying t=some kd/\MH kd k:=by
 unfold V8 at h;split at h
 ·next a=>exact⟨_,a,trivial⟩
 ·next a=>exact⟨_,a,trivial⟩
 ·next a=>exact⟨_,a,trivial⟩
 ·next a=>exact⟨_,a,trivial⟩
 ·cases h
def ags{t:TypeId}{k:AV}{x:Value}{kd:TypeDesc}(c:P.underlying t=some kd)(d:MH kd k)(a:VR H k x)(b:Bool):(Instr.checkKey b 10000 t x).run P w=.ok () w:=by
 have f:∀n:Nat,(Instr.checkKey b (n+1) t x).run P w=.ok () w:=λn=>by cases kd<;>cases k<;>simp only[MH]at d<;>simp only[VR]at a<;>(first|subst a|obtain⟨_,_,_,rfl⟩:=a)<;>simp only[Instr.checkKey,aY,bF c,aX,bQ]
 exact f 9999
def vN(a et:TypeId)(y:Value)(ok:Bool)(es:Array MapEntry):Sem Value:=do
 Instr.checkKey es.isEmpty 10000 a y
 let(v,k) <-match <-Instr.findKey a y es.toList with
  |some (_,v)=>pure (v,true)
  |none=>pure (<-zeroValue et,false)
 pure (if ok then .tuple #[v,.bool k]else v)
def lookup_nil{t a et:TypeId}(b:P.underlying t=some (.map a et))(y:Value)(ok:Bool):(Instr.lookup t (.map none) y ok).run P w=(vN a et y ok #[]).run P w:=by simp only[Instr.lookup,vN,aY,bF b,aX,bQ];congr 1
def Xo{t c et:TypeId}(d:P.underlying t=some (.map c et))(y:Value)(ok:Bool){r:Nat}{b:Array MapEntry}{a:Nat}(f:w.heap[r]? =some (.map b a)):
 (Instr.lookup t (.map (some r)) y ok).run P w=(vN c et y ok b).run P w:=by
 have g:(getObj r).run P w=.ok (.map b a) w:=by simp[getObj,Sem.run,f]
 simp only[Instr.lookup,vN,aY,bF d,aX,bQ,g];congr 1
def axY(h:SR P H F w){t:TypeId}{m k v:AV}{x y:Value}{ok:Bool}(d:UL P t m k ok F=some v)(G:VR H m x)(Q:VR H k y):
 ∃z,(Instr.lookup t x y ok).run P w=.ok z w/\VR H v z:=by
 unfold UL at d;split at d
 ·next I X R=>
  split at d
  ·next es f=>
   split at d
   ·next s=>
    obtain⟨kd,S,T⟩:=ahN s;have L:∃o:Array MapEntry,(Instr.lookup t x y ok).run P w=(vN I X y ok o).run P w/\CZ H es o.toList:=by
     split at f
     ·cases f;simp only[VR]at G;subst G;exact⟨#[],lookup_nil R y ok,by simp[CZ]⟩
     ·next id=>
      simp only[VR]at G;obtain⟨q,Y,rfl⟩:=G;split at f
      ·next Z hg=>
       cases f;obtain⟨q',A,o,M,hb,N,hp⟩:=h.obj _ _ hg rfl;rw[Y]at A;cases A;refine⟨o,Xo R y ok hb,by simpa using N,λk e hk=>?_⟩;obtain⟨m,hm,n,g⟩:=hp k e hk;exact⟨m,by simpa using hm,n,g⟩
      ·cases f
     ·cases f
    obtain⟨o,B,O⟩:=L;rw[B];have D:∀b,(Instr.checkKey b 10000 I y).run P w=.ok () w:=λb=>ags S T Q b;have E:∀r,JY k es 0=some r->∃l,(Instr.findKey I y o.toList).run P w=.ok l w/\(match r,l with|none,none=>True|some (j,v),some (U,y)=>j=U/\0<=j/\j<0+es.length/\VR H v y|_,_=>False):=λr hr=>by obtain⟨l,n,g⟩:=find_ok T Q hr O;exact⟨l,by simp only[Instr.findKey,aY,bF S,aX,n,bQ],g⟩
    split at d
    ·next j u c=>
     cases d;obtain⟨l,n,g⟩:=E _ c;cases l with
     |none=>exact g.elim
     |some p=>
      obtain⟨U,z⟩:=p;obtain⟨rfl,_,_,V⟩:=g;refine⟨if ok then .tuple #[z,.bool true]else z,?_,?_⟩
      ·simp only[vN,aY,aX,D,n,bQ]
      ·cases ok
       ·simpa using V
       ·simp only[VR];exact⟨[z,.bool true],rfl,aG.cons V (aG.cons (by simp[VR]) (by simp[aG]))⟩
    ·next c=>
     obtain⟨l,n,g⟩:=E _ c;cases l with
     |some p=>exact g.elim
     |none=>
      split at d
      ·next i sK=>
       split at d
       ·next z hz=>
        simp only[bI]at d;obtain⟨a,ha,rfl⟩:=d;obtain⟨h3,W⟩:=Y3 (w:=w) (H:=H) sK hz ha;refine⟨if ok then .tuple #[z,.bool false]else z,?_,?_⟩
        ·simp only[vN,aY,aX,D,n,h3,bQ]
        ·cases ok
         ·simpa using W
         ·simp only[VR];exact⟨[z,.bool false],rfl,aG.cons W (aG.cons (by simp[VR]) (by simp[aG]))⟩
       ·cases d
      ·cases d
    ·cases d
   ·cases d
  ·cases d
 ·cases d
def aEn{k:AV}{x y:Value}{kd:TypeDesc}(c:MH kd k)(b:VR H k x)(a:Instr.sameNow kd x y=some true)(n:Nat):Instr.sameBits (n+1) y x=true:=by
 cases kd<;>cases k<;>simp only[MH]at c<;>simp only[VR]at b<;>(first|subst b|obtain⟨_,_,_,rfl⟩:=b)<;>cases y<;>simp only[Instr.sameNow,bD,reduceCtorEq]at a
 ·simp_all [Instr.sameBits]
 ·split at a
  ·simp_all [Instr.sameBits]
  ·cases a
 ·split at a
  ·simp_all [Instr.sameBits]
  ·cases a
 ·next s d=>
  obtain⟨⟨l⟩⟩:=d;rw[JA]at a;simp only[Instr.sameBits,JA];simp_all
def EL(h:SR P H F w){c:Q3}{xs:QR}{elem:TypeId}{opn:Bool}{es:Nat}(l:aG H c (xs.toList.take c.length))(f:c.length<=xs.size)(b:opn=false->c.length=xs.size)
 (d:opn=true->elem≠0/\0<es/\sizeT P elem=some es):
 St P H F w (H.put F.next ⟨w.heap.size,0,xs.size,es⟩) (F.new (.cells c elem true opn)) {w with heap:=w.heap.push (.cells xs elem)}:=by
 refine St.alloc h _ _ _ rfl ?_;refine⟨xs,elem,(0,0),aA,?_⟩;refine {fits:=aA,le:=f,shut:=b,cell:=?_,free:=λ_ k _=>aA,whole:=λ_=>⟨rfl,aA,λ_=>rfl⟩,room:=d};intro k a i;obtain⟨x,j,m⟩:=l.at i;have g:k<c.length:=(gy.1 i).1;rw[oh,au g]at j;exact⟨x,by simpa using j,VR.mono (Env.IK h _) _ _ m⟩
def akl{q:Place}{id:Nat}(h0:q.ba=0):VR (H.put id q) (.p id 0) (.pointer (some ⟨q.bl,0,none⟩)):=by simp only[VR];exact⟨q,by simp[Env.put],by simp[h0]⟩
def aoi(h:SR P H F w){t:TypeId}{z:Q3}(c:Bg P t=some z):
 ∃y w' H',(Instr.alloc t true (.tuple #[])).run P w=.ok y w'/\St P H F w H' (F.new (.cells z t true false)) w'/\VR H' (.p F.next 0) y:=by
 obtain⟨d,f,a⟩:=IU c;have b:=(a H).length;refine⟨_,_,_,?_,EL h (xs:=d.cells) (es:=0) (opn:=false) ?_ (by simpa using MV b) (λ_=>by simpa using b) aA,akl rfl⟩
 ·simp only[Instr.alloc,aY,f,aX,newVar,newRow,newObj,Sem.run,bQ]
 ·rw[b,Bv];exact a H
def afX(h:SR P H F w){t:TypeId}{a:AV}{x:Value}(d:VR H a x):
 ∃y w' H',(Instr.box t x).run P w=.ok y w'/\St P H F w H' (F.new (.cells a.cells t true false)) w'/\VR H' (.p F.next 0) y:=by
 have c:=BL d;have b:=c.length;refine⟨_,_,_,?_,EL h (xs:=x.cells) (es:=0) (opn:=false) ?_ (by simpa using MV b) (λ_=>by simpa using b) aA,akl rfl⟩
 ·simp only[Instr.box,aY,aX,newVar,newRow,newObj,Sem.run,bQ]
 ·rw[b,Bv];exact c
def Dz{t e:TypeId}{size bytes:Nat}{z:Q3}(h:yR P t=some (e,size,bytes,z)):
 P.underlying t=some (.slice e)/\(∃i,P.info? e=some i/\i.size=size/\i.bytes=bytes)/\Bg P e=some z/\e≠0/\z.length=size/\sizeT P e=some size:=by
 unfold yR at h;split at h
 ·next d b=>
  split at h
  ·next i f hi c=>
   split at h
   ·next a=>
    cases h;exact⟨b,⟨i,hi,rfl,rfl⟩,c,a.1,a.2,by simp[sizeT,hi]⟩
   ·cases h
  ·cases h
 ·cases h
def alH{z:Q3}:∀(n k:Nat),k<n*z.length->(kC n z)[k]? =z[k%z.length]?
 |0,k,h=>by simp at h
 |n+1,k,h=>by
  have b:kC (n+1) z=z++kC n z:=by simp[kC,PY]
  rw[b];have c:0<z.length:=by rcases Uw z.length with e|e<;>simp_all
  by_cases a:k<z.length
  ·rw[pF a,P5 a]
  ·rw[yD ah,alH n (k-z.length) (by rw[Nat.succ_mul]at h;omega)];congr 1;have:k=(k-z.length)+z.length:=ah;rw[this,Nat.add_mod_right];congr 1;omega
def XW{z:Q3}(n:Nat):(kC n z).length=n*z.length:=by simp[kC]
def Ue{z:Q3}{b:QR}{n size:Nat}(i:aG H z b.toList)(j:z.length=size):aG H (kC n z) ((Array.range (n*size)).map (b[· % b.size]!)).toList:=by
 have f:=i.length;simp only[MC]at f;refine aG.of ?_ λk a g=>?_
 ·rw[XW];simp[j]
 ·have c:k<n*z.length:=by have:=(gy.1 g).1;rwa [XW]at this
  rw[alH n k c]at g;obtain⟨x,d,l⟩:=i.at g;refine⟨x,?_,l⟩;have h:k<n*size:=by rw[<-j];exact c
  rw[yA]at d;rw[yA,Array.getElem?_map,Array.getElem?_range,au h];have m:k%b.size<b.size:=by have:=(tH.1 d).1;rwa [f]at this
  rw[f]at d;simp[m,getElem!_pos];have:=(tH.1 d).2;exact this
