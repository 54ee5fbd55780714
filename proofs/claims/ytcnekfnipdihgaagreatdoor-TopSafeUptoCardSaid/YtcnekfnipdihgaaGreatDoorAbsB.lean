/- The operations, one by one: what the model's operation does where the evaluator's answers. -/
import Derived.Test.YtcnekfnipdihgaaGreatDoorAbsA
import Derived.Lib.Builder
set_option linter.all false
namespace Go.aP
noncomputable section
variable[aJ]
variable{P:Program}{F:Env}{J J':aC}{w:World}
def bD{t:TypeId}{d:TypeDesc}(h:P.underlying t=some d):(underlying t).run P w=.ok d w:=by simp[underlying,program,Sem.run,h]
def jG{t:TypeId}{n:Nat}(h:sizeT P t=some n):(sizeOf t).run P w=.ok n w:=by simp only[sizeT,bG]at h;obtain⟨i,hi,rfl⟩:=h;simp[sizeOf,typeInfo,program,Sem.run,hi]
def KW{t:TypeId}{b:Bool}(h:pG P t=some b):(isAgg t).run P w=.ok b w:=by
 unfold pG at h;split at h<;>cases h
 ·next a=>simp[isAgg,bD a]
 ·next a=>simp[isAgg,bD a]
 ·next d a c f=>
  cases d<;>simp_all [isAgg,bD]
def Ie{t:TypeId}{i:TypeInfo}(h:P.info? t=some i):(typeInfo t).run P w=.ok i w:=by simp[typeInfo,program,Sem.run,h]
def aj0{v:Value}(h:qw v=true):v.cells =#[v]:=by cases v<;>simp[qw]at h<;>rfl
def GR.qw{ro:QP}{g:GV}{v:Value}(h:GR ro g v)(a:g.scalar=true):qw v=true:=by
 cases g<;>simp only[GR]at h
 case g cs=>cases a
 case l xs=>rcases h with⟨_,_,rfl⟩|⟨d,b,c,f,i,rfl,_⟩<;>rfl
 all_goals subst h;rfl
def AV.sym:AV->Bool
 |.nd _|.rx _ _|.sv _ _|.pv _ _ _|.pd _ _=>true
 |_=>false
def VR.amb{a:AV}{v:Value}(f:a.sym=true)(h:VR F a v):qw v=true:=by
 cases a<;>simp only[VR]at h<;>first|(cases f;done)|skip
 case nd n=>obtain⟨g,_,b,c⟩:=h;exact c.qw b
 case rx n off=>obtain⟨g,l,base,m,d,o,x,r,b,c,rfl,_⟩:=h;rfl
 case sv id n=>obtain⟨j,_,⟨q,_,_,rfl⟩|⟨_,_,rfl⟩⟩:=h<;>rfl
 case pv id n off=>obtain⟨q,k,i,_,_,rfl⟩:=h;rfl
 case pd id n=>obtain⟨j,p,_,rfl,_⟩:=h;rfl
def aoB{a:AV}{v:Value}(b:a.sym=true)(h:VR F a v):aG F a.cells v.cells.toList:=by
 have c:=aj0 (VR.amb b h);have d:a.cells=[a]:=by cases a<;>first|rfl|(cases b)
 rw[c,d];exact aG.cons h (by simp[aG])
def Bc{a:AV}{v:Value}(h:VR F a v):aG F a.cells v.cells.toList:=by
 by_cases s:a.sym=true
 ·exact aoB s h
 cases a<;>first|(exact absurd rfl s)|skip
 all_goals simp only[VR]at h
 case agg l=>obtain⟨o,rfl,d⟩:=h;simpa[AV.cells,Value.cells]using d
 case fG l=>obtain⟨o,rfl,d⟩:=h;simp only[AV.cells,Value.cells];exact aG.cons (by simp only[VR];exact⟨o,rfl,d⟩) (by simp[aG])
 case p id g=>obtain⟨q,i,rfl⟩:=h;exact aG.cons (by simp only[VR];exact⟨q,i,rfl⟩) (by simp[aG])
 case sl id g len cap=>obtain⟨q,i,r,rfl⟩:=h;exact aG.cons (by simp only[VR];exact⟨q,i,r,rfl⟩) (by simp[aG])
 case mp id=>obtain⟨q,i,rfl⟩:=h;exact aG.cons (by simp only[VR];exact⟨q,i,rfl⟩) (by simp[aG])
 case fn f fi u=>obtain⟨B,o,rfl,d,j⟩:=h;exact aG.cons (by simp only[VR];exact⟨B,o,rfl,d,j⟩) (by simp[aG])
 case jE t b=>obtain⟨x,rfl,d⟩:=h;exact aG.cons (by simp only[VR];exact⟨x,rfl,d⟩) (by simp[aG])
 case z k lo hi=>obtain⟨n,d,j,rfl⟩:=h;exact aG.cons (by simp only[VR];exact⟨n,d,j,rfl⟩) (by simp[aG])
 case ro l=>
  have y:VR F (.ro l) v:=by simp only[VR];exact h
  rcases h with⟨_,_,rfl⟩|⟨A,g,c,G,H,rfl,d⟩
  ·exact aG.cons y (by simp[aG])
  ·exact aG.cons y (by simp[aG])
 case rp a g=>obtain⟨A,base,u,m,D,x,d,j,rfl,E⟩:=h;exact aG.cons (by simp only[VR];exact⟨A,base,u,m,D,x,d,j,rfl,E⟩) (by simp[aG])
 all_goals subst h;exact aG.cons (by simp only[VR]) (by simp[aG])
def ab5{a:AV}{v:Value}(h:VR F a v)(r:a.pF=true):qw v=true:=by
 by_cases i:a.sym=true
 ·exact h.amb i
 cases a<;>first|(exact absurd rfl i)|skip
 all_goals simp only[VR]at h
 all_goals simp[AV.pF]at r
 case p id d=>obtain⟨q,j,rfl⟩:=h;rfl
 case sl id d len cap=>obtain⟨q,j,_,rfl⟩:=h;rfl
 case mp id=>obtain⟨q,j,rfl⟩:=h;rfl
 case fn f fi s=>obtain⟨y,A,rfl,g,m⟩:=h;rfl
 case jE t b=>obtain⟨x,rfl,g⟩:=h;rfl
 case z k lo hi=>obtain⟨n,g,m,rfl⟩:=h;rfl
 case ro l=>rcases h with⟨_,_,rfl⟩|⟨u,d,c,B,D,rfl,g⟩<;>rfl
 case rp a d=>obtain⟨u,base,s,o,E,x,g,m,rfl,G⟩:=h;rfl
 all_goals subst h;rfl
def Gy{xs:Qt}{sz:Nat}(h:∀x∈xs,x.cells.size=sz):(dR xs).length=xs.length*sz:=by
 induction xs with
 |nil=>simp[dR]
 |cons x xs a=>have b:=h x aA;have:=a λy c=>h y (by simp[c]);simp only[dR,kP,dM,ig]at this⊢;rw[this,uj,IX,L8];simp[b]
def af6{xs:Qt}{sz:Nat}(h:∀x∈xs,x.cells.size=sz)(i:Nat):(dR xs).drop (i*sz)=dR (xs.drop i):=by
 induction xs generalizing i with
 |nil=>simp[dR]
 |cons x xs a=>
  cases i with
  |zero=>simp
  |succ i=>
   have b:=h x aA;have:=a (λy c=>h y (by simp[c])) i;simp only[Y6];rw[<-this];simp only[dR,kP];have d:x.cells.toList.length=sz:=by simpa using b
   rw[show(i+1)*sz=x.cells.toList.length+i*sz by rw[d,uj,IX,L8]];rw[aeE,List.drop_of_length_le ah,aW,Zg]
def aox{xs:Qt}{sz:Nat}(h:∀x∈xs,x.cells.size=sz)(i:Nat):(dR xs).take (i*sz)=dR (xs.take i):=by
 induction xs generalizing i with
 |nil=>simp[dR]
 |cons x xs a=>
  cases i with
  |zero=>simp[dR]
  |succ i=>
   have b:=h x aA;have:=a (λy c=>h y (by simp[c])) i;simp only[AQ];simp only[dR,kP]at this⊢;have d:x.cells.toList.length=sz:=by simpa using b
   rw[show(i+1)*sz=x.cells.toList.length+i*sz by rw[d,uj,IX,L8]];rw[List.take_length_add_append,this]
def af4{xs:Qt}{sz i:Nat}{x:Value}(h:∀x∈xs,x.cells.size=sz)(hi:xs[i]? =some x)(k:Nat)(b:k<sz):(dR xs)[i*sz+k]? =x.cells[k]?:=by
 have c:=af6 h i;have a:=(fV.1 hi).1;have d:xs.drop i=x::xs.drop (i+1):=by rw[<-(fV.1 hi).2];exact iG a
 have:(dR xs)[i*sz+k]? =((dR xs).drop (i*sz))[k]?:=by rw[uh]
 rw[this,c,d];have f:=h x (sD hi);simp only[dR,kP];rw[oG (by simpa[f]using b)];simp
def Vg{a:AV}{v:Value}(h:VR F a v):a.cells.length=v.cells.size:=by have:=(Bc h).length;simpa using this
def aht{l:Q6}{xs:Qt}(h:aG F l xs):aG F (l.flatMap AV.cells) (dR xs):=by
 induction l generalizing xs with
 |nil=>simp only[aG]at h;subst h;simp[aG,dR]
 |cons a l b=>simp only[aG]at h;obtain⟨x,f,rfl,c,d⟩:=h;simp only[kP,dR];exact aG.append (Bc c) (b d)
def anH{l:Q6}{xs:Qt}{n:Nat}(h:aG F l xs)(f:l.all (λa=>a.cells.length==n)=true):∀x∈xs,x.cells.size=n:=by
 intro x g;obtain⟨k,c⟩:=Ze.1 g;have b:k<l.length:=by have:=(fV.1 c).1;have:=h.length;omega
 obtain⟨y,d,i⟩:=h.at (bV b);rw[c]at d;cases d;have:=List.all_eq_true.1 f _ (gY b);rw[<-Vg i];simpa using this
def aAP{l:Q6}{v:Value}(h:VR F (.ro l) v){i size:Nat}{a:AV}(hi:l[i]? =some a)(s:a.cells.length=size):
 ∃bl off c cs elem f x,v=.slice (some ⟨bl,off,none⟩) l.length c/\l.length<=c/\F.ro bl=some (.cells cs elem f)/\VR F a x/\off+i*size+x.cells.size<=cs.size/\Gx cs (off+i*size) x.cells.toList:=by
 simp only[VR]at h;rcases h with⟨rfl,_⟩|⟨bl,off,c,u,b,rfl,z,A,g,B⟩
 ·simp at hi
 obtain⟨x,j,p⟩:=A.at hi;obtain⟨cs,elem,f,D,G,E⟩:=B (by intro e;subst e;simp at hi);have m:=g x (sD j);have:b=size:=by rw[<-m,<-Vg p,s]
 subst this;have q:=Gy g;have n:=(fV.1 j).1;have d:(i+1)*b<=u.length*b:=uQ _ n;rw[uj,IX]at d;refine⟨bl,off,c,cs,elem,f,x,rfl,z,D,p,ah,λk y r=>?_⟩;have o:k<b:=by have:=(fV.1 r).1;simp at this;omega
 have:=E (i*b+k) y (by rw[af4 g j k o];simpa using r);rw[<-jV]at this;exact this
def Ig{t:TypeId}{b:Q6}(h:Aw P t=some b):∃z,(∀w,(zeroValue t).run P w=.ok z w)/\∀F:Env,aG F b z.cells.toList:=by
 unfold Aw at h;split at h
 ·next i hi=>
  split at h
  ·next z c=>
   simp only[bG]at h;obtain⟨a,d,rfl⟩:=h;exact⟨z,λw=>by simp[zeroValue,Ie hi,c],λF=>Bc (EW _ _ _ d)⟩
  ·cases h
 ·cases h
def uJ{l r:Q6}{off n:Nat}(h:takeN l off n=some r):r=(l.drop off).take n/\r.length=n/\(n=0\/off+n<=l.length):=by
 simp only[takeN]at h;split at h
 ·next a=>
  cases h;refine⟨rfl,a,?_⟩;simp at a;omega
 ·cases h
def amk{l r:Q6}{off n:Nat}(h:takeN l off n=some r){k:Nat}{a:AV}(b:r[k]? =some a):l[off+k]? =some a:=by
 obtain⟨rfl,_,_⟩:=uJ h;rw[mW]at b;split at b
 ·rw[uh]at b;exact b
 ·cases b
def uO.take{q:Place}{c:Q6}{et:TypeId}{rw opn:Bool}{cs:W2}{elem:TypeId}{a:Nat×Nat}(r:uO P F q c et rw opn cs elem a)
 {off n:Nat} {l:Q6} (h:takeN c off n=some l):q.ba+off+n<=cs.size\/n=0:=by
 obtain⟨_,_,b⟩:=uJ h;have:=r.fits;have:=r.le;omega
def uO.Ar{q:Place}{c:Q6}{et:TypeId}{rw opn:Bool}{cs:W2}{elem:TypeId}{i:Nat×Nat}(r:uO P F q c et rw opn cs elem i)
 {off n:Nat} {l:Q6} (h:takeN c off n=some l):aG F l ((cs.toList.drop (q.ba+off)).take n):=by
 obtain⟨o,d,p⟩:=uJ h;have s:=r.fits;have u:=r.le;refine aG.of ?_ λk a f=>?_
 ·simp;omega
 ·have j:=amk h f;obtain⟨x,g,m⟩:=r.cell _ _ j;refine⟨x,?_,m⟩;have b:k<n:=by have:=(fV.1 f).1;omega
  rw[mW,au b,uh];rw[<-jV]at g;simpa using g
def Fe{bl off n:Nat}{cs:W2}{elem:TypeId}{b:Nat×Nat}(h:w.heap[bl]? =some (.cells cs elem b))(a:off+n<=cs.size\/n=0):
 (loadCells ⟨bl,off,none⟩ n).run P w=.ok ⟨(cs.toList.drop off).take n⟩ w:=by
 rcases a with c|rfl
 ·exact run_loadCells h c
 ·simp[loadCells,loadCellsFrom]
def Hu(h:SR P F J w){t:TypeId}{a v:AV}{x:Value}(f:yj P t J a=some v)(g:VR F a x):
 ∃y,(Instr.loadAt t x).run P w=.ok y w/\VR F v y:=by
 unfold yj at f;split at f
 ·next id d=>
  split at f
  ·next c U rw I L=>
   obtain⟨q,M,i,j,N,m,r⟩:=h.obj _ _ L rfl;simp only[VR]at g;obtain⟨W,o,rfl⟩:=g;rw[M]at o;cases o;split at f
   ·next b=>
    split at f
    ·next n A=>
     simp only[bG]at f;obtain⟨l,z,rfl⟩:=f;refine⟨.agg ⟨(i.toList.drop (q.ba+d)).take n⟩,?_,?_⟩
     ·simp only[Instr.loadAt,Instr.sureAddr,aY,bP,aX,loadVar,KW b,if_true,jG A,xg];rw[Fe m (r.take z)];rfl
     ·simp only[VR];exact⟨_,rfl,r.Ar z⟩
    ·cases f
   ·next b=>
    obtain⟨x,g,B⟩:=r.cell _ _ f;refine⟨x,?_,B⟩;simp only[Instr.loadAt,Instr.sureAddr,aY,bP,aX,loadVar,KW b,xg];exact alm m g
   ·cases f
  ·cases f
 ·next e d=>
  simp only[VR]at g;obtain⟨X,base,i,j,N,x,O,G,rfl,Y,H⟩:=g;have m:=h.jl _ _ O;have p:=Bc G;have Q:=Vg G;split at f
  ·next b=>
   split at f
   ·next n A=>
    simp only[bG]at f;obtain⟨l,z,rfl⟩:=f;obtain⟨D,R,S⟩:=uJ z;have s:base+d+n<=i.size\/n=0:=ah;refine⟨.agg ⟨(i.toList.drop (base+d)).take n⟩,?_,?_⟩
    ·simp only[Instr.loadAt,Instr.sureAddr,aY,bP,aX,loadVar,KW b,if_true,jG A,xg];rw[Fe m s];rfl
    ·simp only[VR];refine⟨_,rfl,?_⟩;have E:(i.toList.drop (base+d)).take n=(x.cells.toList.drop d).take n:=by
      apply IK;intro k;rw[mW,mW];split
      ·next Z=>
       rw[uh,uh];have u:d+k<x.cells.toList.length:=by simp;omega
       have:=H (d+k) _ (bV u);rw[bV u,xR,jV];exact this
      ·rfl
     rw[E,D];exact(p.drop d).take n
   ·cases f
  ·next b=>
   obtain⟨y,T,B⟩:=p.at f;refine⟨y,?_,B⟩;simp only[Instr.loadAt,Instr.sureAddr,aY,bP,aX,loadVar,KW b,xg];exact alm m (H d y T)
  ·cases f
 ·cases f
def Yf{l a vs:Q6}{off:Nat}(h:BP l off vs=some a):off+vs.length<=l.length/\a.length=l.length/\
 ∀(k:Nat),a[k]? =if off<=k/\k<off+vs.length then vs[k-off]? else l[k]?:=by
 unfold BP at h;split at h
 ·next b=>
  cases h;refine⟨b,by simp;omega,λk=>?_⟩;by_cases c:k<off
  ·rw[aj ah,List.append_assoc,oG (by simp;omega),mW,au c]
  ·by_cases d:k<off+vs.length
   ·rw[au ⟨ah,d⟩,oG (by simp;omega),xW (by simp;omega)];simp;congr 1;omega
   ·rw[aj ah,xW (by simp;omega),uh];congr 1;simp;omega
 ·cases h
def YT(h:SR P F J w){id off:Nat}{c p:Q6}{et:TypeId}{opn:Bool}{vs:Q6}{xs:Qt}{q:Place}(s:J.get id=some (.cells c et true opn))(D:J.lock<=id)
 (u:F id=some q) (E:BP c off vs=some p) (m:aG F vs xs) (g:vs.all AV.pF=true):
 ∃w',(storeCells ⟨q.bl,q.ba+off,none⟩ xs).run P w=.ok () w'/\St P F J w F (J.put id (.cells p et true opn)) w':=by
 obtain⟨R,i,G,f,v,z,r⟩:=h.obj _ _ s rfl;rw[u]at i;cases i;obtain⟨S,H,I⟩:=Yf E;have A:=m.length;have L:=r.fits;have M:=r.le;have n:∀x∈xs,qw x=true:=by
  intro x o;obtain⟨k,d⟩:=Ze.1 o;have j:k<vs.length:=by have:=(fV.1 d).1;omega
  obtain⟨y,B,N⟩:=m.at (bV j);rw[d]at B;cases B;exact ab5 N (List.all_eq_true.1 g _ (gY j))
 have l:=adr (P:=P) xs w q.bl (q.ba+off) 0 G f v z ah n (λk a b=>by have:=r.free rfl (k-q.ba) ah;rw[Ui ah]at this;exact this)
 refine⟨_,l,?_⟩;refine St.write h s rfl D u Fj (λk d=>Fh d) rfl rfl rfl ?_;refine⟨_,f,v,DJ z,?_⟩;refine {fits:=by rw[OQ];exact L,le:=ah,shut:=λe=>by rw[H];exact r.shut e,cell:=?_,free:=λe=>r.free e,whole:=λe=>by rw[OQ];exact r.whole e,room:=r.room};intro k a d;rw[I]at d;rw[Ye _ _ _ _ ah];split at d
 ·next O=>
  rw[au ah];obtain⟨x,o,Q⟩:=m.at d;refine⟨x,?_,Q⟩;rw[<-o];congr 1;omega
 ·next O=>
  rw[aj ah];exact r.cell k a d
def Yo(h:SR P F J w){t:TypeId}{a v:AV}{x y:Value}(d:Gi P t J a v=some J')(l:VR F a x)(m:VR F v y):
 ∃w',(Instr.storeAt t x y).run P w=.ok () w'/\St P F J w F J' w':=by
 unfold Gi at d;split at d
 ·next id n=>
  split at d
  ·next c A o p=>
   split at d
   ·next r=>
    obtain⟨s,j,f⟩:=r;simp only[bG]at d;obtain⟨B,u,rfl⟩:=d;simp only[VR]at l;obtain⟨q,z,rfl⟩:=l;have b:=Bc m;obtain⟨w',g,k⟩:=YT h p s z u b f;refine⟨w',?_,k⟩;have i:=b.length;simp only[Instr.storeAt,Instr.sureAddr,aY,bP,aX,storeVar,jG j,xg];rw[aj (by simp at i⊢;omega)];simpa using g
   ·cases d
  ·cases d
 ·cases d
def AZ{a:AV}{n:Int}{x:Value}(h:yh a=some n)(b:VR F a x):∃k,x=.int k n:=by
 cases a<;>simp[yh]at h
 subst h;simp only[VR]at b;exact⟨_,b⟩
def DF{a:AV}{v:Value}{x:Value}(h:yM a=some v)(b:VR F a x):x=v:=ams 4 a v x h b
def aki{t:TypeId}{cs:Q6}{vs:Qt}{off:Nat}{v:AV}(h:UF P t cs off=some v)(b:aG F cs vs):
 ∃y,(part t ⟨vs⟩ off).run P w=.ok y w/\VR F v y:=by
 unfold UF at h;split at h
 ·next a=>
  split at h
  ·next n c=>
   simp only[bG]at h;obtain⟨l,d,rfl⟩:=h;refine⟨.agg ((⟨vs⟩:W2).extract off (off+n)),?_,?_⟩
   ·simp[part,KW a,jG c]
   ·simp only[VR];obtain⟨rfl,_,_⟩:=uJ d;refine⟨(vs.drop off).take n,?_,(b.drop off).take n⟩;simp
  ·cases h
 ·next a=>
  obtain⟨x,f,g⟩:=b.at h;refine⟨x,?_,g⟩;simp[part,KW a,f]
 ·cases h
def atS{t:TypeId}{a v:AV}{x:Value}{f:Nat}(h:Uw P t a f=some v)(c:VR F a x):
 ∃y,(Instr.field t x f).run P w=.ok y w/\VR F v y:=by
 unfold Uw at h;split at h
 ·next b l d=>
  split at h
  ·next m g=>
   simp only[VR]at c;obtain⟨n,rfl,i⟩:=c;obtain⟨y,j,k⟩:=aki (w:=w) h i;exact⟨y,by simp[Instr.field,bD d,g,asAgg,j],k⟩
  ·cases h
 ·cases h
def atQ{t:TypeId}{a v:AV}{x:Value}{f:Nat}(h:Ux P t a f=some v)(i:VR F a x):
 ∃y,(Instr.fieldAt t x f).run P w=.ok y w/\VR F v y:=by
 unfold Ux at h;split at h
 ·next c id d j=>
  split at h
  ·next k l=>
   split at h
   ·next n m=>
    split at h
    ·cases h
    ·next o=>
     cases h;simp only[VR]at i;obtain⟨q,r,rfl⟩:=i;refine⟨.pointer (some ⟨q.bl,q.ba+d+k.offset,none⟩),?_,?_⟩
     ·simp[Instr.fieldAt,bD j,l,Instr.sureAddr,fieldPlace,jG m,o,sK]
     ·simp only[VR];exact⟨q,r,by rw[jV]⟩
   ·cases h
  ·cases h
 ·next c b d j=>
  split at h
  ·next k l=>
   split at h
   ·next n m=>
    split at h
    ·cases h
    ·next o=>
     cases h;simp only[VR]at i;obtain⟨p,base,s,g,u,x,z,A,rfl,B⟩:=i;refine⟨.pointer (some ⟨p,base+d+k.offset,none⟩),?_,?_⟩
     ·simp[Instr.fieldAt,bD j,l,Instr.sureAddr,fieldPlace,jG m,o,sK]
     ·simp only[VR];exact⟨p,base,s,g,u,x,z,A,by rw[jV],B⟩
   ·cases h
  ·cases h
 ·cases h
def Ru{t:TypeId}{a i v:AV}{x y:Value}(h:zT P t a i=some v)(j:VR F a x)(s:VR F i y):
 ∃z,(Instr.indexAt t x y).run P w=.ok z w/\VR F v z:=by
 unfold zT at h;split at h
 ·next e id f len M k m n=>
  obtain⟨u,rfl⟩:=AZ n s;split at h
  ·next d o=>
   split at h
   ·next p=>
    cases h;simp only[VR]at j;obtain⟨q,A,N,rfl⟩:=j;refine⟨.pointer (some ⟨q.bl,q.ba+f+k.toNat*d,none⟩),?_,?_⟩
    ·simp[Instr.indexAt,asIntOf,bD m,jG o,p,sK]
    ·simp only[VR];exact⟨q,A,by rw[jV]⟩
   ·cases h
  ·cases h
 ·next len e id f k m n=>
  obtain⟨u,rfl⟩:=AZ n s;split at h
  ·next d o=>
   split at h
   ·next p=>
    cases h;simp only[VR]at j;obtain⟨q,A,rfl⟩:=j;refine⟨.pointer (some ⟨q.bl,q.ba+f+k.toNat*d,none⟩),?_,?_⟩
    ·simp[Instr.indexAt,asIntOf,bD m,jG o,p,sK,Instr.sureAddr]
    ·simp only[VR];exact⟨q,A,by rw[jV]⟩
   ·cases h
  ·cases h
 ·next e l k m n=>
  obtain⟨u,rfl⟩:=AZ n s;split at h
  ·next d o=>
   split at h
   ·next O=>
    split at h
    ·next b L=>
     split at h
     ·next B=>
      cases h;obtain⟨r,f,c,D,g,E,x,rfl,S,G,H,I,Q⟩:=aAP j L B;have R:=(fV.1 L).1;have p:0<=k/\k<(l.length:Int):=⟨O,ah⟩
      refine⟨.pointer (some ⟨r,f+k.toNat*d,none⟩),?_,?_⟩
      ·simp[Instr.indexAt,asIntOf,bD m,jG o,p,sK]
      ·simp only[VR];exact⟨r,f+k.toNat*d,D,g,E,x,G,H,rfl,I,Q⟩
     ·cases h
    ·cases h
   ·cases h
  ·cases h
 ·next len e b f k m n=>
  obtain⟨u,rfl⟩:=AZ n s;split at h
  ·next d o=>
   split at h
   ·next p=>
    cases h;simp only[VR]at j;obtain⟨r,base,D,g,E,x,G,H,rfl,I⟩:=j;refine⟨.pointer (some ⟨r,base+f+k.toNat*d,none⟩),?_,?_⟩
    ·simp[Instr.indexAt,asIntOf,bD m,jG o,p,sK,Instr.sureAddr]
    ·simp only[VR];exact⟨r,base,D,g,E,x,G,H,by rw[jV],I⟩
   ·cases h
  ·cases h
 ·cases h
def auX(s:Q2)(k:Nat):((⟨⟨s⟩⟩:ByteArray)[k]?)=s[k]?:=by rw[getElem?_def,getElem?_def];rfl
def abo{t:TypeId}{a i v:AV}{x y:Value}(h:Gh P t a i=some v)(b:VR F a x)(g:VR F i y):
 ∃z,(Instr.index t x y).run P w=.ok z w/\VR F v z:=by
 unfold Gh at h;split at h
 ·next s k d f=>
  obtain⟨l,rfl⟩:=AZ f g;split at h
  ·next m=>
   split at h
   ·next c n=>
    cases h;simp only[VR]at b;subst b;refine⟨.int .u8 c.toNat,?_,by simp[VR]⟩;simp[Instr.index,asIntOf,bD d,m,auX,n]
   ·cases h
  ·cases h
 ·next len e A k d f=>
  obtain⟨l,rfl⟩:=AZ f g;split at h
  ·next j o=>
   split at h
   ·next p=>
    simp only[VR]at b;obtain⟨B,rfl,q⟩:=b;obtain⟨z,r,u⟩:=aki (w:=w) h q;exact⟨z,by simp[Instr.index,asIntOf,bD d,jG o,p,r],u⟩
   ·cases h
  ·cases h
 ·cases h
def mX(F:Env):Qf->Option Value->Prop
 |none,none=>True
 |some a,some x=>VR F a x
 |_,_=>False
def Gt{sl:Bool}{len cap:Nat}{i:Nat->Bool}{lo hi:Qf}{b d:WF}{l h:Nat}(m:y8 len i lo hi=some (l,h))(o:∀k,i k=true->k<=cap)(s:len<=cap)
 (f:mX F lo b) (g:mX F hi d):
 (Instr.sliceBounds sl len cap b d none).run P w=.ok (l,h,cap) w/\l<=h/\h<=cap:=by
 unfold y8 at m;split at m
 ·cases m
 next r e=>
 split at m
 ·cases m
 next y j=>
 simp only[bf,pU]at m;obtain⟨rfl,rfl⟩:=m;have z:∀c,(match d with|some v=>Instr.sliceBound v cap c|none=>pure len).run P w=.ok r w/\r<=cap:=by
  intro c;cases hi with
  |none=>cases d with
   |none=>simp[Cm]at e;subst e;exact⟨rfl,s⟩
   |some _=>exact g.elim
  |some a=>cases d with
   |none=>exact g.elim
   |some x=>
    simp only[Cm]at e;simp only[mX]at g;split at e
    ·next n u=>
     obtain⟨D,rfl⟩:=AZ u g;split at e
     ·next p=>
      cases e;have:=o _ p.2;refine⟨?_,this⟩;simp[Instr.sliceBound,asIntOf,p.1];intro q;omega
     ·cases e
    ·cases e
 have A:∀c,(match b with|some v=>Instr.sliceBound v r c|none=>pure 0).run P w=.ok y w/\y<=r:=by
  intro c;cases lo with
  |none=>cases b with
   |none=>simp[MH]at j;subst j;exact⟨rfl,sG _⟩
   |some _=>exact f.elim
  |some a=>cases b with
   |none=>exact f.elim
   |some x=>
    simp only[MH]at j;simp only[mX]at f;split at j
    ·next n u=>
     obtain⟨D,rfl⟩:=AZ u f;split at j
     ·next p=>
      cases j;refine⟨?_,ah⟩;simp[Instr.sliceBound,asIntOf,p.1];intro q;omega
     ·cases j
    ·cases j
 refine⟨?_,(A .index).2,(z .index).2⟩;unfold Instr.sliceBounds;have p:=z (if sl then .sliceAcap else .sliceAlen);have B:=A (if(none:WF).isSome then .slice3C else .sliceB);cases d<;>simp only[aY,bP,aX]at p B⊢<;>cases b<;>simp only[aY,bP,aX]at p B⊢<;>simp_all
def strSize(s:Q2):(⟨⟨s⟩⟩:ByteArray).size=s.length:=rfl
def al7(s:Q2)(l h:Nat):(⟨⟨s⟩⟩:ByteArray).extract l h=⟨⟨(s.take h).drop l⟩⟩:=by apply ByteArray.ext;rw[ByteArray.data_extract];apply Pv;simp[LW,List.extract_eq_take_drop]
def SV{a:Addr}{c:Nat}(d:a.spot=none:=by rfl):VR F (.ro []) (.slice (some a) 0 c):=by simp only[VR];obtain⟨f,b,g⟩:=a;simp only at d;subst d;right;exact⟨f,b,c,[],0,rfl,sG _,by simp[aG],aA,λh=>absurd rfl h⟩
def ae7{len:Nat}{a:Nat->Bool}{lo hi:Qf}{l h:Nat}(b:y8 len a lo hi=some (l,h))(c:∀k,a k=true->k<=len):h<=len:=by
 unfold y8 at b;split at b
 ·cases b
 ·next e=>
  split at b
  ·cases b
  ·cases b;cases hi with
   |none=>simp[Cm]at e;omega
   |some v=>
    simp only[Cm]at e;split at e
    ·split at e
     ·next d=>cases e;exact c _ d.2
     ·cases e
    ·cases e
def Yh(h:SR P F J w){t:TypeId}{a v:AV}{x:Value}{lo hi:Qf}{R S:WF}(b:CO P t J a lo hi=some v)(D:VR F a x)(o:mX F lo R)(p:mX F hi S):
 ∃y,(Instr.sliceAt t x R S none).run P w=.ok y w/\VR F v y:=by
 unfold CO at b;split at b
 ·next s z=>
  simp only[bG,MB]at b;obtain⟨l,f,i,rfl⟩:=b;simp only[VR]at D;subst D;have m:=Gt (P:=P) (w:=w) (sl:=false) (cap:=s.length) i (λk g=>by simpa using g) (dK _) o p;refine⟨.string ⟨⟨(s.take f).drop l⟩⟩,?_,by simp[VR]⟩;simp only[Instr.sliceAt,Instr.slice,bD z,aY,aX,strSize,aeX,iJ,if_false,m.1,bP,al7,xg]
 ·next e id d len u z=>
  simp only[VR]at D;obtain⟨q,H,E,rfl⟩:=D;split at b
  ·next j c A=>
   simp only[xZ,MB]at b;obtain⟨l,f,i,b⟩:=b;simp only[sH]at E⊢;have m:=Gt (P:=P) (w:=w) (sl:=true) (cap:=c) i (λk g=>by simpa using g) E o p;split at b
   ·next B=>
    cases b;subst B;refine⟨.slice (some ⟨q.bl,q.ba+d,none⟩) (f-c) 0,?_,?_⟩
    ·simp only[Instr.sliceAt,Instr.slice,bD z,aY,aX,m.1,jG A,bP,if_true,Ci]
    ·simp only[VR];exact⟨q,H,by simp;omega,rfl⟩
   ·next B=>
    cases b;refine⟨.slice (some ⟨q.bl,q.ba+d+l*j,none⟩) (f-l) (c-l),?_,?_⟩
    ·simp only[Instr.sliceAt,Instr.slice,bD z,aY,aX,m.1,jG A,bP,aj B,iH,sK]
    ·simp only[VR];exact⟨q,H,by simp;omega,by rw[jV];rfl⟩
  ·next j A=>
   split at b
   ·next c et rw hg=>
    split at b
    ·next Z=>
     simp only[xZ,MB]at b;obtain⟨l,f,i,b⟩:=b;obtain⟨q',T,cs,I,fr,ad,r⟩:=h.obj _ _ hg rfl;rw[H]at T;cases T;obtain⟨_,ae,G⟩:=r.room rfl;rw[Z,A]at G;cases G;simp only[uS]at E⊢;have m:=Gt (P:=P) (w:=w) (sl:=true) (cap:=(q.sz-d)/q.es) i (λk g=>by simp at g;omega) E o p;have Rj:f<=len:=by
      unfold y8 at i;split at i
      ·cases i
      ·next e=>
       split at i
       ·cases i
       ·cases i;cases hi with
        |none=>simp[Cm]at e;omega
        |some v=>
         simp only[Cm]at e;split at e
         ·split at e
          ·next U=>cases e;simpa using U.2
          ·cases e
         ·cases e
     have L:(q.sz-d)/q.es-l=(q.sz-(d+l*q.es))/q.es:=by rw[<-Nat.sub_sub,IW l,Nat.sub_mul_div]
     split at b
     ·next B=>
      cases b;refine⟨.slice (some ⟨q.bl,q.ba+d+l*q.es,none⟩) (f-l) ((q.sz-d)/q.es-l),?_,?_⟩
      ·simp only[Instr.sliceAt,Instr.slice,bD z,aY,aX,m.1,jG A,bP,iH,sK];rw[aj ah]
      ·simp only[VR];refine⟨q,H,?_,?_⟩
       ·simp only[uS];rw[<-L];omega
       ·simp only[uS];rw[<-L,jV]
     ·split at b
      ·next B e2=>
       cases b;subst e2;refine⟨.slice (some ⟨q.bl,q.ba+d,none⟩) (f-0) ((q.sz-d)/q.es-0),?_,?_⟩
       ·simp only[Instr.sliceAt,Instr.slice,bD z,aY,aX,m.1,jG A,bP,iH,sK];split<;>simp
       ·simp only[VR];exact⟨q,H,by simp;omega,aA⟩
      ·split at b
       ·next B e2 e3=>
        cases b;subst e3;simp only[Instr.sliceAt,Instr.slice,bD z,aY,aX,m.1,jG A,bP,iH,sK,Ci];by_cases W:(q.sz-d)/q.es=f
        ·rw[au W];exact⟨_,rfl,SV⟩
        ·rw[aj W];exact⟨_,rfl,SV⟩
       ·cases b
    ·cases b
   ·cases b
  ·cases b
 ·next e z=>
  split at b
  ·next n A=>
   simp only[bG,MB]at b;obtain⟨l,f,i,rfl⟩:=b;simp only[VR]at D;subst D;have m:=Gt (P:=P) (w:=w) (sl:=true) (cap:=0) i (λk g=>by simpa using g) (dK _) o p;have N:l=0:=ah;have O:f=0:=ah;subst N;subst O;refine⟨.slice none 0 0,?_,by simp[VR]⟩;simp only[Instr.sliceAt,Instr.slice,bD z,aY,aX,m.1,jG A,bP,if_true,Ci]
  ·cases b
 ·next e es z=>
  split at b
  ·next j A=>
   simp only[xZ,MB]at b;obtain⟨l,f,i,b⟩:=b;have af:=D;simp only[VR]at D;rcases D with⟨rfl,pa,rfl⟩|⟨bl,d,c,xs,M,rfl,hc,U,Q,h3⟩
   ·have m:=Gt (P:=P) (w:=w) (sl:=true) (cap:=0) i (λk g=>by simpa using g) (dK _) o p;have N:l=0:=ah;have O:f=0:=ah;subst N;subst O;simp[UH]at b;subst b;refine⟨.slice pa 0 0,?_,by simp[VR]⟩;have X:=m.1;rw[kF]at X;simp only[Instr.sliceAt,Instr.slice,bD z,aY,aX,X,jG A,bP,if_true,Ci]
   have m:=Gt (P:=P) (w:=w) (sl:=true) (cap:=c) i (λk g=>by simp at g;omega) hc o p;have Rj:=ae7 i (λk g=>by simpa using g);simp only[Instr.sliceAt,Instr.slice,bD z,aY,aX,m.1,jG A,bP,iH,sK];unfold UH at b;split at b
   ·next B=>
    cases b;subst B;simp only[Ci];by_cases W:c=f
    ·rw[au W];exact⟨_,rfl,SV⟩
    ·rw[aj W];exact⟨_,rfl,SV⟩
   ·next B=>
    split at b
    ·next a ha=>
     split at b
     ·next G=>
      cases b;obtain⟨x,aa,mD⟩:=U.at ha;have ab:=Q x (sD aa);have:M=j:=by rw[<-ab,<-Vg mD,G]
      subst this;obtain⟨cs,I,fr,h4,h5,h6⟩:=h3 (by intro e;subst e;simp at ha);rw[aj ah];refine⟨_,rfl,?_⟩;have ac:=U.length;simp only[VR];right;refine⟨bl,d+l*M,c-l,(xs.take f).drop l,M,by congr 1;simp;omega,by simp;omega,(U.take f).drop l,λy Y=>Q y (L6 (LZ Y)),λ_=>⟨cs,I,fr,h4,?_,?_⟩⟩
      ·rw[Gy (λy Y=>Q y (L6 (LZ Y)))];have hL:=Gy Q;have hm:((xs.take f).drop l).length=f-l:=by simp;omega
       rw[hm];have h7:l*M+(f-l)*M=f*M:=by rw[<-uj];congr 1;omega
       have h8:f*M<=xs.length*M:=uQ _ ah;omega
      ·intro k y g;rw[<-af6 (λy Y=>Q y (L6 Y)),<-aox Q,uh,mW]at g;split at g
       ·have:=h6 _ _ g;rw[<-jV]at this;exact this
       ·cases g
     ·cases b
    ·cases b
  ·cases b
 ·next n e id d z=>
  simp only[VR]at D;obtain⟨q,H,rfl⟩:=D;split at b
  ·next j A=>
   simp only[bG,MB]at b;obtain⟨l,f,i,rfl⟩:=b;have m:=Gt (P:=P) (w:=w) (sl:=false) (cap:=n) i (λk g=>by simpa using g) (dK _) o p;have Rj:=ae7 i (λk g=>by simpa using g);simp only[Instr.sliceAt,Instr.sureAddr,bD z,aY,aX,m.1,jG A,bP];by_cases B:n=l
   ·subst B;rw[au rfl,au rfl];refine⟨_,rfl,?_⟩;simp only[VR];exact⟨q,H,by simp;omega,aA⟩
   ·rw[aj B,aj B];refine⟨_,rfl,?_⟩;simp only[VR,sK];exact⟨q,H,by simp;omega,by simp[jV]⟩
  ·cases b
 ·cases b
def ai6(h:SR P F J w){t:TypeId}{ts:Ww}{ty:TypeId}{a v:AV}{x:Value}(g:ts[0]? =some t)(d:Uy P J t a=some v)(f:VR F a x):
 ∃y,(Builtin.len_ ts ty #[x]).run P w=.ok y w/\VR F v y:=by
 unfold Uy at d;split at d
 ·next s b=>cases d;simp only[VR]at f;subst f;exact⟨.int .i64 s.length,by simp[Builtin.len_,g,bD b,goInt,strSize],by simp[VR]⟩
 ·next e b=>cases d;simp only[VR]at f;subst f;exact⟨.int .i64 0,by simp[Builtin.len_,g,bD b,goInt],by simp[VR]⟩
 ·next e id j n p b=>cases d;simp only[VR]at f;obtain⟨q,o,_,rfl⟩:=f;exact⟨.int .i64 n,by simp[Builtin.len_,g,bD b,goInt],by simp[VR]⟩
 ·next e l b=>cases d;simp only[VR]at f;rcases f with⟨rfl,_,rfl⟩|⟨B,j,c,D,E,rfl,_⟩;exact⟨.int .i64 0,by simp[Builtin.len_,g,bD b,goInt],by simp[VR]⟩;exact⟨.int .i64 l.length,by simp[Builtin.len_,g,bD b,goInt],by simp[VR]⟩
 ·next r u b=>cases d;simp only[VR]at f;subst f;exact⟨.int .i64 0,by simp[Builtin.len_,g,bD b,goInt],by simp[VR]⟩
 ·next r u id b=>
  split at d
  ·next es z=>
   cases d;simp only[VR]at f;obtain⟨q,o,rfl⟩:=f;obtain⟨G,i,H,k,A,m,_⟩:=h.obj _ _ z rfl;rw[o]at i;cases i;refine⟨.int .i64 es.length,?_,by simp[VR]⟩;simp[Builtin.len_,g,bD b,goInt,getObj,Sem.run,A,m]
  ·cases d
 ·next _ n _ b=>cases d;exact⟨.int .i64 n,by cases x<;>simp[Builtin.len_,g,bD b,goInt],by simp[VR]⟩
 ·cases d
def anW(b o i j:Nat):((⟨b,o+i,none⟩:Addr)==⟨b,o+j,none⟩)=(i==j):=by rw[yR];simp
section
variable{t e:TypeId}
def ahh{n:Nat}(a:P.underlying t=some (.pointer e))(c:sizeT P e=some n)(h0:n≠0)(b o i j:Nat):
 (Op.equal t (.pointer (some ⟨b,o+i,none⟩)) (.pointer (some ⟨b,o+j,none⟩))).run P w=.ok (i==j) w:=by
 have H:∀d:Nat,(Op.equalIn (d+1) t (.pointer (some ⟨b,o+i,none⟩)) (.pointer (some ⟨b,o+j,none⟩))).run P w=.ok (i==j) w:=λd=>by simp only[Op.equalIn,aY,bD a,aX,jG c,au h0,xg];simp only[sameAddr,beq_self_eq_true,if_true,bP,anW,aY,aX]
 exact H 9999
def GY(b:P.underlying t=some (.pointer e))(a:Addr):(Op.equal t (.pointer (some a)) (.pointer none)).run P w=.ok false w:=by
 have H:∀d:Nat,(Op.equalIn (d+1) t (.pointer (some a)) (.pointer none)).run P w=.ok false w:=λd=>by simp only[Op.equalIn,aY,bD b,aX,bP]
 exact H 9999
def GX(b:P.underlying t=some (.pointer e))(a:Addr):(Op.equal t (.pointer none) (.pointer (some a))).run P w=.ok false w:=by
 have H:∀d:Nat,(Op.equalIn (d+1) t (.pointer none) (.pointer (some a))).run P w=.ok false w:=λd=>by simp only[Op.equalIn,aY,bD b,aX,bP,Me]
 exact H 9999
def VK(b:P.underlying t=some (.slice e))(a:Addr)(l c:Nat):(Op.equal t (.slice (some a) l c) (.slice none 0 0)).run P w=.ok false w:=by
 have H:∀d:Nat,(Op.equalIn (d+1) t (.slice (some a) l c) (.slice none 0 0)).run P w=.ok false w:=λd=>by simp only[Op.equalIn,aY,bD b,aX,bP]
 exact H 9999
def VJ(b:P.underlying t=some (.slice e))(a:Addr)(l c:Nat):(Op.equal t (.slice none 0 0) (.slice (some a) l c)).run P w=.ok false w:=by
 have H:∀d:Nat,(Op.equalIn (d+1) t (.slice none 0 0) (.slice (some a) l c)).run P w=.ok false w:=λd=>by simp only[Op.equalIn,aY,bD b,aX,bP,Me]
 exact H 9999
def ahd{a:Array (String×TypeId)}(b:P.underlying t=some (.interface a))(u:TypeId)(x:Value):(Op.equal t (.iface u x) .nilIface).run P w=.ok false w:=by
 have H:∀d:Nat,(Op.equalIn (d+1) t (.iface u x) .nilIface).run P w=.ok false w:=λd=>by simp only[Op.equalIn,aY,bD b,aX,bP]
 exact H 9999
def ahf{a:Array (String×TypeId)}(b:P.underlying t=some (.interface a))(u:TypeId)(x:Value):(Op.equal t .nilIface (.iface u x)).run P w=.ok false w:=by
 have H:∀d:Nat,(Op.equalIn (d+1) t .nilIface (.iface u x)).run P w=.ok false w:=λd=>by simp only[Op.equalIn,aY,bD b,aX,bP]
 exact H 9999
def ahe{k:TypeId}(a:P.underlying t=some (.map k e))(r:Nat):(Op.equal t (.map (some r)) (.map none)).run P w=.ok false w:=by
 have H:∀d:Nat,(Op.equalIn (d+1) t (.map (some r)) (.map none)).run P w=.ok false w:=λd=>by simp only[Op.equalIn,aY,bD a,aX,bP]
 exact H 9999
def ahg{k:TypeId}(a:P.underlying t=some (.map k e))(r:Nat):(Op.equal t (.map none) (.map (some r))).run P w=.ok false w:=by
 have H:∀d:Nat,(Op.equalIn (d+1) t (.map none) (.map (some r))).run P w=.ok false w:=λd=>by simp only[Op.equalIn,aY,bD a,aX,bP,Me]
 exact H 9999
end
def uw{t:TypeId}{x y:Operand}{u a:Value}{r:Bool}(h:(Op.equal t u a).run P w=.ok r w)
 (b:binOp .eql t u a=(do pure (.bool (<-Op.equal t u a)))) (c:(eqGuard .eql t x y u a).run P w=.ok () w):
 (do eqGuard .eql t x y u a;binOp .eql t u a:Sem Value).run P w=.ok (.bool r) w:=by
 simp only[aY,c,aX,b,h,bP]
def uy{t:TypeId}{x y:Operand}{u a:Value}{r:Bool}(h:(Op.equal t u a).run P w=.ok r w)
 (b:binOp .neq t u a=(do pure (.bool (!(<-Op.equal t u a))))) (c:(eqGuard .neq t x y u a).run P w=.ok () w):
 (do eqGuard .neq t x y u a;binOp .neq t u a:Sem Value).run P w=.ok (.bool (!r)) w:=by
 simp only[aY,c,aX,b,h,bP]
def agi{f:BinOp}{t:TypeId}{x y:Operand}{k:IntKind}{a b c d m n:Int}{v:AV}(g:Vp f a b c d=some v)(h1:a<=m)(o:m<=b)(p:c<=n)(q:n<=d):
 ∃z,(do eqGuard f t x y (.int k m) (.int k n);binOp f t (.int k m) (.int k n):Sem Value).run P w=.ok z w/\VR F v z:=by
 have h:∀(f:BinOp)(r:Bool),(eqGuard f t x y (.int k m) (.int k n)).run P w=.ok () w->binOp f t (.int k m) (.int k n)=(if k≠k then stuck "BinOp: operands of different kinds" else Op.intCmp f m n)->Op.intCmp f m n=pure (.bool r)->
  (do eqGuard f t x y (.int k m) (.int k n);binOp f t (.int k m) (.int k n):Sem Value).run P w=.ok (.bool r) w:=by
  intro f r i j l;rw[aY,i,aX,j,aj aA,l];rfl
 cases f<;>simp only[Vp,reduceCtorEq]at g
 all_goals split at g
 all_goals try split at g
 all_goals cases g
 all_goals refine⟨_,h _ _ rfl rfl rfl,?_⟩
 all_goals simp only[VR,Value.bool.injEq]
 all_goals first|(exact GL ah)|(exact Et ah)|(simp;omega)|skip
def an0(h:SR P F J w){A:BinOp}{t:TypeId}{x y:Operand}{a b v:AV}{u B:Value}(d:vV P A t x y a b=some v)(f:VR F a u)(g:VR F b B):
 ∃z,(do eqGuard A t x y u B;binOp A t u B:Sem Value).run P w=.ok z w/\VR F v z:=by
 unfold vV at d;split at d
 ·split at d
  ·next e i=>
   split at d
   ·next n D=>
    split at d
    ·next E=>
     cases d;obtain⟨rfl,G⟩:=E;simp only[VR]at f g;obtain⟨q,j,rfl⟩:=f;obtain⟨O,k,rfl⟩:=g;rw[j]at k;cases k;exact⟨_,uw (ahh i D G _ _ _ _) rfl rfl,by simp only[VR]⟩
    ·cases d
   ·cases d
  ·cases d
 ·split at d
  ·next e i=>
   split at d
   ·next n D=>
    split at d
    ·next E=>
     cases d;obtain⟨rfl,G⟩:=E;simp only[VR]at f g;obtain⟨q,j,rfl⟩:=f;obtain⟨O,k,rfl⟩:=g;rw[j]at k;cases k;exact⟨_,uy (ahh i D G _ _ _ _) rfl rfl,by simp only[VR]⟩
    ·cases d
   ·cases d
  ·cases d
 ·split at d
  ·next i=>cases d;simp only[VR]at f g;obtain⟨q,j,rfl⟩:=f;subst g;exact⟨_,uw (GY i _) rfl rfl,by simp only[VR]⟩
  ·cases d
 ·split at d
  ·next i=>cases d;simp only[VR]at f g;obtain⟨q,j,rfl⟩:=g;subst f;exact⟨_,uw (GX i _) rfl rfl,by simp only[VR]⟩
  ·cases d
 ·split at d
  ·next i=>cases d;simp only[VR]at f g;obtain⟨q,j,rfl⟩:=f;subst g;exact⟨_,uy (GY i _) rfl rfl,by simp only[VR];rfl⟩
  ·cases d
 ·split at d
  ·next i=>cases d;simp only[VR]at f g;obtain⟨q,j,rfl⟩:=g;subst f;exact⟨_,uy (GX i _) rfl rfl,by simp only[VR];rfl⟩
  ·cases d
 ·split at d
  ·next i=>cases d;simp only[VR]at f g;obtain⟨o,p,c,H,I,rfl,_⟩:=f.resolve_left aA;subst g;exact⟨_,uw (VK i _ _ _) rfl rfl,by simp only[VR]⟩
  ·cases d
 ·split at d
  ·next i=>cases d;simp only[VR]at f g;obtain⟨o,p,c,H,I,rfl,_⟩:=g.resolve_left aA;subst f;exact⟨_,uw (VJ i _ _ _) rfl rfl,by simp only[VR]⟩
  ·cases d
 ·split at d
  ·next i=>cases d;simp only[VR]at f g;obtain⟨o,p,c,H,I,rfl,_⟩:=f.resolve_left aA;subst g;exact⟨_,uy (VK i _ _ _) rfl rfl,by simp only[VR];rfl⟩
  ·cases d
 ·split at d
  ·next i=>cases d;simp only[VR]at f g;obtain⟨o,p,c,H,I,rfl,_⟩:=g.resolve_left aA;subst f;exact⟨_,uy (VJ i _ _ _) rfl rfl,by simp only[VR];rfl⟩
  ·cases d
 ·split at d
  ·next i=>cases d;simp only[VR]at f g;obtain⟨o,base,L,l,M,x,_,_,rfl,_⟩:=f;subst g;exact⟨_,uw (GY i _) rfl rfl,by simp only[VR]⟩
  ·cases d
 ·split at d
  ·next i=>cases d;simp only[VR]at f g;obtain⟨o,base,L,l,M,x,_,_,rfl,_⟩:=g;subst f;exact⟨_,uw (GX i _) rfl rfl,by simp only[VR]⟩
  ·cases d
 ·split at d
  ·next i=>cases d;simp only[VR]at f g;obtain⟨o,base,L,l,M,x,_,_,rfl,_⟩:=f;subst g;exact⟨_,uy (GY i _) rfl rfl,by simp only[VR];rfl⟩
  ·cases d
 ·split at d
  ·next i=>cases d;simp only[VR]at f g;obtain⟨o,base,L,l,M,x,_,_,rfl,_⟩:=g;subst f;exact⟨_,uy (GX i _) rfl rfl,by simp only[VR];rfl⟩
  ·cases d
 ·split at d
  ·next i=>cases d;simp only[VR]at f g;obtain⟨q,j,_,rfl⟩:=f;subst g;exact⟨_,uw (VK i _ _ _) rfl rfl,by simp only[VR]⟩
  ·cases d
 ·split at d
  ·next i=>cases d;simp only[VR]at f g;obtain⟨q,j,_,rfl⟩:=g;subst f;exact⟨_,uw (VJ i _ _ _) rfl rfl,by simp only[VR]⟩
  ·cases d
 ·split at d
  ·next i=>cases d;simp only[VR]at f g;obtain⟨q,j,_,rfl⟩:=f;subst g;exact⟨_,uy (VK i _ _ _) rfl rfl,by simp only[VR];rfl⟩
  ·cases d
 ·split at d
  ·next i=>cases d;simp only[VR]at f g;obtain⟨q,j,_,rfl⟩:=g;subst f;exact⟨_,uy (VJ i _ _ _) rfl rfl,by simp only[VR];rfl⟩
  ·cases d
 ·split at d
  ·next i=>cases d;simp only[VR]at f g;obtain⟨q,rfl,j⟩:=f;subst g;exact⟨_,uw (ahd i _ _) rfl rfl,by simp only[VR]⟩
  ·cases d
 ·split at d
  ·next i=>cases d;simp only[VR]at f g;obtain⟨q,rfl,j⟩:=g;subst f;exact⟨_,uw (ahf i _ _) rfl rfl,by simp only[VR]⟩
  ·cases d
 ·split at d
  ·next i=>cases d;simp only[VR]at f g;obtain⟨q,rfl,j⟩:=f;subst g;exact⟨_,uy (ahd i _ _) rfl rfl,by simp only[VR];rfl⟩
  ·cases d
 ·split at d
  ·next i=>cases d;simp only[VR]at f g;obtain⟨q,rfl,j⟩:=g;subst f;exact⟨_,uy (ahf i _ _) rfl rfl,by simp only[VR];rfl⟩
  ·cases d
 ·split at d
  ·next i=>cases d;simp only[VR]at f g;obtain⟨q,j,rfl⟩:=f;subst g;exact⟨_,uw (ahe i _) rfl rfl,by simp only[VR]⟩
  ·cases d
 ·split at d
  ·next i=>cases d;simp only[VR]at f g;obtain⟨q,j,rfl⟩:=g;subst f;exact⟨_,uw (ahg i _) rfl rfl,by simp only[VR]⟩
  ·cases d
 ·split at d
  ·next i=>cases d;simp only[VR]at f g;obtain⟨q,j,rfl⟩:=f;subst g;exact⟨_,uy (ahe i _) rfl rfl,by simp only[VR];rfl⟩
  ·cases d
 ·split at d
  ·next i=>cases d;simp only[VR]at f g;obtain⟨q,j,rfl⟩:=g;subst f;exact⟨_,uy (ahg i _) rfl rfl,by simp only[VR];rfl⟩
  ·cases d
 ·split at d
  ·next N=>subst N;simp only[VR]at f g;obtain⟨m,r,s,rfl⟩:=f;subst g;exact agi d r s (gZ _) (gZ _)
  ·cases d
 ·split at d
  ·next N=>subst N;simp only[VR]at f g;obtain⟨m,r,s,rfl⟩:=g;subst f;exact agi d (gZ _) (gZ _) r s
  ·cases d
 ·split at d
  ·next S T r s=>
   simp only[xZ]at d;obtain⟨z,Q,R⟩:=d;rw[DF r f,DF s g];exact⟨z,Dy Q w,EW _ _ _ R⟩
  ·cases d
def Ed(F:Env):Wr->List (Nat×Value)->Prop
 |[],b=>b=[]
 |(i,a)::l,b=>∃x rest,b=(i,x)::rest/\VR F a x/\Ed F l rest
def ahx(off:Nat):∀(l:Qt)(k:Nat)(cs:W2),
 (l.zipIdx k).foldl (λcs (c,j)=>cs.setIfInBounds (off+j) c) cs=setFrom cs (off+k) l
 |[],_,_=>rfl
 |v::l,k,cs=>by simp only[List.zipIdx_cons,List.foldl_cons];rw[ahx off l (k+1)];rfl
def aDi{c g vs:Q6}{off:Nat}{cs:W2}{xs:Qt}(h:BP c off vs=some g)(i:aG F c cs.toList)(j:aG F vs xs):aG F g (setFrom cs off xs).toList:=by
 obtain⟨o,p,l⟩:=Yf h;have m:=i.length;have n:=j.length;simp only[IC]at m;refine aG.of ?_ λk a b=>?_
 ·have:=OQ xs cs off;simp only[IC];omega
 ·rw[l]at b;rw[xR,Ye _ _ _ _ ah];split at b
  ·next q=>
   rw[au ah];obtain⟨x,d,f⟩:=j.at b;exact⟨x,d,f⟩
  ·rw[aj ah];obtain⟨x,d,f⟩:=i.at b;rw[xR]at d;exact⟨x,d,f⟩
def ND{d:Nat->Option (Nat×Nat)}:∀{m:Wr}{qs:List (Nat×Value)}{c k:Q6}{cs:W2},
 Cj d c m=some k->Ed F m qs->aG F c cs.toList->∃f,Instr.fill d cs qs=some f/\aG F k f.toList
 |[],qs,c,k,cs,h,g,l=>by simp only[Ed]at g;subst g;simp only[Cj,bf]at h;subst h;exact⟨cs,rfl,l⟩
 |(i,a)::m,qs,c,k,cs,h,g,l=>by
  simp only[Ed]at g;obtain⟨x,rest,rfl,u,g⟩:=g;unfold Cj at h;split at h
  ·cases h
  ·next n q o=>
   split at h
   ·next v=>
    split at h
    ·next B r=>
     have b:=Bc u;have j:=b.length;have y:=aDi r l b;obtain⟨D,_,_⟩:=Yf r;have p:=l.length;simp only[IC]at j p;obtain⟨f,z,A⟩:=ND h g y;refine⟨f,?_,A⟩;unfold Instr.fill;simp only[o];rw[aj (by simp;omega)];rw[<-z];congr 1;have s:=ahx n x.cells.toList 0 cs;rw[oW]at s;rw[<-s,<-Array.foldl_toList,Array.toList_zipIdx]
    ·cases h
   ·cases h
def aaB{c:QR}{U:Operand->Value}(d:∀x a,c x=some a->VR F a (U x)):∀{l:List (Nat×Operand)}{b:Wr},
 G5 c l=some b->Ed F b (l.map λ(i,x)=>(i,U x))
 |[],b,h=>by simp[G5]at h;subst h;simp[Ed]
 |(i,x)::l,b,h=>by
  unfold G5 at h;split at h
  ·next v r f g=>
   cases h;exact⟨U x,_,rfl,d _ _ f,aaB d g⟩
  ·cases h
def Ny{b:QR}{U:Operand->Value}(c:∀x a,b x=some a->VR F a (U x)):∀{l:List Operand}{vs:Q6},
 C9 b l=some vs->aG F vs (l.map U)
 |[],vs,h=>by simp[C9]at h;subst h;simp[aG]
 |x::l,vs,h=>by
  unfold C9 at h;split at h
  ·next v r d f=>
   cases h;exact aG.cons (c _ _ d) (Ny c f)
  ·cases h
def ajs:∀{fs:List Field}{a:WK},Ti P fs=some a->(fs.mapM λf=>do pure (f.offset,<-sizeOf f.type):Sem WK).run P w=.ok a w
 |[],a,h=>by simp[Ti]at h;subst h;rfl
 |f::fs,a,h=>by
  unfold Ti at h;split at h
  ·next n r b c=>
   cases h;simp only[aeL,aY,jG b,aX,bP,ajs c]
  ·cases h
def an7{t:TypeId}{r:Wr}{qs:Array (Nat×Value)}{v:AV}(b:Uu P t r=some v)(s:Ed F r qs.toList):
 ∃y,(Instr.build t qs).run P w=.ok y w/\VR F v y:=by
 unfold Uu at b;split at b
 ·next zero d k l=>
  obtain⟨z,m,g⟩:=Ig k;split at b
  ·next a o=>
   simp only[bG]at b;obtain⟨c,p,rfl⟩:=b;obtain⟨j,h,q⟩:=ND p s (g F);refine⟨.agg j,?_,by simp only[VR];exact⟨j.toList,rfl,q⟩⟩;have A:(d.mapM λf=>do pure (f.offset,<-sizeOf f.type):Sem (Array (Nat×Nat))).run P w=.ok ⟨a⟩ w:=by rw[YZ];simp only[Zj,ajs o,aX]
   simp only[Instr.build,aY,m,aX,bD l,A];have:(λi:Nat=>(⟨a⟩:Array (Nat×Nat))[i]?)=λi:Nat=>a[i]?:=by funext i;simp
   rw[this,h];rfl
  ·cases b
 ·next zero n u k l=>
  obtain⟨z,m,g⟩:=Ig k;split at b
  ·next x B=>
   simp only[bG]at b;obtain⟨c,p,rfl⟩:=b;obtain⟨j,h,q⟩:=ND p s (g F);refine⟨.agg j,?_,by simp only[VR];exact⟨j.toList,rfl,q⟩⟩;simp only[Instr.build,aY,m,aX,bD l,jG B,h];rfl
  ·cases b
 ·cases b
def aw6{t:TypeId}{a:AV}{x:Value}(h:JM P t=some false)(b:VR F a x):∃y,(Instr.makeInterface t x).run P w=.ok y w/\VR F (.jE t a) y:=by
 unfold JM at h;split at h<;>cases h
 next d c f=>
 refine⟨.iface t x,?_,by simp only[VR];exact⟨x,rfl,b⟩⟩;simp only[Instr.makeInterface,aY,bD f,aX];cases d<;>simp_all
def YV{t:TypeId}{i:TypeInfo}{z:Value}{a:AV}(hi:P.info? t=some i)(b:i.zero=some z)(c:nT 4 z=some a):(zeroValue t).run P w=.ok z w/\VR F a z:=
 ⟨by simp[zeroValue,Ie hi,b],EW _ _ _ c⟩
def aEZ{t r:TypeId}{a v:AV}{x:Value}{ok:Bool}(c:UJ P a t ok=some v)(k:VR F a x):
 ∃y,(Instr.typeAssert x r t ok).run P w=.ok y w/\VR F v y:=by
 unfold UJ at c;split at c
 ·next u b hi=>
  simp only[VR]at k;obtain⟨y,rfl,q⟩:=k;have l:∃d,P.underlying t=some d/\∀h,d≠.interface h:=by
   unfold JM at hi;split at hi<;>cases hi
   next d f g=>exact⟨d,g,λh e=>f h e⟩
  obtain⟨d,g,f⟩:=l;split at c
  ·next e=>
   cases c;subst e;refine⟨if ok then .tuple #[y,.bool true]else y,?_,?_⟩
   ·simp only[Instr.typeAssert,aY,bD g,aX];cases d<;>simp_all
   ·cases ok
    ·simpa using q
    ·simp only[VR];exact⟨[y,.bool true],rfl,aG.cons q (aG.cons (by simp[VR]) (by simp[aG]))⟩
  ·next e=>
   split at c
   ·next j=>
    split at c
    ·next i m=>
     split at c
     ·next z n=>
      simp only[bG]at c;obtain⟨a,o,rfl⟩:=c;obtain⟨s,p⟩:=YV (w:=w) (F:=F) m n o;refine⟨.tuple #[z,.bool false],?_,?_⟩
      ·subst j;simp only[Instr.typeAssert,aY,bD g,aX];have A:¬u=t:=e;cases d<;>simp_all
      ·simp only[VR];exact⟨[z,.bool false],rfl,aG.cons p (aG.cons (by simp[VR]) (by simp[aG]))⟩
     ·cases c
    ·cases c
   ·cases c
 ·next hi=>
  simp only[VR]at k;subst k;have l:∃d,P.underlying t=some d/\∀h,d≠.interface h:=by
   unfold JM at hi;split at hi<;>cases hi
   next d f g=>exact⟨d,g,λh e=>f h e⟩
  obtain⟨d,g,f⟩:=l;split at c
  ·next j=>
   split at c
   ·next i m=>
    split at c
    ·next z n=>
     simp only[bG]at c;obtain⟨a,o,rfl⟩:=c;obtain⟨s,p⟩:=YV (w:=w) (F:=F) m n o;refine⟨.tuple #[z,.bool false],?_,?_⟩
     ·subst j;simp only[Instr.typeAssert,aY,bD g,aX];cases d<;>simp_all
     ·simp only[VR];exact⟨[z,.bool false],rfl,aG.cons p (aG.cons (by simp[VR]) (by simp[aG]))⟩
    ·cases c
   ·cases c
  ·cases c
 ·cases c
def as9{l:Q6}{k:Nat}{v:AV}{x:Value}(b:l[k]? =some v)(a:VR F (.fG l) x):∃y,(Instr.extract x k).run P w=.ok y w/\VR F v y:=by simp only[VR]at a;obtain⟨g,rfl,c⟩:=a;obtain⟨y,d,f⟩:=c.at b;exact⟨y,by simp[Instr.extract,d],f⟩
def Jb(s a:Q2):((⟨⟨s⟩⟩:ByteArray)==⟨⟨a⟩⟩)=(s==a):=by
 show ByteArray.beq _ _=_
 unfold ByteArray.beq;simp
def aiK{kd:TypeDesc}{a b:AV}{x y:Value}{r:Bool}(f:match kd,a with|.int _,.i _ _|.int _,.z _ _ _|.string,.s _|.bool,.b _=>True|_,_=>False)(h:abu a b=some r)(c:VR F a x)(d:VR F b y):
 Instr.sameNow kd x y=some r:=by
 unfold abu at h;split at h
 ·next k n g j=>
  simp only[VR]at c d;subst c;subst d;cases kd<;>simp at f
  simp only[Instr.sameNow];split at h
  ·next e=>rw[au e];exact h
  ·cases h
 ·next s i=>
  simp only[VR]at c d;subst c;subst d;cases kd<;>simp at f
  simp only[Instr.sameNow];rw[<-h,Jb]
 ·next s i=>
  simp only[VR]at c d;subst c;subst d;cases kd<;>simp at f
  simp only[Instr.sameNow];exact h
 ·next k lo hi g n=>
  simp only[VR]at c d;obtain⟨m,l,o,rfl⟩:=c;subst d;cases kd<;>simp at f
  split at h
  ·next e=>
   cases h;obtain⟨e,p⟩:=e;simp only[Instr.sameNow];rw[au e];have:m≠n:=ah;simp[this]
  ·cases h
 ·cases h
def Cc(F:Env)(es:K1)(a:List MapEntry):Prop:=
 a.length=es.length/\∀(k:Nat) e,es[k]? =some e->∃m,a[k]? =some m/\VR F e.1 m.key/\VR F e.2 m.val
def Cc.tail{e:AV×AV}{es:K1}{a:List MapEntry}(h:Cc F (e::es) a):∃m rest,a=m::rest/\VR F e.1 m.key/\VR F e.2 m.val/\Cc F es rest:=by
 obtain⟨b,c⟩:=h;cases a with
 |nil=>simp at b
 |cons m rest=>obtain⟨l,d,f,g⟩:=c 0 e aA;simp at d;subst d;exact⟨m,rest,rfl,f,g,by simpa using b,λk i j=>by simpa using c (k+1) i (by simpa using j)⟩
def LQ(kd:TypeDesc)(a:AV):Prop:=match kd,a with|.int _,.i _ _|.int _,.z _ _ _|.string,.s _|.bool,.b _=>True|_,_=>False
def find_ok{kd:TypeDesc}{k:AV}{x:Value}(n:LQ kd k)(o:VR F k x):∀{es:K1}{g:List MapEntry}{i:Nat}{r:Option (Nat×AV)},
 Jy k es i=some r->Cc F es g->∃l,Instr.findNow kd x g i=some l/\(match r,l with|none,none=>True|some (j,v),some (A,y)=>j=A/\i<=j/\j<i+es.length/\VR F v y|_,_=>False)
 |[],g,i,r,h,p=>by
  simp only[Jy,bf]at h;subst h;have:g=[]:=by have:=p.1;cases g<;>simp_all
  subst this;exact⟨none,rfl,trivial⟩
 |e::es,g,i,r,h,p=>by
  obtain⟨m,u,rfl,z,B,D⟩:=p.tail;unfold Jy at h;split at h
  ·next q=>
   cases h;have s:=aiK (kd:=kd) n q o z;exact⟨some (i,m.val),by simp[Instr.findNow,s],rfl,dK _,aA,B⟩
  ·next q=>
   have s:=aiK (kd:=kd) n q o z;obtain⟨l,E,f⟩:=find_ok n o h D;refine⟨l,by simp[Instr.findNow,s,E],?_⟩;cases r<;>cases l<;>simp only at f⊢
   obtain⟨a,b,c,d⟩:=f;exact⟨a,ah,by simp;omega,d⟩
  ·cases h
def ahs{t:TypeId}{k:AV}(h:VX P t k=true):∃kd,P.underlying t=some kd/\LQ kd k:=by
 unfold VX at h;split at h
 ·next a=>exact⟨_,a,trivial⟩
 ·next a=>exact⟨_,a,trivial⟩
 ·next a=>exact⟨_,a,trivial⟩
 ·next a=>exact⟨_,a,trivial⟩
 ·cases h
def af8{t:TypeId}{k:AV}{x:Value}{kd:TypeDesc}(c:P.underlying t=some kd)(d:LQ kd k)(a:VR F k x)(b:Bool):(Instr.checkKey b 10000 t x).run P w=.ok () w:=by
 have H:∀n:Nat,(Instr.checkKey b (n+1) t x).run P w=.ok () w:=λn=>by cases kd<;>cases k<;>simp only[LQ]at d<;>simp only[VR]at a<;>(first|subst a|obtain⟨_,_,_,rfl⟩:=a)<;>simp only[Instr.checkKey,aY,bD c,aX,bP]
 exact H 9999
def vk(a et:TypeId)(y:Value)(ok:Bool)(es:Array MapEntry):Sem Value:=do
 Instr.checkKey es.isEmpty 10000 a y
 let(v,k) <-match <-Instr.findKey a y es.toList with
  |some (_,v)=>pure (v,true)
  |none=>pure (<-zeroValue et,false)
 pure (if ok then .tuple #[v,.bool k]else v)
def lookup_nil{t a et:TypeId}(b:P.underlying t=some (.map a et))(y:Value)(ok:Bool):(Instr.lookup t (.map none) y ok).run P w=(vk a et y ok #[]).run P w:=by simp only[Instr.lookup,vk,aY,bD b,aX,bP];congr 1
def Xi{t c et:TypeId}(d:P.underlying t=some (.map c et))(y:Value)(ok:Bool){r:Nat}{b:Array MapEntry}{a:Nat}(f:w.heap[r]? =some (.map b a)):
 (Instr.lookup t (.map (some r)) y ok).run P w=(vk c et y ok b).run P w:=by
 have g:(getObj r).run P w=.ok (.map b a) w:=by simp[getObj,Sem.run,f]
 simp only[Instr.lookup,vk,aY,bD d,aX,bP,g];congr 1
def awY(h:SR P F J w){t:TypeId}{m k v:AV}{x y:Value}{ok:Bool}(d:Uz P t m k ok J=some v)(G:VR F m x)(O:VR F k y):
 ∃z,(Instr.lookup t x y ok).run P w=.ok z w/\VR F v z:=by
 unfold Uz at d;split at d
 ·next H X Q=>
  split at d
  ·next es f=>
   split at d
   ·next s=>
    obtain⟨kd,R,S⟩:=ahs s;have I:∃o:Array MapEntry,(Instr.lookup t x y ok).run P w=(vk H X y ok o).run P w/\Cc F es o.toList:=by
     split at f
     ·cases f;simp only[VR]at G;subst G;exact⟨#[],lookup_nil Q y ok,by simp[Cc]⟩
     ·next id=>
      simp only[VR]at G;obtain⟨q,Y,rfl⟩:=G;split at f
      ·next Z hg=>
       cases f;obtain⟨q',A,o,L,hb,M,hp⟩:=h.obj _ _ hg rfl;rw[Y]at A;cases A;refine⟨o,Xi Q y ok hb,by simpa using M,λk e hk=>?_⟩;obtain⟨m,hm,n,g⟩:=hp k e hk;exact⟨m,by simpa using hm,n,g⟩
      ·cases f
     ·cases f
    obtain⟨o,B,N⟩:=I;rw[B];have D:∀b,(Instr.checkKey b 10000 H y).run P w=.ok () w:=λb=>af8 R S O b;have E:∀r,Jy k es 0=some r->∃l,(Instr.findKey H y o.toList).run P w=.ok l w/\(match r,l with|none,none=>True|some (j,v),some (T,y)=>j=T/\0<=j/\j<0+es.length/\VR F v y|_,_=>False):=λr hr=>by obtain⟨l,n,g⟩:=find_ok S O hr N;exact⟨l,by simp only[Instr.findKey,aY,bD R,aX,n,bP],g⟩
    split at d
    ·next j u c=>
     cases d;obtain⟨l,n,g⟩:=E _ c;cases l with
     |none=>exact g.elim
     |some p=>
      obtain⟨T,z⟩:=p;obtain⟨rfl,_,_,U⟩:=g;refine⟨if ok then .tuple #[z,.bool true]else z,?_,?_⟩
      ·simp only[vk,aY,aX,D,n,bP]
      ·cases ok
       ·simpa using U
       ·simp only[VR];exact⟨[z,.bool true],rfl,aG.cons U (aG.cons (by simp[VR]) (by simp[aG]))⟩
    ·next c=>
     obtain⟨l,n,g⟩:=E _ c;cases l with
     |some p=>exact g.elim
     |none=>
      split at d
      ·next i rH=>
       split at d
       ·next z hz=>
        simp only[bG]at d;obtain⟨a,ha,rfl⟩:=d;obtain⟨h3,W⟩:=YV (w:=w) (F:=F) rH hz ha;refine⟨if ok then .tuple #[z,.bool false]else z,?_,?_⟩
        ·simp only[vk,aY,aX,D,n,h3,bP]
        ·cases ok
         ·simpa using W
         ·simp only[VR];exact⟨[z,.bool false],rfl,aG.cons W (aG.cons (by simp[VR]) (by simp[aG]))⟩
       ·cases d
      ·cases d
    ·cases d
   ·cases d
  ·cases d
 ·cases d
def aC9{k:AV}{x y:Value}{kd:TypeDesc}(c:LQ kd k)(b:VR F k x)(a:Instr.sameNow kd x y=some true)(n:Nat):Instr.sameBits (n+1) y x=true:=by
 cases kd<;>cases k<;>simp only[LQ]at c<;>simp only[VR]at b<;>(first|subst b|obtain⟨_,_,_,rfl⟩:=b)<;>cases y<;>simp only[Instr.sameNow,bf,reduceCtorEq]at a
 ·simp_all [Instr.sameBits]
 ·split at a
  ·simp_all [Instr.sameBits]
  ·cases a
 ·split at a
  ·simp_all [Instr.sameBits]
  ·cases a
 ·next s d=>
  obtain⟨⟨l⟩⟩:=d;rw[Jb]at a;simp only[Instr.sameBits,Jb];simp_all
def Es(h:SR P F J w){c:Q6}{xs:W2}{elem:TypeId}{opn:Bool}{es:Nat}(l:aG F c (xs.toList.take c.length))(f:c.length<=xs.size)(b:opn=false->c.length=xs.size)
 (d:opn=true->elem≠0/\0<es/\sizeT P elem=some es):
 St P F J w (F.put J.next ⟨w.heap.size,0,xs.size,es⟩) (J.new (.cells c elem true opn)) {w with heap:=w.heap.push (.cells xs elem)}:=by
 refine St.alloc h _ _ _ rfl ?_;refine⟨xs,elem,(0,0),aA,?_⟩;refine {fits:=aA,le:=f,shut:=b,cell:=?_,free:=λ_ k _=>aA,whole:=λ_=>⟨rfl,aA,λ_=>rfl⟩,room:=d};intro k a i;obtain⟨x,j,m⟩:=l.at i;have g:k<c.length:=(fV.1 i).1;rw[mW,au g]at j;exact⟨x,by simpa using j,VR.mono (Env.Ib h _) _ _ m⟩
def ajT{q:Place}{id:Nat}(h0:q.ba=0):VR (F.put id q) (.p id 0) (.pointer (some ⟨q.bl,0,none⟩)):=by simp only[VR];exact⟨q,by simp[Env.put],by simp[h0]⟩
def anI(h:SR P F J w){t:TypeId}{z:Q6}(c:Aw P t=some z):
 ∃y w' F',(Instr.alloc t true (.tuple #[])).run P w=.ok y w'/\St P F J w F' (J.new (.cells z t true false)) w'/\VR F' (.p J.next 0) y:=by
 obtain⟨d,f,a⟩:=Ig c;have b:=(a F).length;refine⟨_,_,_,?_,Es h (xs:=d.cells) (es:=0) (opn:=false) ?_ (by simpa using L9 b) (λ_=>by simpa using b) aA,ajT rfl⟩
 ·simp only[Instr.alloc,aY,f,aX,newVar,newRow,newObj,Sem.run,bP]
 ·rw[b,AP];exact a F
def afF(h:SR P F J w){t:TypeId}{a:AV}{x:Value}(d:VR F a x):
 ∃y w' F',(Instr.box t x).run P w=.ok y w'/\St P F J w F' (J.new (.cells a.cells t true false)) w'/\VR F' (.p J.next 0) y:=by
 have c:=Bc d;have b:=c.length;refine⟨_,_,_,?_,Es h (xs:=x.cells) (es:=0) (opn:=false) ?_ (by simpa using L9 b) (λ_=>by simpa using b) aA,ajT rfl⟩
 ·simp only[Instr.box,aY,aX,newVar,newRow,newObj,Sem.run,bP]
 ·rw[b,AP];exact c
def CZ{t e:TypeId}{size bytes:Nat}{z:Q6}(h:yC P t=some (e,size,bytes,z)):
 P.underlying t=some (.slice e)/\(∃i,P.info? e=some i/\i.size=size/\i.bytes=bytes)/\Aw P e=some z/\e≠0/\z.length=size/\sizeT P e=some size:=by
 unfold yC at h;split at h
 ·next d b=>
  split at h
  ·next i f hi c=>
   split at h
   ·next a=>
    cases h;exact⟨b,⟨i,hi,rfl,rfl⟩,c,a.1,a.2,by simp[sizeT,hi]⟩
   ·cases h
  ·cases h
 ·cases h
def ala{z:Q6}:∀(n k:Nat),k<n*z.length->(jS n z)[k]? =z[k%z.length]?
 |0,k,h=>by simp at h
 |n+1,k,h=>by
  have b:jS (n+1) z=z++jS n z:=by simp[jS,PE]
  rw[b];have c:0<z.length:=by rcases Uj z.length with e|e<;>simp_all
  by_cases a:k<z.length
  ·rw[oG a,PN a]
  ·rw[xW ah,ala n (k-z.length) (by rw[Nat.succ_mul]at h;omega)];congr 1;have:k=(k-z.length)+z.length:=ah;rw[this,Nat.add_mod_right];congr 1;omega
def XT{z:Q6}(n:Nat):(jS n z).length=n*z.length:=by simp[jS]
def TQ{z:Q6}{b:W2}{n size:Nat}(i:aG F z b.toList)(j:z.length=size):aG F (jS n z) ((Array.range (n*size)).map (b[· % b.size]!)).toList:=by
 have f:=i.length;simp only[IC]at f;refine aG.of ?_ λk a g=>?_
 ·rw[XT];simp[j]
 ·have c:k<n*z.length:=by have:=(fV.1 g).1;rwa [XT]at this
  rw[ala n k c]at g;obtain⟨x,d,l⟩:=i.at g;refine⟨x,?_,l⟩;have h:k<n*size:=by rw[<-j];exact c
  rw[xR]at d;rw[xR,Array.getElem?_map,Array.getElem?_range,au h];have m:k%b.size<b.size:=by have:=(rX.1 d).1;rwa [f]at this
  rw[f]at d;simp[m,getElem!_pos];have:=(rX.1 d).2;exact this
