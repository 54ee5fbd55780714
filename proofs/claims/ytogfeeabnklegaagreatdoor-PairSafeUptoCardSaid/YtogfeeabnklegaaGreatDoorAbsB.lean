/- The operations, one by one: what the model's operation does where the evaluator's answers. -/
import Derived.Test.YtogfeeabnklegaaGreatDoorAbsA
import Derived.Lib.Builder
set_option linter.all false
namespace Go.aP
noncomputable section
variable[aJ]
variable{P:Program}{F:Env}{J J':aC}{w:World}
def bG{t:TypeId}{d:TypeDesc}(h:P.underlying t=some d):(underlying t).run P w=.ok d w:=by simp[underlying,program,Sem.run,h]
def jO{t:TypeId}{n:Nat}(h:sizeT P t=some n):(sizeOf t).run P w=.ok n w:=by simp only[sizeT,bJ]at h;obtain⟨i,hi,rfl⟩:=h;simp[sizeOf,typeInfo,program,Sem.run,hi]
def LJ{t:TypeId}{b:Bool}(h:qp P t=some b):(isAgg t).run P w=.ok b w:=by
 unfold qp at h;split at h<;>cases h
 ·next a=>simp[isAgg,bG a]
 ·next a=>simp[isAgg,bG a]
 ·next d a c f=>
  cases d<;>simp_all [isAgg,bG]
def IQ{t:TypeId}{i:TypeInfo}(h:P.info? t=some i):(typeInfo t).run P w=.ok i w:=by simp[typeInfo,program,Sem.run,h]
def aj9{v:Value}(h:sW v=true):v.cells =#[v]:=by cases v<;>simp[sW]at h<;>rfl
def GR.sW{ro:Qf}{g:GV}{v:Value}(h:GR ro g v)(a:g.scalar=true):sW v=true:=by
 cases g<;>simp only[GR]at h
 case g cs=>cases a
 case l xs=>rcases h with⟨_,_,rfl⟩|⟨d,b,c,f,i,rfl,_⟩<;>rfl
 all_goals subst h;rfl
def AV.sym:AV->Bool
 |.nd _|.rx _ _|.sv _ _|.pv _ _ _|.pd _ _=>true
 |_=>false
def VR.ams{a:AV}{v:Value}(f:a.sym=true)(h:VR F a v):sW v=true:=by
 cases a<;>simp only[VR]at h<;>first|(cases f;done)|skip
 case nd n=>obtain⟨g,_,b,c⟩:=h;exact c.sW b
 case rx n off=>obtain⟨g,l,base,m,d,o,x,r,b,c,rfl,_⟩:=h;rfl
 case sv id n=>obtain⟨j,_,⟨q,_,_,rfl⟩|⟨_,_,rfl⟩⟩:=h<;>rfl
 case pv id n off=>obtain⟨q,k,i,_,_,rfl⟩:=h;rfl
 case pd id n=>obtain⟨j,p,_,rfl,_⟩:=h;rfl
def aoM{a:AV}{v:Value}(b:a.sym=true)(h:VR F a v):aG F a.cells v.cells.toList:=by
 have c:=aj9 (VR.ams b h);have d:a.cells=[a]:=by cases a<;>first|rfl|(cases b)
 rw[c,d];exact aG.cons h (by simp[aG])
def BN{a:AV}{v:Value}(h:VR F a v):aG F a.cells v.cells.toList:=by
 by_cases s:a.sym=true
 ·exact aoM s h
 cases a<;>first|(exact absurd rfl s)|skip
 all_goals simp only[VR]at h
 case agg l=>obtain⟨o,rfl,d⟩:=h;simpa[AV.cells,Value.cells]using d
 case fG l=>obtain⟨o,rfl,d⟩:=h;simp only[AV.cells,Value.cells];exact aG.cons (by simp only[VR];exact⟨o,rfl,d⟩) (by simp[aG])
 case p id g=>obtain⟨q,i,rfl⟩:=h;exact aG.cons (by simp only[VR];exact⟨q,i,rfl⟩) (by simp[aG])
 case sl id g len cap=>obtain⟨q,i,r,rfl⟩:=h;exact aG.cons (by simp only[VR];exact⟨q,i,r,rfl⟩) (by simp[aG])
 case mp id=>obtain⟨q,i,rfl⟩:=h;exact aG.cons (by simp only[VR];exact⟨q,i,rfl⟩) (by simp[aG])
 case fn f fi u=>obtain⟨D,o,rfl,d,j⟩:=h;exact aG.cons (by simp only[VR];exact⟨D,o,rfl,d,j⟩) (by simp[aG])
 case jL t b=>obtain⟨x,rfl,d⟩:=h;exact aG.cons (by simp only[VR];exact⟨x,rfl,d⟩) (by simp[aG])
 case z k lo hi=>obtain⟨n,d,j,rfl⟩:=h;exact aG.cons (by simp only[VR];exact⟨n,d,j,rfl⟩) (by simp[aG])
 case ro l=>
  have y:VR F (.ro l) v:=by simp only[VR];exact h
  rcases h with⟨_,_,rfl⟩|⟨A,g,c,H,I,rfl,d⟩
  ·exact aG.cons y (by simp[aG])
  ·exact aG.cons y (by simp[aG])
 case rp a g=>obtain⟨A,base,u,m,E,x,d,j,rfl,G⟩:=h;exact aG.cons (by simp only[VR];exact⟨A,base,u,m,E,x,d,j,rfl,G⟩) (by simp[aG])
 all_goals subst h;exact aG.cons (by simp only[VR]) (by simp[aG])
def ach{a:AV}{v:Value}(h:VR F a v)(r:a.ql=true):sW v=true:=by
 by_cases i:a.sym=true
 ·exact h.ams i
 cases a<;>first|(exact absurd rfl i)|skip
 all_goals simp only[VR]at h
 all_goals simp[AV.ql]at r
 case p id d=>obtain⟨q,j,rfl⟩:=h;rfl
 case sl id d len cap=>obtain⟨q,j,_,rfl⟩:=h;rfl
 case mp id=>obtain⟨q,j,rfl⟩:=h;rfl
 case fn f fi s=>obtain⟨y,A,rfl,g,m⟩:=h;rfl
 case jL t b=>obtain⟨x,rfl,g⟩:=h;rfl
 case z k lo hi=>obtain⟨n,g,m,rfl⟩:=h;rfl
 case ro l=>rcases h with⟨_,_,rfl⟩|⟨u,d,c,D,E,rfl,g⟩<;>rfl
 case rp a d=>obtain⟨u,base,s,o,G,x,g,m,rfl,H⟩:=h;rfl
 all_goals subst h;rfl
def JL{xs:Q6}{sz:Nat}(h:∀x∈xs,x.cells.size=sz):(eP xs).length=xs.length*sz:=by
 induction xs with
 |nil=>simp[eP]
 |cons x xs a=>have b:=h x aA;have:=a λy c=>h y (by simp[c]);simp only[eP,kV,eH,iD]at this⊢;rw[this,uJ,Jl,MV];simp[b]
def af7{xs:Q6}{sz:Nat}(h:∀x∈xs,x.cells.size=sz)(i:Nat):(eP xs).drop (i*sz)=eP (xs.drop i):=by
 induction xs generalizing i with
 |nil=>simp[eP]
 |cons x xs a=>
  cases i with
  |zero=>simp
  |succ i=>
   have b:=h x aA;have:=a (λy c=>h y (by simp[c])) i;simp only[Zg];rw[<-this];simp only[eP,kV];have d:x.cells.toList.length=sz:=by simpa using b
   rw[show(i+1)*sz=x.cells.toList.length+i*sz by rw[d,uJ,Jl,MV]];rw[aeL,List.drop_of_length_le ah,aX,Zp]
def aoI{xs:Q6}{sz:Nat}(h:∀x∈xs,x.cells.size=sz)(i:Nat):(eP xs).take (i*sz)=eP (xs.take i):=by
 induction xs generalizing i with
 |nil=>simp[eP]
 |cons x xs a=>
  cases i with
  |zero=>simp[eP]
  |succ i=>
   have b:=h x aA;have:=a (λy c=>h y (by simp[c])) i;simp only[BA];simp only[eP,kV]at this⊢;have d:x.cells.toList.length=sz:=by simpa using b
   rw[show(i+1)*sz=x.cells.toList.length+i*sz by rw[d,uJ,Jl,MV]];rw[List.take_length_add_append,this]
def af5{xs:Q6}{sz i:Nat}{x:Value}(h:∀x∈xs,x.cells.size=sz)(hi:xs[i]? =some x)(k:Nat)(b:k<sz):(eP xs)[i*sz+k]? =x.cells[k]?:=by
 have c:=af7 h i;have a:=(gu.1 hi).1;have d:xs.drop i=x::xs.drop (i+1):=by rw[<-(gu.1 hi).2];exact iR a
 have:(eP xs)[i*sz+k]? =((eP xs).drop (i*sz))[k]?:=by rw[uI]
 rw[this,c,d];have f:=h x (tN hi);simp only[eP,kV];rw[pG (by simpa[f]using b)];simp
def Vr{a:AV}{v:Value}(h:VR F a v):a.cells.length=v.cells.size:=by have:=(BN h).length;simpa using this
def ahy{l:Q3}{xs:Q6}(h:aG F l xs):aG F (l.flatMap AV.cells) (eP xs):=by
 induction l generalizing xs with
 |nil=>simp only[aG]at h;subst h;simp[aG,eP]
 |cons a l b=>simp only[aG]at h;obtain⟨x,f,rfl,c,d⟩:=h;simp only[kV,eP];exact aG.append (BN c) (b d)
def anU{l:Q3}{xs:Q6}{n:Nat}(h:aG F l xs)(f:l.all (λa=>a.cells.length==n)=true):∀x∈xs,x.cells.size=n:=by
 intro x g;obtain⟨k,c⟩:=Zn.1 g;have b:k<l.length:=by have:=(gu.1 c).1;have:=h.length;omega
 obtain⟨y,d,i⟩:=h.at (bZ b);rw[c]at d;cases d;have:=List.all_eq_true.1 f _ (iT b);rw[<-Vr i];simpa using this
def aA8{l:Q3}{v:Value}(h:VR F (.ro l) v){i size:Nat}{a:AV}(hi:l[i]? =some a)(s:a.cells.length=size):
 ∃bl off c cs elem f x,v=.slice (some ⟨bl,off,none⟩) l.length c/\l.length<=c/\F.ro bl=some (.cells cs elem f)/\VR F a x/\off+i*size+x.cells.size<=cs.size/\Hq cs (off+i*size) x.cells.toList:=by
 simp only[VR]at h;rcases h with⟨rfl,_⟩|⟨bl,off,c,u,b,rfl,z,A,g,D⟩
 ·simp at hi
 obtain⟨x,j,p⟩:=A.at hi;obtain⟨cs,elem,f,E,H,G⟩:=D (by intro e;subst e;simp at hi);have m:=g x (tN j);have:b=size:=by rw[<-m,<-Vr p,s]
 subst this;have q:=JL g;have n:=(gu.1 j).1;have d:(i+1)*b<=u.length*b:=wC _ n;rw[uJ,Jl]at d;refine⟨bl,off,c,cs,elem,f,x,rfl,z,E,p,ah,λk y r=>?_⟩;have o:k<b:=by have:=(gu.1 r).1;simp at this;omega
 have:=G (i*b+k) y (by rw[af5 g j k o];simpa using r);rw[<-kC]at this;exact this
def IU{t:TypeId}{b:Q3}(h:Bh P t=some b):∃z,(∀w,(zeroValue t).run P w=.ok z w)/\∀F:Env,aG F b z.cells.toList:=by
 unfold Bh at h;split at h
 ·next i hi=>
  split at h
  ·next z c=>
   simp only[bJ]at h;obtain⟨a,d,rfl⟩:=h;exact⟨z,λw=>by simp[zeroValue,IQ hi,c],λF=>BN (FN _ _ _ d)⟩
  ·cases h
 ·cases h
def vg{l r:Q3}{off n:Nat}(h:takeN l off n=some r):r=(l.drop off).take n/\r.length=n/\(n=0\/off+n<=l.length):=by
 simp only[takeN]at h;split at h
 ·next a=>
  cases h;refine⟨rfl,a,?_⟩;simp at a;omega
 ·cases h
def amA{l r:Q3}{off n:Nat}(h:takeN l off n=some r){k:Nat}{a:AV}(b:r[k]? =some a):l[off+k]? =some a:=by
 obtain⟨rfl,_,_⟩:=vg h;rw[oh]at b;split at b
 ·rw[uI]at b;exact b
 ·cases b
def vC.take{q:Place}{c:Q3}{et:TypeId}{rw opn:Bool}{cs:QR}{elem:TypeId}{a:Nat×Nat}(r:vC P F q c et rw opn cs elem a)
 {off n:Nat} {l:Q3} (h:takeN c off n=some l):q.ba+off+n<=cs.size\/n=0:=by
 obtain⟨_,_,b⟩:=vg h;have:=r.fits;have:=r.le;omega
def vC.Bf{q:Place}{c:Q3}{et:TypeId}{rw opn:Bool}{cs:QR}{elem:TypeId}{i:Nat×Nat}(r:vC P F q c et rw opn cs elem i)
 {off n:Nat} {l:Q3} (h:takeN c off n=some l):aG F l ((cs.toList.drop (q.ba+off)).take n):=by
 obtain⟨o,d,p⟩:=vg h;have s:=r.fits;have u:=r.le;refine aG.of ?_ λk a f=>?_
 ·simp;omega
 ·have j:=amA h f;obtain⟨x,g,m⟩:=r.cell _ _ j;refine⟨x,?_,m⟩;have b:k<n:=by have:=(gu.1 f).1;omega
  rw[oh,au b,uI];rw[<-kC]at g;simpa using g
def FY{bl off n:Nat}{cs:QR}{elem:TypeId}{b:Nat×Nat}(h:w.heap[bl]? =some (.cells cs elem b))(a:off+n<=cs.size\/n=0):
 (loadCells ⟨bl,off,none⟩ n).run P w=.ok ⟨(cs.toList.drop off).take n⟩ w:=by
 rcases a with c|rfl
 ·exact run_loadCells h c
 ·simp[loadCells,loadCellsFrom]
def Ip(h:SR P F J w){t:TypeId}{a v:AV}{x:Value}(f:yH P t J a=some v)(g:VR F a x):
 ∃y,(Instr.loadAt t x).run P w=.ok y w/\VR F v y:=by
 unfold yH at f;split at f
 ·next id d=>
  split at f
  ·next c V rw L M=>
   obtain⟨q,N,i,j,O,m,r⟩:=h.obj _ _ M rfl;simp only[VR]at g;obtain⟨W,o,rfl⟩:=g;rw[N]at o;cases o;split at f
   ·next b=>
    split at f
    ·next n A=>
     simp only[bJ]at f;obtain⟨l,z,rfl⟩:=f;refine⟨.agg ⟨(i.toList.drop (q.ba+d)).take n⟩,?_,?_⟩
     ·simp only[Instr.loadAt,Instr.sureAddr,aZ,bQ,aY,loadVar,LJ b,if_true,jO A,xF];rw[FY m (r.take z)];rfl
     ·simp only[VR];exact⟨_,rfl,r.Bf z⟩
    ·cases f
   ·next b=>
    obtain⟨x,g,D⟩:=r.cell _ _ f;refine⟨x,?_,D⟩;simp only[Instr.loadAt,Instr.sureAddr,aZ,bQ,aY,loadVar,LJ b,xF];exact alE m g
   ·cases f
  ·cases f
 ·next e d=>
  simp only[VR]at g;obtain⟨X,base,i,j,O,x,Q,H,rfl,Y,I⟩:=g;have m:=h.jF _ _ Q;have p:=BN H;have R:=Vr H;split at f
  ·next b=>
   split at f
   ·next n A=>
    simp only[bJ]at f;obtain⟨l,z,rfl⟩:=f;obtain⟨E,S,T⟩:=vg z;have s:base+d+n<=i.size\/n=0:=ah;refine⟨.agg ⟨(i.toList.drop (base+d)).take n⟩,?_,?_⟩
    ·simp only[Instr.loadAt,Instr.sureAddr,aZ,bQ,aY,loadVar,LJ b,if_true,jO A,xF];rw[FY m s];rfl
    ·simp only[VR];refine⟨_,rfl,?_⟩;have G:(i.toList.drop (base+d)).take n=(x.cells.toList.drop d).take n:=by
      apply Jf;intro k;rw[oh,oh];split
      ·next Z=>
       rw[uI,uI];have u:d+k<x.cells.toList.length:=by simp;omega
       have:=I (d+k) _ (bZ u);rw[bZ u,yw,kC];exact this
      ·rfl
     rw[G,E];exact(p.drop d).take n
   ·cases f
  ·next b=>
   obtain⟨y,U,D⟩:=p.at f;refine⟨y,?_,D⟩;simp only[Instr.loadAt,Instr.sureAddr,aZ,bQ,aY,loadVar,LJ b,xF];exact alE m (I d y U)
  ·cases f
 ·cases f
def Yj{l a vs:Q3}{off:Nat}(h:CS l off vs=some a):off+vs.length<=l.length/\a.length=l.length/\
 ∀(k:Nat),a[k]? =if off<=k/\k<off+vs.length then vs[k-off]? else l[k]?:=by
 unfold CS at h;split at h
 ·next b=>
  cases h;refine⟨b,by simp;omega,λk=>?_⟩;by_cases c:k<off
  ·rw[aj ah,List.append_assoc,pG (by simp;omega),oh,au c]
  ·by_cases d:k<off+vs.length
   ·rw[au ⟨ah,d⟩,pG (by simp;omega),yB (by simp;omega)];simp;congr 1;omega
   ·rw[aj ah,yB (by simp;omega),uI];congr 1;simp;omega
 ·cases h
def Y5(h:SR P F J w){id off:Nat}{c p:Q3}{et:TypeId}{opn:Bool}{vs:Q3}{xs:Q6}{q:Place}(s:J.get id=some (.cells c et true opn))(E:J.lock<=id)
 (u:F id=some q) (G:CS c off vs=some p) (m:aG F vs xs) (g:vs.all AV.ql=true):
 ∃w',(storeCells ⟨q.bl,q.ba+off,none⟩ xs).run P w=.ok () w'/\St P F J w F (J.put id (.cells p et true opn)) w':=by
 obtain⟨S,i,H,f,v,z,r⟩:=h.obj _ _ s rfl;rw[u]at i;cases i;obtain⟨T,I,L⟩:=Yj G;have A:=m.length;have M:=r.fits;have N:=r.le;have n:∀x∈xs,sW x=true:=by
  intro x o;obtain⟨k,d⟩:=Zn.1 o;have j:k<vs.length:=by have:=(gu.1 d).1;omega
  obtain⟨y,D,O⟩:=m.at (bZ j);rw[d]at D;cases D;exact ach O (List.all_eq_true.1 g _ (iT j))
 have l:=adx (P:=P) xs w q.bl (q.ba+off) 0 H f v z ah n (λk a b=>by have:=r.free rfl (k-q.ba) ah;rw[Uz ah]at this;exact this)
 refine⟨_,l,?_⟩;refine St.write h s rfl E u F5 (λk d=>FZ d) rfl rfl rfl ?_;refine⟨_,f,v,Ed z,?_⟩;refine {fits:=by rw[Pj];exact M,le:=ah,shut:=λe=>by rw[I];exact r.shut e,cell:=?_,free:=λe=>r.free e,whole:=λe=>by rw[Pj];exact r.whole e,room:=r.room};intro k a d;rw[L]at d;rw[Yi _ _ _ _ ah];split at d
 ·next Q=>
  rw[au ah];obtain⟨x,o,R⟩:=m.at d;refine⟨x,?_,R⟩;rw[<-o];congr 1;omega
 ·next Q=>
  rw[aj ah];exact r.cell k a d
def Yz(h:SR P F J w){t:TypeId}{a v:AV}{x y:Value}(d:GU P t J a v=some J')(l:VR F a x)(m:VR F v y):
 ∃w',(Instr.storeAt t x y).run P w=.ok () w'/\St P F J w F J' w':=by
 unfold GU at d;split at d
 ·next id n=>
  split at d
  ·next c A o p=>
   split at d
   ·next r=>
    obtain⟨s,j,f⟩:=r;simp only[bJ]at d;obtain⟨D,u,rfl⟩:=d;simp only[VR]at l;obtain⟨q,z,rfl⟩:=l;have b:=BN m;obtain⟨w',g,k⟩:=Y5 h p s z u b f;refine⟨w',?_,k⟩;have i:=b.length;simp only[Instr.storeAt,Instr.sureAddr,aZ,bQ,aY,storeVar,jO j,xF];rw[aj (by simp at i⊢;omega)];simpa using g
   ·cases d
  ·cases d
 ·cases d
def BJ{a:AV}{n:Int}{x:Value}(h:yG a=some n)(b:VR F a x):∃k,x=.int k n:=by
 cases a<;>simp[yG]at h
 subst h;simp only[VR]at b;exact⟨_,b⟩
def Ec{a:AV}{v:Value}{x:Value}(h:yZ a=some v)(b:VR F a x):x=v:=amG 4 a v x h b
def ako{t:TypeId}{cs:Q3}{vs:Q6}{off:Nat}{v:AV}(h:UZ P t cs off=some v)(b:aG F cs vs):
 ∃y,(part t ⟨vs⟩ off).run P w=.ok y w/\VR F v y:=by
 unfold UZ at h;split at h
 ·next a=>
  split at h
  ·next n c=>
   simp only[bJ]at h;obtain⟨l,d,rfl⟩:=h;refine⟨.agg ((⟨vs⟩:QR).extract off (off+n)),?_,?_⟩
   ·simp[part,LJ a,jO c]
   ·simp only[VR];obtain⟨rfl,_,_⟩:=vg d;refine⟨(vs.drop off).take n,?_,(b.drop off).take n⟩;simp
  ·cases h
 ·next a=>
  obtain⟨x,f,g⟩:=b.at h;refine⟨x,?_,g⟩;simp[part,LJ a,f]
 ·cases h
def aub{t:TypeId}{a v:AV}{x:Value}{f:Nat}(h:UM P t a f=some v)(c:VR F a x):
 ∃y,(Instr.field t x f).run P w=.ok y w/\VR F v y:=by
 unfold UM at h;split at h
 ·next b l d=>
  split at h
  ·next m g=>
   simp only[VR]at c;obtain⟨n,rfl,i⟩:=c;obtain⟨y,j,k⟩:=ako (w:=w) h i;exact⟨y,by simp[Instr.field,bG d,g,asAgg,j],k⟩
  ·cases h
 ·cases h
def aua{t:TypeId}{a v:AV}{x:Value}{f:Nat}(h:UN P t a f=some v)(i:VR F a x):
 ∃y,(Instr.fieldAt t x f).run P w=.ok y w/\VR F v y:=by
 unfold UN at h;split at h
 ·next c id d j=>
  split at h
  ·next k l=>
   split at h
   ·next n m=>
    split at h
    ·cases h
    ·next o=>
     cases h;simp only[VR]at i;obtain⟨q,r,rfl⟩:=i;refine⟨.pointer (some ⟨q.bl,q.ba+d+k.offset,none⟩),?_,?_⟩
     ·simp[Instr.fieldAt,bG j,l,Instr.sureAddr,fieldPlace,jO m,o,tX]
     ·simp only[VR];exact⟨q,r,by rw[kC]⟩
   ·cases h
  ·cases h
 ·next c b d j=>
  split at h
  ·next k l=>
   split at h
   ·next n m=>
    split at h
    ·cases h
    ·next o=>
     cases h;simp only[VR]at i;obtain⟨p,base,s,g,u,x,z,A,rfl,D⟩:=i;refine⟨.pointer (some ⟨p,base+d+k.offset,none⟩),?_,?_⟩
     ·simp[Instr.fieldAt,bG j,l,Instr.sureAddr,fieldPlace,jO m,o,tX]
     ·simp only[VR];exact⟨p,base,s,g,u,x,z,A,by rw[kC],D⟩
   ·cases h
  ·cases h
 ·cases h
def RD{t:TypeId}{a i v:AV}{x y:Value}(h:Ar P t a i=some v)(j:VR F a x)(s:VR F i y):
 ∃z,(Instr.indexAt t x y).run P w=.ok z w/\VR F v z:=by
 unfold Ar at h;split at h
 ·next e id f len N k m n=>
  obtain⟨u,rfl⟩:=BJ n s;split at h
  ·next d o=>
   split at h
   ·next p=>
    cases h;simp only[VR]at j;obtain⟨q,A,O,rfl⟩:=j;refine⟨.pointer (some ⟨q.bl,q.ba+f+k.toNat*d,none⟩),?_,?_⟩
    ·simp[Instr.indexAt,asIntOf,bG m,jO o,p,tX]
    ·simp only[VR];exact⟨q,A,by rw[kC]⟩
   ·cases h
  ·cases h
 ·next len e id f k m n=>
  obtain⟨u,rfl⟩:=BJ n s;split at h
  ·next d o=>
   split at h
   ·next p=>
    cases h;simp only[VR]at j;obtain⟨q,A,rfl⟩:=j;refine⟨.pointer (some ⟨q.bl,q.ba+f+k.toNat*d,none⟩),?_,?_⟩
    ·simp[Instr.indexAt,asIntOf,bG m,jO o,p,tX,Instr.sureAddr]
    ·simp only[VR];exact⟨q,A,by rw[kC]⟩
   ·cases h
  ·cases h
 ·next e l k m n=>
  obtain⟨u,rfl⟩:=BJ n s;split at h
  ·next d o=>
   split at h
   ·next Q=>
    split at h
    ·next b M=>
     split at h
     ·next D=>
      cases h;obtain⟨r,f,c,E,g,G,x,rfl,T,H,I,L,R⟩:=aA8 j M D;have S:=(gu.1 M).1;have p:0<=k/\k<(l.length:Int):=⟨Q,ah⟩
      refine⟨.pointer (some ⟨r,f+k.toNat*d,none⟩),?_,?_⟩
      ·simp[Instr.indexAt,asIntOf,bG m,jO o,p,tX]
      ·simp only[VR];exact⟨r,f+k.toNat*d,E,g,G,x,H,I,rfl,L,R⟩
     ·cases h
    ·cases h
   ·cases h
  ·cases h
 ·next len e b f k m n=>
  obtain⟨u,rfl⟩:=BJ n s;split at h
  ·next d o=>
   split at h
   ·next p=>
    cases h;simp only[VR]at j;obtain⟨r,base,E,g,G,x,H,I,rfl,L⟩:=j;refine⟨.pointer (some ⟨r,base+f+k.toNat*d,none⟩),?_,?_⟩
    ·simp[Instr.indexAt,asIntOf,bG m,jO o,p,tX,Instr.sureAddr]
    ·simp only[VR];exact⟨r,base,E,g,G,x,H,I,by rw[kC],L⟩
   ·cases h
  ·cases h
 ·cases h
def avd(s:Q0)(k:Nat):((⟨⟨s⟩⟩:ByteArray)[k]?)=s[k]?:=by rw[getElem?_def,getElem?_def];rfl
def abv{t:TypeId}{a i v:AV}{x y:Value}(h:GN P t a i=some v)(b:VR F a x)(g:VR F i y):
 ∃z,(Instr.index t x y).run P w=.ok z w/\VR F v z:=by
 unfold GN at h;split at h
 ·next s k d f=>
  obtain⟨l,rfl⟩:=BJ f g;split at h
  ·next m=>
   split at h
   ·next c n=>
    cases h;simp only[VR]at b;subst b;refine⟨.int .u8 c.toNat,?_,by simp[VR]⟩;simp[Instr.index,asIntOf,bG d,m,avd,n]
   ·cases h
  ·cases h
 ·next len e A k d f=>
  obtain⟨l,rfl⟩:=BJ f g;split at h
  ·next j o=>
   split at h
   ·next p=>
    simp only[VR]at b;obtain⟨D,rfl,q⟩:=b;obtain⟨z,r,u⟩:=ako (w:=w) h q;exact⟨z,by simp[Instr.index,asIntOf,bG d,jO o,p,r],u⟩
   ·cases h
  ·cases h
 ·cases h
def nI(F:Env):Q4->Option Value->Prop
 |none,none=>True
 |some a,some x=>VR F a x
 |_,_=>False
def G9{sl:Bool}{len cap:Nat}{i:Nat->Bool}{lo hi:Q4}{b d:WD}{l h:Nat}(m:zL len i lo hi=some (l,h))(o:∀k,i k=true->k<=cap)(s:len<=cap)
 (f:nI F lo b) (g:nI F hi d):
 (Instr.sliceBounds sl len cap b d none).run P w=.ok (l,h,cap) w/\l<=h/\h<=cap:=by
 unfold zL at m;split at m
 ·cases m
 next r e=>
 split at m
 ·cases m
 next y j=>
 simp only[bF,qI]at m;obtain⟨rfl,rfl⟩:=m;have z:∀c,(match d with|some v=>Instr.sliceBound v cap c|none=>pure len).run P w=.ok r w/\r<=cap:=by
  intro c;cases hi with
  |none=>cases d with
   |none=>simp[Dj]at e;subst e;exact⟨rfl,s⟩
   |some _=>exact g.elim
  |some a=>cases d with
   |none=>exact g.elim
   |some x=>
    simp only[Dj]at e;simp only[nI]at g;split at e
    ·next n u=>
     obtain⟨E,rfl⟩:=BJ u g;split at e
     ·next p=>
      cases e;have:=o _ p.2;refine⟨?_,this⟩;simp[Instr.sliceBound,asIntOf,p.1];intro q;omega
     ·cases e
    ·cases e
 have A:∀c,(match b with|some v=>Instr.sliceBound v r c|none=>pure 0).run P w=.ok y w/\y<=r:=by
  intro c;cases lo with
  |none=>cases b with
   |none=>simp[Nk]at j;subst j;exact⟨rfl,vG _⟩
   |some _=>exact f.elim
  |some a=>cases b with
   |none=>exact f.elim
   |some x=>
    simp only[Nk]at j;simp only[nI]at f;split at j
    ·next n u=>
     obtain⟨E,rfl⟩:=BJ u f;split at j
     ·next p=>
      cases j;refine⟨?_,ah⟩;simp[Instr.sliceBound,asIntOf,p.1];intro q;omega
     ·cases j
    ·cases j
 refine⟨?_,(A .index).2,(z .index).2⟩;unfold Instr.sliceBounds;have p:=z (if sl then .sliceAcap else .sliceAlen);have D:=A (if(none:WD).isSome then .slice3C else .sliceB);cases d<;>simp only[aZ,bQ,aY]at p D⊢<;>cases b<;>simp only[aZ,bQ,aY]at p D⊢<;>simp_all
def strSize(s:Q0):(⟨⟨s⟩⟩:ByteArray).size=s.length:=rfl
def amn(s:Q0)(l h:Nat):(⟨⟨s⟩⟩:ByteArray).extract l h=⟨⟨(s.take h).drop l⟩⟩:=by apply ByteArray.ext;rw[ByteArray.data_extract];apply P5;simp[MN,List.extract_eq_take_drop]
def Tn{a:Addr}{c:Nat}(d:a.spot=none:=by rfl):VR F (.ro []) (.slice (some a) 0 c):=by simp only[VR];obtain⟨f,b,g⟩:=a;simp only at d;subst d;right;exact⟨f,b,c,[],0,rfl,vG _,by simp[aG],aA,λh=>absurd rfl h⟩
def afg{len:Nat}{a:Nat->Bool}{lo hi:Q4}{l h:Nat}(b:zL len a lo hi=some (l,h))(c:∀k,a k=true->k<=len):h<=len:=by
 unfold zL at b;split at b
 ·cases b
 ·next e=>
  split at b
  ·cases b
  ·cases b;cases hi with
   |none=>simp[Dj]at e;omega
   |some v=>
    simp only[Dj]at e;split at e
    ·split at e
     ·next d=>cases e;exact c _ d.2
     ·cases e
    ·cases e
def Yq(h:SR P F J w){t:TypeId}{a v:AV}{x:Value}{lo hi:Q4}{S T:WD}(b:Dp P t J a lo hi=some v)(E:VR F a x)(o:nI F lo S)(p:nI F hi T):
 ∃y,(Instr.sliceAt t x S T none).run P w=.ok y w/\VR F v y:=by
 unfold Dp at b;split at b
 ·next s z=>
  simp only[bJ,Nb]at b;obtain⟨l,f,i,rfl⟩:=b;simp only[VR]at E;subst E;have m:=G9 (P:=P) (w:=w) (sl:=false) (cap:=s.length) i (λk g=>by simpa using g) (dP _) o p;refine⟨.string ⟨⟨(s.take f).drop l⟩⟩,?_,by simp[VR]⟩;simp only[Instr.sliceAt,Instr.slice,bG z,aZ,aY,strSize,ae5,iZ,if_false,m.1,bQ,amn,xF]
 ·next e id d len u z=>
  simp only[VR]at E;obtain⟨q,I,G,rfl⟩:=E;split at b
  ·next j c A=>
   simp only[yE,Nb]at b;obtain⟨l,f,i,b⟩:=b;simp only[uK]at G⊢;have m:=G9 (P:=P) (w:=w) (sl:=true) (cap:=c) i (λk g=>by simpa using g) G o p;split at b
   ·next D=>
    cases b;subst D;refine⟨.slice (some ⟨q.bl,q.ba+d,none⟩) (f-c) 0,?_,?_⟩
    ·simp only[Instr.sliceAt,Instr.slice,bG z,aZ,aY,m.1,jO A,bQ,if_true,Dh]
    ·simp only[VR];exact⟨q,I,by simp;omega,rfl⟩
   ·next D=>
    cases b;refine⟨.slice (some ⟨q.bl,q.ba+d+l*j,none⟩) (f-l) (c-l),?_,?_⟩
    ·simp only[Instr.sliceAt,Instr.slice,bG z,aZ,aY,m.1,jO A,bQ,aj D,iJ,tX]
    ·simp only[VR];exact⟨q,I,by simp;omega,by rw[kC];rfl⟩
  ·next j A=>
   split at b
   ·next c et rw hg=>
    split at b
    ·next Z=>
     simp only[yE,Nb]at b;obtain⟨l,f,i,b⟩:=b;obtain⟨q',U,cs,L,fr,ad,r⟩:=h.obj _ _ hg rfl;rw[I]at U;cases U;obtain⟨_,ae,H⟩:=r.room rfl;rw[Z,A]at H;cases H;simp only[xC]at G⊢;have m:=G9 (P:=P) (w:=w) (sl:=true) (cap:=(q.sz-d)/q.es) i (λk g=>by simp at g;omega) G o p;have Rq:f<=len:=by
      unfold zL at i;split at i
      ·cases i
      ·next e=>
       split at i
       ·cases i
       ·cases i;cases hi with
        |none=>simp[Dj]at e;omega
        |some v=>
         simp only[Dj]at e;split at e
         ·split at e
          ·next V=>cases e;simpa using V.2
          ·cases e
         ·cases e
     have M:(q.sz-d)/q.es-l=(q.sz-(d+l*q.es))/q.es:=by rw[<-Nat.sub_sub,Jk l,Nat.sub_mul_div]
     split at b
     ·next D=>
      cases b;refine⟨.slice (some ⟨q.bl,q.ba+d+l*q.es,none⟩) (f-l) ((q.sz-d)/q.es-l),?_,?_⟩
      ·simp only[Instr.sliceAt,Instr.slice,bG z,aZ,aY,m.1,jO A,bQ,iJ,tX];rw[aj ah]
      ·simp only[VR];refine⟨q,I,?_,?_⟩
       ·simp only[xC];rw[<-M];omega
       ·simp only[xC];rw[<-M,kC]
     ·split at b
      ·next D e2=>
       cases b;subst e2;refine⟨.slice (some ⟨q.bl,q.ba+d,none⟩) (f-0) ((q.sz-d)/q.es-0),?_,?_⟩
       ·simp only[Instr.sliceAt,Instr.slice,bG z,aZ,aY,m.1,jO A,bQ,iJ,tX];split<;>simp
       ·simp only[VR];exact⟨q,I,by simp;omega,aA⟩
      ·split at b
       ·next D e2 e3=>
        cases b;subst e3;simp only[Instr.sliceAt,Instr.slice,bG z,aZ,aY,m.1,jO A,bQ,iJ,tX,Dh];by_cases W:(q.sz-d)/q.es=f
        ·rw[au W];exact⟨_,rfl,Tn⟩
        ·rw[aj W];exact⟨_,rfl,Tn⟩
       ·cases b
    ·cases b
   ·cases b
  ·cases b
 ·next e z=>
  split at b
  ·next n A=>
   simp only[bJ,Nb]at b;obtain⟨l,f,i,rfl⟩:=b;simp only[VR]at E;subst E;have m:=G9 (P:=P) (w:=w) (sl:=true) (cap:=0) i (λk g=>by simpa using g) (dP _) o p;have O:l=0:=ah;have Q:f=0:=ah;subst O;subst Q;refine⟨.slice none 0 0,?_,by simp[VR]⟩;simp only[Instr.sliceAt,Instr.slice,bG z,aZ,aY,m.1,jO A,bQ,if_true,Dh]
  ·cases b
 ·next e es z=>
  split at b
  ·next j A=>
   simp only[yE,Nb]at b;obtain⟨l,f,i,b⟩:=b;have af:=E;simp only[VR]at E;rcases E with⟨rfl,pa,rfl⟩|⟨bl,d,c,xs,N,rfl,hc,V,R,h3⟩
   ·have m:=G9 (P:=P) (w:=w) (sl:=true) (cap:=0) i (λk g=>by simpa using g) (dP _) o p;have O:l=0:=ah;have Q:f=0:=ah;subst O;subst Q;simp[U0]at b;subst b;refine⟨.slice pa 0 0,?_,by simp[VR]⟩;have X:=m.1;rw[lK]at X;simp only[Instr.sliceAt,Instr.slice,bG z,aZ,aY,X,jO A,bQ,if_true,Dh]
   have m:=G9 (P:=P) (w:=w) (sl:=true) (cap:=c) i (λk g=>by simp at g;omega) hc o p;have Rq:=afg i (λk g=>by simpa using g);simp only[Instr.sliceAt,Instr.slice,bG z,aZ,aY,m.1,jO A,bQ,iJ,tX];unfold U0 at b;split at b
   ·next D=>
    cases b;subst D;simp only[Dh];by_cases W:c=f
    ·rw[au W];exact⟨_,rfl,Tn⟩
    ·rw[aj W];exact⟨_,rfl,Tn⟩
   ·next D=>
    split at b
    ·next a ha=>
     split at b
     ·next H=>
      cases b;obtain⟨x,aa,mX⟩:=V.at ha;have ab:=R x (tN aa);have:N=j:=by rw[<-ab,<-Vr mX,H]
      subst this;obtain⟨cs,L,fr,h4,h5,h6⟩:=h3 (by intro e;subst e;simp at ha);rw[aj ah];refine⟨_,rfl,?_⟩;have ac:=V.length;simp only[VR];right;refine⟨bl,d+l*N,c-l,(xs.take f).drop l,N,by congr 1;simp;omega,by simp;omega,(V.take f).drop l,λy Y=>R y (MR (MQ Y)),λ_=>⟨cs,L,fr,h4,?_,?_⟩⟩
      ·rw[JL (λy Y=>R y (MR (MQ Y)))];have hL:=JL R;have hm:((xs.take f).drop l).length=f-l:=by simp;omega
       rw[hm];have h7:l*N+(f-l)*N=f*N:=by rw[<-uJ];congr 1;omega
       have h8:f*N<=xs.length*N:=wC _ ah;omega
      ·intro k y g;rw[<-af7 (λy Y=>R y (MR Y)),<-aoI R,uI,oh]at g;split at g
       ·have:=h6 _ _ g;rw[<-kC]at this;exact this
       ·cases g
     ·cases b
    ·cases b
  ·cases b
 ·next n e id d z=>
  simp only[VR]at E;obtain⟨q,I,rfl⟩:=E;split at b
  ·next j A=>
   simp only[bJ,Nb]at b;obtain⟨l,f,i,rfl⟩:=b;have m:=G9 (P:=P) (w:=w) (sl:=false) (cap:=n) i (λk g=>by simpa using g) (dP _) o p;have Rq:=afg i (λk g=>by simpa using g);simp only[Instr.sliceAt,Instr.sureAddr,bG z,aZ,aY,m.1,jO A,bQ];by_cases D:n=l
   ·subst D;rw[au rfl,au rfl];refine⟨_,rfl,?_⟩;simp only[VR];exact⟨q,I,by simp;omega,aA⟩
   ·rw[aj D,aj D];refine⟨_,rfl,?_⟩;simp only[VR,tX];exact⟨q,I,by simp;omega,by simp[kC]⟩
  ·cases b
 ·cases b
def ajc(h:SR P F J w){t:TypeId}{ts:Ww}{ty:TypeId}{a v:AV}{x:Value}(g:ts[0]? =some t)(d:UO P J t a=some v)(f:VR F a x):
 ∃y,(Builtin.len_ ts ty #[x]).run P w=.ok y w/\VR F v y:=by
 unfold UO at d;split at d
 ·next s b=>cases d;simp only[VR]at f;subst f;exact⟨.int .i64 s.length,by simp[Builtin.len_,g,bG b,goInt,strSize],by simp[VR]⟩
 ·next e b=>cases d;simp only[VR]at f;subst f;exact⟨.int .i64 0,by simp[Builtin.len_,g,bG b,goInt],by simp[VR]⟩
 ·next e id j n p b=>cases d;simp only[VR]at f;obtain⟨q,o,_,rfl⟩:=f;exact⟨.int .i64 n,by simp[Builtin.len_,g,bG b,goInt],by simp[VR]⟩
 ·next e l b=>cases d;simp only[VR]at f;rcases f with⟨rfl,_,rfl⟩|⟨D,j,c,E,G,rfl,_⟩;exact⟨.int .i64 0,by simp[Builtin.len_,g,bG b,goInt],by simp[VR]⟩;exact⟨.int .i64 l.length,by simp[Builtin.len_,g,bG b,goInt],by simp[VR]⟩
 ·next r u b=>cases d;simp only[VR]at f;subst f;exact⟨.int .i64 0,by simp[Builtin.len_,g,bG b,goInt],by simp[VR]⟩
 ·next r u id b=>
  split at d
  ·next es z=>
   cases d;simp only[VR]at f;obtain⟨q,o,rfl⟩:=f;obtain⟨H,i,I,k,A,m,_⟩:=h.obj _ _ z rfl;rw[o]at i;cases i;refine⟨.int .i64 es.length,?_,by simp[VR]⟩;simp[Builtin.len_,g,bG b,goInt,getObj,Sem.run,A,m]
  ·cases d
 ·next _ n _ b=>cases d;exact⟨.int .i64 n,by cases x<;>simp[Builtin.len_,g,bG b,goInt],by simp[VR]⟩
 ·cases d
def aoc(b o i j:Nat):((⟨b,o+i,none⟩:Addr)==⟨b,o+j,none⟩)=(i==j):=by rw[zx];simp
section
variable{t e:TypeId}
def ahm{n:Nat}(a:P.underlying t=some (.pointer e))(c:sizeT P e=some n)(h0:n≠0)(b o i j:Nat):
 (Op.equal t (.pointer (some ⟨b,o+i,none⟩)) (.pointer (some ⟨b,o+j,none⟩))).run P w=.ok (i==j) w:=by
 have H:∀d:Nat,(Op.equalIn (d+1) t (.pointer (some ⟨b,o+i,none⟩)) (.pointer (some ⟨b,o+j,none⟩))).run P w=.ok (i==j) w:=λd=>by simp only[Op.equalIn,aZ,bG a,aY,jO c,au h0,xF];simp only[sameAddr,beq_self_eq_true,if_true,bQ,aoc,aZ,aY]
 exact H 9999
def H6(b:P.underlying t=some (.pointer e))(a:Addr):(Op.equal t (.pointer (some a)) (.pointer none)).run P w=.ok false w:=by
 have H:∀d:Nat,(Op.equalIn (d+1) t (.pointer (some a)) (.pointer none)).run P w=.ok false w:=λd=>by simp only[Op.equalIn,aZ,bG b,aY,bQ]
 exact H 9999
def HY(b:P.underlying t=some (.pointer e))(a:Addr):(Op.equal t (.pointer none) (.pointer (some a))).run P w=.ok false w:=by
 have H:∀d:Nat,(Op.equalIn (d+1) t (.pointer none) (.pointer (some a))).run P w=.ok false w:=λd=>by simp only[Op.equalIn,aZ,bG b,aY,bQ,Na]
 exact H 9999
def VX(b:P.underlying t=some (.slice e))(a:Addr)(l c:Nat):(Op.equal t (.slice (some a) l c) (.slice none 0 0)).run P w=.ok false w:=by
 have H:∀d:Nat,(Op.equalIn (d+1) t (.slice (some a) l c) (.slice none 0 0)).run P w=.ok false w:=λd=>by simp only[Op.equalIn,aZ,bG b,aY,bQ]
 exact H 9999
def VW(b:P.underlying t=some (.slice e))(a:Addr)(l c:Nat):(Op.equal t (.slice none 0 0) (.slice (some a) l c)).run P w=.ok false w:=by
 have H:∀d:Nat,(Op.equalIn (d+1) t (.slice none 0 0) (.slice (some a) l c)).run P w=.ok false w:=λd=>by simp only[Op.equalIn,aZ,bG b,aY,bQ,Na]
 exact H 9999
def ahi{a:Array (String×TypeId)}(b:P.underlying t=some (.interface a))(u:TypeId)(x:Value):(Op.equal t (.iface u x) .nilIface).run P w=.ok false w:=by
 have H:∀d:Nat,(Op.equalIn (d+1) t (.iface u x) .nilIface).run P w=.ok false w:=λd=>by simp only[Op.equalIn,aZ,bG b,aY,bQ]
 exact H 9999
def ahk{a:Array (String×TypeId)}(b:P.underlying t=some (.interface a))(u:TypeId)(x:Value):(Op.equal t .nilIface (.iface u x)).run P w=.ok false w:=by
 have H:∀d:Nat,(Op.equalIn (d+1) t .nilIface (.iface u x)).run P w=.ok false w:=λd=>by simp only[Op.equalIn,aZ,bG b,aY,bQ]
 exact H 9999
def ahj{k:TypeId}(a:P.underlying t=some (.map k e))(r:Nat):(Op.equal t (.map (some r)) (.map none)).run P w=.ok false w:=by
 have H:∀d:Nat,(Op.equalIn (d+1) t (.map (some r)) (.map none)).run P w=.ok false w:=λd=>by simp only[Op.equalIn,aZ,bG a,aY,bQ]
 exact H 9999
def ahl{k:TypeId}(a:P.underlying t=some (.map k e))(r:Nat):(Op.equal t (.map none) (.map (some r))).run P w=.ok false w:=by
 have H:∀d:Nat,(Op.equalIn (d+1) t (.map none) (.map (some r))).run P w=.ok false w:=λd=>by simp only[Op.equalIn,aZ,bG a,aY,bQ,Na]
 exact H 9999
end
def uO{t:TypeId}{x y:Operand}{u a:Value}{r:Bool}(h:(Op.equal t u a).run P w=.ok r w)
 (b:binOp .eql t u a=(do pure (.bool (<-Op.equal t u a)))) (c:(eqGuard .eql t x y u a).run P w=.ok () w):
 (do eqGuard .eql t x y u a;binOp .eql t u a:Sem Value).run P w=.ok (.bool r) w:=by
 simp only[aZ,c,aY,b,h,bQ]
def uP{t:TypeId}{x y:Operand}{u a:Value}{r:Bool}(h:(Op.equal t u a).run P w=.ok r w)
 (b:binOp .neq t u a=(do pure (.bool (!(<-Op.equal t u a))))) (c:(eqGuard .neq t x y u a).run P w=.ok () w):
 (do eqGuard .neq t x y u a;binOp .neq t u a:Sem Value).run P w=.ok (.bool (!r)) w:=by
 simp only[aZ,c,aY,b,h,bQ]
def agm{f:BinOp}{t:TypeId}{x y:Operand}{k:IntKind}{a b c d m n:Int}{v:AV}(g:Vy f a b c d=some v)(h1:a<=m)(o:m<=b)(p:c<=n)(q:n<=d):
 ∃z,(do eqGuard f t x y (.int k m) (.int k n);binOp f t (.int k m) (.int k n):Sem Value).run P w=.ok z w/\VR F v z:=by
 have h:∀(f:BinOp)(r:Bool),(eqGuard f t x y (.int k m) (.int k n)).run P w=.ok () w->binOp f t (.int k m) (.int k n)=(if k≠k then stuck "BinOp: operands of different kinds" else Op.intCmp f m n)->Op.intCmp f m n=pure (.bool r)->
  (do eqGuard f t x y (.int k m) (.int k n);binOp f t (.int k m) (.int k n):Sem Value).run P w=.ok (.bool r) w:=by
  intro f r i j l;rw[aZ,i,aY,j,aj aA,l];rfl
 cases f<;>simp only[Vy,reduceCtorEq]at g
 all_goals split at g
 all_goals try split at g
 all_goals cases g
 all_goals refine⟨_,h _ _ rfl rfl rfl,?_⟩
 all_goals simp only[VR,Value.bool.injEq]
 all_goals first|(exact JU ah)|(exact ER ah)|(simp;omega)|skip
def aog(h:SR P F J w){A:BinOp}{t:TypeId}{x y:Operand}{a b v:AV}{u D:Value}(d:wG P A t x y a b=some v)(f:VR F a u)(g:VR F b D):
 ∃z,(do eqGuard A t x y u D;binOp A t u D:Sem Value).run P w=.ok z w/\VR F v z:=by
 unfold wG at d;split at d
 ·split at d
  ·next e i=>
   split at d
   ·next n E=>
    split at d
    ·next G=>
     cases d;obtain⟨rfl,H⟩:=G;simp only[VR]at f g;obtain⟨q,j,rfl⟩:=f;obtain⟨Q,k,rfl⟩:=g;rw[j]at k;cases k;exact⟨_,uO (ahm i E H _ _ _ _) rfl rfl,by simp only[VR]⟩
    ·cases d
   ·cases d
  ·cases d
 ·split at d
  ·next e i=>
   split at d
   ·next n E=>
    split at d
    ·next G=>
     cases d;obtain⟨rfl,H⟩:=G;simp only[VR]at f g;obtain⟨q,j,rfl⟩:=f;obtain⟨Q,k,rfl⟩:=g;rw[j]at k;cases k;exact⟨_,uP (ahm i E H _ _ _ _) rfl rfl,by simp only[VR]⟩
    ·cases d
   ·cases d
  ·cases d
 ·split at d
  ·next i=>cases d;simp only[VR]at f g;obtain⟨q,j,rfl⟩:=f;subst g;exact⟨_,uO (H6 i _) rfl rfl,by simp only[VR]⟩
  ·cases d
 ·split at d
  ·next i=>cases d;simp only[VR]at f g;obtain⟨q,j,rfl⟩:=g;subst f;exact⟨_,uO (HY i _) rfl rfl,by simp only[VR]⟩
  ·cases d
 ·split at d
  ·next i=>cases d;simp only[VR]at f g;obtain⟨q,j,rfl⟩:=f;subst g;exact⟨_,uP (H6 i _) rfl rfl,by simp only[VR];rfl⟩
  ·cases d
 ·split at d
  ·next i=>cases d;simp only[VR]at f g;obtain⟨q,j,rfl⟩:=g;subst f;exact⟨_,uP (HY i _) rfl rfl,by simp only[VR];rfl⟩
  ·cases d
 ·split at d
  ·next i=>cases d;simp only[VR]at f g;obtain⟨o,p,c,I,L,rfl,_⟩:=f.resolve_left aA;subst g;exact⟨_,uO (VX i _ _ _) rfl rfl,by simp only[VR]⟩
  ·cases d
 ·split at d
  ·next i=>cases d;simp only[VR]at f g;obtain⟨o,p,c,I,L,rfl,_⟩:=g.resolve_left aA;subst f;exact⟨_,uO (VW i _ _ _) rfl rfl,by simp only[VR]⟩
  ·cases d
 ·split at d
  ·next i=>cases d;simp only[VR]at f g;obtain⟨o,p,c,I,L,rfl,_⟩:=f.resolve_left aA;subst g;exact⟨_,uP (VX i _ _ _) rfl rfl,by simp only[VR];rfl⟩
  ·cases d
 ·split at d
  ·next i=>cases d;simp only[VR]at f g;obtain⟨o,p,c,I,L,rfl,_⟩:=g.resolve_left aA;subst f;exact⟨_,uP (VW i _ _ _) rfl rfl,by simp only[VR];rfl⟩
  ·cases d
 ·split at d
  ·next i=>cases d;simp only[VR]at f g;obtain⟨o,base,M,l,N,x,_,_,rfl,_⟩:=f;subst g;exact⟨_,uO (H6 i _) rfl rfl,by simp only[VR]⟩
  ·cases d
 ·split at d
  ·next i=>cases d;simp only[VR]at f g;obtain⟨o,base,M,l,N,x,_,_,rfl,_⟩:=g;subst f;exact⟨_,uO (HY i _) rfl rfl,by simp only[VR]⟩
  ·cases d
 ·split at d
  ·next i=>cases d;simp only[VR]at f g;obtain⟨o,base,M,l,N,x,_,_,rfl,_⟩:=f;subst g;exact⟨_,uP (H6 i _) rfl rfl,by simp only[VR];rfl⟩
  ·cases d
 ·split at d
  ·next i=>cases d;simp only[VR]at f g;obtain⟨o,base,M,l,N,x,_,_,rfl,_⟩:=g;subst f;exact⟨_,uP (HY i _) rfl rfl,by simp only[VR];rfl⟩
  ·cases d
 ·split at d
  ·next i=>cases d;simp only[VR]at f g;obtain⟨q,j,_,rfl⟩:=f;subst g;exact⟨_,uO (VX i _ _ _) rfl rfl,by simp only[VR]⟩
  ·cases d
 ·split at d
  ·next i=>cases d;simp only[VR]at f g;obtain⟨q,j,_,rfl⟩:=g;subst f;exact⟨_,uO (VW i _ _ _) rfl rfl,by simp only[VR]⟩
  ·cases d
 ·split at d
  ·next i=>cases d;simp only[VR]at f g;obtain⟨q,j,_,rfl⟩:=f;subst g;exact⟨_,uP (VX i _ _ _) rfl rfl,by simp only[VR];rfl⟩
  ·cases d
 ·split at d
  ·next i=>cases d;simp only[VR]at f g;obtain⟨q,j,_,rfl⟩:=g;subst f;exact⟨_,uP (VW i _ _ _) rfl rfl,by simp only[VR];rfl⟩
  ·cases d
 ·split at d
  ·next i=>cases d;simp only[VR]at f g;obtain⟨q,rfl,j⟩:=f;subst g;exact⟨_,uO (ahi i _ _) rfl rfl,by simp only[VR]⟩
  ·cases d
 ·split at d
  ·next i=>cases d;simp only[VR]at f g;obtain⟨q,rfl,j⟩:=g;subst f;exact⟨_,uO (ahk i _ _) rfl rfl,by simp only[VR]⟩
  ·cases d
 ·split at d
  ·next i=>cases d;simp only[VR]at f g;obtain⟨q,rfl,j⟩:=f;subst g;exact⟨_,uP (ahi i _ _) rfl rfl,by simp only[VR];rfl⟩
  ·cases d
 ·split at d
  ·next i=>cases d;simp only[VR]at f g;obtain⟨q,rfl,j⟩:=g;subst f;exact⟨_,uP (ahk i _ _) rfl rfl,by simp only[VR];rfl⟩
  ·cases d
 ·split at d
  ·next i=>cases d;simp only[VR]at f g;obtain⟨q,j,rfl⟩:=f;subst g;exact⟨_,uO (ahj i _) rfl rfl,by simp only[VR]⟩
  ·cases d
 ·split at d
  ·next i=>cases d;simp only[VR]at f g;obtain⟨q,j,rfl⟩:=g;subst f;exact⟨_,uO (ahl i _) rfl rfl,by simp only[VR]⟩
  ·cases d
 ·split at d
  ·next i=>cases d;simp only[VR]at f g;obtain⟨q,j,rfl⟩:=f;subst g;exact⟨_,uP (ahj i _) rfl rfl,by simp only[VR];rfl⟩
  ·cases d
 ·split at d
  ·next i=>cases d;simp only[VR]at f g;obtain⟨q,j,rfl⟩:=g;subst f;exact⟨_,uP (ahl i _) rfl rfl,by simp only[VR];rfl⟩
  ·cases d
 ·split at d
  ·next O=>subst O;simp only[VR]at f g;obtain⟨m,r,s,rfl⟩:=f;subst g;exact agm d r s (gq _) (gq _)
  ·cases d
 ·split at d
  ·next O=>subst O;simp only[VR]at f g;obtain⟨m,r,s,rfl⟩:=g;subst f;exact agm d (gq _) (gq _) r s
  ·cases d
 ·split at d
  ·next T U r s=>
   simp only[yE]at d;obtain⟨z,R,S⟩:=d;rw[Ec r f,Ec s g];exact⟨z,D8 R w,FN _ _ _ S⟩
  ·cases d
def Ey(F:Env):Wo->List (Nat×Value)->Prop
 |[],b=>b=[]
 |(i,a)::l,b=>∃x rest,b=(i,x)::rest/\VR F a x/\Ey F l rest
def ahC(off:Nat):∀(l:Q6)(k:Nat)(cs:QR),
 (l.zipIdx k).foldl (λcs (c,j)=>cs.setIfInBounds (off+j) c) cs=setFrom cs (off+k) l
 |[],_,_=>rfl
 |v::l,k,cs=>by simp only[List.zipIdx_cons,List.foldl_cons];rw[ahC off l (k+1)];rfl
def aDA{c g vs:Q3}{off:Nat}{cs:QR}{xs:Q6}(h:CS c off vs=some g)(i:aG F c cs.toList)(j:aG F vs xs):aG F g (setFrom cs off xs).toList:=by
 obtain⟨o,p,l⟩:=Yj h;have m:=i.length;have n:=j.length;simp only[MF]at m;refine aG.of ?_ λk a b=>?_
 ·have:=Pj xs cs off;simp only[MF];omega
 ·rw[l]at b;rw[yw,Yi _ _ _ _ ah];split at b
  ·next q=>
   rw[au ah];obtain⟨x,d,f⟩:=j.at b;exact⟨x,d,f⟩
  ·rw[aj ah];obtain⟨x,d,f⟩:=i.at b;rw[yw]at d;exact⟨x,d,f⟩
def N7{d:Nat->Option (Nat×Nat)}:∀{m:Wo}{qs:List (Nat×Value)}{c k:Q3}{cs:QR},
 Di d c m=some k->Ey F m qs->aG F c cs.toList->∃f,Instr.fill d cs qs=some f/\aG F k f.toList
 |[],qs,c,k,cs,h,g,l=>by simp only[Ey]at g;subst g;simp only[Di,bF]at h;subst h;exact⟨cs,rfl,l⟩
 |(i,a)::m,qs,c,k,cs,h,g,l=>by
  simp only[Ey]at g;obtain⟨x,rest,rfl,u,g⟩:=g;unfold Di at h;split at h
  ·cases h
  ·next n q o=>
   split at h
   ·next v=>
    split at h
    ·next D r=>
     have b:=BN u;have j:=b.length;have y:=aDA r l b;obtain⟨E,_,_⟩:=Yj r;have p:=l.length;simp only[MF]at j p;obtain⟨f,z,A⟩:=N7 h g y;refine⟨f,?_,A⟩;unfold Instr.fill;simp only[o];rw[aj (by simp;omega)];rw[<-z];congr 1;have s:=ahC n x.cells.toList 0 cs;rw[pY]at s;rw[<-s,<-Array.foldl_toList,Array.toList_zipIdx]
    ·cases h
   ·cases h
def aaF{c:QQ}{U:Operand->Value}(d:∀x a,c x=some a->VR F a (U x)):∀{l:List (Nat×Operand)}{b:Wo},
 H8 c l=some b->Ey F b (l.map λ(i,x)=>(i,U x))
 |[],b,h=>by simp[H8]at h;subst h;simp[Ey]
 |(i,x)::l,b,h=>by
  unfold H8 at h;split at h
  ·next v r f g=>
   cases h;exact⟨U x,_,rfl,d _ _ f,aaF d g⟩
  ·cases h
def NW{b:QQ}{U:Operand->Value}(c:∀x a,b x=some a->VR F a (U x)):∀{l:List Operand}{vs:Q3},
 DF b l=some vs->aG F vs (l.map U)
 |[],vs,h=>by simp[DF]at h;subst h;simp[aG]
 |x::l,vs,h=>by
  unfold DF at h;split at h
  ·next v r d f=>
   cases h;exact aG.cons (c _ _ d) (NW c f)
  ·cases h
def ajy:∀{fs:List Field}{a:WF},TF P fs=some a->(fs.mapM λf=>do pure (f.offset,<-sizeOf f.type):Sem WF).run P w=.ok a w
 |[],a,h=>by simp[TF]at h;subst h;rfl
 |f::fs,a,h=>by
  unfold TF at h;split at h
  ·next n r b c=>
   cases h;simp only[aeS,aZ,jO b,aY,bQ,ajy c]
  ·cases h
def aok{t:TypeId}{r:Wo}{qs:Array (Nat×Value)}{v:AV}(b:UL P t r=some v)(s:Ey F r qs.toList):
 ∃y,(Instr.build t qs).run P w=.ok y w/\VR F v y:=by
 unfold UL at b;split at b
 ·next zero d k l=>
  obtain⟨z,m,g⟩:=IU k;split at b
  ·next a o=>
   simp only[bJ]at b;obtain⟨c,p,rfl⟩:=b;obtain⟨j,h,q⟩:=N7 p s (g F);refine⟨.agg j,?_,by simp only[VR];exact⟨j.toList,rfl,q⟩⟩;have A:(d.mapM λf=>do pure (f.offset,<-sizeOf f.type):Sem (Array (Nat×Nat))).run P w=.ok ⟨a⟩ w:=by rw[Za];simp only[Zt,ajy o,aY]
   simp only[Instr.build,aZ,m,aY,bG l,A];have:(λi:Nat=>(⟨a⟩:Array (Nat×Nat))[i]?)=λi:Nat=>a[i]?:=by funext i;simp
   rw[this,h];rfl
  ·cases b
 ·next zero n u k l=>
  obtain⟨z,m,g⟩:=IU k;split at b
  ·next x D=>
   simp only[bJ]at b;obtain⟨c,p,rfl⟩:=b;obtain⟨j,h,q⟩:=N7 p s (g F);refine⟨.agg j,?_,by simp only[VR];exact⟨j.toList,rfl,q⟩⟩;simp only[Instr.build,aZ,m,aY,bG l,jO D,h];rfl
  ·cases b
 ·cases b
def axo{t:TypeId}{a:AV}{x:Value}(h:Kw P t=some false)(b:VR F a x):∃y,(Instr.makeInterface t x).run P w=.ok y w/\VR F (.jL t a) y:=by
 unfold Kw at h;split at h<;>cases h
 next d c f=>
 refine⟨.iface t x,?_,by simp only[VR];exact⟨x,rfl,b⟩⟩;simp only[Instr.makeInterface,aZ,bG f,aY];cases d<;>simp_all
def Y7{t:TypeId}{i:TypeInfo}{z:Value}{a:AV}(hi:P.info? t=some i)(b:i.zero=some z)(c:oH 4 z=some a):(zeroValue t).run P w=.ok z w/\VR F a z:=
 ⟨by simp[zeroValue,IQ hi,b],FN _ _ _ c⟩
def aFe{t r:TypeId}{a v:AV}{x:Value}{ok:Bool}(c:U1 P a t ok=some v)(k:VR F a x):
 ∃y,(Instr.typeAssert x r t ok).run P w=.ok y w/\VR F v y:=by
 unfold U1 at c;split at c
 ·next u b hi=>
  simp only[VR]at k;obtain⟨y,rfl,q⟩:=k;have l:∃d,P.underlying t=some d/\∀h,d≠.interface h:=by
   unfold Kw at hi;split at hi<;>cases hi
   next d f g=>exact⟨d,g,λh e=>f h e⟩
  obtain⟨d,g,f⟩:=l;split at c
  ·next e=>
   cases c;subst e;refine⟨if ok then .tuple #[y,.bool true]else y,?_,?_⟩
   ·simp only[Instr.typeAssert,aZ,bG g,aY];cases d<;>simp_all
   ·cases ok
    ·simpa using q
    ·simp only[VR];exact⟨[y,.bool true],rfl,aG.cons q (aG.cons (by simp[VR]) (by simp[aG]))⟩
  ·next e=>
   split at c
   ·next j=>
    split at c
    ·next i m=>
     split at c
     ·next z n=>
      simp only[bJ]at c;obtain⟨a,o,rfl⟩:=c;obtain⟨s,p⟩:=Y7 (w:=w) (F:=F) m n o;refine⟨.tuple #[z,.bool false],?_,?_⟩
      ·subst j;simp only[Instr.typeAssert,aZ,bG g,aY];have A:¬u=t:=e;cases d<;>simp_all
      ·simp only[VR];exact⟨[z,.bool false],rfl,aG.cons p (aG.cons (by simp[VR]) (by simp[aG]))⟩
     ·cases c
    ·cases c
   ·cases c
 ·next hi=>
  simp only[VR]at k;subst k;have l:∃d,P.underlying t=some d/\∀h,d≠.interface h:=by
   unfold Kw at hi;split at hi<;>cases hi
   next d f g=>exact⟨d,g,λh e=>f h e⟩
  obtain⟨d,g,f⟩:=l;split at c
  ·next j=>
   split at c
   ·next i m=>
    split at c
    ·next z n=>
     simp only[bJ]at c;obtain⟨a,o,rfl⟩:=c;obtain⟨s,p⟩:=Y7 (w:=w) (F:=F) m n o;refine⟨.tuple #[z,.bool false],?_,?_⟩
     ·subst j;simp only[Instr.typeAssert,aZ,bG g,aY];cases d<;>simp_all
     ·simp only[VR];exact⟨[z,.bool false],rfl,aG.cons p (aG.cons (by simp[VR]) (by simp[aG]))⟩
    ·cases c
   ·cases c
  ·cases c
 ·cases c
def atl{l:Q3}{k:Nat}{v:AV}{x:Value}(b:l[k]? =some v)(a:VR F (.fG l) x):∃y,(Instr.extract x k).run P w=.ok y w/\VR F v y:=by simp only[VR]at a;obtain⟨g,rfl,c⟩:=a;obtain⟨y,d,f⟩:=c.at b;exact⟨y,by simp[Instr.extract,d],f⟩
def Jy(s a:Q0):((⟨⟨s⟩⟩:ByteArray)==⟨⟨a⟩⟩)=(s==a):=by
 show ByteArray.beq _ _=_
 unfold ByteArray.beq;simp
def aiR{kd:TypeDesc}{a b:AV}{x y:Value}{r:Bool}(f:match kd,a with|.int _,.i _ _|.int _,.z _ _ _|.string,.s _|.bool,.b _=>True|_,_=>False)(h:abA a b=some r)(c:VR F a x)(d:VR F b y):
 Instr.sameNow kd x y=some r:=by
 unfold abA at h;split at h
 ·next k n g j=>
  simp only[VR]at c d;subst c;subst d;cases kd<;>simp at f
  simp only[Instr.sameNow];split at h
  ·next e=>rw[au e];exact h
  ·cases h
 ·next s i=>
  simp only[VR]at c d;subst c;subst d;cases kd<;>simp at f
  simp only[Instr.sameNow];rw[<-h,Jy]
 ·next s i=>
  simp only[VR]at c d;subst c;subst d;cases kd<;>simp at f
  simp only[Instr.sameNow];exact h
 ·next k lo hi g n=>
  simp only[VR]at c d;obtain⟨m,l,o,rfl⟩:=c;subst d;cases kd<;>simp at f
  split at h
  ·next e=>
   cases h;obtain⟨e,p⟩:=e;simp only[Instr.sameNow];rw[au e];have:m≠n:=ah;simp[this]
  ·cases h
 ·cases h
def Df(F:Env)(es:XX)(a:List MapEntry):Prop:=
 a.length=es.length/\∀(k:Nat) e,es[k]? =some e->∃m,a[k]? =some m/\VR F e.1 m.key/\VR F e.2 m.val
def Df.tail{e:AV×AV}{es:XX}{a:List MapEntry}(h:Df F (e::es) a):∃m rest,a=m::rest/\VR F e.1 m.key/\VR F e.2 m.val/\Df F es rest:=by
 obtain⟨b,c⟩:=h;cases a with
 |nil=>simp at b
 |cons m rest=>obtain⟨l,d,f,g⟩:=c 0 e aA;simp at d;subst d;exact⟨m,rest,rfl,f,g,by simpa using b,λk i j=>by simpa using c (k+1) i (by simpa using j)⟩
def MJ(kd:TypeDesc)(a:AV):Prop:=match kd,a with|.int _,.i _ _|.int _,.z _ _ _|.string,.s _|.bool,.b _=>True|_,_=>False
def find_ok{kd:TypeDesc}{k:AV}{x:Value}(n:MJ kd k)(o:VR F k x):∀{es:XX}{g:List MapEntry}{i:Nat}{r:Option (Nat×AV)},
 J3 k es i=some r->Df F es g->∃l,Instr.findNow kd x g i=some l/\(match r,l with|none,none=>True|some (j,v),some (A,y)=>j=A/\i<=j/\j<i+es.length/\VR F v y|_,_=>False)
 |[],g,i,r,h,p=>by
  simp only[J3,bF]at h;subst h;have:g=[]:=by have:=p.1;cases g<;>simp_all
  subst this;exact⟨none,rfl,trivial⟩
 |e::es,g,i,r,h,p=>by
  obtain⟨m,u,rfl,z,D,E⟩:=p.tail;unfold J3 at h;split at h
  ·next q=>
   cases h;have s:=aiR (kd:=kd) n q o z;exact⟨some (i,m.val),by simp[Instr.findNow,s],rfl,dP _,aA,D⟩
  ·next q=>
   have s:=aiR (kd:=kd) n q o z;obtain⟨l,G,f⟩:=find_ok n o h E;refine⟨l,by simp[Instr.findNow,s,G],?_⟩;cases r<;>cases l<;>simp only at f⊢
   obtain⟨a,b,c,d⟩:=f;exact⟨a,ah,by simp;omega,d⟩
  ·cases h
def ahx{t:TypeId}{k:AV}(h:V9 P t k=true):∃kd,P.underlying t=some kd/\MJ kd k:=by
 unfold V9 at h;split at h
 ·next a=>exact⟨_,a,trivial⟩
 ·next a=>exact⟨_,a,trivial⟩
 ·next a=>exact⟨_,a,trivial⟩
 ·next a=>exact⟨_,a,trivial⟩
 ·cases h
def agb{t:TypeId}{k:AV}{x:Value}{kd:TypeDesc}(c:P.underlying t=some kd)(d:MJ kd k)(a:VR F k x)(b:Bool):(Instr.checkKey b 10000 t x).run P w=.ok () w:=by
 have H:∀n:Nat,(Instr.checkKey b (n+1) t x).run P w=.ok () w:=λn=>by cases kd<;>cases k<;>simp only[MJ]at d<;>simp only[VR]at a<;>(first|subst a|obtain⟨_,_,_,rfl⟩:=a)<;>simp only[Instr.checkKey,aZ,bG c,aY,bQ]
 exact H 9999
def vN(a et:TypeId)(y:Value)(ok:Bool)(es:Array MapEntry):Sem Value:=do
 Instr.checkKey es.isEmpty 10000 a y
 let(v,k) <-match <-Instr.findKey a y es.toList with
  |some (_,v)=>pure (v,true)
  |none=>pure (<-zeroValue et,false)
 pure (if ok then .tuple #[v,.bool k]else v)
def lookup_nil{t a et:TypeId}(b:P.underlying t=some (.map a et))(y:Value)(ok:Bool):(Instr.lookup t (.map none) y ok).run P w=(vN a et y ok #[]).run P w:=by simp only[Instr.lookup,vN,aZ,bG b,aY,bQ];congr 1
def Xo{t c et:TypeId}(d:P.underlying t=some (.map c et))(y:Value)(ok:Bool){r:Nat}{b:Array MapEntry}{a:Nat}(f:w.heap[r]? =some (.map b a)):
 (Instr.lookup t (.map (some r)) y ok).run P w=(vN c et y ok b).run P w:=by
 have g:(getObj r).run P w=.ok (.map b a) w:=by simp[getObj,Sem.run,f]
 simp only[Instr.lookup,vN,aZ,bG d,aY,bQ,g];congr 1
def axg(h:SR P F J w){t:TypeId}{m k v:AV}{x y:Value}{ok:Bool}(d:UQ P t m k ok J=some v)(H:VR F m x)(Q:VR F k y):
 ∃z,(Instr.lookup t x y ok).run P w=.ok z w/\VR F v z:=by
 unfold UQ at d;split at d
 ·next I X R=>
  split at d
  ·next es f=>
   split at d
   ·next s=>
    obtain⟨kd,S,T⟩:=ahx s;have L:∃o:Array MapEntry,(Instr.lookup t x y ok).run P w=(vN I X y ok o).run P w/\Df F es o.toList:=by
     split at f
     ·cases f;simp only[VR]at H;subst H;exact⟨#[],lookup_nil R y ok,by simp[Df]⟩
     ·next id=>
      simp only[VR]at H;obtain⟨q,Y,rfl⟩:=H;split at f
      ·next Z hg=>
       cases f;obtain⟨q',A,o,M,hb,N,hp⟩:=h.obj _ _ hg rfl;rw[Y]at A;cases A;refine⟨o,Xo R y ok hb,by simpa using N,λk e hk=>?_⟩;obtain⟨m,hm,n,g⟩:=hp k e hk;exact⟨m,by simpa using hm,n,g⟩
      ·cases f
     ·cases f
    obtain⟨o,D,O⟩:=L;rw[D];have E:∀b,(Instr.checkKey b 10000 I y).run P w=.ok () w:=λb=>agb S T Q b;have G:∀r,J3 k es 0=some r->∃l,(Instr.findKey I y o.toList).run P w=.ok l w/\(match r,l with|none,none=>True|some (j,v),some (U,y)=>j=U/\0<=j/\j<0+es.length/\VR F v y|_,_=>False):=λr hr=>by obtain⟨l,n,g⟩:=find_ok T Q hr O;exact⟨l,by simp only[Instr.findKey,aZ,bG S,aY,n,bQ],g⟩
    split at d
    ·next j u c=>
     cases d;obtain⟨l,n,g⟩:=G _ c;cases l with
     |none=>exact g.elim
     |some p=>
      obtain⟨U,z⟩:=p;obtain⟨rfl,_,_,V⟩:=g;refine⟨if ok then .tuple #[z,.bool true]else z,?_,?_⟩
      ·simp only[vN,aZ,aY,E,n,bQ]
      ·cases ok
       ·simpa using V
       ·simp only[VR];exact⟨[z,.bool true],rfl,aG.cons V (aG.cons (by simp[VR]) (by simp[aG]))⟩
    ·next c=>
     obtain⟨l,n,g⟩:=G _ c;cases l with
     |some p=>exact g.elim
     |none=>
      split at d
      ·next i sK=>
       split at d
       ·next z hz=>
        simp only[bJ]at d;obtain⟨a,ha,rfl⟩:=d;obtain⟨h3,W⟩:=Y7 (w:=w) (F:=F) sK hz ha;refine⟨if ok then .tuple #[z,.bool false]else z,?_,?_⟩
        ·simp only[vN,aZ,aY,E,n,h3,bQ]
        ·cases ok
         ·simpa using W
         ·simp only[VR];exact⟨[z,.bool false],rfl,aG.cons W (aG.cons (by simp[VR]) (by simp[aG]))⟩
       ·cases d
      ·cases d
    ·cases d
   ·cases d
  ·cases d
 ·cases d
def aDs{k:AV}{x y:Value}{kd:TypeDesc}(c:MJ kd k)(b:VR F k x)(a:Instr.sameNow kd x y=some true)(n:Nat):Instr.sameBits (n+1) y x=true:=by
 cases kd<;>cases k<;>simp only[MJ]at c<;>simp only[VR]at b<;>(first|subst b|obtain⟨_,_,_,rfl⟩:=b)<;>cases y<;>simp only[Instr.sameNow,bF,reduceCtorEq]at a
 ·simp_all [Instr.sameBits]
 ·split at a
  ·simp_all [Instr.sameBits]
  ·cases a
 ·split at a
  ·simp_all [Instr.sameBits]
  ·cases a
 ·next s d=>
  obtain⟨⟨l⟩⟩:=d;rw[Jy]at a;simp only[Instr.sameBits,Jy];simp_all
def EO(h:SR P F J w){c:Q3}{xs:QR}{elem:TypeId}{opn:Bool}{es:Nat}(l:aG F c (xs.toList.take c.length))(f:c.length<=xs.size)(b:opn=false->c.length=xs.size)
 (d:opn=true->elem≠0/\0<es/\sizeT P elem=some es):
 St P F J w (F.put J.next ⟨w.heap.size,0,xs.size,es⟩) (J.new (.cells c elem true opn)) {w with heap:=w.heap.push (.cells xs elem)}:=by
 refine St.alloc h _ _ _ rfl ?_;refine⟨xs,elem,(0,0),aA,?_⟩;refine {fits:=aA,le:=f,shut:=b,cell:=?_,free:=λ_ k _=>aA,whole:=λ_=>⟨rfl,aA,λ_=>rfl⟩,room:=d};intro k a i;obtain⟨x,j,m⟩:=l.at i;have g:k<c.length:=(gu.1 i).1;rw[oh,au g]at j;exact⟨x,by simpa using j,VR.mono (Env.IK h _) _ _ m⟩
def ajY{q:Place}{id:Nat}(h0:q.ba=0):VR (F.put id q) (.p id 0) (.pointer (some ⟨q.bl,0,none⟩)):=by simp only[VR];exact⟨q,by simp[Env.put],by simp[h0]⟩
def anV(h:SR P F J w){t:TypeId}{z:Q3}(c:Bh P t=some z):
 ∃y w' F',(Instr.alloc t true (.tuple #[])).run P w=.ok y w'/\St P F J w F' (J.new (.cells z t true false)) w'/\VR F' (.p J.next 0) y:=by
 obtain⟨d,f,a⟩:=IU c;have b:=(a F).length;refine⟨_,_,_,?_,EO h (xs:=d.cells) (es:=0) (opn:=false) ?_ (by simpa using MW b) (λ_=>by simpa using b) aA,ajY rfl⟩
 ·simp only[Instr.alloc,aZ,f,aY,newVar,newRow,newObj,Sem.run,bQ]
 ·rw[b,Bz];exact a F
def afK(h:SR P F J w){t:TypeId}{a:AV}{x:Value}(d:VR F a x):
 ∃y w' F',(Instr.box t x).run P w=.ok y w'/\St P F J w F' (J.new (.cells a.cells t true false)) w'/\VR F' (.p J.next 0) y:=by
 have c:=BN d;have b:=c.length;refine⟨_,_,_,?_,EO h (xs:=x.cells) (es:=0) (opn:=false) ?_ (by simpa using MW b) (λ_=>by simpa using b) aA,ajY rfl⟩
 ·simp only[Instr.box,aZ,aY,newVar,newRow,newObj,Sem.run,bQ]
 ·rw[b,Bz];exact c
def DC{t e:TypeId}{size bytes:Nat}{z:Q3}(h:yN P t=some (e,size,bytes,z)):
 P.underlying t=some (.slice e)/\(∃i,P.info? e=some i/\i.size=size/\i.bytes=bytes)/\Bh P e=some z/\e≠0/\z.length=size/\sizeT P e=some size:=by
 unfold yN at h;split at h
 ·next d b=>
  split at h
  ·next i f hi c=>
   split at h
   ·next a=>
    cases h;exact⟨b,⟨i,hi,rfl,rfl⟩,c,a.1,a.2,by simp[sizeT,hi]⟩
   ·cases h
  ·cases h
 ·cases h
def alr{z:Q3}:∀(n k:Nat),k<n*z.length->(ku n z)[k]? =z[k%z.length]?
 |0,k,h=>by simp at h
 |n+1,k,h=>by
  have b:ku (n+1) z=z++ku n z:=by simp[ku,Qb]
  rw[b];have c:0<z.length:=by rcases UA z.length with e|e<;>simp_all
  by_cases a:k<z.length
  ·rw[pG a,Qc a]
  ·rw[yB ah,alr n (k-z.length) (by rw[Nat.succ_mul]at h;omega)];congr 1;have:k=(k-z.length)+z.length:=ah;rw[this,Nat.add_mod_right];congr 1;omega
def XV{z:Q3}(n:Nat):(ku n z).length=n*z.length:=by simp[ku]
def Ui{z:Q3}{b:QR}{n size:Nat}(i:aG F z b.toList)(j:z.length=size):aG F (ku n z) ((Array.range (n*size)).map (b[· % b.size]!)).toList:=by
 have f:=i.length;simp only[MF]at f;refine aG.of ?_ λk a g=>?_
 ·rw[XV];simp[j]
 ·have c:k<n*z.length:=by have:=(gu.1 g).1;rwa [XV]at this
  rw[alr n k c]at g;obtain⟨x,d,l⟩:=i.at g;refine⟨x,?_,l⟩;have h:k<n*size:=by rw[<-j];exact c
  rw[yw]at d;rw[yw,Array.getElem?_map,Array.getElem?_range,au h];have m:k%b.size<b.size:=by have:=(tH.1 d).1;rwa [f]at this
  rw[f]at d;simp[m,getElem!_pos];have:=(tH.1 d).2;exact this
