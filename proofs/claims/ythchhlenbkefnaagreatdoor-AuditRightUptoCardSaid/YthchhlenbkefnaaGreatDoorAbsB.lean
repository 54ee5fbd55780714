/- The operations, one by one: what the model's operation does where the evaluator's answers. -/
import Derived.Test.YthchhlenbkefnaaGreatDoorAbsA
import Derived.Lib.Builder
set_option linter.all false
namespace Go.aN
noncomputable section
variable[aH]
variable{P:Program}{F:Env}{J J':aA}{w:World}
def bf{t:TypeId}{d:TypeDesc}(h:P.underlying t=some d):(underlying t).run P w=.ok d w:=by simp[underlying,program,Sem.run,h]
def jv{t:TypeId}{n:Nat}(h:sizeT P t=some n):(sizeOf t).run P w=.ok n w:=by simp only[sizeT,bC]at h;obtain⟨i,hi,rfl⟩:=h;simp[sizeOf,typeInfo,program,Sem.run,hi]
def KH{t:TypeId}{b:Bool}(h:oP P t=some b):(isAgg t).run P w=.ok b w:=by
 unfold oP at h;split at h<;>cases h
 ·next a=>simp[isAgg,bf a]
 ·next a=>simp[isAgg,bf a]
 ·next d a c f=>
  cases d<;>simp_all [isAgg,bf]
def Hw{t:TypeId}{i:TypeInfo}(h:P.info? t=some i):(typeInfo t).run P w=.ok i w:=by simp[typeInfo,program,Sem.run,h]
def aju{v:Value}(h:pX v=true):v.cells =#[v]:=by cases v<;>simp[pX]at h<;>rfl
def GR.pX{ro:Qf}{g:GV}{v:Value}(h:GR ro g v)(a:g.scalar=true):pX v=true:=by
 cases g<;>simp only[GR]at h
 case g cs=>cases a
 case l xs=>rcases h with⟨_,_,rfl⟩|⟨d,b,c,f,i,rfl,_⟩<;>rfl
 all_goals subst h;rfl
def AV.sym:AV->Bool
 |.nd _|.rx _ _|.sv _ _|.pv _ _ _|.pd _ _=>true
 |_=>false
def VR.alI{a:AV}{v:Value}(f:a.sym=true)(h:VR F a v):pX v=true:=by
 cases a<;>simp only[VR]at h<;>first|(cases f;done)|skip
 case nd n=>obtain⟨g,_,b,c⟩:=h;exact c.pX b
 case rx n off=>obtain⟨g,l,base,m,d,o,x,r,b,c,rfl,_⟩:=h;rfl
 case sv id n=>obtain⟨j,_,⟨q,_,_,rfl⟩|⟨_,_,rfl⟩⟩:=h<;>rfl
 case pv id n off=>obtain⟨q,k,i,_,_,rfl⟩:=h;rfl
 case pd id n=>obtain⟨j,p,_,rfl,_⟩:=h;rfl
def an9{a:AV}{v:Value}(b:a.sym=true)(h:VR F a v):aC F a.cells v.cells.toList:=by
 have c:=aju (VR.alI b h);have d:a.cells=[a]:=by cases a<;>first|rfl|(cases b)
 rw[c,d];exact aC.cons h (by simp[aC])
def AL{a:AV}{v:Value}(h:VR F a v):aC F a.cells v.cells.toList:=by
 by_cases s:a.sym=true
 ·exact an9 s h
 cases a<;>first|(exact absurd rfl s)|skip
 all_goals simp only[VR]at h
 case agg l=>obtain⟨o,rfl,d⟩:=h;simpa[AV.cells,Value.cells]using d
 case fB l=>obtain⟨o,rfl,d⟩:=h;simp only[AV.cells,Value.cells];exact aC.cons (by simp only[VR];exact⟨o,rfl,d⟩) (by simp[aC])
 case p id g=>obtain⟨q,i,rfl⟩:=h;exact aC.cons (by simp only[VR];exact⟨q,i,rfl⟩) (by simp[aC])
 case sl id g len cap=>obtain⟨q,i,r,rfl⟩:=h;exact aC.cons (by simp only[VR];exact⟨q,i,r,rfl⟩) (by simp[aC])
 case mp id=>obtain⟨q,i,rfl⟩:=h;exact aC.cons (by simp only[VR];exact⟨q,i,rfl⟩) (by simp[aC])
 case fn f fi u=>obtain⟨B,o,rfl,d,j⟩:=h;exact aC.cons (by simp only[VR];exact⟨B,o,rfl,d,j⟩) (by simp[aC])
 case jq t b=>obtain⟨x,rfl,d⟩:=h;exact aC.cons (by simp only[VR];exact⟨x,rfl,d⟩) (by simp[aC])
 case z k lo hi=>obtain⟨n,d,j,rfl⟩:=h;exact aC.cons (by simp only[VR];exact⟨n,d,j,rfl⟩) (by simp[aC])
 case ro l=>
  have y:VR F (.ro l) v:=by simp only[VR];exact h
  rcases h with⟨_,_,rfl⟩|⟨A,g,c,G,H,rfl,d⟩
  ·exact aC.cons y (by simp[aC])
  ·exact aC.cons y (by simp[aC])
 case rp a g=>obtain⟨A,base,u,m,D,x,d,j,rfl,E⟩:=h;exact aC.cons (by simp only[VR];exact⟨A,base,u,m,D,x,d,j,rfl,E⟩) (by simp[aC])
 all_goals subst h;exact aC.cons (by simp only[VR]) (by simp[aC])
def abz{a:AV}{v:Value}(h:VR F a v)(r:a.oO=true):pX v=true:=by
 by_cases i:a.sym=true
 ·exact h.alI i
 cases a<;>first|(exact absurd rfl i)|skip
 all_goals simp only[VR]at h
 all_goals simp[AV.oO]at r
 case p id d=>obtain⟨q,j,rfl⟩:=h;rfl
 case sl id d len cap=>obtain⟨q,j,_,rfl⟩:=h;rfl
 case mp id=>obtain⟨q,j,rfl⟩:=h;rfl
 case fn f fi s=>obtain⟨y,A,rfl,g,m⟩:=h;rfl
 case jq t b=>obtain⟨x,rfl,g⟩:=h;rfl
 case z k lo hi=>obtain⟨n,g,m,rfl⟩:=h;rfl
 case ro l=>rcases h with⟨_,_,rfl⟩|⟨u,d,c,B,D,rfl,g⟩<;>rfl
 case rp a d=>obtain⟨u,base,s,o,E,x,g,m,rfl,G⟩:=h;rfl
 all_goals subst h;rfl
def Gj{xs:Q6}{sz:Nat}(h:∀x∈xs,x.cells.size=sz):(dJ xs).length=xs.length*sz:=by
 induction xs with
 |nil=>simp[dJ]
 |cons x xs a=>have b:=h x (by simp);have:=a λy c=>h y (by simp[c]);simp only[dJ,kE,eP,gV]at this⊢;rw[this,tH,Iz,LD];simp[b]
def afA{xs:Q6}{sz:Nat}(h:∀x∈xs,x.cells.size=sz)(i:Nat):(dJ xs).drop (i*sz)=dJ (xs.drop i):=by
 induction xs generalizing i with
 |nil=>simp[dJ]
 |cons x xs a=>
  cases i with
  |zero=>simp
  |succ i=>
   have b:=h x (by simp);have:=a (λy c=>h y (by simp[c])) i;simp only[Yu];rw[<-this];simp only[dJ,kE];have d:x.cells.toList.length=sz:=by simpa using b
   rw[show(i+1)*sz=x.cells.toList.length+i*sz by rw[d,tH,Iz,LD]];rw[ad9,List.drop_of_length_le (by omega),aX,YE]
def an5{xs:Q6}{sz:Nat}(h:∀x∈xs,x.cells.size=sz)(i:Nat):(dJ xs).take (i*sz)=dJ (xs.take i):=by
 induction xs generalizing i with
 |nil=>simp[dJ]
 |cons x xs a=>
  cases i with
  |zero=>simp[dJ]
  |succ i=>
   have b:=h x (by simp);have:=a (λy c=>h y (by simp[c])) i;simp only[Am];simp only[dJ,kE]at this⊢;have d:x.cells.toList.length=sz:=by simpa using b
   rw[show(i+1)*sz=x.cells.toList.length+i*sz by rw[d,tH,Iz,LD]];rw[List.take_length_add_append,this]
def afy{xs:Q6}{sz i:Nat}{x:Value}(h:∀x∈xs,x.cells.size=sz)(hi:xs[i]? =some x)(k:Nat)(b:k<sz):(dJ xs)[i*sz+k]? =x.cells[k]?:=by
 have c:=afA h i;have a:=(fM.1 hi).1;have d:xs.drop i=x::xs.drop (i+1):=by rw[<-(fM.1 hi).2];exact iC a
 have:(dJ xs)[i*sz+k]? =((dJ xs).drop (i*sz))[k]?:=by rw[tC]
 rw[this,c,d];have f:=h x (rQ hi);simp only[dJ,kE];rw[og (by simpa[f]using b)];simp
def UJ{a:AV}{v:Value}(h:VR F a v):a.cells.length=v.cells.size:=by have:=(AL h).length;simpa using this
def agY{l:Q3}{xs:Q6}(h:aC F l xs):aC F (l.flatMap AV.cells) (dJ xs):=by
 induction l generalizing xs with
 |nil=>simp only[aC]at h;subst h;simp[aC,dJ]
 |cons a l b=>simp only[aC]at h;obtain⟨x,f,rfl,c,d⟩:=h;simp only[kE,dJ];exact aC.append (AL c) (b d)
def am8{l:Q3}{xs:Q6}{n:Nat}(h:aC F l xs)(f:l.all (λa=>a.cells.length==n)=true):∀x∈xs,x.cells.size=n:=by
 intro x g;obtain⟨k,c⟩:=YC.1 g;have b:k<l.length:=by have:=(fM.1 c).1;have:=h.length;omega
 obtain⟨y,d,i⟩:=h.at (bT b);rw[c]at d;cases d;have:=List.all_eq_true.1 f _ (gX b);rw[<-UJ i];simpa using this
def aAS{l:Q3}{v:Value}(h:VR F (.ro l) v){i size:Nat}{a:AV}(hi:l[i]? =some a)(s:a.cells.length=size):
 ∃bl off c cs elem f x,v=.slice (some ⟨bl,off,none⟩) l.length c/\l.length<=c/\F.ro bl=some (.cells cs elem f)/\VR F a x/\off+i*size+x.cells.size<=cs.size/\Gi cs (off+i*size) x.cells.toList:=by
 simp only[VR]at h;rcases h with⟨rfl,_⟩|⟨bl,off,c,u,b,rfl,z,A,g,B⟩
 ·simp at hi
 obtain⟨x,j,p⟩:=A.at hi;obtain⟨cs,elem,f,D,G,E⟩:=B (by intro e;subst e;simp at hi);have m:=g x (rQ j);have:b=size:=by rw[<-m,<-UJ p,s]
 subst this;have q:=Gj g;have n:=(fM.1 j).1;have d:(i+1)*b<=u.length*b:=uD _ n;rw[tH,Iz]at d;refine⟨bl,off,c,cs,elem,f,x,rfl,z,D,p,by omega,λk y r=>?_⟩;have o:k<b:=by have:=(fM.1 r).1;simp at this;omega
 have:=E (i*b+k) y (by rw[afy g j k o];simpa using r);rw[<-jL]at this;exact this
def Hy{t:TypeId}{b:Q3}(h:Ae P t=some b):∃z,(∀w,(zeroValue t).run P w=.ok z w)/\∀F:Env,aC F b z.cells.toList:=by
 unfold Ae at h;split at h
 ·next i hi=>
  split at h
  ·next z c=>
   simp only[bC]at h;obtain⟨a,d,rfl⟩:=h;exact⟨z,λw=>by simp[zeroValue,Hw hi,c],λF=>AL (EK _ _ _ d)⟩
  ·cases h
 ·cases h
def uo{l r:Q3}{off n:Nat}(h:takeN l off n=some r):r=(l.drop off).take n/\r.length=n/\(n=0\/off+n<=l.length):=by
 simp only[takeN]at h;split at h
 ·next a=>
  cases h;refine⟨rfl,a,?_⟩;simp at a;omega
 ·cases h
def alR{l r:Q3}{off n:Nat}(h:takeN l off n=some r){k:Nat}{a:AV}(b:r[k]? =some a):l[off+k]? =some a:=by
 obtain⟨rfl,_,_⟩:=uo h;rw[mg]at b;split at b
 ·rw[tC]at b;exact b
 ·cases b
def uy.take{q:Place}{c:Q3}{et:TypeId}{rw opn:Bool}{cs:QQ}{elem:TypeId}{a:Nat×Nat}(r:uy P F q c et rw opn cs elem a)
 {off n:Nat} {l:Q3} (h:takeN c off n=some l):q.ba+off+n<=cs.size\/n=0:=by
 obtain⟨_,_,b⟩:=uo h;have:=r.fits;have:=r.le;omega
def uy.Ac{q:Place}{c:Q3}{et:TypeId}{rw opn:Bool}{cs:QQ}{elem:TypeId}{i:Nat×Nat}(r:uy P F q c et rw opn cs elem i)
 {off n:Nat} {l:Q3} (h:takeN c off n=some l):aC F l ((cs.toList.drop (q.ba+off)).take n):=by
 obtain⟨o,d,p⟩:=uo h;have s:=r.fits;have u:=r.le;refine aC.of ?_ λk a f=>?_
 ·simp;omega
 ·have j:=alR h f;obtain⟨x,g,m⟩:=r.cell _ _ j;refine⟨x,?_,m⟩;have b:k<n:=by have:=(fM.1 f).1;omega
  rw[mg,aj b,tC];rw[<-jL]at g;simpa using g
def ET{bl off n:Nat}{cs:QQ}{elem:TypeId}{b:Nat×Nat}(h:w.heap[bl]? =some (.cells cs elem b))(a:off+n<=cs.size\/n=0):
 (loadCells ⟨bl,off,none⟩ n).run P w=.ok ⟨(cs.toList.drop off).take n⟩ w:=by
 rcases a with c|rfl
 ·exact run_loadCells h c
 ·simp[loadCells,loadCellsFrom]
def G6(h:SR P F J w){t:TypeId}{a v:AV}{x:Value}(f:xQ P t J a=some v)(g:VR F a x):
 ∃y,(Instr.loadAt t x).run P w=.ok y w/\VR F v y:=by
 unfold xQ at f;split at f
 ·next id d=>
  split at f
  ·next c V rw I L=>
   obtain⟨q,M,i,j,N,m,r⟩:=h.obj _ _ L rfl;simp only[VR]at g;obtain⟨W,o,rfl⟩:=g;rw[M]at o;cases o;split at f
   ·next b=>
    split at f
    ·next n A=>
     simp only[bC]at f;obtain⟨l,z,rfl⟩:=f;refine⟨.agg ⟨(i.toList.drop (q.ba+d)).take n⟩,?_,?_⟩
     ·simp only[Instr.loadAt,Instr.sureAddr,aV,bJ,aU,loadVar,KH b,if_true,jv A,wJ];rw[ET m (r.take z)];rfl
     ·simp only[VR];exact⟨_,rfl,r.Ac z⟩
    ·cases f
   ·next b=>
    obtain⟨x,g,B⟩:=r.cell _ _ f;refine⟨x,?_,B⟩;simp only[Instr.loadAt,Instr.sureAddr,aV,bJ,aU,loadVar,KH b,wJ];exact akO m g
   ·cases f
  ·cases f
 ·next e d=>
  simp only[VR]at g;obtain⟨X,base,i,j,N,x,O,G,rfl,Y,H⟩:=g;have m:=h.jl _ _ O;have p:=AL G;have Q:=UJ G;split at f
  ·next b=>
   split at f
   ·next n A=>
    simp only[bC]at f;obtain⟨l,z,rfl⟩:=f;obtain⟨D,R,S⟩:=uo z;have s:base+d+n<=i.size\/n=0:=by omega
    refine⟨.agg ⟨(i.toList.drop (base+d)).take n⟩,?_,?_⟩
    ·simp only[Instr.loadAt,Instr.sureAddr,aV,bJ,aU,loadVar,KH b,if_true,jv A,wJ];rw[ET m s];rfl
    ·simp only[VR];refine⟨_,rfl,?_⟩;have E:(i.toList.drop (base+d)).take n=(x.cells.toList.drop d).take n:=by
      apply Ip;intro k;rw[mg,mg];split
      ·next Z=>
       rw[tC,tC];have u:d+k<x.cells.toList.length:=by simp;omega
       have:=H (d+k) _ (bT u);rw[bT u,xF,jL];exact this
      ·rfl
     rw[E,D];exact(p.drop d).take n
   ·cases f
  ·next b=>
   obtain⟨y,T,B⟩:=p.at f;refine⟨y,?_,B⟩;simp only[Instr.loadAt,Instr.sureAddr,aV,bJ,aU,loadVar,KH b,wJ];exact akO m (H d y T)
  ·cases f
 ·cases f
def Xy{l a vs:Q3}{off:Nat}(h:BD l off vs=some a):off+vs.length<=l.length/\a.length=l.length/\
 ∀(k:Nat),a[k]? =if off<=k/\k<off+vs.length then vs[k-off]? else l[k]?:=by
 unfold BD at h;split at h
 ·next b=>
  cases h;refine⟨b,by simp;omega,λk=>?_⟩;by_cases c:k<off
  ·rw[ah (by omega),List.append_assoc,og (by simp;omega),mg,aj c]
  ·by_cases d:k<off+vs.length
   ·rw[aj ⟨by omega,d⟩,og (by simp;omega),xI (by simp;omega)];simp;congr 1;omega
   ·rw[ah (by omega),xI (by simp;omega),tC];congr 1;simp;omega
 ·cases h
def Yh(h:SR P F J w){id off:Nat}{c p:Q3}{et:TypeId}{opn:Bool}{vs:Q3}{xs:Q6}{q:Place}(s:J.get id=some (.cells c et true opn))(D:J.lock<=id)
 (u:F id=some q) (E:BD c off vs=some p) (m:aC F vs xs) (g:vs.all AV.oO=true):
 ∃w',(storeCells ⟨q.bl,q.ba+off,none⟩ xs).run P w=.ok () w'/\St P F J w F (J.put id (.cells p et true opn)) w':=by
 obtain⟨R,i,G,f,v,z,r⟩:=h.obj _ _ s rfl;rw[u]at i;cases i;obtain⟨S,H,I⟩:=Xy E;have A:=m.length;have L:=r.fits;have M:=r.le;have n:∀x∈xs,pX x=true:=by
  intro x o;obtain⟨k,d⟩:=YC.1 o;have j:k<vs.length:=by have:=(fM.1 d).1;omega
  obtain⟨y,B,N⟩:=m.at (bT j);rw[d]at B;cases B;exact abz N (List.all_eq_true.1 g _ (gX j))
 have l:=acT (P:=P) xs w q.bl (q.ba+off) 0 G f v z (by omega) n (λk a b=>by have:=r.free rfl (k-q.ba) (by omega);rw[Tf (by omega)]at this;exact this)
 refine⟨_,l,?_⟩;refine St.write h s rfl D u EX (λk d=>EW d) rfl rfl rfl ?_;refine⟨_,f,v,Dq z,?_⟩;refine {fits:=by rw[Oj];exact L,le:=by omega,shut:=λe=>by rw[H];exact r.shut e,cell:=?_,free:=λe=>r.free e,whole:=λe=>by rw[Oj];exact r.whole e,room:=r.room};intro k a d;rw[I]at d;rw[Xx _ _ _ _ (by omega)];split at d
 ·next O=>
  rw[aj (by omega)];obtain⟨x,o,Q⟩:=m.at d;refine⟨x,?_,Q⟩;rw[<-o];congr 1;omega
 ·next O=>
  rw[ah (by omega)];exact r.cell k a d
def XH(h:SR P F J w){t:TypeId}{a v:AV}{x y:Value}(d:FX P t J a v=some J')(l:VR F a x)(m:VR F v y):
 ∃w',(Instr.storeAt t x y).run P w=.ok () w'/\St P F J w F J' w':=by
 unfold FX at d;split at d
 ·next id n=>
  split at d
  ·next c A o p=>
   split at d
   ·next r=>
    obtain⟨s,j,f⟩:=r;simp only[bC]at d;obtain⟨B,u,rfl⟩:=d;simp only[VR]at l;obtain⟨q,z,rfl⟩:=l;have b:=AL m;obtain⟨w',g,k⟩:=Yh h p s z u b f;refine⟨w',?_,k⟩;have i:=b.length;simp only[Instr.storeAt,Instr.sureAddr,aV,bJ,aU,storeVar,jv j,wJ];rw[ah (by simp at i⊢;omega)];simpa using g
   ·cases d
  ·cases d
 ·cases d
def Aw{a:AV}{n:Int}{x:Value}(h:xP a=some n)(b:VR F a x):∃k,x=.int k n:=by
 cases a<;>simp[xP]at h
 subst h;simp only[VR]at b;exact⟨_,b⟩
def Dp{a:AV}{v:Value}{x:Value}(h:yC a=some v)(b:VR F a x):x=v:=alY 4 a v x h b
def ajI{t:TypeId}{cs:Q3}{vs:Q6}{off:Nat}{v:AV}(h:TQ P t cs off=some v)(b:aC F cs vs):
 ∃y,(part t ⟨vs⟩ off).run P w=.ok y w/\VR F v y:=by
 unfold TQ at h;split at h
 ·next a=>
  split at h
  ·next n c=>
   simp only[bC]at h;obtain⟨l,d,rfl⟩:=h;refine⟨.agg ((⟨vs⟩:QQ).extract off (off+n)),?_,?_⟩
   ·simp[part,KH a,jv c]
   ·simp only[VR];obtain⟨rfl,_,_⟩:=uo d;refine⟨(vs.drop off).take n,?_,(b.drop off).take n⟩;simp
  ·cases h
 ·next a=>
  obtain⟨x,f,g⟩:=b.at h;refine⟨x,?_,g⟩;simp[part,KH a,f]
 ·cases h
def atD{t:TypeId}{a v:AV}{x:Value}{f:Nat}(h:TF P t a f=some v)(c:VR F a x):
 ∃y,(Instr.field t x f).run P w=.ok y w/\VR F v y:=by
 unfold TF at h;split at h
 ·next b l d=>
  split at h
  ·next m g=>
   simp only[VR]at c;obtain⟨n,rfl,i⟩:=c;obtain⟨y,j,k⟩:=ajI (w:=w) h i;exact⟨y,by simp[Instr.field,bf d,g,asAgg,j],k⟩
  ·cases h
 ·cases h
def atC{t:TypeId}{a v:AV}{x:Value}{f:Nat}(h:TI P t a f=some v)(i:VR F a x):
 ∃y,(Instr.fieldAt t x f).run P w=.ok y w/\VR F v y:=by
 unfold TI at h;split at h
 ·next c id d j=>
  split at h
  ·next k l=>
   split at h
   ·next n m=>
    split at h
    ·cases h
    ·next o=>
     cases h;simp only[VR]at i;obtain⟨q,r,rfl⟩:=i;refine⟨.pointer (some ⟨q.bl,q.ba+d+k.offset,none⟩),?_,?_⟩
     ·simp[Instr.fieldAt,bf j,l,Instr.sureAddr,fieldPlace,jv m,o,rX]
     ·simp only[VR];exact⟨q,r,by rw[jL]⟩
   ·cases h
  ·cases h
 ·next c b d j=>
  split at h
  ·next k l=>
   split at h
   ·next n m=>
    split at h
    ·cases h
    ·next o=>
     cases h;simp only[VR]at i;obtain⟨p,base,s,g,u,x,z,A,rfl,B⟩:=i;refine⟨.pointer (some ⟨p,base+d+k.offset,none⟩),?_,?_⟩
     ·simp[Instr.fieldAt,bf j,l,Instr.sureAddr,fieldPlace,jv m,o,rX]
     ·simp only[VR];exact⟨p,base,s,g,u,x,z,A,by rw[jL],B⟩
   ·cases h
  ·cases h
 ·cases h
def QE{t:TypeId}{a i v:AV}{x y:Value}(h:zH P t a i=some v)(j:VR F a x)(s:VR F i y):
 ∃z,(Instr.indexAt t x y).run P w=.ok z w/\VR F v z:=by
 unfold zH at h;split at h
 ·next e id f len M k m n=>
  obtain⟨u,rfl⟩:=Aw n s;split at h
  ·next d o=>
   split at h
   ·next p=>
    cases h;simp only[VR]at j;obtain⟨q,A,N,rfl⟩:=j;refine⟨.pointer (some ⟨q.bl,q.ba+f+k.toNat*d,none⟩),?_,?_⟩
    ·simp[Instr.indexAt,asIntOf,bf m,jv o,p,rX]
    ·simp only[VR];exact⟨q,A,by rw[jL]⟩
   ·cases h
  ·cases h
 ·next len e id f k m n=>
  obtain⟨u,rfl⟩:=Aw n s;split at h
  ·next d o=>
   split at h
   ·next p=>
    cases h;simp only[VR]at j;obtain⟨q,A,rfl⟩:=j;refine⟨.pointer (some ⟨q.bl,q.ba+f+k.toNat*d,none⟩),?_,?_⟩
    ·simp[Instr.indexAt,asIntOf,bf m,jv o,p,rX,Instr.sureAddr]
    ·simp only[VR];exact⟨q,A,by rw[jL]⟩
   ·cases h
  ·cases h
 ·next e l k m n=>
  obtain⟨u,rfl⟩:=Aw n s;split at h
  ·next d o=>
   split at h
   ·next O=>
    split at h
    ·next b L=>
     split at h
     ·next B=>
      cases h;obtain⟨r,f,c,D,g,E,x,rfl,S,G,H,I,Q⟩:=aAS j L B;have R:=(fM.1 L).1;have p:0<=k/\k<(l.length:Int):=⟨O,by omega⟩
      refine⟨.pointer (some ⟨r,f+k.toNat*d,none⟩),?_,?_⟩
      ·simp[Instr.indexAt,asIntOf,bf m,jv o,p,rX]
      ·simp only[VR];exact⟨r,f+k.toNat*d,D,g,E,x,G,H,rfl,I,Q⟩
     ·cases h
    ·cases h
   ·cases h
  ·cases h
 ·next len e b f k m n=>
  obtain⟨u,rfl⟩:=Aw n s;split at h
  ·next d o=>
   split at h
   ·next p=>
    cases h;simp only[VR]at j;obtain⟨r,base,D,g,E,x,G,H,rfl,I⟩:=j;refine⟨.pointer (some ⟨r,base+f+k.toNat*d,none⟩),?_,?_⟩
    ·simp[Instr.indexAt,asIntOf,bf m,jv o,p,rX,Instr.sureAddr]
    ·simp only[VR];exact⟨r,base,D,g,E,x,G,H,by rw[jL],I⟩
   ·cases h
  ·cases h
 ·cases h
def auV(s:Q0)(k:Nat):((⟨⟨s⟩⟩:ByteArray)[k]?)=s[k]?:=by rw[getElem?_def,getElem?_def];rfl
def aaQ{t:TypeId}{a i v:AV}{x y:Value}(h:FW P t a i=some v)(b:VR F a x)(g:VR F i y):
 ∃z,(Instr.index t x y).run P w=.ok z w/\VR F v z:=by
 unfold FW at h;split at h
 ·next s k d f=>
  obtain⟨l,rfl⟩:=Aw f g;split at h
  ·next m=>
   split at h
   ·next c n=>
    cases h;simp only[VR]at b;subst b;refine⟨.int .u8 c.toNat,?_,by simp[VR]⟩;simp[Instr.index,asIntOf,bf d,m,auV,n]
   ·cases h
  ·cases h
 ·next len e A k d f=>
  obtain⟨l,rfl⟩:=Aw f g;split at h
  ·next j o=>
   split at h
   ·next p=>
    simp only[VR]at b;obtain⟨B,rfl,q⟩:=b;obtain⟨z,r,u⟩:=ajI (w:=w) h q;exact⟨z,by simp[Instr.index,asIntOf,bf d,jv o,p,r],u⟩
   ·cases h
  ·cases h
 ·cases h
def mD(F:Env):Q4->Option Value->Prop
 |none,none=>True
 |some a,some x=>VR F a x
 |_,_=>False
def F9{sl:Bool}{len cap:Nat}{i:Nat->Bool}{lo hi:Q4}{b d:Wz}{l h:Nat}(m:yR len i lo hi=some (l,h))(o:∀k,i k=true->k<=cap)(s:len<=cap)
 (f:mD F lo b) (g:mD F hi d):
 (Instr.sliceBounds sl len cap b d none).run P w=.ok (l,h,cap) w/\l<=h/\h<=cap:=by
 unfold yR at m;split at m
 ·cases m
 next r e=>
 split at m
 ·cases m
 next y j=>
 simp only[aY,pF]at m;obtain⟨rfl,rfl⟩:=m;have z:∀c,(match d with|some v=>Instr.sliceBound v cap c|none=>pure len).run P w=.ok r w/\r<=cap:=by
  intro c;cases hi with
  |none=>cases d with
   |none=>simp[BR]at e;subst e;exact⟨rfl,s⟩
   |some _=>exact g.elim
  |some a=>cases d with
   |none=>exact g.elim
   |some x=>
    simp only[BR]at e;simp only[mD]at g;split at e
    ·next n u=>
     obtain⟨D,rfl⟩:=Aw u g;split at e
     ·next p=>
      cases e;have:=o _ p.2;refine⟨?_,this⟩;simp[Instr.sliceBound,asIntOf,p.1];intro q;omega
     ·cases e
    ·cases e
 have A:∀c,(match b with|some v=>Instr.sliceBound v r c|none=>pure 0).run P w=.ok y w/\y<=r:=by
  intro c;cases lo with
  |none=>cases b with
   |none=>simp[LW]at j;subst j;exact⟨rfl,tJ _⟩
   |some _=>exact f.elim
  |some a=>cases b with
   |none=>exact f.elim
   |some x=>
    simp only[LW]at j;simp only[mD]at f;split at j
    ·next n u=>
     obtain⟨D,rfl⟩:=Aw u f;split at j
     ·next p=>
      cases j;refine⟨?_,by omega⟩;simp[Instr.sliceBound,asIntOf,p.1];intro q;omega
     ·cases j
    ·cases j
 refine⟨?_,(A .index).2,(z .index).2⟩;unfold Instr.sliceBounds;have p:=z (if sl then .sliceAcap else .sliceAlen);have B:=A (if(none:Wz).isSome then .slice3C else .sliceB);cases d<;>simp only[aV,bJ,aU]at p B⊢<;>cases b<;>simp only[aV,bJ,aU]at p B⊢<;>simp_all
def strSize(s:Q0):(⟨⟨s⟩⟩:ByteArray).size=s.length:=rfl
def alE(s:Q0)(l h:Nat):(⟨⟨s⟩⟩:ByteArray).extract l h=⟨⟨(s.take h).drop l⟩⟩:=by apply ByteArray.ext;rw[ByteArray.data_extract];apply OV;simp[Lp,List.extract_eq_take_drop]
def Rx{a:Addr}{c:Nat}(d:a.spot=none:=by rfl):VR F (.ro []) (.slice (some a) 0 c):=by simp only[VR];obtain⟨f,b,g⟩:=a;simp only at d;subst d;right;exact⟨f,b,c,[],0,rfl,tJ _,by simp[aC],by simp,λh=>absurd rfl h⟩
def aeF{len:Nat}{a:Nat->Bool}{lo hi:Q4}{l h:Nat}(b:yR len a lo hi=some (l,h))(c:∀k,a k=true->k<=len):h<=len:=by
 unfold yR at b;split at b
 ·cases b
 ·next e=>
  split at b
  ·cases b
  ·cases b;cases hi with
   |none=>simp[BR]at e;omega
   |some v=>
    simp only[BR]at e;split at e
    ·split at e
     ·next d=>cases e;exact c _ d.2
     ·cases e
    ·cases e
def XA(h:SR P F J w){t:TypeId}{a v:AV}{x:Value}{lo hi:Q4}{R S:Wz}(b:BX P t J a lo hi=some v)(D:VR F a x)(o:mD F lo R)(p:mD F hi S):
 ∃y,(Instr.sliceAt t x R S none).run P w=.ok y w/\VR F v y:=by
 unfold BX at b;split at b
 ·next s z=>
  simp only[bC,LP]at b;obtain⟨l,f,i,rfl⟩:=b;simp only[VR]at D;subst D;have m:=F9 (P:=P) (w:=w) (sl:=false) (cap:=s.length) i (λk g=>by simpa using g) (dD _) o p;refine⟨.string ⟨⟨(s.take f).drop l⟩⟩,?_,by simp[VR]⟩;simp only[Instr.sliceAt,Instr.slice,bf z,aV,aU,strSize,aev,iw,if_false,m.1,bJ,alE,wJ]
 ·next e id d len u z=>
  simp only[VR]at D;obtain⟨q,H,E,rfl⟩:=D;split at b
  ·next j c A=>
   simp only[xM,LP]at b;obtain⟨l,f,i,b⟩:=b;simp only[rV]at E⊢;have m:=F9 (P:=P) (w:=w) (sl:=true) (cap:=c) i (λk g=>by simpa using g) E o p;split at b
   ·next B=>
    cases b;subst B;refine⟨.slice (some ⟨q.bl,q.ba+d,none⟩) (f-c) 0,?_,?_⟩
    ·simp only[Instr.sliceAt,Instr.slice,bf z,aV,aU,m.1,jv A,bJ,if_true,BP]
    ·simp only[VR];exact⟨q,H,by simp;omega,rfl⟩
   ·next B=>
    cases b;refine⟨.slice (some ⟨q.bl,q.ba+d+l*j,none⟩) (f-l) (c-l),?_,?_⟩
    ·simp only[Instr.sliceAt,Instr.slice,bf z,aV,aU,m.1,jv A,bJ,ah B,gZ,rX]
    ·simp only[VR];exact⟨q,H,by simp;omega,by rw[jL];rfl⟩
  ·next j A=>
   split at b
   ·next c et rw hg=>
    split at b
    ·next Z=>
     simp only[xM,LP]at b;obtain⟨l,f,i,b⟩:=b;obtain⟨q',T,cs,I,fr,ad,r⟩:=h.obj _ _ hg rfl;rw[H]at T;cases T;obtain⟨_,ae,G⟩:=r.room rfl;rw[Z,A]at G;cases G;simp only[uF]at E⊢;have m:=F9 (P:=P) (w:=w) (sl:=true) (cap:=(q.sz-d)/q.es) i (λk g=>by simp at g;omega) E o p;have Qx:f<=len:=by
      unfold yR at i;split at i
      ·cases i
      ·next e=>
       split at i
       ·cases i
       ·cases i;cases hi with
        |none=>simp[BR]at e;omega
        |some v=>
         simp only[BR]at e;split at e
         ·split at e
          ·next V=>cases e;simpa using V.2
          ·cases e
         ·cases e
     have L:(q.sz-d)/q.es-l=(q.sz-(d+l*q.es))/q.es:=by rw[<-Nat.sub_sub,Iy l,Nat.sub_mul_div]
     split at b
     ·next B=>
      cases b;refine⟨.slice (some ⟨q.bl,q.ba+d+l*q.es,none⟩) (f-l) ((q.sz-d)/q.es-l),?_,?_⟩
      ·simp only[Instr.sliceAt,Instr.slice,bf z,aV,aU,m.1,jv A,bJ,gZ,rX];rw[ah (by omega)]
      ·simp only[VR];refine⟨q,H,?_,?_⟩
       ·simp only[uF];rw[<-L];omega
       ·simp only[uF];rw[<-L,jL]
     ·split at b
      ·next B e2=>
       cases b;subst e2;refine⟨.slice (some ⟨q.bl,q.ba+d,none⟩) (f-0) ((q.sz-d)/q.es-0),?_,?_⟩
       ·simp only[Instr.sliceAt,Instr.slice,bf z,aV,aU,m.1,jv A,bJ,gZ,rX];split<;>simp
       ·simp only[VR];exact⟨q,H,by simp;omega,by simp⟩
      ·split at b
       ·next B e2 e3=>
        cases b;subst e3;simp only[Instr.sliceAt,Instr.slice,bf z,aV,aU,m.1,jv A,bJ,gZ,rX,BP];by_cases W:(q.sz-d)/q.es=f
        ·rw[aj W];exact⟨_,rfl,Rx⟩
        ·rw[ah W];exact⟨_,rfl,Rx⟩
       ·cases b
    ·cases b
   ·cases b
  ·cases b
 ·next e z=>
  split at b
  ·next n A=>
   simp only[bC,LP]at b;obtain⟨l,f,i,rfl⟩:=b;simp only[VR]at D;subst D;have m:=F9 (P:=P) (w:=w) (sl:=true) (cap:=0) i (λk g=>by simpa using g) (dD _) o p;have N:l=0:=by omega
   have O:f=0:=by omega
   subst N;subst O;refine⟨.slice none 0 0,?_,by simp[VR]⟩;simp only[Instr.sliceAt,Instr.slice,bf z,aV,aU,m.1,jv A,bJ,if_true,BP]
  ·cases b
 ·next e es z=>
  split at b
  ·next j A=>
   simp only[xM,LP]at b;obtain⟨l,f,i,b⟩:=b;have af:=D;simp only[VR]at D;rcases D with⟨rfl,pa,rfl⟩|⟨bl,d,c,xs,M,rfl,hc,V,Q,h3⟩
   ·have m:=F9 (P:=P) (w:=w) (sl:=true) (cap:=0) i (λk g=>by simpa using g) (dD _) o p;have N:l=0:=by omega
    have O:f=0:=by omega
    subst N;subst O;simp[TS]at b;subst b;refine⟨.slice pa 0 0,?_,by simp[VR]⟩;have X:=m.1;rw[kY]at X;simp only[Instr.sliceAt,Instr.slice,bf z,aV,aU,X,jv A,bJ,if_true,BP]
   have m:=F9 (P:=P) (w:=w) (sl:=true) (cap:=c) i (λk g=>by simp at g;omega) hc o p;have Qx:=aeF i (λk g=>by simpa using g);simp only[Instr.sliceAt,Instr.slice,bf z,aV,aU,m.1,jv A,bJ,gZ,rX];unfold TS at b;split at b
   ·next B=>
    cases b;subst B;simp only[BP];by_cases W:c=f
    ·rw[aj W];exact⟨_,rfl,Rx⟩
    ·rw[ah W];exact⟨_,rfl,Rx⟩
   ·next B=>
    split at b
    ·next a ha=>
     split at b
     ·next G=>
      cases b;obtain⟨x,aa,lT⟩:=V.at ha;have ab:=Q x (rQ aa);have:M=j:=by rw[<-ab,<-UJ lT,G]
      subst this;obtain⟨cs,I,fr,h4,h5,h6⟩:=h3 (by intro e;subst e;simp at ha);rw[ah (by omega)];refine⟨_,rfl,?_⟩;have ac:=V.length;simp only[VR];right;refine⟨bl,d+l*M,c-l,(xs.take f).drop l,M,by congr 1;simp;omega,by simp;omega,(V.take f).drop l,λy Y=>Q y (LC (Lu Y)),λ_=>⟨cs,I,fr,h4,?_,?_⟩⟩
      ·rw[Gj (λy Y=>Q y (LC (Lu Y)))];have hL:=Gj Q;have hm:((xs.take f).drop l).length=f-l:=by simp;omega
       rw[hm];have h7:l*M+(f-l)*M=f*M:=by rw[<-tH];congr 1;omega
       have h8:f*M<=xs.length*M:=uD _ (by omega);omega
      ·intro k y g;rw[<-afA (λy Y=>Q y (LC Y)),<-an5 Q,tC,mg]at g;split at g
       ·have:=h6 _ _ g;rw[<-jL]at this;exact this
       ·cases g
     ·cases b
    ·cases b
  ·cases b
 ·next n e id d z=>
  simp only[VR]at D;obtain⟨q,H,rfl⟩:=D;split at b
  ·next j A=>
   simp only[bC,LP]at b;obtain⟨l,f,i,rfl⟩:=b;have m:=F9 (P:=P) (w:=w) (sl:=false) (cap:=n) i (λk g=>by simpa using g) (dD _) o p;have Qx:=aeF i (λk g=>by simpa using g);simp only[Instr.sliceAt,Instr.sureAddr,bf z,aV,aU,m.1,jv A,bJ];by_cases B:n=l
   ·subst B;rw[aj rfl,aj rfl];refine⟨_,rfl,?_⟩;simp only[VR];exact⟨q,H,by simp;omega,by simp⟩
   ·rw[ah B,ah B];refine⟨_,rfl,?_⟩;simp only[VR,rX];exact⟨q,H,by simp;omega,by simp[jL]⟩
  ·cases b
 ·cases b
def aiA(h:SR P F J w){t:TypeId}{ts:Wr}{ty:TypeId}{a v:AV}{x:Value}(g:ts[0]? =some t)(d:TJ P J t a=some v)(f:VR F a x):
 ∃y,(Builtin.len_ ts ty #[x]).run P w=.ok y w/\VR F v y:=by
 unfold TJ at d;split at d
 ·next s b=>cases d;simp only[VR]at f;subst f;exact⟨.int .i64 s.length,by simp[Builtin.len_,g,bf b,goInt,strSize],by simp[VR]⟩
 ·next e b=>cases d;simp only[VR]at f;subst f;exact⟨.int .i64 0,by simp[Builtin.len_,g,bf b,goInt],by simp[VR]⟩
 ·next e id j n p b=>cases d;simp only[VR]at f;obtain⟨q,o,_,rfl⟩:=f;exact⟨.int .i64 n,by simp[Builtin.len_,g,bf b,goInt],by simp[VR]⟩
 ·next e l b=>cases d;simp only[VR]at f;rcases f with⟨rfl,_,rfl⟩|⟨B,j,c,D,E,rfl,_⟩;exact⟨.int .i64 0,by simp[Builtin.len_,g,bf b,goInt],by simp[VR]⟩;exact⟨.int .i64 l.length,by simp[Builtin.len_,g,bf b,goInt],by simp[VR]⟩
 ·next r u b=>cases d;simp only[VR]at f;subst f;exact⟨.int .i64 0,by simp[Builtin.len_,g,bf b,goInt],by simp[VR]⟩
 ·next r u id b=>
  split at d
  ·next es z=>
   cases d;simp only[VR]at f;obtain⟨q,o,rfl⟩:=f;obtain⟨G,i,H,k,A,m,_⟩:=h.obj _ _ z rfl;rw[o]at i;cases i;refine⟨.int .i64 es.length,?_,by simp[VR]⟩;simp[Builtin.len_,g,bf b,goInt,getObj,Sem.run,A,m]
  ·cases d
 ·next _ n _ b=>cases d;exact⟨.int .i64 n,by cases x<;>simp[Builtin.len_,g,bf b,goInt],by simp[VR]⟩
 ·cases d
def anr(b o i j:Nat):((⟨b,o+i,none⟩:Addr)==⟨b,o+j,none⟩)=(i==j):=by rw[yI];simp
section
variable{t e:TypeId}
def agM{n:Nat}(a:P.underlying t=some (.pointer e))(c:sizeT P e=some n)(h0:n≠0)(b o i j:Nat):
 (Op.equal t (.pointer (some ⟨b,o+i,none⟩)) (.pointer (some ⟨b,o+j,none⟩))).run P w=.ok (i==j) w:=by
 have H:∀d:Nat,(Op.equalIn (d+1) t (.pointer (some ⟨b,o+i,none⟩)) (.pointer (some ⟨b,o+j,none⟩))).run P w=.ok (i==j) w:=λd=>by simp only[Op.equalIn,aV,bf a,aU,jv c,aj h0,wJ];simp only[sameAddr,beq_self_eq_true,if_true,bJ,anr,aV,aU]
 exact H 9999
def Gv(b:P.underlying t=some (.pointer e))(a:Addr):(Op.equal t (.pointer (some a)) (.pointer none)).run P w=.ok false w:=by
 have H:∀d:Nat,(Op.equalIn (d+1) t (.pointer (some a)) (.pointer none)).run P w=.ok false w:=λd=>by simp only[Op.equalIn,aV,bf b,aU,bJ]
 exact H 9999
def Gu(b:P.underlying t=some (.pointer e))(a:Addr):(Op.equal t (.pointer none) (.pointer (some a))).run P w=.ok false w:=by
 have H:∀d:Nat,(Op.equalIn (d+1) t (.pointer none) (.pointer (some a))).run P w=.ok false w:=λd=>by simp only[Op.equalIn,aV,bf b,aU,bJ,LM]
 exact H 9999
def Vd(b:P.underlying t=some (.slice e))(a:Addr)(l c:Nat):(Op.equal t (.slice (some a) l c) (.slice none 0 0)).run P w=.ok false w:=by
 have H:∀d:Nat,(Op.equalIn (d+1) t (.slice (some a) l c) (.slice none 0 0)).run P w=.ok false w:=λd=>by simp only[Op.equalIn,aV,bf b,aU,bJ]
 exact H 9999
def Vb(b:P.underlying t=some (.slice e))(a:Addr)(l c:Nat):(Op.equal t (.slice none 0 0) (.slice (some a) l c)).run P w=.ok false w:=by
 have H:∀d:Nat,(Op.equalIn (d+1) t (.slice none 0 0) (.slice (some a) l c)).run P w=.ok false w:=λd=>by simp only[Op.equalIn,aV,bf b,aU,bJ,LM]
 exact H 9999
def agI{a:Array (String×TypeId)}(b:P.underlying t=some (.interface a))(u:TypeId)(x:Value):(Op.equal t (.iface u x) .nilIface).run P w=.ok false w:=by
 have H:∀d:Nat,(Op.equalIn (d+1) t (.iface u x) .nilIface).run P w=.ok false w:=λd=>by simp only[Op.equalIn,aV,bf b,aU,bJ]
 exact H 9999
def agK{a:Array (String×TypeId)}(b:P.underlying t=some (.interface a))(u:TypeId)(x:Value):(Op.equal t .nilIface (.iface u x)).run P w=.ok false w:=by
 have H:∀d:Nat,(Op.equalIn (d+1) t .nilIface (.iface u x)).run P w=.ok false w:=λd=>by simp only[Op.equalIn,aV,bf b,aU,bJ]
 exact H 9999
def agJ{k:TypeId}(a:P.underlying t=some (.map k e))(r:Nat):(Op.equal t (.map (some r)) (.map none)).run P w=.ok false w:=by
 have H:∀d:Nat,(Op.equalIn (d+1) t (.map (some r)) (.map none)).run P w=.ok false w:=λd=>by simp only[Op.equalIn,aV,bf a,aU,bJ]
 exact H 9999
def agL{k:TypeId}(a:P.underlying t=some (.map k e))(r:Nat):(Op.equal t (.map none) (.map (some r))).run P w=.ok false w:=by
 have H:∀d:Nat,(Op.equalIn (d+1) t (.map none) (.map (some r))).run P w=.ok false w:=λd=>by simp only[Op.equalIn,aV,bf a,aU,bJ,LM]
 exact H 9999
end
def tX{t:TypeId}{x y:Operand}{u a:Value}{r:Bool}(h:(Op.equal t u a).run P w=.ok r w)
 (b:binOp .eql t u a=(do pure (.bool (<-Op.equal t u a)))) (c:(eqGuard .eql t x y u a).run P w=.ok () w):
 (do eqGuard .eql t x y u a;binOp .eql t u a:Sem Value).run P w=.ok (.bool r) w:=by
 simp only[aV,c,aU,b,h,bJ]
def tY{t:TypeId}{x y:Operand}{u a:Value}{r:Bool}(h:(Op.equal t u a).run P w=.ok r w)
 (b:binOp .neq t u a=(do pure (.bool (!(<-Op.equal t u a))))) (c:(eqGuard .neq t x y u a).run P w=.ok () w):
 (do eqGuard .neq t x y u a;binOp .neq t u a:Sem Value).run P w=.ok (.bool (!r)) w:=by
 simp only[aV,c,aU,b,h,bJ]
def afL{f:BinOp}{t:TypeId}{x y:Operand}{k:IntKind}{a b c d m n:Int}{v:AV}(g:UR f a b c d=some v)(h1:a<=m)(o:m<=b)(p:c<=n)(q:n<=d):
 ∃z,(do eqGuard f t x y (.int k m) (.int k n);binOp f t (.int k m) (.int k n):Sem Value).run P w=.ok z w/\VR F v z:=by
 have h:∀(f:BinOp)(r:Bool),(eqGuard f t x y (.int k m) (.int k n)).run P w=.ok () w->binOp f t (.int k m) (.int k n)=(if k≠k then stuck "BinOp: operands of different kinds" else Op.intCmp f m n)->Op.intCmp f m n=pure (.bool r)->
  (do eqGuard f t x y (.int k m) (.int k n);binOp f t (.int k m) (.int k n):Sem Value).run P w=.ok (.bool r) w:=by
  intro f r i j l;rw[aV,i,aU,j,ah (by simp),l];rfl
 cases f<;>simp only[UR,reduceCtorEq]at g
 all_goals split at g
 all_goals try split at g
 all_goals cases g
 all_goals refine⟨_,h _ _ rfl rfl rfl,?_⟩
 all_goals simp only[VR,Value.bool.injEq]
 all_goals first|(exact Gq (by omega))|(exact Ed (by omega))|(simp;omega)|skip
def anw(h:SR P F J w){A:BinOp}{t:TypeId}{x y:Operand}{a b v:AV}{u B:Value}(d:vG P A t x y a b=some v)(f:VR F a u)(g:VR F b B):
 ∃z,(do eqGuard A t x y u B;binOp A t u B:Sem Value).run P w=.ok z w/\VR F v z:=by
 unfold vG at d;split at d
 ·split at d
  ·next e i=>
   split at d
   ·next n D=>
    split at d
    ·next E=>
     cases d;obtain⟨rfl,G⟩:=E;simp only[VR]at f g;obtain⟨q,j,rfl⟩:=f;obtain⟨O,k,rfl⟩:=g;rw[j]at k;cases k;exact⟨_,tX (agM i D G _ _ _ _) rfl rfl,by simp only[VR]⟩
    ·cases d
   ·cases d
  ·cases d
 ·split at d
  ·next e i=>
   split at d
   ·next n D=>
    split at d
    ·next E=>
     cases d;obtain⟨rfl,G⟩:=E;simp only[VR]at f g;obtain⟨q,j,rfl⟩:=f;obtain⟨O,k,rfl⟩:=g;rw[j]at k;cases k;exact⟨_,tY (agM i D G _ _ _ _) rfl rfl,by simp only[VR]⟩
    ·cases d
   ·cases d
  ·cases d
 ·split at d
  ·next i=>cases d;simp only[VR]at f g;obtain⟨q,j,rfl⟩:=f;subst g;exact⟨_,tX (Gv i _) rfl rfl,by simp only[VR]⟩
  ·cases d
 ·split at d
  ·next i=>cases d;simp only[VR]at f g;obtain⟨q,j,rfl⟩:=g;subst f;exact⟨_,tX (Gu i _) rfl rfl,by simp only[VR]⟩
  ·cases d
 ·split at d
  ·next i=>cases d;simp only[VR]at f g;obtain⟨q,j,rfl⟩:=f;subst g;exact⟨_,tY (Gv i _) rfl rfl,by simp only[VR];rfl⟩
  ·cases d
 ·split at d
  ·next i=>cases d;simp only[VR]at f g;obtain⟨q,j,rfl⟩:=g;subst f;exact⟨_,tY (Gu i _) rfl rfl,by simp only[VR];rfl⟩
  ·cases d
 ·split at d
  ·next i=>cases d;simp only[VR]at f g;obtain⟨o,p,c,H,I,rfl,_⟩:=f.resolve_left (by simp);subst g;exact⟨_,tX (Vd i _ _ _) rfl rfl,by simp only[VR]⟩
  ·cases d
 ·split at d
  ·next i=>cases d;simp only[VR]at f g;obtain⟨o,p,c,H,I,rfl,_⟩:=g.resolve_left (by simp);subst f;exact⟨_,tX (Vb i _ _ _) rfl rfl,by simp only[VR]⟩
  ·cases d
 ·split at d
  ·next i=>cases d;simp only[VR]at f g;obtain⟨o,p,c,H,I,rfl,_⟩:=f.resolve_left (by simp);subst g;exact⟨_,tY (Vd i _ _ _) rfl rfl,by simp only[VR];rfl⟩
  ·cases d
 ·split at d
  ·next i=>cases d;simp only[VR]at f g;obtain⟨o,p,c,H,I,rfl,_⟩:=g.resolve_left (by simp);subst f;exact⟨_,tY (Vb i _ _ _) rfl rfl,by simp only[VR];rfl⟩
  ·cases d
 ·split at d
  ·next i=>cases d;simp only[VR]at f g;obtain⟨o,base,L,l,M,x,_,_,rfl,_⟩:=f;subst g;exact⟨_,tX (Gv i _) rfl rfl,by simp only[VR]⟩
  ·cases d
 ·split at d
  ·next i=>cases d;simp only[VR]at f g;obtain⟨o,base,L,l,M,x,_,_,rfl,_⟩:=g;subst f;exact⟨_,tX (Gu i _) rfl rfl,by simp only[VR]⟩
  ·cases d
 ·split at d
  ·next i=>cases d;simp only[VR]at f g;obtain⟨o,base,L,l,M,x,_,_,rfl,_⟩:=f;subst g;exact⟨_,tY (Gv i _) rfl rfl,by simp only[VR];rfl⟩
  ·cases d
 ·split at d
  ·next i=>cases d;simp only[VR]at f g;obtain⟨o,base,L,l,M,x,_,_,rfl,_⟩:=g;subst f;exact⟨_,tY (Gu i _) rfl rfl,by simp only[VR];rfl⟩
  ·cases d
 ·split at d
  ·next i=>cases d;simp only[VR]at f g;obtain⟨q,j,_,rfl⟩:=f;subst g;exact⟨_,tX (Vd i _ _ _) rfl rfl,by simp only[VR]⟩
  ·cases d
 ·split at d
  ·next i=>cases d;simp only[VR]at f g;obtain⟨q,j,_,rfl⟩:=g;subst f;exact⟨_,tX (Vb i _ _ _) rfl rfl,by simp only[VR]⟩
  ·cases d
 ·split at d
  ·next i=>cases d;simp only[VR]at f g;obtain⟨q,j,_,rfl⟩:=f;subst g;exact⟨_,tY (Vd i _ _ _) rfl rfl,by simp only[VR];rfl⟩
  ·cases d
 ·split at d
  ·next i=>cases d;simp only[VR]at f g;obtain⟨q,j,_,rfl⟩:=g;subst f;exact⟨_,tY (Vb i _ _ _) rfl rfl,by simp only[VR];rfl⟩
  ·cases d
 ·split at d
  ·next i=>cases d;simp only[VR]at f g;obtain⟨q,rfl,j⟩:=f;subst g;exact⟨_,tX (agI i _ _) rfl rfl,by simp only[VR]⟩
  ·cases d
 ·split at d
  ·next i=>cases d;simp only[VR]at f g;obtain⟨q,rfl,j⟩:=g;subst f;exact⟨_,tX (agK i _ _) rfl rfl,by simp only[VR]⟩
  ·cases d
 ·split at d
  ·next i=>cases d;simp only[VR]at f g;obtain⟨q,rfl,j⟩:=f;subst g;exact⟨_,tY (agI i _ _) rfl rfl,by simp only[VR];rfl⟩
  ·cases d
 ·split at d
  ·next i=>cases d;simp only[VR]at f g;obtain⟨q,rfl,j⟩:=g;subst f;exact⟨_,tY (agK i _ _) rfl rfl,by simp only[VR];rfl⟩
  ·cases d
 ·split at d
  ·next i=>cases d;simp only[VR]at f g;obtain⟨q,j,rfl⟩:=f;subst g;exact⟨_,tX (agJ i _) rfl rfl,by simp only[VR]⟩
  ·cases d
 ·split at d
  ·next i=>cases d;simp only[VR]at f g;obtain⟨q,j,rfl⟩:=g;subst f;exact⟨_,tX (agL i _) rfl rfl,by simp only[VR]⟩
  ·cases d
 ·split at d
  ·next i=>cases d;simp only[VR]at f g;obtain⟨q,j,rfl⟩:=f;subst g;exact⟨_,tY (agJ i _) rfl rfl,by simp only[VR];rfl⟩
  ·cases d
 ·split at d
  ·next i=>cases d;simp only[VR]at f g;obtain⟨q,j,rfl⟩:=g;subst f;exact⟨_,tY (agL i _) rfl rfl,by simp only[VR];rfl⟩
  ·cases d
 ·split at d
  ·next N=>subst N;simp only[VR]at f g;obtain⟨m,r,s,rfl⟩:=f;subst g;exact afL d r s (gW _) (gW _)
  ·cases d
 ·split at d
  ·next N=>subst N;simp only[VR]at f g;obtain⟨m,r,s,rfl⟩:=g;subst f;exact afL d (gW _) (gW _) r s
  ·cases d
 ·split at d
  ·next S T r s=>
   simp only[xM]at d;obtain⟨z,Q,R⟩:=d;rw[Dp r f,Dp s g];exact⟨z,Dk Q w,EK _ _ _ R⟩
  ·cases d
def DX(F:Env):Wm->List (Nat×Value)->Prop
 |[],b=>b=[]
 |(i,a)::l,b=>∃x rest,b=(i,x)::rest/\VR F a x/\DX F l rest
def ag2(off:Nat):∀(l:Q6)(k:Nat)(cs:QQ),
 (l.zipIdx k).foldl (λcs (c,j)=>cs.setIfInBounds (off+j) c) cs=setFrom cs (off+k) l
 |[],_,_=>rfl
 |v::l,k,cs=>by simp only[List.zipIdx_cons,List.foldl_cons];rw[ag2 off l (k+1)];rfl
def aDy{c g vs:Q3}{off:Nat}{cs:QQ}{xs:Q6}(h:BD c off vs=some g)(i:aC F c cs.toList)(j:aC F vs xs):aC F g (setFrom cs off xs).toList:=by
 obtain⟨o,p,l⟩:=Xy h;have m:=i.length;have n:=j.length;simp only[Ld]at m;refine aC.of ?_ λk a b=>?_
 ·have:=Oj xs cs off;simp only[Ld];omega
 ·rw[l]at b;rw[xF,Xx _ _ _ _ (by omega)];split at b
  ·next q=>
   rw[aj (by omega)];obtain⟨x,d,f⟩:=j.at b;exact⟨x,d,f⟩
  ·rw[ah (by omega)];obtain⟨x,d,f⟩:=i.at b;rw[xF]at d;exact⟨x,d,f⟩
def MV{d:Nat->Option (Nat×Nat)}:∀{m:Wm}{qs:List (Nat×Value)}{c k:Q3}{cs:QQ},
 BQ d c m=some k->DX F m qs->aC F c cs.toList->∃f,Instr.fill d cs qs=some f/\aC F k f.toList
 |[],qs,c,k,cs,h,g,l=>by simp only[DX]at g;subst g;simp only[BQ,aY]at h;subst h;exact⟨cs,rfl,l⟩
 |(i,a)::m,qs,c,k,cs,h,g,l=>by
  simp only[DX]at g;obtain⟨x,rest,rfl,u,g⟩:=g;unfold BQ at h;split at h
  ·cases h
  ·next n q o=>
   split at h
   ·next v=>
    split at h
    ·next B r=>
     have b:=AL u;have j:=b.length;have y:=aDy r l b;obtain⟨D,_,_⟩:=Xy r;have p:=l.length;simp only[Ld]at j p;obtain⟨f,z,A⟩:=MV h g y;refine⟨f,?_,A⟩;unfold Instr.fill;simp only[o];rw[ah (by simp;omega)];rw[<-z];congr 1;have s:=ag2 n x.cells.toList 0 cs;rw[oL]at s;rw[<-s,<-Array.foldl_toList,Array.toList_zipIdx]
    ·cases h
   ·cases h
def ZW{c:QP}{ρ:Operand->Value}(hρ:∀x a,c x=some a->VR F a (ρ x)):∀{l:List (Nat×Operand)}{b:Wm},
 Gx c l=some b->DX F b (l.map λ(i,x)=>(i,ρ x))
 |[],b,h=>by simp[Gx]at h;subst h;simp[DX]
 |(i,x)::l,b,h=>by
  unfold Gx at h;split at h
  ·next v r d f=>
   cases h;exact⟨ρ x,_,rfl,hρ _ _ d,ZW hρ f⟩
  ·cases h
def MQ{b:QP}{ρ:Operand->Value}(hρ:∀x a,b x=some a->VR F a (ρ x)):∀{l:List Operand}{vs:Q3},
 CS b l=some vs->aC F vs (l.map ρ)
 |[],vs,h=>by simp[CS]at h;subst h;simp[aC]
 |x::l,vs,h=>by
  unfold CS at h;split at h
  ·next v r c d=>
   cases h;exact aC.cons (hρ _ _ c) (MQ hρ d)
  ·cases h
def aiY:∀{fs:List Field}{a:WD},RN P fs=some a->(fs.mapM λf=>do pure (f.offset,<-sizeOf f.type):Sem WD).run P w=.ok a w
 |[],a,h=>by simp[RN]at h;subst h;rfl
 |f::fs,a,h=>by
  unfold RN at h;split at h
  ·next n r b c=>
   cases h;simp only[aeg,aV,jv b,aU,bJ,aiY c]
  ·cases h
def anE{t:TypeId}{r:Wm}{qs:Array (Nat×Value)}{v:AV}(b:TD P t r=some v)(s:DX F r qs.toList):
 ∃y,(Instr.build t qs).run P w=.ok y w/\VR F v y:=by
 unfold TD at b;split at b
 ·next zero d k l=>
  obtain⟨z,m,g⟩:=Hy k;split at b
  ·next a o=>
   simp only[bC]at b;obtain⟨c,p,rfl⟩:=b;obtain⟨j,h,q⟩:=MV p s (g F);refine⟨.agg j,?_,by simp only[VR];exact⟨j.toList,rfl,q⟩⟩;have A:(d.mapM λf=>do pure (f.offset,<-sizeOf f.type):Sem (Array (Nat×Nat))).run P w=.ok ⟨a⟩ w:=by rw[Ym];simp only[YH,aiY o,aU]
   simp only[Instr.build,aV,m,aU,bf l,A];have:(λi:Nat=>(⟨a⟩:Array (Nat×Nat))[i]?)=λi:Nat=>a[i]?:=by funext i;simp
   rw[this,h];rfl
  ·cases b
 ·next zero n u k l=>
  obtain⟨z,m,g⟩:=Hy k;split at b
  ·next x B=>
   simp only[bC]at b;obtain⟨c,p,rfl⟩:=b;obtain⟨j,h,q⟩:=MV p s (g F);refine⟨.agg j,?_,by simp only[VR];exact⟨j.toList,rfl,q⟩⟩;simp only[Instr.build,aV,m,aU,bf l,jv B,h];rfl
  ·cases b
 ·cases b
def aw8{t:TypeId}{a:AV}{x:Value}(h:JB P t=some false)(b:VR F a x):∃y,(Instr.makeInterface t x).run P w=.ok y w/\VR F (.jq t a) y:=by
 unfold JB at h;split at h<;>cases h
 next d c f=>
 refine⟨.iface t x,?_,by simp only[VR];exact⟨x,rfl,b⟩⟩;simp only[Instr.makeInterface,aV,bf f,aU];cases d<;>simp_all
def Yj{t:TypeId}{i:TypeInfo}{z:Value}{a:AV}(hi:P.info? t=some i)(b:i.zero=some z)(c:nH 4 z=some a):(zeroValue t).run P w=.ok z w/\VR F a z:=
 ⟨by simp[zeroValue,Hw hi,b],EK _ _ _ c⟩
def aFb{t r:TypeId}{a v:AV}{x:Value}{ok:Bool}(c:TU P a t ok=some v)(k:VR F a x):
 ∃y,(Instr.typeAssert x r t ok).run P w=.ok y w/\VR F v y:=by
 unfold TU at c;split at c
 ·next u b hi=>
  simp only[VR]at k;obtain⟨y,rfl,q⟩:=k;have l:∃d,P.underlying t=some d/\∀h,d≠.interface h:=by
   unfold JB at hi;split at hi<;>cases hi
   next d f g=>exact⟨d,g,λh e=>f h e⟩
  obtain⟨d,g,f⟩:=l;split at c
  ·next e=>
   cases c;subst e;refine⟨if ok then .tuple #[y,.bool true]else y,?_,?_⟩
   ·simp only[Instr.typeAssert,aV,bf g,aU];cases d<;>simp_all
   ·cases ok
    ·simpa using q
    ·simp only[VR];exact⟨[y,.bool true],rfl,aC.cons q (aC.cons (by simp[VR]) (by simp[aC]))⟩
  ·next e=>
   split at c
   ·next j=>
    split at c
    ·next i m=>
     split at c
     ·next z n=>
      simp only[bC]at c;obtain⟨a,o,rfl⟩:=c;obtain⟨s,p⟩:=Yj (w:=w) (F:=F) m n o;refine⟨.tuple #[z,.bool false],?_,?_⟩
      ·subst j;simp only[Instr.typeAssert,aV,bf g,aU];have A:¬u=t:=e;cases d<;>simp_all
      ·simp only[VR];exact⟨[z,.bool false],rfl,aC.cons p (aC.cons (by simp[VR]) (by simp[aC]))⟩
     ·cases c
    ·cases c
   ·cases c
 ·next hi=>
  simp only[VR]at k;subst k;have l:∃d,P.underlying t=some d/\∀h,d≠.interface h:=by
   unfold JB at hi;split at hi<;>cases hi
   next d f g=>exact⟨d,g,λh e=>f h e⟩
  obtain⟨d,g,f⟩:=l;split at c
  ·next j=>
   split at c
   ·next i m=>
    split at c
    ·next z n=>
     simp only[bC]at c;obtain⟨a,o,rfl⟩:=c;obtain⟨s,p⟩:=Yj (w:=w) (F:=F) m n o;refine⟨.tuple #[z,.bool false],?_,?_⟩
     ·subst j;simp only[Instr.typeAssert,aV,bf g,aU];cases d<;>simp_all
     ·simp only[VR];exact⟨[z,.bool false],rfl,aC.cons p (aC.cons (by simp[VR]) (by simp[aC]))⟩
    ·cases c
   ·cases c
  ·cases c
 ·cases c
def asV{l:Q3}{k:Nat}{v:AV}{x:Value}(b:l[k]? =some v)(a:VR F (.fB l) x):∃y,(Instr.extract x k).run P w=.ok y w/\VR F v y:=by simp only[VR]at a;obtain⟨g,rfl,c⟩:=a;obtain⟨y,d,f⟩:=c.at b;exact⟨y,by simp[Instr.extract,d],f⟩
def IW(s a:Q0):((⟨⟨s⟩⟩:ByteArray)==⟨⟨a⟩⟩)=(s==a):=by
 show ByteArray.beq _ _=_
 unfold ByteArray.beq;simp
def aia{kd:TypeDesc}{a b:AV}{x y:Value}{r:Bool}(f:match kd,a with|.int _,.i _ _|.int _,.z _ _ _|.string,.s _|.bool,.b _=>True|_,_=>False)(h:aaV a b=some r)(c:VR F a x)(d:VR F b y):
 Instr.sameNow kd x y=some r:=by
 unfold aaV at h;split at h
 ·next k n g j=>
  simp only[VR]at c d;subst c;subst d;cases kd<;>simp at f
  simp only[Instr.sameNow];split at h
  ·next e=>rw[aj e];exact h
  ·cases h
 ·next s i=>
  simp only[VR]at c d;subst c;subst d;cases kd<;>simp at f
  simp only[Instr.sameNow];rw[<-h,IW]
 ·next s i=>
  simp only[VR]at c d;subst c;subst d;cases kd<;>simp at f
  simp only[Instr.sameNow];exact h
 ·next k lo hi g n=>
  simp only[VR]at c d;obtain⟨m,l,o,rfl⟩:=c;subst d;cases kd<;>simp at f
  split at h
  ·next e=>
   cases h;obtain⟨e,p⟩:=e;simp only[Instr.sameNow];rw[aj e];have:m≠n:=by omega
   simp[this]
  ·cases h
 ·cases h
def BO(F:Env)(es:XX)(a:List MapEntry):Prop:=
 a.length=es.length/\∀(k:Nat) e,es[k]? =some e->∃m,a[k]? =some m/\VR F e.1 m.key/\VR F e.2 m.val
def BO.tail{e:AV×AV}{es:XX}{a:List MapEntry}(h:BO F (e::es) a):∃m rest,a=m::rest/\VR F e.1 m.key/\VR F e.2 m.val/\BO F es rest:=by
 obtain⟨b,c⟩:=h;cases a with
 |nil=>simp at b
 |cons m rest=>obtain⟨l,d,f,g⟩:=c 0 e (by simp);simp at d;subst d;exact⟨m,rest,rfl,f,g,by simpa using b,λk i j=>by simpa using c (k+1) i (by simpa using j)⟩
def Lj(kd:TypeDesc)(a:AV):Prop:=match kd,a with|.int _,.i _ _|.int _,.z _ _ _|.string,.s _|.bool,.b _=>True|_,_=>False
def find_ok{kd:TypeDesc}{k:AV}{x:Value}(n:Lj kd k)(o:VR F k x):∀{es:XX}{g:List MapEntry}{i:Nat}{r:Option (Nat×AV)},
 Jl k es i=some r->BO F es g->∃l,Instr.findNow kd x g i=some l/\(match r,l with|none,none=>True|some (j,v),some (A,y)=>j=A/\i<=j/\j<i+es.length/\VR F v y|_,_=>False)
 |[],g,i,r,h,p=>by
  simp only[Jl,aY]at h;subst h;have:g=[]:=by have:=p.1;cases g<;>simp_all
  subst this;exact⟨none,rfl,trivial⟩
 |e::es,g,i,r,h,p=>by
  obtain⟨m,u,rfl,z,B,D⟩:=p.tail;unfold Jl at h;split at h
  ·next q=>
   cases h;have s:=aia (kd:=kd) n q o z;exact⟨some (i,m.val),by simp[Instr.findNow,s],rfl,dD _,by simp,B⟩
  ·next q=>
   have s:=aia (kd:=kd) n q o z;obtain⟨l,E,f⟩:=find_ok n o h D;refine⟨l,by simp[Instr.findNow,s,E],?_⟩;cases r<;>cases l<;>simp only at f⊢
   obtain⟨a,b,c,d⟩:=f;exact⟨a,by omega,by simp;omega,d⟩
  ·cases h
def agX{t:TypeId}{k:AV}(h:Vo P t k=true):∃kd,P.underlying t=some kd/\Lj kd k:=by
 unfold Vo at h;split at h
 ·next a=>exact⟨_,a,trivial⟩
 ·next a=>exact⟨_,a,trivial⟩
 ·next a=>exact⟨_,a,trivial⟩
 ·next a=>exact⟨_,a,trivial⟩
 ·cases h
def afD{t:TypeId}{k:AV}{x:Value}{kd:TypeDesc}(c:P.underlying t=some kd)(d:Lj kd k)(a:VR F k x)(b:Bool):(Instr.checkKey b 10000 t x).run P w=.ok () w:=by
 have H:∀n:Nat,(Instr.checkKey b (n+1) t x).run P w=.ok () w:=λn=>by cases kd<;>cases k<;>simp only[Lj]at d<;>simp only[VR]at a<;>(first|subst a|obtain⟨_,_,_,rfl⟩:=a)<;>simp only[Instr.checkKey,aV,bf c,aU,bJ]
 exact H 9999
def uM(a et:TypeId)(y:Value)(ok:Bool)(es:Array MapEntry):Sem Value:=do
 Instr.checkKey es.isEmpty 10000 a y
 let(v,k) <-match <-Instr.findKey a y es.toList with
  |some (_,v)=>pure (v,true)
  |none=>pure (<-zeroValue et,false)
 pure (if ok then .tuple #[v,.bool k]else v)
def lookup_nil{t a et:TypeId}(b:P.underlying t=some (.map a et))(y:Value)(ok:Bool):(Instr.lookup t (.map none) y ok).run P w=(uM a et y ok #[]).run P w:=by simp only[Instr.lookup,uM,aV,bf b,aU,bJ];congr 1
def Wv{t c et:TypeId}(d:P.underlying t=some (.map c et))(y:Value)(ok:Bool){r:Nat}{b:Array MapEntry}{a:Nat}(f:w.heap[r]? =some (.map b a)):
 (Instr.lookup t (.map (some r)) y ok).run P w=(uM c et y ok b).run P w:=by
 have g:(getObj r).run P w=.ok (.map b a) w:=by simp[getObj,Sem.run,f]
 simp only[Instr.lookup,uM,aV,bf d,aU,bJ,g];congr 1
def aw0(h:SR P F J w){t:TypeId}{m k v:AV}{x y:Value}{ok:Bool}(d:TK P t m k ok J=some v)(G:VR F m x)(O:VR F k y):
 ∃z,(Instr.lookup t x y ok).run P w=.ok z w/\VR F v z:=by
 unfold TK at d;split at d
 ·next H X Q=>
  split at d
  ·next es f=>
   split at d
   ·next s=>
    obtain⟨kd,R,S⟩:=agX s;have I:∃o:Array MapEntry,(Instr.lookup t x y ok).run P w=(uM H X y ok o).run P w/\BO F es o.toList:=by
     split at f
     ·cases f;simp only[VR]at G;subst G;exact⟨#[],lookup_nil Q y ok,by simp[BO]⟩
     ·next id=>
      simp only[VR]at G;obtain⟨q,Y,rfl⟩:=G;split at f
      ·next Z hg=>
       cases f;obtain⟨q',A,o,L,hb,M,hp⟩:=h.obj _ _ hg rfl;rw[Y]at A;cases A;refine⟨o,Wv Q y ok hb,by simpa using M,λk e hk=>?_⟩;obtain⟨m,hm,n,g⟩:=hp k e hk;exact⟨m,by simpa using hm,n,g⟩
      ·cases f
     ·cases f
    obtain⟨o,B,N⟩:=I;rw[B];have D:∀b,(Instr.checkKey b 10000 H y).run P w=.ok () w:=λb=>afD R S O b;have E:∀r,Jl k es 0=some r->∃l,(Instr.findKey H y o.toList).run P w=.ok l w/\(match r,l with|none,none=>True|some (j,v),some (T,y)=>j=T/\0<=j/\j<0+es.length/\VR F v y|_,_=>False):=λr hr=>by obtain⟨l,n,g⟩:=find_ok S O hr N;exact⟨l,by simp only[Instr.findKey,aV,bf R,aU,n,bJ],g⟩
    split at d
    ·next j u c=>
     cases d;obtain⟨l,n,g⟩:=E _ c;cases l with
     |none=>exact g.elim
     |some p=>
      obtain⟨T,z⟩:=p;obtain⟨rfl,_,_,V⟩:=g;refine⟨if ok then .tuple #[z,.bool true]else z,?_,?_⟩
      ·simp only[uM,aV,aU,D,n,bJ]
      ·cases ok
       ·simpa using V
       ·simp only[VR];exact⟨[z,.bool true],rfl,aC.cons V (aC.cons (by simp[VR]) (by simp[aC]))⟩
    ·next c=>
     obtain⟨l,n,g⟩:=E _ c;cases l with
     |some p=>exact g.elim
     |none=>
      split at d
      ·next i qY=>
       split at d
       ·next z hz=>
        simp only[bC]at d;obtain⟨a,ha,rfl⟩:=d;obtain⟨h3,W⟩:=Yj (w:=w) (F:=F) qY hz ha;refine⟨if ok then .tuple #[z,.bool false]else z,?_,?_⟩
        ·simp only[uM,aV,aU,D,n,h3,bJ]
        ·cases ok
         ·simpa using W
         ·simp only[VR];exact⟨[z,.bool false],rfl,aC.cons W (aC.cons (by simp[VR]) (by simp[aC]))⟩
       ·cases d
      ·cases d
    ·cases d
   ·cases d
  ·cases d
 ·cases d
def aDq{k:AV}{x y:Value}{kd:TypeDesc}(c:Lj kd k)(b:VR F k x)(a:Instr.sameNow kd x y=some true)(n:Nat):Instr.sameBits (n+1) y x=true:=by
 cases kd<;>cases k<;>simp only[Lj]at c<;>simp only[VR]at b<;>(first|subst b|obtain⟨_,_,_,rfl⟩:=b)<;>cases y<;>simp only[Instr.sameNow,aY,reduceCtorEq]at a
 ·simp_all [Instr.sameBits]
 ·split at a
  ·simp_all [Instr.sameBits]
  ·cases a
 ·split at a
  ·simp_all [Instr.sameBits]
  ·cases a
 ·next s d=>
  obtain⟨⟨l⟩⟩:=d;rw[IW]at a;simp only[Instr.sameBits,IW];simp_all
def Ec(h:SR P F J w){c:Q3}{xs:QQ}{elem:TypeId}{opn:Bool}{es:Nat}(l:aC F c (xs.toList.take c.length))(f:c.length<=xs.size)(b:opn=false->c.length=xs.size)
 (d:opn=true->elem≠0/\0<es/\sizeT P elem=some es):
 St P F J w (F.put J.next ⟨w.heap.size,0,xs.size,es⟩) (J.new (.cells c elem true opn)) {w with heap:=w.heap.push (.cells xs elem)}:=by
 refine St.alloc h _ _ _ rfl ?_;refine⟨xs,elem,(0,0),by simp,?_⟩;refine {fits:=by simp,le:=f,shut:=b,cell:=?_,free:=λ_ k _=>by simp,whole:=λ_=>⟨rfl,by simp,λ_=>rfl⟩,room:=d};intro k a i;obtain⟨x,j,m⟩:=l.at i;have g:k<c.length:=(fM.1 i).1;rw[mg,aj g]at j;exact⟨x,by simpa using j,VR.mono (Env.Ht h _) _ _ m⟩
def ajo{q:Place}{id:Nat}(h0:q.ba=0):VR (F.put id q) (.p id 0) (.pointer (some ⟨q.bl,0,none⟩)):=by simp only[VR];exact⟨q,by simp[Env.put],by simp[h0]⟩
def am9(h:SR P F J w){t:TypeId}{z:Q3}(c:Ae P t=some z):
 ∃y w' F',(Instr.alloc t true (.tuple #[])).run P w=.ok y w'/\St P F J w F' (J.new (.cells z t true false)) w'/\VR F' (.p J.next 0) y:=by
 obtain⟨d,f,a⟩:=Hy c;have b:=(a F).length;refine⟨_,_,_,?_,Ec h (xs:=d.cells) (es:=0) (opn:=false) ?_ (by simpa using LH b) (λ_=>by simpa using b) (by simp),ajo rfl⟩
 ·simp only[Instr.alloc,aV,f,aU,newVar,newRow,newObj,Sem.run,bJ]
 ·rw[b,Ak];exact a F
def afd(h:SR P F J w){t:TypeId}{a:AV}{x:Value}(d:VR F a x):
 ∃y w' F',(Instr.box t x).run P w=.ok y w'/\St P F J w F' (J.new (.cells a.cells t true false)) w'/\VR F' (.p J.next 0) y:=by
 have c:=AL d;have b:=c.length;refine⟨_,_,_,?_,Ec h (xs:=x.cells) (es:=0) (opn:=false) ?_ (by simpa using LH b) (λ_=>by simpa using b) (by simp),ajo rfl⟩
 ·simp only[Instr.box,aV,aU,newVar,newRow,newObj,Sem.run,bJ]
 ·rw[b,Ak];exact c
def CQ{t e:TypeId}{size bytes:Nat}{z:Q3}(h:xZ P t=some (e,size,bytes,z)):
 P.underlying t=some (.slice e)/\(∃i,P.info? e=some i/\i.size=size/\i.bytes=bytes)/\Ae P e=some z/\e≠0/\z.length=size/\sizeT P e=some size:=by
 unfold xZ at h;split at h
 ·next d b=>
  split at h
  ·next i f hi c=>
   split at h
   ·next a=>
    cases h;exact⟨b,⟨i,hi,rfl,rfl⟩,c,a.1,a.2,by simp[sizeT,hi]⟩
   ·cases h
  ·cases h
 ·cases h
def akD{z:Q3}:∀(n k:Nat),k<n*z.length->(jG n z)[k]? =z[k%z.length]?
 |0,k,h=>by simp at h
 |n+1,k,h=>by
  have b:jG (n+1) z=z++jG n z:=by simp[jG,O0]
  rw[b];have c:0<z.length:=by rcases Ti z.length with e|e<;>simp_all
  by_cases a:k<z.length
  ·rw[og a,O4 a]
  ·rw[xI (by omega),akD n (k-z.length) (by rw[Nat.succ_mul]at h;omega)];congr 1;have:k=(k-z.length)+z.length:=by omega
   rw[this,Nat.add_mod_right];congr 1;omega
def Xi{z:Q3}(n:Nat):(jG n z).length=n*z.length:=by simp[jG]
def SE{z:Q3}{b:QQ}{n size:Nat}(i:aC F z b.toList)(j:z.length=size):aC F (jG n z) ((Array.range (n*size)).map (b[· % b.size]!)).toList:=by
 have f:=i.length;simp only[Ld]at f;refine aC.of ?_ λk a g=>?_
 ·rw[Xi];simp[j]
 ·have c:k<n*z.length:=by have:=(fM.1 g).1;rwa [Xi]at this
  rw[akD n k c]at g;obtain⟨x,d,l⟩:=i.at g;refine⟨x,?_,l⟩;have h:k<n*size:=by rw[<-j];exact c
  rw[xF]at d;rw[xF,Array.getElem?_map,Array.getElem?_range,aj h];have m:k%b.size<b.size:=by have:=(rG.1 d).1;rwa [f]at this
  rw[f]at d;simp[m,getElem!_pos];have:=(rG.1 d).2;exact this
