/- What the trees compute: plain laws. -/
import Derived.Test.YthchhlenbkefnaaGreatDoorKUe2
set_option linter.all false
namespace Go.Proofs.YthchhlenbkefnaaGreatDoor
open Go Go.aN
set_option maxRecDepth 100000
namespace U
abbrev It:=Int×Int×Q0
def cZ(x:It):GV:=.g [.zu x.1,.zu x.2.1,.s x.2.2]
@[simp] theorem awp(x:It):(cZ x).cells=[.zu x.1,.zu x.2.1,.s x.2.2]:=rfl
def lq(a b:It):Bool:=if a.1=b.1 then decide (a.2.1<b.2.1)else decide (a.1<b.1)
def leI(a b:It):Prop:=lq b a=false
def Wn(a b:It):leI a b↔a.1<b.1\/(a.1=b.1/\a.2.1<=b.2.1):=by
 unfold leI lq;split
 ·next h=>simp;omega
 ·next h=>simp;omega
def aix(a:It):leI a a:=(Wn a a).2 (.inr ⟨rfl,gW _⟩)
def aa5{a b c:It}(h1:leI a b)(d:leI b c):leI a c:=by rw[Wn]at *;omega
def QK{a b:It}(h:lq a b=true):leI a b:=by
 rw[Wn];unfold lq at h;split at h
 ·next e=>have:=Bq h;omega
 ·next e=>have:=Bq h;omega
def awN{a b:It}(h:leI a b):a.1<=b.1:=by rw[Wn]at h;omega
def dI:It:=(0,0,[])
abbrev at_(h:List It)(i:Nat):It:=h.getD i dI
def iQ(h:List It)(i j:Nat):List It:=(h.set i (at_ h j)).set j (at_ h i)
def Fp(h:List It)(i j:Nat):(iQ h i j).length=h.length:=by simp[iQ]
def Y6(h:List It){i j:Nat}(hi:i<h.length)(f:j<h.length)(k:Nat):at_ (iQ h i j) k=if k=j then at_ h i else if k=i then at_ h j else at_ h k:=by
 unfold iQ at_;simp only[zC,aee,Iq];by_cases a:k=j
 ·subst a;simp[f]
 ·have b:¬j=k:=λe=>a e.symm;rw[ah b,ah a];by_cases c:k=i
  ·subst c;simp[hi]
  ·have d:¬i=k:=λe=>c e.symm;rw[ah d,ah c]
def swap_perm(h:List It){i j:Nat}(hi:i<h.length)(a:j<h.length):(iQ h i j).Perm h:=by have:=Array.swap_perm (xs:=h.toArray) (i:=i) (j:=j) (by simpa using hi) (by simpa using a);have b:=this.toList;simp only[Array.toList_swap]at b;unfold iQ at_;simpa[zC,hi,a]using b
def par(k:Nat):Nat:=(k-1)/2
def Heap(h:List It)(n:Nat):Prop:=∀k,0<k->k<n->leI (at_ h (par k)) (at_ h k)
def BJ:Nat->List It->Nat->List It
 |0,h,_=>h
 |f+1,h,j=>if par j=j\/lq (at_ h j) (at_ h (par j))=false then h else BJ f (iQ h (par j) j) (par j)
structure aeC(h:List It)(n j:Nat):Prop where
 jn:j<n
 heap:∀k,0<k->k<n->k≠j->leI (at_ h (par k)) (at_ h k)
 kids:∀k,0<k->k<n->par k=j->0<j->leI (at_ h (par j)) (at_ h k)
def ama:∀(f:Nat)(h:List It)(j n:Nat),j<f->n=h.length->aeC h n j->Heap (BJ f h j) n/\(BJ f h j).Perm h
 |0,h,j,n,v,_,_=>by omega
 |f+1,h,j,n,v,w,d=>by
  unfold BJ;split
  ·next b=>
   refine⟨λk h0 g=>?_,ad2 _⟩;by_cases e:k=j
   ·subst e;rcases b with b|b
    ·unfold par at b;omega
    ·exact b
   ·exact d.heap k h0 g e
  ·next b=>
   rw[not_or]at b;obtain⟨x,m⟩:=b;have m:lq (at_ h j) (at_ h (par j))=true:=by simpa using m
   have y:0<j:=by
    rcases Ti j with e|e
    ·subst e;exact absurd rfl x
    ·exact e
   have A:par j<j:=by unfold par;omega
   have z:=d.jn;have a:=Y6 h (i:=par j) (j:=j) (by omega) (by omega);have o:aeC (iQ h (par j) j) n (par j):=by
    refine⟨by omega,λk h0 g p=>?_,λk h0 g l r=>?_⟩
    ·rw[a,a];by_cases c:k=j
     ·subst c;rw[dA,aj rfl,aj rfl];exact QK m
     ·rw[ah c,ah p];by_cases s:par k=j
      ·rw[aj s];exact d.kids k h0 g s y
      ·rw[ah s];by_cases t:par k=par j
       ·rw[aj t];exact aa5 (QK m) (t▸d.heap k h0 g c)
       ·rw[ah t];exact d.heap k h0 g c
    ·rw[a,a];have q:par (par j)<par j:=by unfold par at *;omega
     rw[dA,dA];have u:=d.heap (par j) r (by omega) (by omega);by_cases c:k=j
     ·subst c;rw[aj rfl];exact u
     ·rw[ah c,ah (λe=>by rw[e]at l;omega)];exact aa5 u (l▸d.heap k h0 g c)
   obtain⟨r1,r2⟩:=ama f (iQ h (par j) j) (par j) n (by omega) (by rw[Fp];exact w) o;exact⟨r1,r2.trans (swap_perm h (by omega) (by omega))⟩
def uQ(h:List It)(x:It):List It:=BJ (h.length+1) (h++[x]) h.length
def N8(h:List It)(x:It)(c:Heap h h.length):Heap (uQ h x) (h.length+1)/\(uQ h x).Perm (h++[x]):=by
 refine ama _ _ _ _ (by omega) (by simp) ⟨by omega,λk b d e=>?_,λk b d a _=>?_⟩
 ·have f:k<h.length:=by omega
  have g:at_ (h++[x]) k=at_ h k:=by simp[at_,og (show k<h.length by omega)]
  have i:at_ (h++[x]) (par k)=at_ h (par k):=by simp[at_,og (show par k<h.length by unfold par;omega)]
  rw[g,i];exact c k b (by omega)
 ·exfalso;unfold par at a;omega
def kid(h:List It)(i n:Nat):Nat:=if 2*i+2<n/\lq (at_ h (2*i+2)) (at_ h (2*i+1))=true then 2*i+2 else 2*i+1
def nP:Nat->List It->Nat->Nat->List It
 |0,h,_,_=>h
 |f+1,h,i,n=>if n<=2*i+1\/lq (at_ h (kid h i n)) (at_ h i)=false then h else nP f (iQ h i (kid h i n)) (kid h i n) n
structure adR(h:List It)(n i:Nat):Prop where
 heap:∀k,0<k->k<n->par k≠i->leI (at_ h (par k)) (at_ h k)
 kids:∀k,0<k->k<n->par k=i->0<i->leI (at_ h (par i)) (at_ h k)
def aic{h:List It}{i n:Nat}(h1:2*i+1<n):kid h i n<n/\par (kid h i n)=i/\i<kid h i n/\∀k,0<k->k<n->par k=i->leI (at_ h (kid h i n)) (at_ h k):=by
 unfold kid;have b:∀k,0<k->par k=i->k=2*i+1\/k=2*i+2:=λk c d=>by unfold par at d;omega
 split
 ·next f=>
  refine⟨f.1,by unfold par;omega,by omega,λk c d a=>?_⟩;rcases b k c a with rfl|rfl
  ·exact QK f.2
  ·exact aix _
 ·next f=>
  refine⟨h1,by unfold par;omega,by omega,λk c d a=>?_⟩;rcases b k c a with rfl|rfl
  ·exact aix _
  ·have:¬lq (at_ h (2*i+2)) (at_ h (2*i+1))=true:=λe=>f ⟨d,e⟩;unfold leI;simpa using this
def agm:∀(f:Nat)(h:List It)(i n:Nat),n-i<f->n<=h.length->adR h n i->Heap (nP f h i n) n/\(nP f h i n).Perm h/\∀k,n<=k->at_ (nP f h i n) k=at_ h k
 |0,h,i,n,v,_,_=>by omega
 |f+1,h,i,n,v,w,m=>by
  unfold nP;split
  ·next d=>
   refine⟨λk h0 b=>?_,ad2 _,λ_ _=>rfl⟩;by_cases e:par k=i
   ·by_cases o:n<=2*i+1
    ·unfold par at e;omega
    ·have d:=d.resolve_left o;have:=(aic (h:=h) (i:=i) (n:=n) (by omega)).2.2.2 k h0 b e;rw[e];exact aa5 d this
   ·exact m.heap k h0 b e
  ·next d=>
   rw[not_or]at d;obtain⟨A,p⟩:=d;have p:lq (at_ h (kid h i n)) (at_ h i)=true:=by simpa using p
   obtain⟨x,q,B,y⟩:=aic (h:=h) (i:=i) (n:=n) (by omega);generalize kid h i n=j at *;have a:=Y6 h (i:=i) (j:=j) (by omega) (by omega);have r:adR (iQ h i j) n j:=by
    refine⟨λk h0 b s=>?_,λk h0 b c z=>?_⟩
    ·rw[a,a];rw[ah s];by_cases t:k=j
     ·subst t;rw[aj rfl,q,aj rfl];exact QK p
     ·rw[ah t];by_cases g:par k=i
      ·rw[aj g];by_cases l:k=i
       ·unfold par at g;omega
       ·rw[ah l];exact y k h0 b g
      ·rw[ah g];by_cases l:k=i
       ·rw[aj l];subst l;exact m.kids j (by omega) x q h0
       ·rw[ah l];exact m.heap k h0 b g
    ·rw[a,a];have u:par j=i:=q;rw[dA,aj u];rw[ah (by unfold par at c;omega),ah (by unfold par at c u;omega)];exact c▸m.heap k h0 b (by omega)
   obtain⟨r1,r2,r3⟩:=agm f (iQ h i j) j n (by omega) (by rw[Fp];exact w) r;refine⟨r1,r2.trans (swap_perm h (by omega) (by omega)),λk b=>?_⟩;rw[r3 k b,a,dA,dA]
def ah8{h:List It}{k:Nat}(a:k<h.length):(h.map cZ)[k]? =some (cZ (at_ h k)):=by rw[iY,bT a];simp[at_,a]
def az3(x:It)(a b:Int)(c:Q0):(cZ x).put 0 [.zu a,.zu b,.s c]=some (cZ (a,b,c)):=rfl
def aDC(h:List It)(k:Nat)(x:It):(h.map cZ).set k (cZ x)=(h.set k x).map cZ:=by rw[Yz]
def awq(x:It):cZ (x.1,x.2.1,x.2.2)=cZ x:=rfl
def Ba{h:List It}{k:Nat}(a:k<h.length):Ey (some (.l (h.map cZ))) (some (.zq (k:Int)))=some (.zq (k:Int)):=by rw[jF,aj ⟨by omega,by rw[gG];omega⟩]
def Cb{h:List It}{k:Nat}(a:k<h.length):at2 3 (some (.l (h.map cZ))) (some (.zq (k:Int)))=some (cZ (at_ h k)):=by rw[eF,nI,show((k:Int)).toNat=k by omega,ah8 a];rfl
def KU{h:List It}{k:Nat}(a:k<h.length)(x:It):FB 3 0 (some (.l (h.map cZ))) (some (.zq (k:Int))) (some [.zu x.1,.zu x.2.1,.s x.2.2])=some (.l ((h.set k x).map cZ)):=by rw[uZ,aj ⟨by omega,rfl⟩,show((k:Int)).toNat=k by omega,ah8 a];simp only[Aq,awp,gV,kY,if_true,az3,awq,gZ,aDC]
def ayV(j:Nat)(c:j<=1000000):IntKind.i64.wrap ((IntKind.i64.wrap ((j:Int)-1)).tdiv 2)=(par j:Nat)/\IntKind.i64.wrap ((j:Int)-1)=(j:Int)-1:=by
 have a:=bF ((j:Int)-1);have b:((j:Int)-1).tdiv 2=(par j:Nat):=by
  rcases Ti j with e|e
  ·subst e;rfl
  ·have:(j:Int)-1=((j-1:Nat):Int):=by omega
   rw[this];exact(Int.ofNat_tdiv (j-1) 2).symm
 refine⟨?_,a⟩;rw[a,b];exact wrap64 (by omega) (by unfold par;omega)
def amb:∀(f:Nat)(h:List It)(j:Nat)(c:GV),j<f->j<h.length->h.length<=1000000->
 TT.lim 141 [.zq (j:Int),.l (h.map cZ),c]=some [.zq 0,.l ((BJ f h j).map cZ)]
 |0,h,j,c,z,_,_=>by omega
 |f+1,h,j,c,z,r,A=>by
  obtain⟨w1,a⟩:=ayV j (by omega);rw[a]at w1;have k:par j<h.length:=by unfold par;omega
  have l:=Cb r;have m:=Cb k;have n:=Ba r;have o:=Ba k;have v:=KU k (at_ h j);have g:j<(h.set (par j) (at_ h j)).length:=by rw[Iq];exact r
  have s:=KU g (at_ h (par j));have w:=Ba g;have p:=λt:par j<f=>amb f (iQ h (par j) j) (par j) c t (by rw[Fp];exact k) (by rw[Fp];exact A);have B:(h.set (par j) (at_ h j)).set j (at_ h (par j))=iQ h (par j) j:=rfl;rw[B]at s;have D:par j<=j:=by unfold par;omega
  by_cases e:par j=j
  ·have u:BJ (f+1) h j=h:=aj (.inl e);rw[u];have b:((par j:Nat):Int)=(j:Int):=by omega
   refine au ?_;simp[w1,a,b]
  ·have b:¬((par j:Nat):Int)=(j:Int):=by omega
   have p:=p (by omega);have u:BJ (f+1) h j=if lq (at_ h j) (at_ h (par j))=false then h else BJ f (iQ h (par j) j) (par j):=by
    show(if par j=j\/lq (at_ h j) (at_ h (par j))=false then h else BJ f (iQ h (par j) j) (par j))=_
    by_cases q:lq (at_ h j) (at_ h (par j))=false
    ·rw[aj (.inr q),aj q]
    ·rw[ah (λh=>h.elim e q),ah q]
   rw[u];generalize at_ h j=x,at_ h (par j)=y,iQ h (par j) j=E at *;generalize h.set (par j) x=F,((par j:Nat):Int)=G at *;refine au ?_;unfold lq;by_cases d:x.1=y.1
   ·have d:=eq_true d;by_cases i:x.2.1<y.2.1
    ·simp[-jF,-eF,-uZ,w1,a,b,l,m,n,o,w,v,s,d,i,p]
    ·simp[-jF,-eF,-uZ,w1,a,b,l,m,n,o,d,i]
   ·by_cases i:x.1<y.1
    ·simp[-jF,-eF,-uZ,w1,a,b,l,m,n,o,w,v,s,d,i,p]
    ·simp[-jF,-eF,-uZ,w1,a,b,l,m,n,o,d,i]
def aFl(h:List It)(j:Nat)(c:GV)(a:j<h.length)(b:h.length<=1000000):TT.lim 140 [.zq (j:Int),.l (h.map cZ),c]=some [.zq 0,.l ((BJ (j+1) h j).map cZ)]:=by have d:=amb (j+1) h j c (by omega) a b;refine au ?_;simp[d]
def CZ{a b:It}{v:Bool}(h:lq a b=v):((a.1=b.1)=True/\(a.2.1<b.2.1)=(v=true))\/((a.1=b.1)=False/\(a.1<b.1)=(v=true)):=by
 unfold lq at h;by_cases e:a.1=b.1
 ·rw[aj e]at h;refine .inl ⟨eq_true e,?_⟩;rw[<-h,decide_eq_true_eq]
 ·rw[ah e]at h;refine .inr ⟨eq_false e,?_⟩;rw[<-h,decide_eq_true_eq]
def agn:∀(f:Nat)(h:List It)(i n:Nat)(a0 c:GV),n-i<f->n<=h.length->h.length<=1000000->i<=1000000->
 ∃o:Nat,TT.lim 271 [a0,.zq (n:Int),.zq (i:Int),.l (h.map cZ),c]=some [.zq 0,.zq (o:Int),.l ((nP f h i n).map cZ)]
 |0,h,i,n,a0,c,T,_,_,_=>by omega
 |f+1,h,i,n,a0,c,T,V,W,hi=>by
  have J:nP (f+1) h i n=if n<=2*i+1\/lq (at_ h (kid h i n)) (at_ h i)=false then h else nP f (iQ h i (kid h i n)) (kid h i n) n:=rfl
  have w1:=bF (2*(i:Int));have v:=bF (2*(i:Int)+1);have x:=bF (2*(i:Int)+1+1);by_cases L:n<=2*i+1
  ·rw[J,aj (.inl L)];have a:(n:Int)<=2*(i:Int)+1:=by omega
   refine⟨i,jm rfl rfl ?_⟩;simp[w1,v,a]
  have a:¬(n:Int)<=2*(i:Int)+1:=by omega
  have k:¬(2*(i:Int)+1<0):=by omega
  have D:2*i+1<h.length:=by omega
  have w:i<h.length:=by omega
  have M:2*(i:Int)+1=((2*i+1:Nat):Int):=by omega
  have P:2*(i:Int)+1+1=((2*i+2:Nat):Int):=by omega
  have p:=Cb D;have q:=Ba D;have z:=Cb w;have A:=Ba w
  have step:∀j:Nat,j<n->i<j->(∃o:Nat,TT.lim 271 [a0,.zq (n:Int),.zq (j:Int),.l ((iQ h i j).map cZ),c]=some [.zq 0,.zq (o:Int),.l ((nP f (iQ h i j) j n).map cZ)])/\
   FB 3 0 (some (.l (h.map cZ))) (some (.zq (i:Int))) (some [.zu (at_ h j).1,.zu (at_ h j).2.1,.s (at_ h j).2.2])=some (.l ((h.set i (at_ h j)).map cZ))/\
   FB 3 0 (some (.l ((h.set i (at_ h j)).map cZ))) (some (.zq (j:Int))) (some [.zu (at_ h i).1,.zu (at_ h i).2.1,.s (at_ h i).2.2])=some (.l ((iQ h i j).map cZ)):=by
   intro j Y X;refine⟨agn f (iQ h i j) j n a0 c (by omega) (by rw[Fp];exact V) (by rw[Fp];exact W) (by omega),KU w (at_ h j),?_⟩;exact KU (h:=h.set i (at_ h j)) (by rw[Iq];omega) (at_ h i)
  by_cases N:2*i+2<n
  ·have g:2*(i:Int)+1+1<(n:Int):=by omega
   have E:2*i+2<h.length:=by omega
   have F:=Cb E;have G:=Ba E;rw[<-M]at p q;rw[<-P]at F G;by_cases r:lq (at_ h (2*i+2)) (at_ h (2*i+1))=true
   ·have H:kid h i n=2*i+2:=by unfold kid;rw[aj ⟨N,r⟩]
    rw[J,H];obtain⟨⟨o,s⟩,I,t⟩:=step (2*i+2) N (by omega);rw[<-P]at s t;generalize at_ h (2*i+2)=O,at_ h (2*i+1)=B,at_ h i=y,nP f (iQ h i (2*i+2)) (2*i+2) n=R at *;generalize iQ h i (2*i+2)=S,h.set i O=Q at *;cases u:lq O y with
    |true=>refine⟨o,?_⟩;rw[ah (λe=>e.elim L (by simp))];refine au ?_;rcases CZ r with⟨l,m⟩|⟨l,m⟩<;>rcases CZ u with⟨b,d⟩|⟨b,d⟩<;>simp[-jF,-eF,-uZ,w1,v,x,a,k,g,p,F,z,q,G,A,l,m,b,d,I,t,s]
    |false=>refine⟨i,?_⟩;rw[aj (.inr rfl)];refine au ?_;rcases CZ r with⟨l,m⟩|⟨l,m⟩<;>rcases CZ u with⟨b,d⟩|⟨b,d⟩<;>simp[-jF,-eF,-uZ,w1,v,x,a,k,g,p,F,z,q,G,A,l,m,b,d]
   ·have H:kid h i n=2*i+1:=by unfold kid;rw[ah (λe=>r e.2)]
    have r:lq (at_ h (2*i+2)) (at_ h (2*i+1))=false:=by simpa using r
    rw[J,H];obtain⟨⟨o,s⟩,I,t⟩:=step (2*i+1) (by omega) (by omega);rw[<-M]at s t;generalize at_ h (2*i+2)=O,at_ h (2*i+1)=B,at_ h i=y,nP f (iQ h i (2*i+1)) (2*i+1) n=R at *;generalize iQ h i (2*i+1)=S,h.set i B=Q at *;cases u:lq B y with
    |true=>refine⟨o,?_⟩;rw[ah (λe=>e.elim L (by simp))];refine au ?_;rcases CZ r with⟨l,m⟩|⟨l,m⟩<;>rcases CZ u with⟨b,d⟩|⟨b,d⟩<;>simp[-jF,-eF,-uZ,w1,v,x,a,k,g,p,F,z,q,G,A,l,m,b,d,I,t,s]
    |false=>refine⟨i,?_⟩;rw[aj (.inr rfl)];refine au ?_;rcases CZ r with⟨l,m⟩|⟨l,m⟩<;>rcases CZ u with⟨b,d⟩|⟨b,d⟩<;>simp[-jF,-eF,-uZ,w1,v,x,a,k,g,p,F,z,q,G,A,l,m,b,d]
  ·have g:¬2*(i:Int)+1+1<(n:Int):=by omega
   have H:kid h i n=2*i+1:=by unfold kid;rw[ah (λe=>N e.1)]
   rw[<-M]at p q;rw[J,H];obtain⟨⟨o,s⟩,I,t⟩:=step (2*i+1) (by omega) (by omega);rw[<-M]at s t;generalize at_ h (2*i+1)=B,at_ h i=y,nP f (iQ h i (2*i+1)) (2*i+1) n=R at *;generalize iQ h i (2*i+1)=S,h.set i B=Q at *;cases u:lq B y with
   |true=>refine⟨o,?_⟩;rw[ah (λe=>e.elim L (by simp))];refine au ?_;rcases CZ u with⟨b,d⟩|⟨b,d⟩<;>simp[-jF,-eF,-uZ,w1,v,x,a,k,g,p,z,q,A,b,d,I,t,s]
   |false=>refine⟨i,?_⟩;rw[aj (.inr rfl)];refine au ?_;rcases CZ u with⟨b,d⟩|⟨b,d⟩<;>simp[-jF,-eF,-uZ,w1,v,x,a,k,g,p,z,q,A,b,d]
def nY(h:List It):List It:=(nP (h.length-1+1) (iQ h 0 (h.length-1)) 0 (h.length-1)).take (h.length-1)
def ZN:∀(f:Nat)(h:List It)(i n:Nat),(nP f h i n).length=h.length
 |0,h,i,n=>rfl
 |f+1,h,i,n=>by
  unfold nP;split
  ·rfl
  ·rw[ZN,Fp]
def ae3{h:List It}{n k:Nat}(a:k<n):at_ (h.take n) k=at_ h k:=by unfold at_;simp[List.getD,mg,a]
def Xk(h:List It)(n:Nat)(m:h.length=n+1)(q:Heap h (n+1)):
 (nY h).length=n/\Heap (nY h) n/\(at_ h 0::nY h).Perm h/\at_ (nP (n+1) (iQ h 0 n) 0 n) n=at_ h 0:=by
 have r:(iQ h 0 n).length=n+1:=by rw[Fp,m]
 have b:=Y6 h (i:=0) (j:=n) (by omega) (by omega);have s:=agm (n+1) (iQ h 0 n) 0 n (by omega) (by omega) ⟨λk c d o=>by
  have f:par k<k:=by unfold par;omega
  rw[b,b,dA,ah o,dA,dA];exact q k c (by omega),λk c d o t=>by omega⟩
 obtain⟨d1,d2,d3⟩:=s;have a:at_ (nP (n+1) (iQ h 0 n) 0 n) n=at_ h 0:=by rw[d3 n (by omega),b,aj rfl]
 have g:(nP (n+1) (iQ h 0 n) 0 n).length=n+1:=by rw[ZN,r]
 have l:nY h=(nP (n+1) (iQ h 0 n) 0 n).take n:=by unfold nY;rw[m];rfl
 generalize nP (n+1) (iQ h 0 n) 0 n=D at *;refine⟨by rw[l,lN,g];omega,?_,?_,a⟩
 ·intro k c d;have f:par k<k:=by unfold par;omega
  rw[l,ae3 (by omega),ae3 d];exact d1 k c d
 ·have e:D.take n++[at_ h 0]=D:=by
   rw[<-a];have:at_ D n=D[n]'(by omega):=by simp[at_,List.getD,bT (show n<D.length by omega)]
   rw[this,List.take_append_getElem (show n<D.length by omega),lG (by omega)]
  have p:(at_ h 0::nY h).Perm (D.take n++[at_ h 0]):=by rw[l];exact(amG (l₁:=[at_ h 0]) (l₂:=D.take n))
  rw[e]at p;exact p.trans (d2.trans (swap_perm h (by omega) (by omega)))
def Ro(h:List It)(x:It)(a:Heap h h.length):(uQ h x).length=h.length+1:=by have:=(N8 h x a).2.length_eq;simpa using this
def fJ:Nat->Int->List It->List Q0×List It
 |0,_,h=>([],h)
 |m+1,t,h=>if h=[]\/t<(at_ h 0).1 then([],h)else((at_ h 0).2.2::(fJ m t (nY h)).1,(fJ m t (nY h)).2)
def U4(t:Int):∀(m:Nat)(h:List It),h.length=m->Heap h h.length->Heap (fJ m t h).2 (fJ m t h).2.length/\(fJ m t h).1.length+(fJ m t h).2.length=m
 |0,h,c,d=>by simp only[fJ];exact⟨d,by simpa using c⟩
 |m+1,h,c,d=>by
  simp only[fJ];split
  ·exact⟨d,by simpa using c⟩
  ·obtain⟨r1,r2,r3,-⟩:=Xk h m c (by rw[<-c];exact d);obtain⟨a,b⟩:=U4 t m (nY h) r1 (by rw[r1];exact r2);exact⟨a,by simp only[gV];omega⟩
structure Ph(h L:List It)(n:Int):Prop where
 heap:Heap h h.length
 perm:L.Perm h
 srt:L.Pairwise (λx y=>lq x y=true)
 low:∀x∈L,x.2.1<n
def Ph.len{h L:List It}{n:Int}(s:Ph h L n):h.length=L.length:=s.perm.length_eq.symm
def insL(x:It):List It->List It
 |[]=>[x]
 |y::L=>if y.1<=x.1 then y::insL x L else x::y::L
def VY(x:It):∀L,(insL x L).Perm (L++[x])
 |[]=>ad2 _
 |y::L=>by
  unfold insL;split
  ·exact(VY x L).cons y
  ·exact amG (l₁:=[x]) (l₂:=y::L)
def aw5{y x:It}(h:y.1<=x.1)(a:y.2.1<x.2.1):lq y x=true:=by
 unfold lq;split
 ·simpa using a
 ·simp;omega
def aiS{y x:It}(h:x.1<y.1):lq x y=true:=by unfold lq;rw[dA];simpa using h
def aw4{x y:It}(h:lq x y=true):x.1<=y.1:=awN (QK h)
def ah1(x:It):∀L:List It,L.Pairwise (λa b=>lq a b=true)->(∀y∈L,y.2.1<x.2.1)->(insL x L).Pairwise (λa b=>lq a b=true)
 |[],_,_=>by simp[insL]
 |y::L,e,c=>by
  obtain⟨h1,h⟩:=iZ.1 e;unfold insL;split
  ·next f=>
   refine iZ.2 ⟨λz d=>?_,ah1 x L h λz d=>c z (yK _ d)⟩;rcases jJ.1 ((VY x L).mem_iff.1 d)with g|g
   ·exact h1 z g
   ·rw[jK]at g;subst g;exact aw5 f (c y OZ)
  ·next f=>
   refine iZ.2 ⟨λz d=>?_,e⟩;rcases bH.1 d with rfl|g
   ·exact aiS (by omega)
   ·exact aiS (by have:=aw4 (h1 z g);omega)
def Ph.put{h L:List It}{n a:Int}{t:Q0}(s:Ph h L n):Ph (uQ h (a,n,t)) (insL (a,n,t) L) (n+1):=by
 have b:=N8 h (a,n,t) s.heap;have c:=Ro h (a,n,t) s.heap;refine⟨by rw[c];exact b.1,(VY _ _).trans ((s.perm.append_right _).trans b.2.symm),ah1 _ _ s.srt s.low,λx d=>?_⟩;rcases jJ.1 ((VY _ _).mem_iff.1 d)with g|g
 ·have:=s.low x g;omega
 ·rw[jK]at g;subst g;show n<n+1
  omega
def wrap_u64(n:Int):0<=IntKind.u64.wrap n/\IntKind.u64.wrap n<18446744073709551616:=by
 have:IntKind.u64.wrap n=n%18446744073709551616:=by simp[IntKind.wrap,IntKind.signed,IntKind.bits]
 rw[this];omega
def aiR{k:List Sn}{i:Nat}(hi:i<=k.length):NH 2 (some (.l (k.map sn))) (some (.zq (i:Int))) (some (.zq (k.length:Int)))=some (.l ((k.drop i).map sn)):=by
 rw[mY,aj]
 ·congr 2;rw[xG,xG,lG (by simp),List.map_drop]
 ·refine⟨by omega,by omega,by simp,?_⟩;rw[List.all_map];exact List.all_eq_true.2 λx _=>rfl
def alu(k:List Sn):(k.map sn).all (GV.fP 2)=true:=by rw[List.all_map];exact List.all_eq_true.2 λx _=>rfl
def ak4(t:List Row)(e:Int)(d:dU t):∀(m i:Nat)(a:List Row),i+m=t.length->a.length=i->
 TT.lim 43 [.l (t.map row),.zq t.length,.zq i,.zu e,.l (a.map row)]=some [.zq 0,.l ((a++t.drop i).map row)]
 |0,i,a,hi,l=>by
  have h0:t.drop i=[]:=ig;have h:¬((i:Int)<t.length):=by omega
  refine au ?_;simp[h,h0]
 |m+1,i,a,hi,l=>by
  have b:i<t.length:=by omega
  have o:=d.len;have kc:=Gm t[i].1 (Ej (d.few _ (gX b)));have c:GV.g [.l (t[i].1.map ent),.zu t[i].2]=row t[i]:=rfl;have f:(row t[i]).fP 2=true:=rfl;have g:2*(a.length+1)*32<=281474976710656/\a.length+1<=281474976710656:=by omega
  have h:((i:Int)<t.length):=by omega
  have n:=bF ((i:Int)+1);have k:TT.lim 43 [.l (t.map row),.zq t.length,.zq ((i:Int)+1),.zu e,.l ((a++[t[i]]).map row)]=_:=ak4 t e d m (i+1) (a++[t[i]]) (by omega) (by simp;omega);have j:a++t.drop i=a++[t[i]]++t.drop (i+1):=by rw[List.append_assoc,O1,<-iC b]
  rw[j];generalize a++[t[i]]++t.drop (i+1)=R at *;simp only[nM,iP,jI]at k;refine au ?_;simp[-List.getElem_cons_drop,h,b,n,kc,c,f,g,k]
def Oi(s:Sn)(h:dU s.2):TT.lim 42 [sn s]=some [sn s]:=by
 have k:TT.lim 43 [.l (s.2.map row),.zq s.2.length,.zq 0,.zu s.1,.l []]=_:=ak4 s.2 s.1 h s.2.length 0 [] (by omega) rfl;rw[aX,dN]at k;have d:=h.len;have b:(32:Int)*s.2.length<=281474976710656/\(s.2.length:Int)<=1152921504606846976:=by omega
 have a:(GV.g [.l [],.zu 0]).fP 2=true:=rfl;have c:GV.g [.zu s.1,.l (s.2.map row)]=sn s:=rfl;refine aT ?_;simp[b,a,k,c]
structure Kp(k:List Sn):Prop where
 len:k.length<=8
 tb:∀s∈k,Tb s.2
 pos:∀s∈k,0<s.1/\s.1<18446744073709551616
 rise:k.Pairwise λa b=>a.1<b.1/\kH b.2 a.2=true
def Kp.nil:Kp []:=⟨by decide,by simp,by simp,List.Pairwise.nil⟩
def aiw(v b:GV):TT.lim 195 [v,.l [],b]=some [.zq 0,.zu 0,.l [],.b false]:=by refine au ?_;simp
def aiv(v b:GV)(k:List Sn)(m:Nat)(x:Sn)(i:k.length=m+1)(j:m<=1000)(d:k[m]? =some x)(e:dU x.2):
 TT.lim 195 [v,.l (k.map sn),b]=some [.zq 0,.zu x.1,.l (x.2.map row),.b true]:=by
 have kc:=Oi x e;have f:=bF ((m:Int));have g:((k.length:Nat):Int)=(m:Int)+1:=by omega
 have a:¬((m:Int)+1=0):=by omega
 have c:(m:Int)<(m:Int)+1:=by omega
 have h:GV.g [.zu x.1,.l (x.2.map row)]=sn x:=rfl;refine au ?_;simp[g,a,f,d,kc,h,c]
def jR(e:Int)(k:List Sn):QR:=k.findIdx? λs=>decide (s.1=e)
def qX:QR->List GV
 |some j=>[.zq 0,.zq (j:Int)]
 |none=>[.zq 1]
def Jm{e:Int}{k:List Sn}{j:Nat}(h:jR e k=some j):∃x,k[j]? =some x/\x.1=e/\j<k.length:=by unfold jR at h;obtain⟨a,b,-⟩:=List.findIdx?_eq_some_iff_getElem.1 h;exact⟨k[j],bT a,by simpa using b,a⟩
def rW(e:Int)(k:List Sn)(b:Int):Bool×List Sn×Int:=if e<=b then(false,k,b)else match jR e k with
 |none=>(false,k,b)
 |some i=>(true,k.drop i,e)
def nN(x:Sn)(b:Int):List Sn->List Sn×Int
 |[]=>([x],b)
 |y::r=>if 8<r.length+2 then(r++[x],if y.1=b then 0 else b)else(y::r++[x],b)
def iW(x:Sn)(k:List Sn)(b:Int):Int×List Sn×Int:=
 if oz x.2≠0 then(oz x.2,k,b)else if x.1=0 then(18,k,b)else match k.getLast? with
 |none=>(0,nN x b k)
 |some l=>if x.1<=l.1 then(20,k,b)else if kH x.2 l.2=false then(21,k,b)else(0,nN x b k)
def last_at{k:List Sn}{l:Sn}(h:k.getLast? =some l):∃m,k.length=m+1/\k[m]? =some l/\l∈k:=by
 cases a:k with
 |nil=>subst a;simp at h
 |cons y r=>
  refine⟨r.length,by simp,?_,?_⟩
  ·rw[<-a,<-h,List.getLast?_eq_getElem?,a];simp
  ·rw[<-a];exact DU h
def last_none{k:List Sn}(h:k.getLast? =none):k=[]:=List.getLast?_eq_none_iff.1 h
def azP(x:Sn)(v:GV)(k:List Sn)(b:Int)(I:dU x.2)(J:Kp k):
 TT.lim 209 [.zu x.1,.l (x.2.map row),v,.l (k.map sn),.zu b]=some [.zq 0,.zq (iW x k b).1,.l ((iW x k b).2.1.map sn),.zu (iW x k b).2.2]:=by
 have h:=UL x I;have kc:=Oi x I;have j:GV.g [.zu x.1,.l (x.2.map row)]=sn x:=rfl;have L:(sn x).fP 2=true:=rfl;unfold iW;by_cases c:oz x.2=0;rotate_left
 ·rw[aj c];refine au ?_;simp[j,h,c]
 rw[ah (by simpa using c)];by_cases e:x.1=0
 ·rw[aj e];have M:(x.1=0)=True:=eq_true e;clear e;refine au ?_;simp[j,h,c,M]
 rw[ah e];have h8:=J.len;cases N:k.getLast? with
 |none=>obtain rfl:=last_none N;refine au ?_;simp[j,h,c,e,kc,L,nN]
 |some l=>
  obtain⟨m,T,D,n⟩:=last_at N;have E:((k.length:Nat):Int)=(m:Int)+1:=by omega
  have u:(0:Int)<(m:Int)+1:=by omega
  have d:(m:Int)<(m:Int)+1:=by omega
  have w:=bF ((m:Int));simp only;by_cases p:x.1<=l.1
  ·rw[aj p];refine au ?_;simp[j,h,c,e,E,u,w,D,p,d]
  rw[ah p];have t:=Y5 x.2 l.2 ((wO _).1 c).1 (J.tb l n).ok.1 I.few (J.tb l n).few;cases Q:kH x.2 l.2 with
  |false=>rw[Q]at t;refine au ?_;simp[j,h,c,e,E,u,w,D,p,t,d]
  |true=>
   rw[Q]at t;rw[ah (by simp)];have R:(k++[x]).length=m+2:=by simp;omega
   have q:=aiR (k:=k++[x]) (i:=1) (by omega);have s:IQ 2 32 (some (.l (k.map sn))) (some (.l [sn x]))=some (.l ((k++[x]).map sn)):=by
    rw[FZ,aj]
    ·rw[nM];rfl
    ·refine⟨rfl,?_,?_⟩<;>simp only[gG,gV,kY]<;>omega
   have V:=bF ((m:Int)+2);cases k with
   |nil=>simp at N
   |cons y r=>
    have hr:r.length=m:=by simpa using T
    by_cases h5:8<m+2
    ·have W:2*((y::r++[x]).drop 1).length*32<=281474976710656/\((y::r++[x]).drop 1).length<=281474976710656:=by rw[fH];omega
     have z:=alu ((y::r++[x]).drop 1);have X:(y::r++[x]).drop 1=r++[x]:=rfl;have hn:(m:Int)+1+1=(m:Int)+2:=by omega
     have F:(8:Int)<(m:Int)+2:=by omega
     have S:((y::r++[x]).map sn)[0]? =some (sn y):=rfl;have o:(0:Int)<(m:Int)+2:=by omega
     have f:(((y::r++[x]).length:Nat):Int)=(m:Int)+2:=by omega
     have G:(((y::r++[x]).map sn).length:Int)=(m:Int)+2:=by rw[gG];exact f
     have H:(((y::r).map sn).length:Int)=(m:Int)+1:=by rw[gG];exact E
     have g:((y::r).map sn)[m]? =some (sn l):=by rw[iY,D];rfl
     have A:NH 2 (some (.l ((y::r++[x]).map sn))) (some (.zq 1)) (some (.zq ((m:Int)+2)))=some (.l ((r++[x]).map sn)):=by rw[<-f];exact q
     rw[X]at W z;have B:IQ 2 32 (some (.l [])) (some (.l ((r++[x]).map sn)))=some (.l ((r++[x]).map sn)):=by
      rw[FZ,aj]
      ·rfl
      ·exact⟨z,by simp only[gG,kY];omega,by simp only[gG,kY];omega⟩
     have a:nN x b (y::r)=(r++[x],if y.1=b then 0 else b):=aj (show 8<r.length+2 by omega);rw[a];clear a q;generalize r++[x]=R1 at *;generalize(y::r++[x]).map sn=Y,(y::r).map sn=Z at *;by_cases O:y.1=b
     ·have P:(y.1=b)=True:=eq_true O;clear O;refine au ?_;simp[-mY,-List.all_eq_true,-List.all_map,-FZ,j,h,c,e,H,G,u,w,g,p,t,kc,s,F,o,S,P,A,B,d]
     ·refine au ?_;simp[-mY,-List.all_eq_true,-List.all_map,-FZ,j,h,c,e,H,G,u,w,g,p,t,kc,s,F,o,S,O,A,B,d]
    ·have F:¬(8:Int)<(m:Int)+2:=by omega
     have f:(((y::r++[x]).length:Nat):Int)=(m:Int)+2:=by omega
     have G:(((y::r++[x]).map sn).length:Int)=(m:Int)+2:=by rw[gG];exact f
     have H:(((y::r).map sn).length:Int)=(m:Int)+1:=by rw[gG];exact E
     have g:((y::r).map sn)[m]? =some (sn l):=by rw[iY,D];rfl
     have a:nN x b (y::r)=(y::r++[x],b):=ah (show ¬8<r.length+2 by omega);rw[a];clear a q;show _=some [_,_,GV.l ((y::r++[x]).map sn),_]
     generalize(y::r++[x]).map sn=Y,(y::r).map sn=Z at *;refine au ?_;simp[-mY,-List.all_eq_true,-List.all_map,-FZ,j,h,c,e,H,G,u,w,g,p,t,kc,s,F,d]
abbrev Ms:=(Int×Int×Int×List Row)×Int
def full(l:Sn):Ms:=((5,l.1,0,l.2),0)
def jT(v:Int)(k:List Sn)(b:Int):Ms:=match k.getLast? with
 |none=>((0,0,0,[]),24)
 |some l=>if l.1=b then((0,0,0,[]),24)else match jR b k with
  |none=>full l
  |some i=>if 2<=v then match k[i]? with
    |none=>full l
    |some s=>if(qB s l).2≠0 then((0,0,0,[]),(qB s l).2)else((6,(qB s l).1.2.1,(qB s l).1.1,(qB s l).1.2.2),0)
   else full l
def Hg(r:Ms):Q1:=[.zq 0,.zq r.1.1,.zu r.1.2.1,.zu r.1.2.2.1,.l (r.1.2.2.2.map row),.zq r.2]
def dY(k:List Sn):Sn:=k.getLast?.getD zS
def y9(x:Sn)(a:Int)(k:List Sn):Sn:=
 if(mM (dY k) ((dY k).1,IntKind.u64.wrap ((dY k).1+a),x.2)).2≠0 then x else(mM (dY k) ((dY k).1,IntKind.u64.wrap ((dY k).1+a),x.2)).1
def aa2{k:List Sn}(a:Kp k):Tb (dY k).2:=by
 unfold dY;cases b:k.getLast? with
 |none=>exact Dz
 |some l=>exact a.tb l (DU b)
def awJ(v b:GV)(k:List Sn)(c:Kp k):TT.lim 195 [v,.l (k.map sn),b]=some [.zq 0,.zu (dY k).1,.l ((dY k).2.map row),.b k.getLast?.isSome]:=by
 have g:=c.len;unfold dY;cases d:k.getLast? with
 |none=>obtain rfl:=last_none d;exact aiw v b
 |some l=>obtain⟨m,e,f,a⟩:=last_at d;exact aiv v b k m l e (by omega) f (c.tb l a).good
def Kp.add{k:List Sn}(d:Kp k){x:Sn}{b:Int}(p:Tb x.2)(h0:0<x.1/\x.1<18446744073709551616)(z:∀l,k.getLast? =some l->l.1<x.1/\kH x.2 l.2=true):Kp (nN x b k).1:=by
 have e:∀s∈k,s.1<x.1/\kH x.2 s.2=true:=by
  intro s c;obtain⟨i,hi,rfl⟩:=List.getElem_of_mem c;cases q:k.getLast? with
  |none=>exact absurd hi (by rw[last_none q];simp)
  |some l=>
   obtain⟨m,D,f,g⟩:=last_at q;obtain⟨A,v⟩:=z l q;have j:m<k.length:=by omega
   have n:k[m]=l:=by have:=bT j;rw[f]at this;injection this with this;exact this.symm
   rcases yN i m with o|o
   ·have w:=SX.1 d.rise i m hi j o;rw[n]at w;exact⟨by omega,ae0 p.rise (d.tb l g).rise (d.tb _ (gX hi)).rise v w.2⟩
   ·have:i=m:=by omega
    subst this;simp only[n];exact⟨A,v⟩
 cases k with
 |nil=>exact⟨by simp[nN],by simpa[nN]using p,by simpa[nN]using h0,by simp[nN]⟩
 |cons y r=>
  have t:Kp r:=⟨by have:=d.len;simp at this;omega,λs c=>d.tb s (by simp[c]),λs c=>d.pos s (by simp[c]),(iZ.1 d.rise).2⟩
  have B:=d.len;simp only[gV]at B;simp only[nN];split
  ·refine⟨by simp;omega,?_,?_,?_⟩
   ·intro s c;rcases jJ.1 c with h|h
    ·exact t.tb s h
    ·rw[jK.1 h];exact p
   ·intro s c;rcases jJ.1 c with h|h
    ·exact t.pos s h
    ·rw[jK.1 h];exact h0
   ·refine ael.2 ⟨t.rise,by simp,λa f b u=>?_⟩;rw[jK.1 u];exact e a (by simp[f])
  ·refine⟨by simp;omega,?_,?_,?_⟩
   ·intro s c;rcases jJ.1 c with h|h
    ·exact d.tb s h
    ·rw[jK.1 h];exact p
   ·intro s c;rcases jJ.1 c with h|h
    ·exact d.pos s h
    ·rw[jK.1 h];exact h0
   ·refine ael.2 ⟨d.rise,by simp,λa f b u=>?_⟩;rw[jK.1 u];exact e a f
def acA{x:Sn}{k:List Sn}{b:Int}(a:Kp k)(e:dU x.2)(h0:0<=x.1/\x.1<18446744073709551616):Kp (iW x k b).2.1:=by
 unfold iW;split
 ·exact a
 next f=>
 split
 ·exact a
 next i=>
 have d:Tb x.2:=e.tb ((wO _).1 (by simpa using f));split
 ·next c=>exact a.add d ⟨by omega,h0.2⟩ λl h=>by rw[c]at h;cases h
 ·next l c=>
  split
  ·exact a
  next j=>
  split
  ·exact a
  next g=>exact a.add d ⟨by omega,h0.2⟩ λm h=>by rw[c]at h;injection h with h;subst h;exact⟨by omega,by simpa using g⟩
def Kp.drop{k:List Sn}(a:Kp k)(i:Nat):Kp (k.drop i):=
 ⟨by have:=a.len;rw[fH];omega,λs b=>a.tb s (Lu b),λs b=>a.pos s (Lu b),a.rise.sublist (Yt i k)⟩
def YU{e:Int}{k:List Sn}{b:Int}(a:Kp k):Kp (rW e k b).2.1:=by
 unfold rW;split
 ·exact a
 split
 ·exact a
 ·exact a.drop _
def WO{x:Sn}{a:Int}{k:List Sn}(e:Kp k)(c:dU x.2)(h0:0<=x.1/\x.1<18446744073709551616):dU (y9 x a k).2/\0<=(y9 x a k).1/\(y9 x a k).1<18446744073709551616:=by
 unfold y9;split
 ·exact⟨c,h0⟩
 next b=>
 have b:(mM (dY k) ((dY k).1,IntKind.u64.wrap ((dY k).1+a),x.2)).2=0:=by simpa using b
 have:=aeV (aa2 e).good (d:=((dY k).1,IntKind.u64.wrap ((dY k).1+a),x.2)) c b;refine⟨this.1.good,?_⟩;rw[(Uh b).2.2.2.2];exact wrap_u64 _
def Qu{g:GV}(h:(bU.int .u8).has g):∃n,g=.i .u8 n/\0<=n/\n<256:=by simp only[bU.has]at h;obtain⟨n,rfl,a,b⟩:=h;exact⟨n,rfl,by simpa[IntKind.min,IntKind.signed]using a,by simp[IntKind.max,IntKind.signed,IntKind.bits]at b;omega⟩
def acU(l:Sn)(h:dU l.2):TT.lim 197 [.zu l.1,.l (l.2.map row),.zu l.1,.l (l.2.map row)]=some [.zq 0,.b true]:=by have a:=akZ l.2 l.2 h h;refine au ?_;simp[a]
def amH(xs:Q1)(k:List Sn):Prop:=∀s∈k,fZ (.zu s.1) xs=some (sn s)
def key_inj{a b:Int}{x:GV}(h1:qI (.zu a) x=true)(c:qI (.zu b) x=true):a=b:=by
 cases x<;>simp[qI]at h1 c
 omega
def aib(a b:Int):qI (.zu a) (.zu b)=decide (a=b):=by simp only[qI];rw[yI];simp
def tN(a b:Int)(u:GV):∀xs:Q1,fZ (.zu a) (ku (.zu b) u xs)=if a=b then some u else fZ (.zu a) xs
 |[]=>by
  show(if qI (.zu a) (.zu b)=true then some u else none)=_
  rw[aib];by_cases h:a=b<;>simp[h,fZ]
 |.g [x,v]::xs=>by
  have e:=tN a b u xs;show fZ (.zu a) (if qI (.zu b) x=true then .g [.zu b,u]::xs else .g [x,v]::ku (.zu b) u xs)=if a=b then some u else(if qI (.zu a) x=true then some v else fZ (.zu a) xs)
  cases c:qI (.zu b) x with
  |true=>
   rw[aj rfl];show(if qI (.zu a) (.zu b)=true then some u else fZ (.zu a) xs)=_
   rw[aib];by_cases h:a=b
   ·simp[h]
   ·cases d:qI (.zu a) x with
    |true=>exact absurd (key_inj d c) h
    |false=>simp[h]
  |false=>
   rw[ah (by simp)];show(if qI (.zu a) x=true then some v else fZ (.zu a) (ku (.zu b) u xs))=_
   rw[e];cases d:qI (.zu a) x with
   |true=>
    by_cases h:a=b
    ·subst h;rw[d]at c;cases c
    ·simp[h]
   |false=>simp
 |.g []::xs=>tN a b u xs
 |.g [_]::xs=>tN a b u xs
 |.g (_::_::_::_)::xs=>tN a b u xs
 |.i _ _::xs=>tN a b u xs
 |.b _::xs=>tN a b u xs
 |.s _::xs=>tN a b u xs
 |.l _::xs=>tN a b u xs
structure Lead(xs:Q1)(k:List Sn)(b:Int):Prop where
 kp:Kp k
 map:amH xs k
 base:b=0\/∃s∈k,s.1=b
def awP{e:Int}{xs:Q1}{k:List Sn}{b:Int}(h:Lead xs k b):Lead xs (rW e k b).2.1 (rW e k b).2.2:=by
 refine⟨YU h.kp,?_,?_⟩
 ·unfold rW;split
  ·exact h.map
  split
  ·exact h.map
  ·exact λs c=>h.map s (Lu c)
 ·unfold rW;split
  ·exact h.base
  split
  ·exact h.base
  ·next i d=>
   obtain⟨x,f,a,hi⟩:=Jm d;refine .inr ⟨x,?_,a⟩;have:(k.drop i)[0]? =some x:=by rw[tC];simpa using f
   exact rQ this
def aeJ{x:Sn}{b:Int}{k:List Sn}{s:Sn}(h:s∈(nN x b k).1):s∈k\/s=x:=by
 unfold nN at h;split at h
 ·exact .inr (by simpa using h)
 ·split at h
  ·rcases jJ.1 h with h|h
   ·exact .inl (by simp[h])
   ·exact .inr (by simpa using h)
  ·rcases jJ.1 h with h|h
   ·exact .inl h
   ·exact .inr (by simpa using h)
def am5{x:Sn}{b:Int}{k:List Sn}(h:b=0\/∃s∈k,s.1=b):(nN x b k).2=0\/∃s∈(nN x b k).1,s.1=(nN x b k).2:=by
 unfold nN;split
 ·rcases h with h|⟨s,a,-⟩
  ·exact .inl h
  ·simp at a
 ·next y r=>
  split
  ·by_cases d:y.1=b
   ·exact .inl (by simp[d])
   ·rcases h with h|⟨s,a,c⟩
    ·exact .inl (by simp[h])
    ·rcases bH.1 a with e|e
     ·subst e;exact absurd c d
     ·exact .inr ⟨s,by simp[e],by simp[d,c]⟩
  ·rcases h with h|⟨s,a,c⟩
   ·exact .inl h
   ·exact .inr ⟨s,jJ.2 (.inl a),c⟩
def awQ{x:Sn}{xs:Q1}{k:List Sn}{b:Int}(h:Lead xs k b)(r:dU x.2)(h0:0<=x.1/\x.1<18446744073709551616):
 Lead (if(iW x k b).1=0 then ku (.zu x.1) (sn x) xs else xs) (iW x k b).2.1 (iW x k b).2.2:=by
 have d:=acA (b:=b) h.kp r h0;have add:∀f:Kp (nN x b k).1,(∀l,k.getLast? =some l->l.1<x.1)->Lead (ku (.zu x.1) (sn x) xs) (nN x b k).1 (nN x b k).2:=by
  intro f e;refine⟨f,?_,am5 h.base⟩;intro s o;rw[tN];by_cases j:s.1=x.1
  ·rw[aj j];rcases aeJ o with h1|h1
   ·exfalso;obtain⟨i,hi,rfl⟩:=List.getElem_of_mem h1;cases n:k.getLast? with
    |none=>exact absurd hi (by rw[last_none n];simp)
    |some l=>
     obtain⟨m,z,t,p⟩:=last_at n;have A:=e l n;have g:m<k.length:=by omega
     have q:k[m]=l:=by have:=bT g;rw[t]at this;injection this with this;exact this.symm
     rcases yN i m with c|c
     ·have u:=SX.1 h.kp.rise i m hi g c;rw[q]at u;omega
     ·have:i=m:=by omega
      subst this;rw[q]at j;omega
   ·rw[h1]
  ·rw[ah j];rcases aeJ o with h1|h1
   ·exact h.map s h1
   ·subst h1;exact absurd rfl j
 unfold iW at d⊢;split
 ·next h1=>simpa[h1]using h
 next h1=>
 rw[ah h1]at d;split
 ·simpa using h
 next v=>
 rw[ah v]at d;split
 ·next e=>
  rw[e]at d;exact add d λl a=>by rw[e]at a;cases a
 ·next l e=>
  rw[e]at d;simp only at d;split
  ·exact h
  next w=>
  rw[ah w]at d;split
  ·exact h
  next y=>
  rw[ah y]at d;exact add d λB a=>by rw[e]at a;injection a with a;subst a;omega
def Uj(kind epoch base:Int)(t:List Row):aO:={kind:=kind,id:=0,min:=0,max:=0,chosen:=0,flags:=0,cost:=0,priority:=0,deadline:=0,retry:=0,epoch:=epoch,base:=base,digest:=0,lag:=0,code:=0,want:=0,remaining:=0,allowed:=false,name:=[],region:=[],note:=[],d:=[],t:=t}
def anq{b a base:Int}{t:List Row}(h1: -9223372036854775808<=b/\b<=9223372036854775807)(c:0<=a/\a<18446744073709551616)(d:0<=base/\base<18446744073709551616)(e:Rows t):vk (Uj b a base t):=by refine⟨h1,?_,?_,?_,?_,?_,?_,?_,?_,?_,c,d,?_,?_,?_,?_,?_,?_,?_,?_,?_,e⟩<;>simp[Uj,sU]
def air{k:List Sn}{b:Int}(f:Kp k){l s:Sn}{i:Nat}(a:k.getLast? =some l)(j:l.1≠b)(w:jR b k=some i)(n:k[i]? =some s):(qB s l).2=0/\dU (qB s l).1.2.2:=by
 obtain⟨y,d,o,hi⟩:=Jm w;rw[n]at d;injection d with d
 subst d;have e:=DU a;have g:=rQ n;obtain⟨m,x,p,-⟩:=last_at a;have h:m<k.length:=by omega
 have u:k[m]=l:=by have:=bT h;rw[p]at this;injection this with this;exact this.symm
 have q:k[i]=s:=by have:=bT hi;rw[n]at this;injection this with this;exact this.symm
 have r:i<m:=by
  rcases yN i m with c|c
  ·exact c
  ·have:i=m:=by omega
   subst this;rw[u]at q;subst q;exact absurd o j
 have t:=SX.1 f.rise i m hi h r;rw[u,q]at t;have v:(qB s l).2=0:=by rw[asw (f.tb s g).ok (f.tb l e).ok t.1 t.2]
 exact⟨v,(ae4 (f.tb s g).good (f.tb l e).good v).2.2⟩
def axU{v:Int}{k:List Sn}{b:Int}(e:Kp k):(-9223372036854775808<=(jT v k b).1.1/\(jT v k b).1.1<=9223372036854775807)/\(0<=(jT v k b).1.2.1/\(jT v k b).1.2.1<18446744073709551616)/\(0<=(jT v k b).1.2.2.1/\(jT v k b).1.2.2.1<18446744073709551616)/\dU (jT v k b).1.2.2.2:=by
 have zero:∀c:Int,(-9223372036854775808<=((((0,0,0,[]),c):Ms)).1.1/\((((0,0,0,[]),c):Ms)).1.1<=9223372036854775807)/\(0<=((((0,0,0,[]),c):Ms)).1.2.1/\((((0,0,0,[]),c):Ms)).1.2.1<18446744073709551616)/\(0<=((((0,0,0,[]),c):Ms)).1.2.2.1/\((((0,0,0,[]),c):Ms)).1.2.2.1<18446744073709551616)/\dU ((((0,0,0,[]),c):Ms)).1.2.2.2:=λc=>⟨by simp,by simp,by simp,Dz.good⟩
 unfold jT;cases h:k.getLast? with
 |none=>exact zero 24
 |some l=>
  have d:=DU h;have r:=e.pos l d
  have a:(-9223372036854775808<=(full l).1.1/\(full l).1.1<=9223372036854775807)/\(0<=(full l).1.2.1/\(full l).1.2.1<18446744073709551616)/\(0<=(full l).1.2.2.1/\(full l).1.2.2.1<18446744073709551616)/\dU (full l).1.2.2.2:=
   ⟨by simp[full],⟨by simp only[full];omega,by simp only[full];omega⟩,by simp[full],(e.tb l d).good⟩
  simp only;by_cases f:l.1=b
  ·rw[aj f];exact zero 24
  rw[ah f];cases j:jR b k with
  |none=>exact a
  |some i=>
   obtain⟨s,g,-,hi⟩:=Jm j;obtain⟨m,p⟩:=air e h f j g;simp only[g];by_cases n:2<=v
   ·rw[aj n,ah (by simp[m])];have o:=(ZK m).2.2.2.2;have q:=e.pos s (rQ g);refine⟨by simp,?_,?_,p⟩
    ·simp only[o];omega
    ·simp only[o];omega
   ·rw[ah n];exact a
abbrev An:=Int×Int×Int×Int
def kW(c v kd a d:Int)(t:List Row)(b:Bool)(h:Sn):An×Int×Bool×Sn:=
 if c≠0 then((0,0,0,0),c,b,h)
 else if kd=5 then(if b=true/\a<=h.1 then((7,h.1,0,0),20,b,h)else((7,a,0,0),0,true,(a,t)))
 else if kd=6 then(if b=true/\a<=h.1 then((7,h.1,0,0),20,b,h)
  else if(mM h (d,a,t)).2≠0 then((8,a,IntKind.u64.wrap (mM h (d,a,t)).2,if 2<=v then h.1 else 0),(mM h (d,a,t)).2,b,h)
  else((7,(mM h (d,a,t)).1.1,0,0),0,true,(mM h (d,a,t)).1))
 else((0,0,0,0),15,b,h)
def yF(r:An×Int×Bool×Sn):Q1:=[.zq 0,.zq r.1.1,.zu r.1.2.1,.zu r.1.2.2.1,.zu r.1.2.2.2,.zq r.2.1,.b r.2.2.1,.zu r.2.2.2.1,.l (r.2.2.2.2.map row)]
set_option maxHeartbeats 2000000 in
def aET(b:aO)(g:List aI)(v:Int)(i:Bool)(h:Sn)(x:vk b)(t:dU b.t)(u:eU g)(o:g.length<=1000000)(y:dU h.2):
 TT.lim 343 ((iM b (aG g)).cells++[.zq v,.b i,.zu h.1,.l (h.2.map row)])=some (yF (kW (gq b g v) v b.kind b.epoch b.base b.t i h)):=by
 have d:=abk b g v x t.few u o;have p:=Oi (b.epoch,b.t) t;have c:=aeU h (b.base,b.epoch,b.t) y t;have w:GV.g [.zu b.epoch,.l (b.t.map row)]=sn (b.epoch,b.t):=rfl;have m:GV.g [.zu h.1,.l (h.2.map row)]=sn h:=rfl;have n:GV.g [.zu b.base,.zu b.epoch,.l (b.t.map row)]=dl (b.base,b.epoch,b.t):=rfl;rw[eY];simp only[bg,aX];unfold kW;generalize mM h (b.base,b.epoch,b.t)=A at *;obtain⟨⟨B,D⟩,z⟩:=A;generalize gq b g v=C,aG g=R at *;by_cases r:C=0;rotate_left
 ·rw[aj r];refine au ?_;simp -implicitDefEqProofs[lC,d,r,yF]
 rw[ah (by simpa using r)];subst r;by_cases j:b.kind=5
 ·rw[aj j];have f:(b.kind=5)=True:=eq_true j;clear j;cases i with
  |false=>refine au ?_;simp -implicitDefEqProofs[lC,d,f,yF,w,p]
  |true=>
   by_cases a:b.epoch<=h.1
   ·refine au ?_;simp -implicitDefEqProofs[lC,d,f,yF,a]
   ·refine au ?_;simp -implicitDefEqProofs[lC,d,f,yF,a,w,p]
 rw[ah j];by_cases q:b.kind=6;rotate_left
 ·rw[ah q];refine au ?_;simp -implicitDefEqProofs[lC,d,j,q,yF]
 rw[aj q];have f:(b.kind=5)=False:=eq_false j;have k:(b.kind=6)=True:=eq_true q;clear j q;by_cases a:i=true/\b.epoch<=h.1
 ·rw[aj a];obtain⟨rfl,a⟩:=a;refine au ?_;simp -implicitDefEqProofs[lC,d,f,k,yF,a]
 rw[ah a];by_cases l:z=0
 ·rw[ah (by simpa using l)];subst l;cases i with
  |false=>refine au ?_;simp -implicitDefEqProofs[lC,d,f,k,yF,m,n,c]
  |true=>have a:¬b.epoch<=h.1:=λe=>a ⟨rfl,e⟩;refine au ?_;simp -implicitDefEqProofs[lC,d,f,k,yF,a,m,n,c]
 ·rw[aj l];by_cases s:2<=v
  ·cases i with
   |false=>refine au ?_;simp -implicitDefEqProofs[lC,d,f,k,yF,m,n,c,l,s]
   |true=>have a:¬b.epoch<=h.1:=λe=>a ⟨rfl,e⟩;refine au ?_;simp -implicitDefEqProofs[lC,d,f,k,yF,a,m,n,c,l,s]
  ·cases i with
   |false=>refine au ?_;simp -implicitDefEqProofs[lC,d,f,k,yF,m,n,c,l,s]
   |true=>have a:¬b.epoch<=h.1:=λe=>a ⟨rfl,e⟩;refine au ?_;simp -implicitDefEqProofs[lC,d,f,k,yF,a,m,n,c,l,s]
def avk(v e t:GV):TT.lim 156 [v,.b false,e,t]=some [.zq 0,.zu 0,.l [],.b false]:=by refine au ?_;simp
def avl(v:GV)(h:Sn)(b:dU h.2):TT.lim 156 [v,.b true,.zu h.1,.l (h.2.map row)]=some [.zq 0,.zu h.1,.l (h.2.map row),.b true]:=by have a:=Oi h b;have c:GV.g [.zu h.1,.l (h.2.map row)]=sn h:=rfl;refine au ?_;simp[c,a]
def avj(v:GV)(a:Bool)(h:Sn)(b:dU h.2)(c:a=false->h=zS):TT.lim 156 [v,.b a,.zu h.1,.l (h.2.map row)]=some [.zq 0,.zu h.1,.l (h.2.map row),.b a]:=by
 cases a with
 |false=>rw[c rfl];exact avk v _ _
 |true=>exact avl v h b
abbrev Tm:=Int×Int×Int×List Row
def Ue(a:An)(k:List Sn)(b:Int):List Sn×Int:=if a.1=7 then(rW a.2.1 k b).2 else if a.1=8 then(k,0)else(k,b)
def asQ{x y:dK}(h:ent x=ent y):x=y:=by
 unfold ent at h;injection h with h
 simp only[xH,GV.s.injEq,and_true]at h;exact O7 h.1 h.2
def aAV{x y:Row}(h:row x=row y):x=y:=by
 unfold row at h;injection h with h
 simp only[xH,GV.l.injEq,GV.i.injEq,and_true,true_and]at h;exact O7 ((List.map_inj_right λ_ _=>asQ).1 h.1) h.2
def Oz{x y:Sn}(h:sn x=sn y):x=y:=by
 unfold sn at h;injection h with h
 simp only[xH,GV.l.injEq,GV.i.injEq,and_true,true_and]at h;exact O7 h.1 ((List.map_inj_right λ_ _=>aAV).1 h.2)
def zB(xs:Q1)(m:Tm):Prop:=
 (m.1=5/\Tb m.2.2.2/\(0<m.2.1/\m.2.1<18446744073709551616)/\m.2.2.1=0/\fZ (.zu m.2.1) xs=some (sn (m.2.1,m.2.2.2)))\/
 (m.1=6/\Tb m.2.2.2/\(0<m.2.2.1/\m.2.2.1<m.2.1/\m.2.1<18446744073709551616)/\∃s l:Sn,fZ (.zu m.2.2.1) xs=some (sn s)/\fZ (.zu m.2.1) xs=some (sn l)/\l.1=m.2.1/\s.1=m.2.2.1/\Tb l.2/\mM s (m.2.2.1,m.2.1,m.2.2.2)=(l,0))
def axT{xs:Q1}{k:List Sn}{b:Int}{V:Int}(h:Lead xs k b)(h0:(jT V k b).2=0):zB xs (jT V k b).1/\∃l,k.getLast? =some l/\(jT V k b).1.2.1=l.1/\l.1≠b/\((jT V k b).1.1=6->2<=V/\b≠0/\(jT V k b).1.2.2.1=b)/\((jT V k b).1.1=5->(jT V k b).1.2.2.2=l.2):=by
 unfold jT at h0⊢;cases g:k.getLast? with
 |none=>rw[g]at h0;simp at h0
 |some l=>
  rw[g]at h0;simp only at h0⊢;have a:=DU g;have u:=h.kp.pos l a;have c:zB xs (full l).1:=.inl ⟨rfl,h.kp.tb l a,u,rfl,h.map l a⟩;by_cases f:l.1=b
  ·rw[aj f]at h0;simp at h0
  rw[ah f]at h0⊢;cases j:jR b k with
  |none=>exact⟨c,l,rfl,rfl,f,λe=>by simp[full]at e,λ_=>rfl⟩
  |some i=>
   rw[j]at h0;obtain⟨s,m,n,hi⟩:=Jm j;obtain⟨o,-⟩:=air h.kp g f j m;simp only[m]at h0⊢;by_cases p:2<=V
   ·rw[aj p,ah (by simp[o])];have d:=rQ m;have q:=ZK o;have v:=ae4 (h.kp.tb s d).good (h.kp.tb l a).good o;have r:=(agb (h.kp.tb s d) (h.kp.tb l a) q.2.2.2.1).1;have t:=h.kp.pos s d;rw[q.2.2.2.2]at v⊢;refine⟨.inr ⟨rfl,r,⟨t.1,q.2.2.1,u.2⟩,s,l,h.map s d,h.map l a,rfl,rfl,h.kp.tb l a,v.2.1⟩,l,rfl,rfl,f,λ_=>⟨p,?_,n⟩,λe=>by simp at e⟩;omega
   ·rw[ah p];exact⟨c,l,rfl,rfl,f,λe=>by simp[full]at e,λ_=>rfl⟩
structure kN(xs:Q1)(told:List Tm)(back:List An)(k:List Sn)(b:Int)(sm:Bool)(h:Sn):Prop where
 lead:Lead xs k b
 keys:∀e g,fZ (.zu e) xs=some g->∃l,k.getLast? =some l/\e<=l.1
 told:∀m∈told,zB xs m
 back:∀a∈back,a.1=7->sm=true/\a.2.1<=h.1
 has:(sm=true/\fZ (.zu h.1) xs=some (sn h)/\Tb h.2)\/(sm=false/\h=zS)
 base:b<=0\/(sm=true/\b<=h.1)
 zero:fZ (.zu 0) xs=none
def kN.tb{xs:Q1}{told:List Tm}{back:List An}{k:List Sn}{b:Int}{c:Bool}{h:Sn}(f:kN xs told back k b c h):Tb h.2:=by
 rcases f.has with⟨-,-,a⟩|⟨-,a⟩
 ·exact a
 ·rw[a];exact Dz
def acB{x:Sn}{k:List Sn}{b:Int}(h0:(iW x k b).1=0):(iW x k b).2.1.getLast? =some x/\∀l,k.getLast? =some l->l.1<x.1:=by
 have a:(nN x b k).1.getLast? =some x:=by
  unfold nN;split
  ·rfl
  ·split
   ·simp
   ·exact List.getLast?_concat
 unfold iW at h0⊢;split at h0
 ·next c=>exact absurd h0 c
 next c=>
 split at h0
 ·cases h0
 next d=>
 rw[ah c,ah d];cases f:k.getLast? with
 |none=>exact⟨a,λl e=>by cases e⟩
 |some l=>
  rw[f]at h0;simp only at h0⊢;split at h0
  ·cases h0
  next g=>
  split at h0
  ·cases h0
  next h=>
  rw[ah g,ah h];exact⟨a,λi e=>by injection e with e;subst e;omega⟩
def azR{x:Sn}{k:List Sn}{b:Int}(h0:(iW x k b).1=0):x.1≠0:=by
 intro c;unfold iW at h0;split at h0
 ·next a=>exact a h0
 ·cases h0
def azN{x:Sn}{k:List Sn}{b:Int}(h0:(iW x k b).1≠0):(iW x k b).2=(k,b):=by
 unfold iW at h0⊢;split
 ·rfl
 next c=>
 rw[ah c]at h0;split
 ·rfl
 next d=>
 rw[ah d]at h0;cases a:k.getLast? with
 |none=>rw[a]at h0;simp at h0
 |some l=>
  rw[a]at h0;simp only at h0⊢;split
  ·rfl
  next e=>
  rw[ah e]at h0;split
  ·rfl
  next f=>
  rw[ah f]at h0;simp at h0
def azM{x:Sn}{k:List Sn}{b:Int}:(iW x k b).2.2=b\/(iW x k b).2.2=0:=by
 have a:(nN x b k).2=b\/(nN x b k).2=0:=by
  unfold nN;split
  ·exact .inl rfl
  ·split
   ·simp only;split
    ·exact .inr rfl
    ·exact .inl rfl
   ·exact .inl rfl
 unfold iW;split
 ·exact .inl rfl
 split
 ·exact .inl rfl
 split
 ·exact a
 ·split
  ·exact .inl rfl
  split
  ·exact .inl rfl
  ·exact a
def ahp{xs:Q1}{m:Tm}{e:Int}{g:GV}(h:zB xs m)(o:∀a c,fZ (.zu a) xs=some c->a≠e):zB (ku (.zu e) g xs) m:=by
 have b:∀{a:Int}{c:GV},fZ (.zu a) xs=some c->fZ (.zu a) (ku (.zu e) g xs)=some c:=by intro a c n;rw[tN,ah (o a c n)];exact n
 rcases h with⟨d,f,i,j,k⟩|⟨d,f,i,s,l,j,k,p⟩
 ·exact .inl ⟨d,f,i,j,b k⟩
 ·exact .inr ⟨d,f,i,s,l,b j,b k,p⟩
def ag4{xs:Q1}{a:List Tm}{c:List An}{k:List Sn}{b:Int}{r:Bool}{h:Sn}(f:kN xs a c k b r h){x:Sn}(u:dU x.2)(h0:0<=x.1/\x.1<18446744073709551616):
 kN (if(iW x k b).1=0 then ku (.zu x.1) (sn x) xs else xs) a c (iW x k b).2.1 (iW x k b).2.2 r h:=by
 have o:=awQ f.lead u h0;by_cases g:(iW x k b).1=0
 ·rw[aj g]at o⊢;obtain⟨v,s⟩:=acB g;have t:∀d i,fZ (.zu d) xs=some i->d≠x.1:=by intro d i j;obtain⟨l,n,p⟩:=f.keys d i j;have:=s l n;omega
  refine⟨o,?_,λm w=>ahp (f.told m w) t,f.back,?_,?_,by rw[tN,ah (λe=>azR g e.symm)];exact f.zero⟩
  ·intro d i j;refine⟨x,v,?_⟩;rw[tN]at j;split at j
   ·next e=>omega
   ·obtain⟨l,n,p⟩:=f.keys d i j;have:=s l n;omega
  ·rcases f.has with⟨n,p,y⟩|q
   ·exact .inl ⟨n,by rw[tN,ah (t _ _ p)];exact p,y⟩
   ·exact .inr q
  ·rcases azM (x:=x) (k:=k) (b:=b)with e|e
   ·rw[e];exact f.base
   ·rw[e];exact .inl (gW _)
 ·rw[ah g]at o⊢;rw[azN g]at o⊢;exact f
def atV{xs:Q1}{d:List Tm}{g:List An}{k:List Sn}{b:Int}{n:Bool}{h:Sn}(f:kN xs d g k b n h){m:Tm}(H:zB xs m)(c v:Int):
 kN xs d (g++[(kW c v m.1 m.2.1 m.2.2.1 m.2.2.2 n h).1]) k b (kW c v m.1 m.2.1 m.2.2.1 m.2.2.2 n h).2.2.1 (kW c v m.1 m.2.1 m.2.2.1 m.2.2.2 n h).2.2.2/\h.1<=(kW c v m.1 m.2.1 m.2.2.1 m.2.2.2 n h).2.2.2.1:=by
 have i:∀a:An,(a.1=7->n=true/\a.2.1<=h.1)->kN xs d (g++[a]) k b n h:=λa t=>
  ⟨f.lead,f.keys,f.told,λy p=>by
   rcases jJ.1 p with q|q
   ·exact f.back y q
   ·rw[jK.1 q];exact t,f.has,f.base,f.zero⟩
 have o:∀l:Sn,fZ (.zu l.1) xs=some (sn l)->Tb l.2->h.1<=l.1->kN xs d (g++[(7,l.1,0,0)]) k b true l:=λl u I j=>
  ⟨f.lead,f.keys,f.told,λy p e=>by
   rcases jJ.1 p with q|q
   ·have:=f.back y q e;exact⟨rfl,by omega⟩
   ·rw[jK.1 q];exact⟨rfl,gW _⟩,.inl ⟨rfl,u,I⟩,by
   rcases f.base with q|q
   ·exact .inl q
   ·exact .inr ⟨rfl,by omega⟩,f.zero⟩
 have r:¬(n=true/\m.2.1<=h.1)->0<m.2.1->h.1<=m.2.1:=by
  intro J N;rcases f.has with⟨q,-⟩|⟨-,q⟩
  ·rcases adZ h.1 m.2.1 with c|c
   ·omega
   ·exact absurd ⟨q,c⟩ J
  ·rw[q];simp only[zS];omega
 unfold kW;by_cases u:c=0;rotate_left
 ·rw[aj u];exact⟨i _ (λe=>by simp at e),gW _⟩
 rw[ah (by simpa using u)];rcases H with⟨z,E,A,F,w⟩|⟨z,E,A,s,l,F,w,G,O,L,M⟩
 ·rw[aj z];by_cases j:n=true/\m.2.1<=h.1
  ·rw[aj j];exact⟨i _ (λ_=>⟨j.1,gW _⟩),gW _⟩
  ·rw[ah j];exact⟨o (m.2.1,m.2.2.2) w E (r j A.1),r j A.1⟩
 ·rw[dA,aj z];by_cases j:n=true/\m.2.1<=h.1
  ·rw[aj j];exact⟨i _ (λ_=>⟨j.1,gW _⟩),gW _⟩
  ·rw[ah j];by_cases t:(mM h (m.2.2.1,m.2.1,m.2.2.2)).2=0;rotate_left
   ·rw[aj t];exact⟨i _ (λe=>by simp at e),gW _⟩
   ·rw[ah (by simpa using t)];have x:=(Uh t).2.2.1;simp only at x;have B:h=s:=by
     rcases f.has with⟨-,q,-⟩|⟨-,q⟩
     ·rw[x,F]at q;injection q with q
      exact(Oz q).symm
     ·exfalso;rw[q]at x;simp only[zS]at x;omega
    rw[B,M];rw[<-G]at w;have D:=r j (by omega);rw[B,<-G]at D;exact⟨o l w L (by rw[B];exact D),D⟩
def aeI{e:Int}{k:List Sn}{b:Int}:(rW e k b).2.1.getLast? =k.getLast?:=by
 unfold rW;split
 ·rfl
 split
 ·rfl
 ·next i a=>
  obtain⟨x,-,-,hi⟩:=Jm a;simp only;rw[List.getLast?_drop,dA]
def amT{e:Int}{k:List Sn}{b:Int}:(rW e k b).2.2=b\/(rW e k b).2.2=e:=by
 unfold rW;split
 ·exact .inl rfl
 split
 ·exact .inl rfl
 ·exact .inr rfl
def ag3{xs:Q1}{c:List Tm}{d:List An}{k:List Sn}{b:Int}{i:Bool}{h:Sn}(f:kN xs c d k b i h){a:An}(j:a.1=7->i=true/\a.2.1<=h.1):
 kN xs c d (Ue a k b).1 (Ue a k b).2 i h/\(Ue a k b).1.getLast? =k.getLast?:=by
 unfold Ue;split
 ·next l=>
  have m:=j l;refine⟨⟨awP f.lead,λe g n=>by rw[aeI];exact f.keys e g n,f.told,f.back,f.has,?_,f.zero⟩,aeI⟩;rcases amT (e:=a.2.1) (k:=k) (b:=b)with e|e
  ·rw[e];exact f.base
  ·rw[e];exact .inr m
 split
 ·exact⟨⟨⟨f.lead.kp,f.lead.map,.inl rfl⟩,f.keys,f.told,f.back,f.has,.inl (gW _),f.zero⟩,rfl⟩
 ·exact⟨f,rfl⟩
def kN.getD{xs:Q1}{told:List Tm}{back:List An}{k:List Sn}{b:Int}{a:Bool}{h:Sn}(f:kN xs told back k b a h):(fZ (.zu h.1) xs).getD (.g [.zu 0,.l []])=sn h:=by
 rcases f.has with⟨-,q,-⟩|⟨-,q⟩
 ·rw[q];rfl
 ·rw[q];show(fZ (.zu 0) xs).getD _=_
  rw[f.zero];rfl
def kN.no{xs:Q1}{told:List Tm}{back:List An}{k:List Sn}{b:Int}{a:Bool}{h:Sn}(f:kN xs told back k b a h)(e:a=false):h=zS:=by
 rcases f.has with⟨q,-⟩|⟨-,q⟩
 ·rw[q]at e;cases e
 ·exact q
def akF(a:List dQ):Oc a []=0:=by
 have h:jy 0 0 []=0:=by unfold jy;rfl
 unfold Oc;rw[ah (by rw[h];simp),ah (by simp)]
def kN.le_last{xs:Q1}{told:List Tm}{back:List An}{k:List Sn}{b:Int}{i:Bool}{h l:Sn}(f:kN xs told back k b i h)(d:k.getLast? =some l):h.1<=l.1/\(i=true->h.1=l.1->h=l):=by
 have g:=f.lead.map l (DU d);have m:=f.lead.kp.pos l (DU d);rcases f.has with⟨j,a,o⟩|⟨j,a⟩
 ·obtain⟨p,c,n⟩:=f.keys _ _ a;rw[d]at c;injection c with c
  subst c;refine⟨n,λ_ e=>?_⟩;rw[e,g]at a;injection a with a
  exact(Oz a).symm
 ·refine⟨by rw[a];simp only[zS];omega,λe=>by rw[j]at e;cases e⟩
def ag5:kN [] [] [] [] 0 false zS:=
 ⟨⟨Kp.nil,λs b=>by simp at b,.inl rfl⟩,λe g h=>by simp[fZ]at h,λm c=>by simp at c,λa d=>by simp at d,.inr ⟨rfl,rfl⟩,.inl (gW _),rfl⟩
def je(a:An):aO:={kind:=a.1,id:=0,min:=0,max:=0,chosen:=0,flags:=0,cost:=0,priority:=0,deadline:=0,retry:=0,epoch:=a.2.1,base:=0,digest:=0,lag:=0,code:=a.2.2.1,want:=a.2.2.2,remaining:=0,allowed:=false,name:=[],region:=[],note:=[],d:=[],t:=[]}
def Y1{a:An}(h1: -9223372036854775808<=a.1/\a.1<=9223372036854775807)(b:0<=a.2.1/\a.2.1<18446744073709551616)(c:0<=a.2.2.1/\a.2.2.1<18446744073709551616)(d:0<=a.2.2.2/\a.2.2.2<18446744073709551616):vk (je a):=by refine⟨h1,?_,?_,?_,?_,?_,?_,?_,?_,?_,b,?_,?_,?_,c,d,?_,?_,?_,?_,?_,?_⟩<;>simp[je,sU,Rows]
def ax1(V e:Int)(a:V=1\/V=2\/V=3):(iH.all λn=>uJ (aW 7 V) n ||qL (je (7,e,0,0)) n)=true:=by rcases a with rfl|rfl|rfl<;>rfl
def ax5(e c:Int):(iH.all λn=>uJ (aW 8 1) n ||qL (je (8,e,c,0)) n)=true:=rfl
def ajl(V e c w:Int)(a:V=2\/V=3):(iH.all λn=>uJ (aW 8 V) n ||qL (je (8,e,c,w)) n)=true:=by rcases a with rfl|rfl<;>rfl
def axh(V e:Int)(a:V=1\/V=2\/V=3):oG (je (7,e,0,0)) (aW 7 V)=0:=by rcases a with rfl|rfl|rfl<;>rfl
def axj(V e c w:Int)(f:V=1\/V=2\/V=3):oG (je (8,e,c,w)) (aW 8 V)=0:=by
 have g:qP [] 0 256=0:=rfl;have a:yu (je (8,e,c,w)) Bl=0:=rfl;have b:yu (je (8,e,c,w)) Bj=0:=rfl;have d:yu (je (8,e,c,w)) Df=0:=rfl;have h:yu (je (8,e,c,w)) EI=qP [] 0 256:=rfl;have i:aW 8 1=[⟨1,0,1,Bl⟩,⟨2,0,1,Bj⟩]:=rfl;have j:aW 8 2=[⟨1,0,1,Bl⟩,⟨2,0,1,Bj⟩,⟨3,0,2,Df⟩]:=rfl;have k:aW 8 3=[⟨1,0,1,Bl⟩,⟨2,0,1,Bj⟩,⟨3,0,2,Df⟩,⟨4,3,3,EI⟩]:=rfl;rcases f with rfl|rfl|rfl
 ·rw[i];simp only[oG,a,b,if_true]
 ·rw[j];simp only[oG,a,b,d,if_true]
 ·rw[k];simp only[oG,a,b,d,h,g,if_true]
def UN(e:Int){V:Int}(h1:1<=V)(g:V<=3):gq (je (7,e,0,0)) [] V=0:=by
 have a:V=1\/V=2\/V=3:=by omega
 unfold gq;have b:aW (je (7,e,0,0)).kind V≠[]:=(by rcases a with rfl|rfl|rfl<;>decide:aW 7 V≠[])
 have c:(iH.all λn=>uJ (aW (je (7,e,0,0)).kind V) n ||qL (je (7,e,0,0)) n)=true:=ax1 V e a;have d:oG (je (7,e,0,0)) (aW (je (7,e,0,0)).kind V)=0:=axh V e a;have f:I4 (je (7,e,0,0))=0:=rfl;rw[dA,dA,ah b,ah (by rw[c];simp),ah (by rw[d];simp),ah (by rw[f];simp)];exact akF _
def aoj(e c w:Int){V:Int}(h1:1<=V)(i:V<=3)(b:¬2<=V->w=0):gq (je (8,e,c,w)) [] V=0:=by
 have a:V=1\/V=2\/V=3:=by omega
 unfold gq;have d:aW (je (8,e,c,w)).kind V≠[]:=(by rcases a with rfl|rfl|rfl<;>decide:aW 8 V≠[])
 have f:(iH.all λn=>uJ (aW (je (8,e,c,w)).kind V) n ||qL (je (8,e,c,w)) n)=true:=by
  rcases a with rfl|rfl|rfl
  ·rw[b (by omega)];exact ax5 e c
  ·exact ajl 2 e c w (.inl rfl)
  ·exact ajl 3 e c w (.inr rfl)
 have g:oG (je (8,e,c,w)) (aW (je (8,e,c,w)).kind V)=0:=axj V e c w a;have h:I4 (je (8,e,c,w))=0:=rfl;rw[dA,dA,ah d,ah (by rw[f];simp),ah (by rw[g];simp),ah (by rw[h];simp)];exact akF _
structure Rec(v:Int)(sm:Bool)(h:Sn):Prop where
 lo:1<=v
 hi:v<=3
 good:dU h.2
 ep:0<=h.1/\h.1<18446744073709551616
 no:sm=false->h=zS
def Xh{v:Int}{d:Bool}{h:Sn}(r:Rec v d h)(c kd a b:Int)(t:List Row)(j:dU t)(f:0<=a/\a<18446744073709551616):
 Rec v (kW c v kd a b t d h).2.2.1 (kW c v kd a b t d h).2.2.2/\vk (je (kW c v kd a b t d h).1)/\((kW c v kd a b t d h).1.1=0\/((kW c v kd a b t d h).1.1≠0/\gq (je (kW c v kd a b t d h).1) [] v=0)):=by
 have r1:=r.lo;have r2:=r.hi;have z:vk (je (0,0,0,0)):=Y1 (by decide) (by decide) (by decide) (by decide);have g:∀e:Int,0<=e/\e<18446744073709551616->vk (je (7,e,0,0)):=λe h=>Y1 (by simp) h (by simp) (by simp);unfold kW;split
 ·exact⟨r,z,.inl rfl⟩
 split
 ·split
  ·exact⟨r,g _ r.ep,.inr ⟨by simp,UN _ r1 r2⟩⟩
  ·exact⟨⟨r1,r2,j,f,λe=>by cases e⟩,g _ f,.inr ⟨by simp,UN _ r1 r2⟩⟩
 split
 ·split
  ·exact⟨r,g _ r.ep,.inr ⟨by simp,UN _ r1 r2⟩⟩
  split
  ·refine⟨r,Y1 (by simp) f (wrap_u64 _) ?_,.inr ⟨by simp,aoj _ _ _ r1 r2 λl=>ah l⟩⟩;simp only;split
   ·exact r.ep
   ·simp
  ·next i=>
   have i:(mM h (b,a,t)).2=0:=by simpa using i
   have m:=(Uh i).2.2.2.2;have n:=(aeV r.good j i).1.good;have k:0<=(mM h (b,a,t)).1.1/\(mM h (b,a,t)).1.1<18446744073709551616:=by rw[m];exact f
   exact⟨⟨r1,r2,n,k,λe=>by cases e⟩,g _ k,.inr ⟨by simp,UN _ r1 r2⟩⟩
 ·exact⟨r,z,.inl rfl⟩
