/- What the trees compute: plain laws. -/
import Derived.Test.YtkoclengoeonnaaGreatDoorKQe2
set_option linter.all false
namespace Go.Proofs.YtkoclengoeonnaaGreatDoor
open Go Go.aP
set_option maxRecDepth 100000
namespace Q
abbrev It:=Int×Int×Q0
def bZ(x:It):GV:=.g [.zu x.1,.zu x.2.1,.s x.2.2]
@[simp] theorem ate(x:It):(bZ x).cells=[.zu x.1,.zu x.2.1,.s x.2.2]:=rfl
def kK(a b:It):Bool:=if a.1=b.1 then decide (a.2.1<b.2.1)else decide (a.1<b.1)
def leI(a b:It):Prop:=kK b a=false
def U8(a b:It):leI a b↔a.1<b.1\/(a.1=b.1/\a.2.1<=b.2.1):=by
 unfold leI kK;split
 ·next h=>simp;omega
 ·next h=>simp;omega
def ag8(a:It):leI a a:=(U8 a a).2 (.inr ⟨rfl,AQ _⟩)
def Z7{a b c:It}(h1:leI a b)(d:leI b c):leI a c:=by rw[U8]at *;omega
def PZ{a b:It}(h:kK a b=true):leI a b:=by
 rw[U8];unfold kK at h;split at h
 ·next e=>have:=Em h;omega
 ·next e=>have:=Em h;omega
def atE{a b:It}(h:leI a b):a.1<=b.1:=by rw[U8]at h;omega
def dI:It:=(0,0,[])
abbrev at_(h:List It)(i:Nat):It:=h.getD i dI
def iO(h:List It)(i j:Nat):List It:=(h.set i (at_ h j)).set j (at_ h i)
def EN(h:List It)(i j:Nat):(iO h i j).length=h.length:=by simp[iO]
def X7(h:List It){i j:Nat}(hi:i<h.length)(f:j<h.length)(k:Nat):at_ (iO h i j) k=if k=j then at_ h i else if k=i then at_ h j else at_ h k:=by
 unfold iO at_;simp only[yK,List.getElem?_set,EZ];by_cases a:k=j
 ·subst a;simp[f]
 ·have b:¬j=k:=λe=>a e.symm;rw[aj b,aj a];by_cases c:k=i
  ·subst c;simp[hi]
  ·have d:¬i=k:=λe=>c e.symm;rw[aj d,aj c]
def swap_perm(h:List It){i j:Nat}(hi:i<h.length)(a:j<h.length):(iO h i j).Perm h:=by have:=Array.swap_perm (xs:=h.toArray) (i:=i) (j:=j) (by simpa using hi) (by simpa using a);have b:=this.toList;simp only[Array.toList_swap]at b;unfold iO at_;simpa[yK,hi,a]using b
def par(k:Nat):Nat:=(k-1)/2
def Heap(h:List It)(n:Nat):Prop:=∀k,0<k->k<n->leI (at_ h (par k)) (at_ h k)
def AB:Nat->List It->Nat->List It
 |0,h,_=>h
 |f+1,h,j=>if par j=j\/kK (at_ h j) (at_ h (par j))=false then h else AB f (iO h (par j) j) (par j)
structure adC(h:List It)(n j:Nat):Prop where
 jn:j<n
 heap:∀k,0<k->k<n->k≠j->leI (at_ h (par k)) (at_ h k)
 kids:∀k,0<k->k<n->par k=j->0<j->leI (at_ h (par j)) (at_ h k)
def akn:∀(f:Nat)(h:List It)(j n:Nat),j<f->n=h.length->adC h n j->Heap (AB f h j) n/\(AB f h j).Perm h
 |0,h,j,n,v,_,_=>ah
 |f+1,h,j,n,v,w,d=>by
  unfold AB;split
  ·next b=>
   refine⟨λk h0 g=>?_,ac1 _⟩;by_cases e:k=j
   ·subst e;rcases b with b|b
    ·unfold par at b;omega
    ·exact b
   ·exact d.heap k h0 g e
  ·next b=>
   rw[not_or]at b;obtain⟨x,m⟩:=b;have m:kK (at_ h j) (at_ h (par j))=true:=by simpa using m
   have y:0<j:=by
    rcases Ro j with e|e
    ·subst e;exact absurd rfl x
    ·exact e
   have A:par j<j:=by unfold par;omega
   have z:=d.jn;have a:=X7 h (i:=par j) (j:=j) ah ah;have o:adC (iO h (par j) j) n (par j):=by
    refine⟨ah,λk h0 g p=>?_,λk h0 g l r=>?_⟩
    ·rw[a,a];by_cases c:k=j
     ·subst c;rw[eX,au rfl,au rfl];exact PZ m
     ·rw[aj c,aj p];by_cases s:par k=j
      ·rw[au s];exact d.kids k h0 g s y
      ·rw[aj s];by_cases t:par k=par j
       ·rw[au t];exact Z7 (PZ m) (t▸d.heap k h0 g c)
       ·rw[aj t];exact d.heap k h0 g c
    ·rw[a,a];have q:par (par j)<par j:=by unfold par at *;omega
     rw[eX,eX];have u:=d.heap (par j) r ah ah;by_cases c:k=j
     ·subst c;rw[au rfl];exact u
     ·rw[aj c,aj (λe=>by rw[e]at l;omega)];exact Z7 u (l▸d.heap k h0 g c)
   obtain⟨r1,r2⟩:=akn f (iO h (par j) j) (par j) n ah (by rw[EN];exact w) o;exact⟨r1,r2.trans (swap_perm h ah ah)⟩
def tC(h:List It)(x:It):List It:=AB (h.length+1) (h++[x]) h.length
def MW(h:List It)(x:It)(c:Heap h h.length):Heap (tC h x) (h.length+1)/\(tC h x).Perm (h++[x]):=by
 refine akn _ _ _ _ ah aA ⟨ah,λk b d e=>?_,λk b d a _=>?_⟩
 ·have f:k<h.length:=ah;have g:at_ (h++[x]) k=at_ h k:=by simp[at_,mY (ah:k<h.length)]
  have i:at_ (h++[x]) (par k)=at_ h (par k):=by simp[at_,mY (show par k<h.length by unfold par;omega)]
  rw[g,i];exact c k b ah
 ·exfalso;unfold par at a;omega
def kid(h:List It)(i n:Nat):Nat:=if 2*i+2<n/\kK (at_ h (2*i+2)) (at_ h (2*i+1))=true then 2*i+2 else 2*i+1
def mF:Nat->List It->Nat->Nat->List It
 |0,h,_,_=>h
 |f+1,h,i,n=>if n<=2*i+1\/kK (at_ h (kid h i n)) (at_ h i)=false then h else mF f (iO h i (kid h i n)) (kid h i n) n
structure acT(h:List It)(n i:Nat):Prop where
 heap:∀k,0<k->k<n->par k≠i->leI (at_ h (par k)) (at_ h k)
 kids:∀k,0<k->k<n->par k=i->0<i->leI (at_ h (par i)) (at_ h k)
def agW{h:List It}{i n:Nat}(h1:2*i+1<n):kid h i n<n/\par (kid h i n)=i/\i<kid h i n/\∀k,0<k->k<n->par k=i->leI (at_ h (kid h i n)) (at_ h k):=by
 unfold kid;have b:∀k,0<k->par k=i->k=2*i+1\/k=2*i+2:=λk c d=>by unfold par at d;omega
 split
 ·next f=>
  refine⟨f.1,by unfold par;omega,ah,λk c d a=>?_⟩;rcases b k c a with rfl|rfl
  ·exact PZ f.2
  ·exact ag8 _
 ·next f=>
  refine⟨h1,by unfold par;omega,ah,λk c d a=>?_⟩;rcases b k c a with rfl|rfl
  ·exact ag8 _
  ·have:¬kK (at_ h (2*i+2)) (at_ h (2*i+1))=true:=λe=>f ⟨d,e⟩;unfold leI;simpa using this
def afd:∀(f:Nat)(h:List It)(i n:Nat),n-i<f->n<=h.length->acT h n i->Heap (mF f h i n) n/\(mF f h i n).Perm h/\∀k,n<=k->at_ (mF f h i n) k=at_ h k
 |0,h,i,n,v,_,_=>ah
 |f+1,h,i,n,v,w,m=>by
  unfold mF;split
  ·next d=>
   refine⟨λk h0 b=>?_,ac1 _,λ_ _=>rfl⟩;by_cases e:par k=i
   ·by_cases o:n<=2*i+1
    ·unfold par at e;omega
    ·have d:=d.resolve_left o;have:=(agW (h:=h) (i:=i) (n:=n) ah).2.2.2 k h0 b e;rw[e];exact Z7 d this
   ·exact m.heap k h0 b e
  ·next d=>
   rw[not_or]at d;obtain⟨A,p⟩:=d;have p:kK (at_ h (kid h i n)) (at_ h i)=true:=by simpa using p
   obtain⟨x,q,B,y⟩:=agW (h:=h) (i:=i) (n:=n) ah;generalize kid h i n=j at *;have a:=X7 h (i:=i) (j:=j) ah ah;have r:acT (iO h i j) n j:=by
    refine⟨λk h0 b s=>?_,λk h0 b c z=>?_⟩
    ·rw[a,a];rw[aj s];by_cases t:k=j
     ·subst t;rw[au rfl,q,au rfl];exact PZ p
     ·rw[aj t];by_cases g:par k=i
      ·rw[au g];by_cases l:k=i
       ·unfold par at g;omega
       ·rw[aj l];exact y k h0 b g
      ·rw[aj g];by_cases l:k=i
       ·rw[au l];subst l;exact m.kids j ah x q h0
       ·rw[aj l];exact m.heap k h0 b g
    ·rw[a,a];have u:par j=i:=q;rw[eX,au u];rw[aj (by unfold par at c;omega),aj (by unfold par at c u;omega)];exact c▸m.heap k h0 b ah
   obtain⟨r1,r2,r3⟩:=afd f (iO h i j) j n ah (by rw[EN];exact w) r;refine⟨r1,r2.trans (swap_perm h ah ah),λk b=>?_⟩;rw[r3 k b,a,eX,eX]
def agQ{h:List It}{k:Nat}(a:k<h.length):(h.map bZ)[k]? =some (bZ (at_ h k)):=by rw[jf,bT a];simp[at_,a]
def awZ(x:It)(a b:Int)(c:Q0):(bZ x).put 0 [.zu a,.zu b,.s c]=some (bZ (a,b,c)):=rfl
def azY(h:List It)(k:Nat)(x:It):(h.map bZ).set k (bZ x)=(h.set k x).map bZ:=by rw[XB]
def atf(x:It):bZ (x.1,x.2.1,x.2.2)=bZ x:=rfl
def Af{h:List It}{k:Nat}(a:k<h.length):BO (some (.l (h.map bZ))) (some (.zq (k:Int)))=some (.zq (k:Int)):=by rw[iT,au ⟨ah,by rw[iw];omega⟩]
def Bg{h:List It}{k:Nat}(a:k<h.length):at2 3 (some (.l (h.map bZ))) (some (.zq (k:Int)))=some (bZ (at_ h k)):=by rw[dw,mW,(ah:((k:Int)).toNat=k),agQ a];rfl
def JV{h:List It}{k:Nat}(a:k<h.length)(x:It):CX 3 0 (some (.l (h.map bZ))) (some (.zq (k:Int))) (some [.zu x.1,.zu x.2.1,.s x.2.2])=some (.l ((h.set k x).map bZ)):=by rw[oh,au ⟨ah,rfl⟩,(ah:((k:Int)).toNat=k),agQ a];simp only[zN,ate,iF,mZ,if_true,awZ,atf,gU,azY]
def avW(j:Nat)(c:j<=1000000):IntKind.i64.wrap ((IntKind.i64.wrap ((j:Int)-1)).tdiv 2)=(par j:Nat)/\IntKind.i64.wrap ((j:Int)-1)=(j:Int)-1:=by
 have a:=bD ((j:Int)-1);have b:((j:Int)-1).tdiv 2=(par j:Nat):=by
  rcases Ro j with e|e
  ·subst e;rfl
  ·have:(j:Int)-1=((j-1:Nat):Int):=ah;rw[this];exact(Int.ofNat_tdiv (j-1) 2).symm
 refine⟨?_,a⟩;rw[a,b];exact wrap64 ah (by unfold par;omega)
def ako:∀(f:Nat)(h:List It)(j:Nat)(c:GV),j<f->j<h.length->h.length<=1000000->
 TT.lim 209 [.zq (j:Int),.l (h.map bZ),c]=some [.zq 0,.l ((AB f h j).map bZ)]
 |0,h,j,c,z,_,_=>ah
 |f+1,h,j,c,z,r,A=>by
  obtain⟨w1,a⟩:=avW j ah;rw[a]at w1;have k:par j<h.length:=by unfold par;omega
  have l:=Bg r;have m:=Bg k;have n:=Af r;have o:=Af k;have v:=JV k (at_ h j);have g:j<(h.set (par j) (at_ h j)).length:=by rw[EZ];exact r
  have s:=JV g (at_ h (par j));have w:=Af g;have p:=λt:par j<f=>ako f (iO h (par j) j) (par j) c t (by rw[EN];exact k) (by rw[EN];exact A);have B:(h.set (par j) (at_ h j)).set j (at_ h (par j))=iO h (par j) j:=rfl;rw[B]at s;have D:par j<=j:=by unfold par;omega
  by_cases e:par j=j
  ·have u:AB (f+1) h j=h:=au (.inl e);rw[u];have b:((par j:Nat):Int)=(j:Int):=ah;refine aB ?_;simp[w1,a,b]
  ·have b:¬((par j:Nat):Int)=(j:Int):=ah;have p:=p ah;have u:AB (f+1) h j=if kK (at_ h j) (at_ h (par j))=false then h else AB f (iO h (par j) j) (par j):=by
    show(if par j=j\/kK (at_ h j) (at_ h (par j))=false then h else AB f (iO h (par j) j) (par j))=_
    by_cases q:kK (at_ h j) (at_ h (par j))=false
    ·rw[au (.inr q),au q]
    ·rw[aj (λh=>h.elim e q),aj q]
   rw[u];generalize at_ h j=x,at_ h (par j)=y,iO h (par j) j=E at *;generalize h.set (par j) x=F,((par j:Nat):Int)=G at *;refine aB ?_;unfold kK;by_cases d:x.1=y.1
   ·have d:=eq_true d;by_cases i:x.2.1<y.2.1
    ·simp[-iT,-dw,-oh,w1,a,b,l,m,n,o,w,v,s,d,i,p]
    ·simp[-iT,-dw,-oh,w1,a,b,l,m,n,o,d,i]
   ·by_cases i:x.1<y.1
    ·simp[-iT,-dw,-oh,w1,a,b,l,m,n,o,w,v,s,d,i,p]
    ·simp[-iT,-dw,-oh,w1,a,b,l,m,n,o,d,i]
def aBH(h:List It)(j:Nat)(c:GV)(a:j<h.length)(b:h.length<=1000000):TT.lim 208 [.zq (j:Int),.l (h.map bZ),c]=some [.zq 0,.l ((AB (j+1) h j).map bZ)]:=by have d:=ako (j+1) h j c ah a b;refine aB ?_;simp[d]
def BU{a b:It}{v:Bool}(h:kK a b=v):((a.1=b.1)=True/\(a.2.1<b.2.1)=(v=true))\/((a.1=b.1)=False/\(a.1<b.1)=(v=true)):=by
 unfold kK at h;by_cases e:a.1=b.1
 ·rw[au e]at h;refine .inl ⟨eq_true e,?_⟩;rw[<-h,decide_eq_true_eq]
 ·rw[aj e]at h;refine .inr ⟨eq_false e,?_⟩;rw[<-h,decide_eq_true_eq]
def afe:∀(f:Nat)(h:List It)(i n:Nat)(a0 c:GV),n-i<f->n<=h.length->h.length<=1000000->i<=1000000->
 ∃o:Nat,TT.lim 220 [a0,.zq (n:Int),.zq (i:Int),.l (h.map bZ),c]=some [.zq 0,.zq (o:Int),.l ((mF f h i n).map bZ)]
 |0,h,i,n,a0,c,U,_,_,_=>ah
 |f+1,h,i,n,a0,c,U,V,W,hi=>by
  have J:mF (f+1) h i n=if n<=2*i+1\/kK (at_ h (kid h i n)) (at_ h i)=false then h else mF f (iO h i (kid h i n)) (kid h i n) n:=rfl
  have w1:=bD (2*(i:Int));have v:=bD (2*(i:Int)+1);have x:=bD (2*(i:Int)+1+1);by_cases L:n<=2*i+1
  ·rw[J,au (.inl L)];have a:(n:Int)<=2*(i:Int)+1:=ah;refine⟨i,jd rfl rfl ?_⟩;simp[w1,v,a]
  have a:¬(n:Int)<=2*(i:Int)+1:=ah;have k:¬(2*(i:Int)+1<0):=ah;have D:2*i+1<h.length:=ah;have w:i<h.length:=ah;have M:2*(i:Int)+1=((2*i+1:Nat):Int):=ah;have P:2*(i:Int)+1+1=((2*i+2:Nat):Int):=ah;have p:=Bg D;have q:=Af D;have z:=Bg w;have A:=Af w
  have step:∀j:Nat,j<n->i<j->(∃o:Nat,TT.lim 220 [a0,.zq (n:Int),.zq (j:Int),.l ((iO h i j).map bZ),c]=some [.zq 0,.zq (o:Int),.l ((mF f (iO h i j) j n).map bZ)])/\
   CX 3 0 (some (.l (h.map bZ))) (some (.zq (i:Int))) (some [.zu (at_ h j).1,.zu (at_ h j).2.1,.s (at_ h j).2.2])=some (.l ((h.set i (at_ h j)).map bZ))/\
   CX 3 0 (some (.l ((h.set i (at_ h j)).map bZ))) (some (.zq (j:Int))) (some [.zu (at_ h i).1,.zu (at_ h i).2.1,.s (at_ h i).2.2])=some (.l ((iO h i j).map bZ)):=by
   intro j Y X;refine⟨afe f (iO h i j) j n a0 c ah (by rw[EN];exact V) (by rw[EN];exact W) ah,JV w (at_ h j),?_⟩;exact JV (h:=h.set i (at_ h j)) (by rw[EZ];omega) (at_ h i)
  by_cases N:2*i+2<n
  ·have g:2*(i:Int)+1+1<(n:Int):=ah;have E:2*i+2<h.length:=ah;have F:=Bg E;have G:=Af E;rw[<-M]at p q;rw[<-P]at F G;by_cases r:kK (at_ h (2*i+2)) (at_ h (2*i+1))=true
   ·have H:kid h i n=2*i+2:=by unfold kid;rw[au ⟨N,r⟩]
    rw[J,H];obtain⟨⟨o,s⟩,I,t⟩:=step (2*i+2) N ah;rw[<-P]at s t;generalize at_ h (2*i+2)=O,at_ h (2*i+1)=B,at_ h i=y,mF f (iO h i (2*i+2)) (2*i+2) n=R at *;generalize iO h i (2*i+2)=S,h.set i O=T at *;cases u:kK O y with
    |true=>refine⟨o,?_⟩;rw[aj (λe=>e.elim L aA)];refine aB ?_;rcases BU r with⟨l,m⟩|⟨l,m⟩<;>rcases BU u with⟨b,d⟩|⟨b,d⟩<;>simp[-iT,-dw,-oh,w1,v,x,a,k,g,p,F,z,q,G,A,l,m,b,d,I,t,s]
    |false=>refine⟨i,?_⟩;rw[au (.inr rfl)];refine aB ?_;rcases BU r with⟨l,m⟩|⟨l,m⟩<;>rcases BU u with⟨b,d⟩|⟨b,d⟩<;>simp[-iT,-dw,-oh,w1,v,x,a,k,g,p,F,z,q,G,A,l,m,b,d]
   ·have H:kid h i n=2*i+1:=by unfold kid;rw[aj (λe=>r e.2)]
    have r:kK (at_ h (2*i+2)) (at_ h (2*i+1))=false:=by simpa using r
    rw[J,H];obtain⟨⟨o,s⟩,I,t⟩:=step (2*i+1) ah ah;rw[<-M]at s t;generalize at_ h (2*i+2)=O,at_ h (2*i+1)=B,at_ h i=y,mF f (iO h i (2*i+1)) (2*i+1) n=R at *;generalize iO h i (2*i+1)=S,h.set i B=T at *;cases u:kK B y with
    |true=>refine⟨o,?_⟩;rw[aj (λe=>e.elim L aA)];refine aB ?_;rcases BU r with⟨l,m⟩|⟨l,m⟩<;>rcases BU u with⟨b,d⟩|⟨b,d⟩<;>simp[-iT,-dw,-oh,w1,v,x,a,k,g,p,F,z,q,G,A,l,m,b,d,I,t,s]
    |false=>refine⟨i,?_⟩;rw[au (.inr rfl)];refine aB ?_;rcases BU r with⟨l,m⟩|⟨l,m⟩<;>rcases BU u with⟨b,d⟩|⟨b,d⟩<;>simp[-iT,-dw,-oh,w1,v,x,a,k,g,p,F,z,q,G,A,l,m,b,d]
  ·have g:¬2*(i:Int)+1+1<(n:Int):=ah;have H:kid h i n=2*i+1:=by unfold kid;rw[aj (λe=>N e.1)]
   rw[<-M]at p q;rw[J,H];obtain⟨⟨o,s⟩,I,t⟩:=step (2*i+1) ah ah;rw[<-M]at s t;generalize at_ h (2*i+1)=B,at_ h i=y,mF f (iO h i (2*i+1)) (2*i+1) n=R at *;generalize iO h i (2*i+1)=S,h.set i B=T at *;cases u:kK B y with
   |true=>refine⟨o,?_⟩;rw[aj (λe=>e.elim L aA)];refine aB ?_;rcases BU u with⟨b,d⟩|⟨b,d⟩<;>simp[-iT,-dw,-oh,w1,v,x,a,k,g,p,z,q,A,b,d,I,t,s]
   |false=>refine⟨i,?_⟩;rw[au (.inr rfl)];refine aB ?_;rcases BU u with⟨b,d⟩|⟨b,d⟩<;>simp[-iT,-dw,-oh,w1,v,x,a,k,g,p,z,q,A,b,d]
def mX(h:List It):List It:=(mF (h.length-1+1) (iO h 0 (h.length-1)) 0 (h.length-1)).take (h.length-1)
def YL:∀(f:Nat)(h:List It)(i n:Nat),(mF f h i n).length=h.length
 |0,h,i,n=>rfl
 |f+1,h,i,n=>by
  unfold mF;split
  ·rfl
  ·rw[YL,EN]
def adY{h:List It}{n k:Nat}(a:k<n):at_ (h.take n) k=at_ h k:=by unfold at_;simp[List.getD,lT,a]
def VQ(h:List It)(n:Nat)(m:h.length=n+1)(q:Heap h (n+1)):
 (mX h).length=n/\Heap (mX h) n/\(at_ h 0::mX h).Perm h/\at_ (mF (n+1) (iO h 0 n) 0 n) n=at_ h 0:=by
 have r:(iO h 0 n).length=n+1:=by rw[EN,m]
 have b:=X7 h (i:=0) (j:=n) ah ah;have s:=afd (n+1) (iO h 0 n) 0 n ah ah ⟨λk c d o=>by
  have f:par k<k:=by unfold par;omega
  rw[b,b,eX,aj o,eX,eX];exact q k c ah,λk c d o t=>ah⟩
 obtain⟨d1,d2,d3⟩:=s;have a:at_ (mF (n+1) (iO h 0 n) 0 n) n=at_ h 0:=by rw[d3 n ah,b,au rfl]
 have g:(mF (n+1) (iO h 0 n) 0 n).length=n+1:=by rw[YL,r]
 have l:mX h=(mF (n+1) (iO h 0 n) 0 n).take n:=by unfold mX;rw[m];rfl
 generalize mF (n+1) (iO h 0 n) 0 n=D at *;refine⟨by rw[l,kG,g];omega,?_,?_,a⟩
 ·intro k c d;have f:par k<k:=by unfold par;omega
  rw[l,adY ah,adY d];exact d1 k c d
 ·have e:D.take n++[at_ h 0]=D:=by
   rw[<-a];have:at_ D n=D[n]'(by omega):=by simp[at_,List.getD,bT (ah:n<D.length)]
   rw[this,List.take_append_getElem (ah:n<D.length),kQ ah]
  have p:(at_ h 0::mX h).Perm (D.take n++[at_ h 0]):=by rw[l];exact(akQ (l₁:=[at_ h 0]) (l₂:=D.take n))
  rw[e]at p;exact p.trans (d2.trans (swap_perm h ah ah))
def Qr(h:List It)(x:It)(a:Heap h h.length):(tC h x).length=h.length+1:=by have:=(MW h x a).2.length_eq;simpa using this
def fC:Nat->Int->List It->List Q0×List It
 |0,_,h=>([],h)
 |m+1,t,h=>if h=[]\/t<(at_ h 0).1 then([],h)else((at_ h 0).2.2::(fC m t (mX h)).1,(fC m t (mX h)).2)
def TK(t:Int):∀(m:Nat)(h:List It),h.length=m->Heap h h.length->Heap (fC m t h).2 (fC m t h).2.length/\(fC m t h).1.length+(fC m t h).2.length=m
 |0,h,c,d=>by simp only[fC];exact⟨d,by simpa using c⟩
 |m+1,h,c,d=>by
  simp only[fC];split
  ·exact⟨d,by simpa using c⟩
  ·obtain⟨r1,r2,r3,-⟩:=VQ h m c (by rw[<-c];exact d);obtain⟨a,b⟩:=TK t m (mX h) r1 (by rw[r1];exact r2);exact⟨a,by simp only[iF];omega⟩
structure Oi(h L:List It)(n:Int):Prop where
 heap:Heap h h.length
 perm:L.Perm h
 srt:L.Pairwise (λx y=>kK x y=true)
 low:∀x∈L,x.2.1<n
def Oi.len{h L:List It}{n:Int}(s:Oi h L n):h.length=L.length:=s.perm.length_eq.symm
def insL(x:It):List It->List It
 |[]=>[x]
 |y::L=>if y.1<=x.1 then y::insL x L else x::y::L
def UO(x:It):∀L,(insL x L).Perm (L++[x])
 |[]=>ac1 _
 |y::L=>by
  unfold insL;split
  ·exact(UO x L).cons y
  ·exact akQ (l₁:=[x]) (l₂:=y::L)
def atW{y x:It}(h:y.1<=x.1)(a:y.2.1<x.2.1):kK y x=true:=by
 unfold kK;split
 ·simpa using a
 ·simp;omega
def ahr{y x:It}(h:x.1<y.1):kK x y=true:=by unfold kK;rw[eX];simpa using h
def atV{x y:It}(h:kK x y=true):x.1<=y.1:=atE (PZ h)
def agJ(x:It):∀L:List It,L.Pairwise (λa b=>kK a b=true)->(∀y∈L,y.2.1<x.2.1)->(insL x L).Pairwise (λa b=>kK a b=true)
 |[],_,_=>by simp[insL]
 |y::L,e,c=>by
  obtain⟨h1,h⟩:=jm.1 e;unfold insL;split
  ·next f=>
   refine jm.2 ⟨λz d=>?_,agJ x L h λz d=>c z (xP _ d)⟩;rcases ny.1 ((UO x L).mem_iff.1 d)with g|g
   ·exact h1 z g
   ·rw[oz]at g;subst g;exact atW f (c y Ri)
  ·next f=>
   refine jm.2 ⟨λz d=>?_,e⟩;rcases bJ.1 d with rfl|g
   ·exact ahr ah
   ·exact ahr (by have:=atV (h1 z g);omega)
def Oi.put{h L:List It}{n a:Int}{t:Q0}(s:Oi h L n):Oi (tC h (a,n,t)) (insL (a,n,t) L) (n+1):=by
 have b:=MW h (a,n,t) s.heap;have c:=Qr h (a,n,t) s.heap;refine⟨by rw[c];exact b.1,(UO _ _).trans ((s.perm.append_right _).trans b.2.symm),agJ _ _ s.srt s.low,λx d=>?_⟩;rcases ny.1 ((UO _ _).mem_iff.1 d)with g|g
 ·have:=s.low x g;omega
 ·rw[oz]at g;subst g;show n<n+1
  omega
def wrap_u64(n:Int):0<=IntKind.u64.wrap n/\IntKind.u64.wrap n<18446744073709551616:=by
 have:IntKind.u64.wrap n=n%18446744073709551616:=by simp[IntKind.wrap,IntKind.signed,IntKind.bits]
 rw[this];omega
def atU{k:List Sn}{i:Nat}(hi:i<=k.length):P8 2 (some (.l (k.map sn))) (some (.zq (i:Int))) (some (.zq (k.length:Int)))=some (.l ((k.drop i).map sn)):=by
 rw[nI,au]
 ·congr 2;rw[xO,xO,kQ aA,List.map_drop]
 ·refine⟨ah,ah,aA,?_⟩;rw[List.all_map];exact List.all_eq_true.2 λx _=>rfl
def aAc(k:List Sn):(k.map sn).all (GV.fQ 2)=true:=by rw[List.all_map];exact List.all_eq_true.2 λx _=>rfl
def ajl(t:List Row)(e:Int)(d:gV t):∀(m i:Nat)(a:List Row),i+m=t.length->a.length=i->
 TT.lim 32 [.l (t.map row),.zq t.length,.zq i,.zu e,.l (a.map row)]=some [.zq 0,.l ((a++t.drop i).map row)]
 |0,i,a,hi,l=>by have h0:t.drop i=[]:=gJ;have h:¬((i:Int)<t.length):=ah;refine aB ?_;simp[h,h0]
 |m+1,i,a,hi,l=>by
  have b:i<t.length:=ah;have o:=d.len;have kc:=FK t[i].1 (DW (d.few _ (iq b)));have c:GV.g [.l (t[i].1.map ent),.zu t[i].2]=row t[i]:=rfl;have f:(row t[i]).fQ 2=true:=rfl;have g:2*(a.length+1)*32<=281474976710656/\a.length+1<=281474976710656:=ah;have h:((i:Int)<t.length):=ah;have n:=bD ((i:Int)+1);have k:TT.lim 32 [.l (t.map row),.zq t.length,.zq ((i:Int)+1),.zu e,.l ((a++[t[i]]).map row)]=_:=ajl t e d m (i+1) (a++[t[i]]) ah (by simp;omega);have j:a++t.drop i=a++[t[i]]++t.drop (i+1):=by rw[List.append_assoc,N8,<-gW b]
  rw[j];generalize a++[t[i]]++t.drop (i+1)=R at *;simp only[ng,iC,jg]at k;refine aB ?_;simp[-List.getElem_cons_drop,h,b,n,kc,c,f,g,k]
def V7(s:Sn)(h:gV s.2):TT.lim 31 [sn s]=some [sn s]:=by have k:TT.lim 32 [.l (s.2.map row),.zq s.2.length,.zq 0,.zu s.1,.l []]=_:=ajl s.2 s.1 h s.2.length 0 [] ah rfl;rw[bf,dD]at k;have d:=h.len;have b:(32:Int)*s.2.length<=281474976710656/\(s.2.length:Int)<=1152921504606846976:=ah;have a:(GV.g [.l [],.zu 0]).fQ 2=true:=rfl;have c:GV.g [.zu s.1,.l (s.2.map row)]=sn s:=rfl;refine aQ ?_;simp[b,a,k,c]
structure Kp(k:List Sn):Prop where
 len:k.length<=8
 tb:∀s∈k,Tb s.2
 pos:∀s∈k,0<s.1/\s.1<18446744073709551616
 rise:k.Pairwise λa b=>a.1<b.1/\sD b.2 a.2=true
def Kp.nil:Kp []:=⟨aX,aA,aA,List.Pairwise.nil⟩
def atA(v b:GV):TT.lim 30 [v,.l [],b]=some [.zq 0,.zu 0,.l [],.b false]:=by refine aB ?_;simp
def atz(v b:GV)(k:List Sn)(m:Nat)(x:Sn)(i:k.length=m+1)(j:m<=1000)(d:k[m]? =some x)(e:gV x.2):
 TT.lim 30 [v,.l (k.map sn),b]=some [.zq 0,.zu x.1,.l (x.2.map row),.b true]:=by
 have kc:=V7 x e;have f:=bD ((m:Int));have g:((k.length:Nat):Int)=(m:Int)+1:=ah;have a:¬((m:Int)+1=0):=ah;have c:(m:Int)<(m:Int)+1:=ah;have h:GV.g [.zu x.1,.l (x.2.map row)]=sn x:=rfl;refine aB ?_;simp[g,a,f,d,kc,h,c]
def jK(e:Int)(k:List Sn):QR:=k.findIdx? λs=>decide (s.1=e)
def ql:QR->List GV
 |some j=>[.zq 0,.zq (j:Int)]
 |none=>[.zq 1]
def Uf{e:Int}{k:List Sn}{j:Nat}(h:jK e k=some j):∃x,k[j]? =some x/\x.1=e/\j<k.length:=by unfold jK at h;obtain⟨a,b,-⟩:=List.findIdx?_eq_some_iff_getElem.1 h;exact⟨k[j],bT a,by simpa using b,a⟩
def Dw(e:Int)(k:List Sn)(b:Int):Bool×List Sn×Int:=if e<=b then(false,k,b)else match jK e k with
 |none=>(false,k,b)
 |some i=>(true,k.drop i,e)
def last_at{k:List Sn}{l:Sn}(h:k.getLast? =some l):∃m,k.length=m+1/\k[m]? =some l/\l∈k:=by
 cases a:k with
 |nil=>subst a;simp at h
 |cons y r=>
  refine⟨r.length,aA,?_,?_⟩
  ·rw[<-a,<-h,List.getLast?_eq_getElem?,a];simp
  ·rw[<-a];exact adi h
def last_none{k:List Sn}(h:k.getLast? =none):k=[]:=List.getLast?_eq_none_iff.1 h
abbrev Ms:=(Int×Int×Int×List Row)×Int
def full(l:Sn):Ms:=((5,l.1,0,l.2),0)
def nY(v:Int)(k:List Sn)(b:Int):Ms:=match k.getLast? with
 |none=>((0,0,0,[]),24)
 |some l=>if l.1=b then((0,0,0,[]),24)else match jK b k with
  |none=>full l
  |some i=>if 2<=v then match k[i]? with
    |none=>full l
    |some s=>if(oZ s l).2≠0 then((0,0,0,[]),(oZ s l).2)else((6,(oZ s l).1.2.1,(oZ s l).1.1,(oZ s l).1.2.2),0)
   else full l
def Gp(r:Ms):Q1:=[.zq 0,.zq r.1.1,.zu r.1.2.1,.zu r.1.2.2.1,.l (r.1.2.2.2.map row),.zq r.2]
def Kp.drop{k:List Sn}(a:Kp k)(i:Nat):Kp (k.drop i):=
 ⟨by have:=a.len;rw[fF];omega,λs b=>a.tb s (NZ b),λs b=>a.pos s (NZ b),a.rise.sublist (ac8 i k)⟩
def adJ{e:Int}{k:List Sn}{b:Int}(a:Kp k):Kp (Dw e k b).2.1:=by
 unfold Dw;split
 ·exact a
 split
 ·exact a
 ·exact a.drop _
def UD{g:GV}(h:(bW.int .u8).has g):∃n,g=.i .u8 n/\0<=n/\n<256:=by simp only[bW.has]at h;obtain⟨n,rfl,a,b⟩:=h;exact⟨n,rfl,by simpa[IntKind.min,IntKind.signed]using a,by simp[IntKind.max,IntKind.signed,IntKind.bits]at b;omega⟩
def akR(xs:Q1)(k:List Sn):Prop:=∀s∈k,iK (.zu s.1) xs=some (sn s)
def key_inj{a b:Int}{x:GV}(h1:pJ (.zu a) x=true)(c:pJ (.zu b) x=true):a=b:=by
 cases x<;>simp[pJ]at h1 c
 omega
def agV(a b:Int):pJ (.zu a) (.zu b)=decide (a=b):=by simp only[pJ];rw[xK];simp
def zU(a b:Int)(u:GV):∀xs:Q1,iK (.zu a) (lQ (.zu b) u xs)=if a=b then some u else iK (.zu a) xs
 |[]=>by
  show(if pJ (.zu a) (.zu b)=true then some u else none)=_
  rw[agV];by_cases h:a=b<;>simp[h,iK]
 |.g [x,v]::xs=>by
  have e:=zU a b u xs;show iK (.zu a) (if pJ (.zu b) x=true then .g [.zu b,u]::xs else .g [x,v]::lQ (.zu b) u xs)=if a=b then some u else(if pJ (.zu a) x=true then some v else iK (.zu a) xs)
  cases c:pJ (.zu b) x with
  |true=>
   rw[au rfl];show(if pJ (.zu a) (.zu b)=true then some u else iK (.zu a) xs)=_
   rw[agV];by_cases h:a=b
   ·simp[h]
   ·cases d:pJ (.zu a) x with
    |true=>exact absurd (key_inj d c) h
    |false=>simp[h]
  |false=>
   rw[aj aA];show(if pJ (.zu a) x=true then some v else iK (.zu a) (lQ (.zu b) u xs))=_
   rw[e];cases d:pJ (.zu a) x with
   |true=>
    by_cases h:a=b
    ·subst h;rw[d]at c;cases c
    ·simp[h]
   |false=>simp
 |.g []::xs=>zU a b u xs
 |.g [_]::xs=>zU a b u xs
 |.g (_::_::_::_)::xs=>zU a b u xs
 |.i _ _::xs=>zU a b u xs
 |.b _::xs=>zU a b u xs
 |.s _::xs=>zU a b u xs
 |.l _::xs=>zU a b u xs
structure Lead(xs:Q1)(k:List Sn)(b:Int):Prop where
 kp:Kp k
 map:akR xs k
 base:b=0\/∃s∈k,s.1=b
def SA(kind epoch base:Int)(t:List Row):aW:={kind:=kind,id:=0,min:=0,max:=0,chosen:=0,flags:=0,cost:=0,priority:=0,deadline:=0,retry:=0,epoch:=epoch,base:=base,digest:=0,lag:=0,code:=0,want:=0,remaining:=0,allowed:=false,name:=[],region:=[],note:=[],d:=[],t:=t}
def alv{b a base:Int}{t:List Row}(h1: -9223372036854775808<=b/\b<=9223372036854775807)(c:0<=a/\a<18446744073709551616)(d:0<=base/\base<18446744073709551616)(e:Rows t):tX (SA b a base t):=by refine⟨h1,?_,?_,?_,?_,?_,?_,?_,?_,?_,c,d,?_,?_,?_,?_,?_,?_,?_,?_,?_,e⟩<;>simp[SA,tZ]
def atr{k:List Sn}{b:Int}(f:Kp k){l s:Sn}{i:Nat}(a:k.getLast? =some l)(j:l.1≠b)(w:jK b k=some i)(n:k[i]? =some s):(oZ s l).2=0/\gV (oZ s l).1.2.2:=by
 obtain⟨y,d,o,hi⟩:=Uf w;rw[n]at d;injection d with d
 subst d;have e:=adi a;have g:=rX n;obtain⟨m,x,p,-⟩:=last_at a;have h:m<k.length:=ah;have u:k[m]=l:=by have:=bT h;rw[p]at this;injection this with this;exact this.symm
 have q:k[i]=s:=by have:=bT hi;rw[n]at this;injection this with this;exact this.symm
 have r:i<m:=by
  rcases zM i m with c|c
  ·exact c
  ·have:i=m:=ah;subst this;rw[u]at q;subst q;exact absurd o j
 have t:=adn.1 f.rise i m hi h r;rw[u,q]at t;have v:(oZ s l).2=0:=by rw[apM (f.tb s g).ok (f.tb l e).ok t.1 t.2]
 exact⟨v,(als (f.tb s g).good (f.tb l e).good v).2.2⟩
def auU{v:Int}{k:List Sn}{b:Int}(e:Kp k):(-9223372036854775808<=(nY v k b).1.1/\(nY v k b).1.1<=9223372036854775807)/\(0<=(nY v k b).1.2.1/\(nY v k b).1.2.1<18446744073709551616)/\(0<=(nY v k b).1.2.2.1/\(nY v k b).1.2.2.1<18446744073709551616)/\gV (nY v k b).1.2.2.2:=by
 have zero:∀c:Int,(-9223372036854775808<=((((0,0,0,[]),c):Ms)).1.1/\((((0,0,0,[]),c):Ms)).1.1<=9223372036854775807)/\(0<=((((0,0,0,[]),c):Ms)).1.2.1/\((((0,0,0,[]),c):Ms)).1.2.1<18446744073709551616)/\(0<=((((0,0,0,[]),c):Ms)).1.2.2.1/\((((0,0,0,[]),c):Ms)).1.2.2.1<18446744073709551616)/\gV ((((0,0,0,[]),c):Ms)).1.2.2.2:=λc=>⟨aA,aA,aA,GX.good⟩
 unfold nY;cases h:k.getLast? with
 |none=>exact zero 24
 |some l=>
  have d:=adi h;have r:=e.pos l d
  have a:(-9223372036854775808<=(full l).1.1/\(full l).1.1<=9223372036854775807)/\(0<=(full l).1.2.1/\(full l).1.2.1<18446744073709551616)/\(0<=(full l).1.2.2.1/\(full l).1.2.2.1<18446744073709551616)/\gV (full l).1.2.2.2:=
   ⟨by simp[full],⟨by simp only[full];omega,by simp only[full];omega⟩,by simp[full],(e.tb l d).good⟩
  simp only;by_cases f:l.1=b
  ·rw[au f];exact zero 24
  rw[aj f];cases j:jK b k with
  |none=>exact a
  |some i=>
   obtain⟨s,g,-,hi⟩:=Uf j;obtain⟨m,p⟩:=atr e h f j g;simp only[g];by_cases n:2<=v
   ·rw[au n,aj (by simp[m])];have o:=(ae4 m).2.2.2.2;have q:=e.pos s (rX g);refine⟨aA,?_,?_,p⟩
    ·simp only[o];omega
    ·simp only[o];omega
   ·rw[aj n];exact a
abbrev An:=Int×Int×Int×Int
def og(c v kd a d:Int)(t:List Row)(b:Bool)(h:Sn):An×Int×Bool×Sn:=
 if c≠0 then((0,0,0,0),c,b,h)
 else if kd=5 then(if b=true/\a<=h.1 then((7,h.1,0,0),20,b,h)else((7,a,0,0),0,true,(a,t)))
 else if kd=6 then(if b=true/\a<=h.1 then((7,h.1,0,0),20,b,h)
  else if(oG h (d,a,t)).2≠0 then((8,a,IntKind.u64.wrap (oG h (d,a,t)).2,if 2<=v then h.1 else 0),(oG h (d,a,t)).2,b,h)
  else((7,(oG h (d,a,t)).1.1,0,0),0,true,(oG h (d,a,t)).1))
 else((0,0,0,0),15,b,h)
def xH(r:An×Int×Bool×Sn):Q1:=[.zq 0,.zq r.1.1,.zu r.1.2.1,.zu r.1.2.2.1,.zu r.1.2.2.2,.zq r.2.1,.b r.2.2.1,.zu r.2.2.2.1,.l (r.2.2.2.2.map row)]
set_option maxHeartbeats 2000000 in
def aBg(b:aW)(g:List aK)(v:Int)(i:Bool)(h:Sn)(x:tX b)(t:gV b.t)(u:dX g)(o:g.length<=1000000)(y:gV h.2):
 TT.lim 171 ((iH b (aI g)).cells++[.zq v,.b i,.zu h.1,.l (h.2.map row)])=some (xH (og (je b g v) v b.kind b.epoch b.base b.t i h)):=by
 have d:=aak b g v x t.few u o;have p:=V7 (b.epoch,b.t) t;have c:=alm h (b.base,b.epoch,b.t) y t;have w:GV.g [.zu b.epoch,.l (b.t.map row)]=sn (b.epoch,b.t):=rfl;have m:GV.g [.zu h.1,.l (h.2.map row)]=sn h:=rfl;have n:GV.g [.zu b.base,.zu b.epoch,.l (b.t.map row)]=dl (b.base,b.epoch,b.t):=rfl;rw[dS];simp only[bI,bf];unfold og;generalize oG h (b.base,b.epoch,b.t)=A at *;obtain⟨⟨B,D⟩,z⟩:=A;generalize je b g v=C,aI g=R at *;by_cases r:C=0;rotate_left
 ·rw[au r];refine aB ?_;simp -implicitDefEqProofs[kM,d,r,xH]
 rw[aj (by simpa using r)];subst r;by_cases j:b.kind=5
 ·rw[au j];have f:(b.kind=5)=True:=eq_true j;clear j;cases i with
  |false=>refine aB ?_;simp -implicitDefEqProofs[kM,d,f,xH,w,p]
  |true=>
   by_cases a:b.epoch<=h.1
   ·refine aB ?_;simp -implicitDefEqProofs[kM,d,f,xH,a]
   ·refine aB ?_;simp -implicitDefEqProofs[kM,d,f,xH,a,w,p]
 rw[aj j];by_cases q:b.kind=6;rotate_left
 ·rw[aj q];refine aB ?_;simp -implicitDefEqProofs[kM,d,j,q,xH]
 rw[au q];have f:(b.kind=5)=False:=eq_false j;have k:(b.kind=6)=True:=eq_true q;clear j q;by_cases a:i=true/\b.epoch<=h.1
 ·rw[au a];obtain⟨rfl,a⟩:=a;refine aB ?_;simp -implicitDefEqProofs[kM,d,f,k,xH,a]
 rw[aj a];by_cases l:z=0
 ·rw[aj (by simpa using l)];subst l;cases i with
  |false=>refine aB ?_;simp -implicitDefEqProofs[kM,d,f,k,xH,m,n,c]
  |true=>have a:¬b.epoch<=h.1:=λe=>a ⟨rfl,e⟩;refine aB ?_;simp -implicitDefEqProofs[kM,d,f,k,xH,a,m,n,c]
 ·rw[au l];by_cases s:2<=v
  ·cases i with
   |false=>refine aB ?_;simp -implicitDefEqProofs[kM,d,f,k,xH,m,n,c,l,s]
   |true=>have a:¬b.epoch<=h.1:=λe=>a ⟨rfl,e⟩;refine aB ?_;simp -implicitDefEqProofs[kM,d,f,k,xH,a,m,n,c,l,s]
  ·cases i with
   |false=>refine aB ?_;simp -implicitDefEqProofs[kM,d,f,k,xH,m,n,c,l,s]
   |true=>have a:¬b.epoch<=h.1:=λe=>a ⟨rfl,e⟩;refine aB ?_;simp -implicitDefEqProofs[kM,d,f,k,xH,a,m,n,c,l,s]
abbrev Tm:=Int×Int×Int×List Row
def Q9(xs:Q1)(m:Tm):Prop:=
 (m.1=5/\Tb m.2.2.2/\(0<m.2.1/\m.2.1<18446744073709551616)/\m.2.2.1=0/\iK (.zu m.2.1) xs=some (sn (m.2.1,m.2.2.2)))\/
 (m.1=6/\Tb m.2.2.2/\(0<m.2.2.1/\m.2.2.1<m.2.1/\m.2.1<18446744073709551616)/\∃s l:Sn,iK (.zu m.2.2.1) xs=some (sn s)/\iK (.zu m.2.1) xs=some (sn l)/\l.1=m.2.1/\s.1=m.2.2.1/\Tb l.2/\oG s (m.2.2.1,m.2.1,m.2.2.2)=(l,0))
structure Di(xs:Q1)(told:List Tm)(back:List An)(k:List Sn)(b:Int)(sm:Bool)(h:Sn):Prop where
 lead:Lead xs k b
 keys:∀e g,iK (.zu e) xs=some g->∃l,k.getLast? =some l/\e<=l.1
 told:∀m∈told,Q9 xs m
 back:∀a∈back,a.1=7->sm=true/\a.2.1<=h.1
 has:(sm=true/\iK (.zu h.1) xs=some (sn h)/\Tb h.2)\/(sm=false/\h=zS)
 base:b<=0\/(sm=true/\b<=h.1)
 zero:iK (.zu 0) xs=none
def Di.tb{xs:Q1}{told:List Tm}{back:List An}{k:List Sn}{b:Int}{c:Bool}{h:Sn}(f:Di xs told back k b c h):Tb h.2:=by
 rcases f.has with⟨-,-,a⟩|⟨-,a⟩
 ·exact a
 ·rw[a];exact GX
def Di.getD{xs:Q1}{told:List Tm}{back:List An}{k:List Sn}{b:Int}{a:Bool}{h:Sn}(f:Di xs told back k b a h):(iK (.zu h.1) xs).getD (.g [.zu 0,.l []])=sn h:=by
 rcases f.has with⟨-,q,-⟩|⟨-,q⟩
 ·rw[q];rfl
 ·rw[q];show(iK (.zu 0) xs).getD _=_
  rw[f.zero];rfl
def Di.no{xs:Q1}{told:List Tm}{back:List An}{k:List Sn}{b:Int}{a:Bool}{h:Sn}(f:Di xs told back k b a h)(e:a=false):h=zS:=by
 rcases f.has with⟨q,-⟩|⟨-,q⟩
 ·rw[q]at e;cases e
 ·exact q
def ai2(a:List fP):Na a []=0:=by
 have h:jT 0 0 []=0:=by unfold jT;rfl
 unfold Na;rw[aj (by rw[h];simp),aj aA]
def jo(a:An):aW:={kind:=a.1,id:=0,min:=0,max:=0,chosen:=0,flags:=0,cost:=0,priority:=0,deadline:=0,retry:=0,epoch:=a.2.1,base:=0,digest:=0,lag:=0,code:=a.2.2.1,want:=a.2.2.2,remaining:=0,allowed:=false,name:=[],region:=[],note:=[],d:=[],t:=[]}
def X3{a:An}(h1: -9223372036854775808<=a.1/\a.1<=9223372036854775807)(b:0<=a.2.1/\a.2.1<18446744073709551616)(c:0<=a.2.2.1/\a.2.2.1<18446744073709551616)(d:0<=a.2.2.2/\a.2.2.2<18446744073709551616):tX (jo a):=by refine⟨h1,?_,?_,?_,?_,?_,?_,?_,?_,?_,b,?_,?_,?_,c,d,?_,?_,?_,?_,?_,?_⟩<;>simp[jo,tZ,Rows]
def au1(V e:Int)(a:V=1\/V=2\/V=3):(iM.all λn=>BN (bU 7 V) n ||uQ (jo (7,e,0,0)) n)=true:=by rcases a with rfl|rfl|rfl<;>rfl
def au5(e c:Int):(iM.all λn=>BN (bU 8 1) n ||uQ (jo (8,e,c,0)) n)=true:=rfl
def ahT(V e c w:Int)(a:V=2\/V=3):(iM.all λn=>BN (bU 8 V) n ||uQ (jo (8,e,c,w)) n)=true:=by rcases a with rfl|rfl<;>rfl
def auf(V e:Int)(a:V=1\/V=2\/V=3):qC (jo (7,e,0,0)) (bU 7 V)=0:=by rcases a with rfl|rfl|rfl<;>rfl
def auh(V e c w:Int)(f:V=1\/V=2\/V=3):qC (jo (8,e,c,w)) (bU 8 V)=0:=by
 have g:pX [] 0 256=0:=rfl;have a:BZ (jo (8,e,c,w)) Ar=0:=rfl;have b:BZ (jo (8,e,c,w)) Aq=0:=rfl;have d:BZ (jo (8,e,c,w)) Cc=0:=rfl;have h:BZ (jo (8,e,c,w)) Eh=pX [] 0 256:=rfl;have i:bU 8 1=[⟨1,0,1,Ar⟩,⟨2,0,1,Aq⟩]:=rfl;have j:bU 8 2=[⟨1,0,1,Ar⟩,⟨2,0,1,Aq⟩,⟨3,0,2,Cc⟩]:=rfl;have k:bU 8 3=[⟨1,0,1,Ar⟩,⟨2,0,1,Aq⟩,⟨3,0,2,Cc⟩,⟨4,3,3,Eh⟩]:=rfl;rcases f with rfl|rfl|rfl
 ·rw[i];simp only[qC,a,b,if_true]
 ·rw[j];simp only[qC,a,b,d,if_true]
 ·rw[k];simp only[qC,a,b,d,h,g,if_true]
def Tq(e:Int){V:Int}(h1:1<=V)(g:V<=3):je (jo (7,e,0,0)) [] V=0:=by
 have a:V=1\/V=2\/V=3:=ah;unfold je;have b:bU (jo (7,e,0,0)).kind V≠[]:=(by rcases a with rfl|rfl|rfl<;>decide:bU 7 V≠[])
 have c:(iM.all λn=>BN (bU (jo (7,e,0,0)).kind V) n ||uQ (jo (7,e,0,0)) n)=true:=au1 V e a;have d:qC (jo (7,e,0,0)) (bU (jo (7,e,0,0)).kind V)=0:=auf V e a;have f:Ie (jo (7,e,0,0))=0:=rfl;rw[eX,eX,aj b,aj (by rw[c];simp),aj (by rw[d];simp),aj (by rw[f];simp)];exact ai2 _
def ame(e c w:Int){V:Int}(h1:1<=V)(i:V<=3)(b:¬2<=V->w=0):je (jo (8,e,c,w)) [] V=0:=by
 have a:V=1\/V=2\/V=3:=ah;unfold je;have d:bU (jo (8,e,c,w)).kind V≠[]:=(by rcases a with rfl|rfl|rfl<;>decide:bU 8 V≠[])
 have f:(iM.all λn=>BN (bU (jo (8,e,c,w)).kind V) n ||uQ (jo (8,e,c,w)) n)=true:=by
  rcases a with rfl|rfl|rfl
  ·rw[b ah];exact au5 e c
  ·exact ahT 2 e c w (.inl rfl)
  ·exact ahT 3 e c w (.inr rfl)
 have g:qC (jo (8,e,c,w)) (bU (jo (8,e,c,w)).kind V)=0:=auh V e c w a;have h:Ie (jo (8,e,c,w))=0:=rfl;rw[eX,eX,aj d,aj (by rw[f];simp),aj (by rw[g];simp),aj (by rw[h];simp)];exact ai2 _
structure Rec(v:Int)(sm:Bool)(h:Sn):Prop where
 lo:1<=v
 hi:v<=3
 good:gV h.2
 ep:0<=h.1/\h.1<18446744073709551616
 no:sm=false->h=zS
def abD{v:Int}{d:Bool}{h:Sn}(r:Rec v d h)(c kd a b:Int)(t:List Row)(j:gV t)(f:0<=a/\a<18446744073709551616):
 Rec v (og c v kd a b t d h).2.2.1 (og c v kd a b t d h).2.2.2/\tX (jo (og c v kd a b t d h).1)/\((og c v kd a b t d h).1.1=0\/((og c v kd a b t d h).1.1≠0/\je (jo (og c v kd a b t d h).1) [] v=0)):=by
 have r1:=r.lo;have r2:=r.hi;have z:tX (jo (0,0,0,0)):=X3 aX aX aX aX;have g:∀e:Int,0<=e/\e<18446744073709551616->tX (jo (7,e,0,0)):=λe h=>X3 aA h aA aA;unfold og;split
 ·exact⟨r,z,.inl rfl⟩
 split
 ·split
  ·exact⟨r,g _ r.ep,.inr ⟨aA,Tq _ r1 r2⟩⟩
  ·exact⟨⟨r1,r2,j,f,λe=>by cases e⟩,g _ f,.inr ⟨aA,Tq _ r1 r2⟩⟩
 split
 ·split
  ·exact⟨r,g _ r.ep,.inr ⟨aA,Tq _ r1 r2⟩⟩
  split
  ·refine⟨r,X3 aA f (wrap_u64 _) ?_,.inr ⟨aA,ame _ _ _ r1 r2 λl=>aj l⟩⟩;simp only;split
   ·exact r.ep
   ·simp
  ·next i=>
   have i:(oG h (b,a,t)).2=0:=by simpa using i
   have m:=(adT i).2.2.2.2;have n:=(alo r.good j i).1.good;have k:0<=(oG h (b,a,t)).1.1/\(oG h (b,a,t)).1.1<18446744073709551616:=by rw[m];exact f
   exact⟨⟨r1,r2,n,k,λe=>by cases e⟩,g _ k,.inr ⟨aA,Tq _ r1 r2⟩⟩
 ·exact⟨r,z,.inl rfl⟩
