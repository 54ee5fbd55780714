/- What the trees compute: plain laws. -/
import Derived.Test.YtogfeeabnklegaaGreatDoorKBe2
set_option linter.all false
namespace Go.Proofs.YtogfeeabnklegaaGreatDoor
open Go Go.aP
set_option maxRecDepth 100000
namespace B
abbrev It:=Int×Int×Q0
def dD(x:It):GV:=.g [.zu x.1,.zu x.2.1,.s x.2.2]
@[simp] theorem awH(x:It):(dD x).cells=[.zu x.1,.zu x.2.1,.s x.2.2]:=rfl
def lg(a b:It):Bool:=if a.1=b.1 then decide (a.2.1<b.2.1)else decide (a.1<b.1)
def leI(a b:It):Prop:=lg b a=false
def Xj(a b:It):leI a b↔a.1<b.1\/(a.1=b.1/\a.2.1<=b.2.1):=by
 unfold leI lg;split
 ·next h=>simp;omega
 ·next h=>simp;omega
def ai9(a:It):leI a a:=(Xj a a).2 (.inr ⟨rfl,gq _⟩)
def abL{a b c:It}(h1:leI a b)(d:leI b c):leI a c:=by rw[Xj]at *;omega
def RQ{a b:It}(h:lg a b=true):leI a b:=by
 rw[Xj];unfold lg at h;split at h
 ·next e=>have:=DX h;omega
 ·next e=>have:=DX h;omega
def aw4{a b:It}(h:leI a b):a.1<=b.1:=by rw[Xj]at h;omega
def dI:It:=(0,0,[])
abbrev at_(h:List It)(i:Nat):It:=h.getD i dI
def jk(h:List It)(i j:Nat):List It:=(h.set i (at_ h j)).set j (at_ h i)
def Gn(h:List It)(i j:Nat):(jk h i j).length=h.length:=by simp[jk]
def ZQ(h:List It){i j:Nat}(hi:i<h.length)(f:j<h.length)(k:Nat):at_ (jk h i j) k=if k=j then at_ h i else if k=i then at_ h j else at_ h k:=by
 unfold jk at_;simp only[Ak,aeR,Jg];by_cases a:k=j
 ·subst a;simp[f]
 ·have b:¬j=k:=λe=>a e.symm;rw[aj b,aj a];by_cases c:k=i
  ·subst c;simp[hi]
  ·have d:¬i=k:=λe=>c e.symm;rw[aj d,aj c]
def swap_perm(h:List It){i j:Nat}(hi:i<h.length)(a:j<h.length):(jk h i j).Perm h:=by have:=Array.swap_perm (xs:=h.toArray) (i:=i) (j:=j) (by simpa using hi) (by simpa using a);have b:=this.toList;simp only[Array.toList_swap]at b;unfold jk at_;simpa[Ak,hi,a]using b
def par(k:Nat):Nat:=(k-1)/2
def Heap(h:List It)(n:Nat):Prop:=∀k,0<k->k<n->leI (at_ h (par k)) (at_ h k)
def Ag:Nat->List It->Nat->List It
 |0,h,_=>h
 |f+1,h,j=>if par j=j\/lg (at_ h j) (at_ h (par j))=false then h else Ag f (jk h (par j) j) (par j)
structure afc(h:List It)(n j:Nat):Prop where
 jn:j<n
 heap:∀k,0<k->k<n->k≠j->leI (at_ h (par k)) (at_ h k)
 kids:∀k,0<k->k<n->par k=j->0<j->leI (at_ h (par j)) (at_ h k)
def amS:∀(f:Nat)(h:List It)(j n:Nat),j<f->n=h.length->afc h n j->Heap (Ag f h j) n/\(Ag f h j).Perm h
 |0,h,j,n,v,_,_=>ah
 |f+1,h,j,n,v,w,d=>by
  unfold Ag;split
  ·next b=>
   refine⟨λk h0 g=>?_,aeE _⟩;by_cases e:k=j
   ·subst e;rcases b with b|b
    ·unfold par at b;omega
    ·exact b
   ·exact d.heap k h0 g e
  ·next b=>
   rw[not_or]at b;obtain⟨x,m⟩:=b;have m:lg (at_ h j) (at_ h (par j))=true:=by simpa using m
   have y:0<j:=by
    rcases UA j with e|e
    ·subst e;exact absurd rfl x
    ·exact e
   have A:par j<j:=by unfold par;omega
   have z:=d.jn;have a:=ZQ h (i:=par j) (j:=j) ah ah;have o:afc (jk h (par j) j) n (par j):=by
    refine⟨ah,λk h0 g p=>?_,λk h0 g l r=>?_⟩
    ·rw[a,a];by_cases c:k=j
     ·subst c;rw[bU,au rfl,au rfl];exact RQ m
     ·rw[aj c,aj p];by_cases s:par k=j
      ·rw[au s];exact d.kids k h0 g s y
      ·rw[aj s];by_cases t:par k=par j
       ·rw[au t];exact abL (RQ m) (t▸d.heap k h0 g c)
       ·rw[aj t];exact d.heap k h0 g c
    ·rw[a,a];have q:par (par j)<par j:=by unfold par at *;omega
     rw[bU,bU];have u:=d.heap (par j) r ah ah;by_cases c:k=j
     ·subst c;rw[au rfl];exact u
     ·rw[aj c,aj (λe=>by rw[e]at l;omega)];exact abL u (l▸d.heap k h0 g c)
   obtain⟨r1,r2⟩:=amS f (jk h (par j) j) (par j) n ah (by rw[Gn];exact w) o;exact⟨r1,r2.trans (swap_perm h ah ah)⟩
def rV(h:List It)(x:It):List It:=Ag (h.length+1) (h++[x]) h.length
def O4(h:List It)(x:It)(c:Heap h h.length):Heap (rV h x) (h.length+1)/\(rV h x).Perm (h++[x]):=by
 refine amS _ _ _ _ ah aA ⟨ah,λk b d e=>?_,λk b d a _=>?_⟩
 ·have f:k<h.length:=ah;have g:at_ (h++[x]) k=at_ h k:=by simp[at_,pG (ah:k<h.length)]
  have i:at_ (h++[x]) (par k)=at_ h (par k):=by simp[at_,pG (show par k<h.length by unfold par;omega)]
  rw[g,i];exact c k b ah
 ·exfalso;unfold par at a;omega
def kid(h:List It)(i n:Nat):Nat:=if 2*i+2<n/\lg (at_ h (2*i+2)) (at_ h (2*i+1))=true then 2*i+2 else 2*i+1
def oD:Nat->List It->Nat->Nat->List It
 |0,h,_,_=>h
 |f+1,h,i,n=>if n<=2*i+1\/lg (at_ h (kid h i n)) (at_ h i)=false then h else oD f (jk h i (kid h i n)) (kid h i n) n
structure aeu(h:List It)(n i:Nat):Prop where
 heap:∀k,0<k->k<n->par k≠i->leI (at_ h (par k)) (at_ h k)
 kids:∀k,0<k->k<n->par k=i->0<i->leI (at_ h (par i)) (at_ h k)
def aiT{h:List It}{i n:Nat}(h1:2*i+1<n):kid h i n<n/\par (kid h i n)=i/\i<kid h i n/\∀k,0<k->k<n->par k=i->leI (at_ h (kid h i n)) (at_ h k):=by
 unfold kid;have b:∀k,0<k->par k=i->k=2*i+1\/k=2*i+2:=λk c d=>by unfold par at d;omega
 split
 ·next f=>
  refine⟨f.1,by unfold par;omega,ah,λk c d a=>?_⟩;rcases b k c a with rfl|rfl
  ·exact RQ f.2
  ·exact ai9 _
 ·next f=>
  refine⟨h1,by unfold par;omega,ah,λk c d a=>?_⟩;rcases b k c a with rfl|rfl
  ·exact ai9 _
  ·have:¬lg (at_ h (2*i+2)) (at_ h (2*i+1))=true:=λe=>f ⟨d,e⟩;unfold leI;simpa using this
def agS:∀(f:Nat)(h:List It)(i n:Nat),n-i<f->n<=h.length->aeu h n i->Heap (oD f h i n) n/\(oD f h i n).Perm h/\∀k,n<=k->at_ (oD f h i n) k=at_ h k
 |0,h,i,n,v,_,_=>ah
 |f+1,h,i,n,v,w,m=>by
  unfold oD;split
  ·next d=>
   refine⟨λk h0 b=>?_,aeE _,λ_ _=>rfl⟩;by_cases e:par k=i
   ·by_cases o:n<=2*i+1
    ·unfold par at e;omega
    ·have d:=d.resolve_left o;have:=(aiT (h:=h) (i:=i) (n:=n) ah).2.2.2 k h0 b e;rw[e];exact abL d this
   ·exact m.heap k h0 b e
  ·next d=>
   rw[not_or]at d;obtain⟨A,p⟩:=d;have p:lg (at_ h (kid h i n)) (at_ h i)=true:=by simpa using p
   obtain⟨x,q,D,y⟩:=aiT (h:=h) (i:=i) (n:=n) ah;generalize kid h i n=j at *;have a:=ZQ h (i:=i) (j:=j) ah ah;have r:aeu (jk h i j) n j:=by
    refine⟨λk h0 b s=>?_,λk h0 b c z=>?_⟩
    ·rw[a,a];rw[aj s];by_cases t:k=j
     ·subst t;rw[au rfl,q,au rfl];exact RQ p
     ·rw[aj t];by_cases g:par k=i
      ·rw[au g];by_cases l:k=i
       ·unfold par at g;omega
       ·rw[aj l];exact y k h0 b g
      ·rw[aj g];by_cases l:k=i
       ·rw[au l];subst l;exact m.kids j ah x q h0
       ·rw[aj l];exact m.heap k h0 b g
    ·rw[a,a];have u:par j=i:=q;rw[bU,au u];rw[aj (by unfold par at c;omega),aj (by unfold par at c u;omega)];exact c▸m.heap k h0 b ah
   obtain⟨r1,r2,r3⟩:=agS f (jk h i j) j n ah (by rw[Gn];exact w) r;refine⟨r1,r2.trans (swap_perm h ah ah),λk b=>?_⟩;rw[r3 k b,a,bU,bU]
def aiP{h:List It}{k:Nat}(a:k<h.length):(h.map dD)[k]? =some (dD (at_ h k)):=by rw[jy,bZ a];simp[at_,a]
def aAh(x:It)(a b:Int)(c:Q0):(dD x).put 0 [.zu a,.zu b,.s c]=some (dD (a,b,c)):=rfl
def aDE(h:List It)(k:Nat)(x:It):(h.map dD).set k (dD x)=(h.set k x).map dD:=by rw[Zl]
def awI(x:It):dD (x.1,x.2.1,x.2.2)=dD x:=rfl
def BX{h:List It}{k:Nat}(a:k<h.length):Fj (some (.l (h.map dD))) (some (.zq (k:Int)))=some (.zq (k:Int)):=by rw[jZ,au ⟨ah,by rw[gB];omega⟩]
def Dq{h:List It}{k:Nat}(a:k<h.length):at2 3 (some (.l (h.map dD))) (some (.zq (k:Int)))=some (dD (at_ h k)):=by rw[dJ,lV,(ah:((k:Int)).toNat=k),aiP a];rfl
def L6{h:List It}{k:Nat}(a:k<h.length)(x:It):Gs 3 0 (some (.l (h.map dD))) (some (.zq (k:Int))) (some [.zu x.1,.zu x.2.1,.s x.2.2])=some (.l ((h.set k x).map dD)):=by rw[vX,au ⟨ah,rfl⟩,(ah:((k:Int)).toNat=k),aiP a];simp only[BD,awH,iD,lK,if_true,aAh,awI,iJ,aDE]
def ay8(j:Nat)(c:j<=1000000):IntKind.i64.wrap ((IntKind.i64.wrap ((j:Int)-1)).tdiv 2)=(par j:Nat)/\IntKind.i64.wrap ((j:Int)-1)=(j:Int)-1:=by
 have a:=bH ((j:Int)-1);have b:((j:Int)-1).tdiv 2=(par j:Nat):=by
  rcases UA j with e|e
  ·subst e;rfl
  ·have:(j:Int)-1=((j-1:Nat):Int):=ah;rw[this];exact(Int.ofNat_tdiv (j-1) 2).symm
 refine⟨?_,a⟩;rw[a,b];exact wrap64 ah (by unfold par;omega)
def amT:∀(f:Nat)(h:List It)(j:Nat)(c:GV),j<f->j<h.length->h.length<=1000000->
 TT.lim 166 [.zq (j:Int),.l (h.map dD),c]=some [.zq 0,.l ((Ag f h j).map dD)]
 |0,h,j,c,z,_,_=>ah
 |f+1,h,j,c,z,r,A=>by
  obtain⟨w1,a⟩:=ay8 j ah;rw[a]at w1;have k:par j<h.length:=by unfold par;omega
  have l:=Dq r;have m:=Dq k;have n:=BX r;have o:=BX k;have v:=L6 k (at_ h j);have g:j<(h.set (par j) (at_ h j)).length:=by rw[Jg];exact r
  have s:=L6 g (at_ h (par j));have w:=BX g;have p:=λt:par j<f=>amT f (jk h (par j) j) (par j) c t (by rw[Gn];exact k) (by rw[Gn];exact A);have D:(h.set (par j) (at_ h j)).set j (at_ h (par j))=jk h (par j) j:=rfl;rw[D]at s;have E:par j<=j:=by unfold par;omega
  by_cases e:par j=j
  ·have u:Ag (f+1) h j=h:=au (.inl e);rw[u];have b:((par j:Nat):Int)=(j:Int):=ah;refine aB ?_;simp[w1,a,b]
  ·have b:¬((par j:Nat):Int)=(j:Int):=ah;have p:=p ah;have u:Ag (f+1) h j=if lg (at_ h j) (at_ h (par j))=false then h else Ag f (jk h (par j) j) (par j):=by
    show(if par j=j\/lg (at_ h j) (at_ h (par j))=false then h else Ag f (jk h (par j) j) (par j))=_
    by_cases q:lg (at_ h j) (at_ h (par j))=false
    ·rw[au (.inr q),au q]
    ·rw[aj (λh=>h.elim e q),aj q]
   rw[u];generalize at_ h j=x,at_ h (par j)=y,jk h (par j) j=F at *;generalize h.set (par j) x=G,((par j:Nat):Int)=H at *;refine aB ?_;unfold lg;by_cases d:x.1=y.1
   ·have d:=eq_true d;by_cases i:x.2.1<y.2.1
    ·simp[-jZ,-dJ,-vX,w1,a,b,l,m,n,o,w,v,s,d,i,p]
    ·simp[-jZ,-dJ,-vX,w1,a,b,l,m,n,o,d,i]
   ·by_cases i:x.1<y.1
    ·simp[-jZ,-dJ,-vX,w1,a,b,l,m,n,o,w,v,s,d,i,p]
    ·simp[-jZ,-dJ,-vX,w1,a,b,l,m,n,o,d,i]
def aFm(h:List It)(j:Nat)(c:GV)(a:j<h.length)(b:h.length<=1000000):TT.lim 165 [.zq (j:Int),.l (h.map dD),c]=some [.zq 0,.l ((Ag (j+1) h j).map dD)]:=by have d:=amT (j+1) h j c ah a b;refine aB ?_;simp[d]
def DR{a b:It}{v:Bool}(h:lg a b=v):((a.1=b.1)=True/\(a.2.1<b.2.1)=(v=true))\/((a.1=b.1)=False/\(a.1<b.1)=(v=true)):=by
 unfold lg at h;by_cases e:a.1=b.1
 ·rw[au e]at h;refine .inl ⟨eq_true e,?_⟩;rw[<-h,decide_eq_true_eq]
 ·rw[aj e]at h;refine .inr ⟨eq_false e,?_⟩;rw[<-h,decide_eq_true_eq]
def agT:∀(f:Nat)(h:List It)(i n:Nat)(a0 c:GV),n-i<f->n<=h.length->h.length<=1000000->i<=1000000->
 ∃o:Nat,TT.lim 177 [a0,.zq (n:Int),.zq (i:Int),.l (h.map dD),c]=some [.zq 0,.zq (o:Int),.l ((oD f h i n).map dD)]
 |0,h,i,n,a0,c,U,_,_,_=>ah
 |f+1,h,i,n,a0,c,U,V,W,hi=>by
  have L:oD (f+1) h i n=if n<=2*i+1\/lg (at_ h (kid h i n)) (at_ h i)=false then h else oD f (jk h i (kid h i n)) (kid h i n) n:=rfl
  have w1:=bH (2*(i:Int));have v:=bH (2*(i:Int)+1);have x:=bH (2*(i:Int)+1+1);by_cases M:n<=2*i+1
  ·rw[L,au (.inl M)];have a:(n:Int)<=2*(i:Int)+1:=ah;refine⟨i,jG rfl rfl ?_⟩;simp[w1,v,a]
  have a:¬(n:Int)<=2*(i:Int)+1:=ah;have k:¬(2*(i:Int)+1<0):=ah;have E:2*i+1<h.length:=ah;have w:i<h.length:=ah;have N:2*(i:Int)+1=((2*i+1:Nat):Int):=ah;have Q:2*(i:Int)+1+1=((2*i+2:Nat):Int):=ah;have p:=Dq E;have q:=BX E;have z:=Dq w;have A:=BX w
  have step:∀j:Nat,j<n->i<j->(∃o:Nat,TT.lim 177 [a0,.zq (n:Int),.zq (j:Int),.l ((jk h i j).map dD),c]=some [.zq 0,.zq (o:Int),.l ((oD f (jk h i j) j n).map dD)])/\
   Gs 3 0 (some (.l (h.map dD))) (some (.zq (i:Int))) (some [.zu (at_ h j).1,.zu (at_ h j).2.1,.s (at_ h j).2.2])=some (.l ((h.set i (at_ h j)).map dD))/\
   Gs 3 0 (some (.l ((h.set i (at_ h j)).map dD))) (some (.zq (j:Int))) (some [.zu (at_ h i).1,.zu (at_ h i).2.1,.s (at_ h i).2.2])=some (.l ((jk h i j).map dD)):=by
   intro j Y X;refine⟨agT f (jk h i j) j n a0 c ah (by rw[Gn];exact V) (by rw[Gn];exact W) ah,L6 w (at_ h j),?_⟩;exact L6 (h:=h.set i (at_ h j)) (by rw[Jg];omega) (at_ h i)
  by_cases O:2*i+2<n
  ·have g:2*(i:Int)+1+1<(n:Int):=ah;have F:2*i+2<h.length:=ah;have G:=Dq F;have H:=BX F;rw[<-N]at p q;rw[<-Q]at G H;by_cases r:lg (at_ h (2*i+2)) (at_ h (2*i+1))=true
   ·have I:kid h i n=2*i+2:=by unfold kid;rw[au ⟨O,r⟩]
    rw[L,I];obtain⟨⟨o,s⟩,J,t⟩:=step (2*i+2) O ah;rw[<-Q]at s t;generalize at_ h (2*i+2)=P,at_ h (2*i+1)=D,at_ h i=y,oD f (jk h i (2*i+2)) (2*i+2) n=R at *;generalize jk h i (2*i+2)=S,h.set i P=T at *;cases u:lg P y with
    |true=>refine⟨o,?_⟩;rw[aj (λe=>e.elim M aA)];refine aB ?_;rcases DR r with⟨l,m⟩|⟨l,m⟩<;>rcases DR u with⟨b,d⟩|⟨b,d⟩<;>simp[-jZ,-dJ,-vX,w1,v,x,a,k,g,p,G,z,q,H,A,l,m,b,d,J,t,s]
    |false=>refine⟨i,?_⟩;rw[au (.inr rfl)];refine aB ?_;rcases DR r with⟨l,m⟩|⟨l,m⟩<;>rcases DR u with⟨b,d⟩|⟨b,d⟩<;>simp[-jZ,-dJ,-vX,w1,v,x,a,k,g,p,G,z,q,H,A,l,m,b,d]
   ·have I:kid h i n=2*i+1:=by unfold kid;rw[aj (λe=>r e.2)]
    have r:lg (at_ h (2*i+2)) (at_ h (2*i+1))=false:=by simpa using r
    rw[L,I];obtain⟨⟨o,s⟩,J,t⟩:=step (2*i+1) ah ah;rw[<-N]at s t;generalize at_ h (2*i+2)=P,at_ h (2*i+1)=D,at_ h i=y,oD f (jk h i (2*i+1)) (2*i+1) n=R at *;generalize jk h i (2*i+1)=S,h.set i D=T at *;cases u:lg D y with
    |true=>refine⟨o,?_⟩;rw[aj (λe=>e.elim M aA)];refine aB ?_;rcases DR r with⟨l,m⟩|⟨l,m⟩<;>rcases DR u with⟨b,d⟩|⟨b,d⟩<;>simp[-jZ,-dJ,-vX,w1,v,x,a,k,g,p,G,z,q,H,A,l,m,b,d,J,t,s]
    |false=>refine⟨i,?_⟩;rw[au (.inr rfl)];refine aB ?_;rcases DR r with⟨l,m⟩|⟨l,m⟩<;>rcases DR u with⟨b,d⟩|⟨b,d⟩<;>simp[-jZ,-dJ,-vX,w1,v,x,a,k,g,p,G,z,q,H,A,l,m,b,d]
  ·have g:¬2*(i:Int)+1+1<(n:Int):=ah;have I:kid h i n=2*i+1:=by unfold kid;rw[aj (λe=>O e.1)]
   rw[<-N]at p q;rw[L,I];obtain⟨⟨o,s⟩,J,t⟩:=step (2*i+1) ah ah;rw[<-N]at s t;generalize at_ h (2*i+1)=D,at_ h i=y,oD f (jk h i (2*i+1)) (2*i+1) n=R at *;generalize jk h i (2*i+1)=S,h.set i D=T at *;cases u:lg D y with
   |true=>refine⟨o,?_⟩;rw[aj (λe=>e.elim M aA)];refine aB ?_;rcases DR u with⟨b,d⟩|⟨b,d⟩<;>simp[-jZ,-dJ,-vX,w1,v,x,a,k,g,p,z,q,A,b,d,J,t,s]
   |false=>refine⟨i,?_⟩;rw[au (.inr rfl)];refine aB ?_;rcases DR u with⟨b,d⟩|⟨b,d⟩<;>simp[-jZ,-dJ,-vX,w1,v,x,a,k,g,p,z,q,A,b,d]
def nX(h:List It):List It:=(oD (h.length-1+1) (jk h 0 (h.length-1)) 0 (h.length-1)).take (h.length-1)
def aaA:∀(f:Nat)(h:List It)(i n:Nat),(oD f h i n).length=h.length
 |0,h,i,n=>rfl
 |f+1,h,i,n=>by
  unfold oD;split
  ·rfl
  ·rw[aaA,Gn]
def afA{h:List It}{n k:Nat}(a:k<n):at_ (h.take n) k=at_ h k:=by unfold at_;simp[List.getD,oh,a]
def XZ(h:List It)(n:Nat)(m:h.length=n+1)(q:Heap h (n+1)):
 (nX h).length=n/\Heap (nX h) n/\(at_ h 0::nX h).Perm h/\at_ (oD (n+1) (jk h 0 n) 0 n) n=at_ h 0:=by
 have r:(jk h 0 n).length=n+1:=by rw[Gn,m]
 have b:=ZQ h (i:=0) (j:=n) ah ah;have s:=agS (n+1) (jk h 0 n) 0 n ah ah ⟨λk c d o=>by
  have f:par k<k:=by unfold par;omega
  rw[b,b,bU,aj o,bU,bU];exact q k c ah,λk c d o t=>ah⟩
 obtain⟨d1,d2,d3⟩:=s;have a:at_ (oD (n+1) (jk h 0 n) 0 n) n=at_ h 0:=by rw[d3 n ah,b,au rfl]
 have g:(oD (n+1) (jk h 0 n) 0 n).length=n+1:=by rw[aaA,r]
 have l:nX h=(oD (n+1) (jk h 0 n) 0 n).take n:=by unfold nX;rw[m];rfl
 generalize oD (n+1) (jk h 0 n) 0 n=D at *;refine⟨by rw[l,mP,g];omega,?_,?_,a⟩
 ·intro k c d;have f:par k<k:=by unfold par;omega
  rw[l,afA ah,afA d];exact d1 k c d
 ·have e:D.take n++[at_ h 0]=D:=by
   rw[<-a];have:at_ D n=D[n]'(by omega):=by simp[at_,List.getD,bZ (ah:n<D.length)]
   rw[this,List.take_append_getElem (ah:n<D.length),mg ah]
  have p:(at_ h 0::nX h).Perm (D.take n++[at_ h 0]):=by rw[l];exact(anu (l₁:=[at_ h 0]) (l₂:=D.take n))
  rw[e]at p;exact p.trans (d2.trans (swap_perm h ah ah))
def SV(h:List It)(x:It)(a:Heap h h.length):(rV h x).length=h.length+1:=by have:=(O4 h x a).2.length_eq;simpa using this
def dM:Nat->Int->List It->List Q0×List It
 |0,_,h=>([],h)
 |m+1,t,h=>if h=[]\/t<(at_ h 0).1 then([],h)else((at_ h 0).2.2::(dM m t (nX h)).1,(dM m t (nX h)).2)
def VK(t:Int):∀(m:Nat)(h:List It),h.length=m->Heap h h.length->Heap (dM m t h).2 (dM m t h).2.length/\(dM m t h).1.length+(dM m t h).2.length=m
 |0,h,c,d=>by simp only[dM];exact⟨d,by simpa using c⟩
 |m+1,h,c,d=>by
  simp only[dM];split
  ·exact⟨d,by simpa using c⟩
  ·obtain⟨r1,r2,r3,-⟩:=XZ h m c (by rw[<-c];exact d);obtain⟨a,b⟩:=VK t m (nX h) r1 (by rw[r1];exact r2);exact⟨a,by simp only[iD];omega⟩
structure Qk(h L:List It)(n:Int):Prop where
 heap:Heap h h.length
 perm:L.Perm h
 srt:L.Pairwise (λx y=>lg x y=true)
 low:∀x∈L,x.2.1<n
def Qk.len{h L:List It}{n:Int}(s:Qk h L n):h.length=L.length:=s.perm.length_eq.symm
def insL(x:It):List It->List It
 |[]=>[x]
 |y::L=>if y.1<=x.1 then y::insL x L else x::y::L
def WW(x:It):∀L,(insL x L).Perm (L++[x])
 |[]=>aeE _
 |y::L=>by
  unfold insL;split
  ·exact(WW x L).cons y
  ·exact anu (l₁:=[x]) (l₂:=y::L)
def axl{y x:It}(h:y.1<=x.1)(a:y.2.1<x.2.1):lg y x=true:=by
 unfold lg;split
 ·simpa using a
 ·simp;omega
def ajs{y x:It}(h:x.1<y.1):lg x y=true:=by unfold lg;rw[bU];simpa using h
def axk{x y:It}(h:lg x y=true):x.1<=y.1:=aw4 (RQ h)
def aiI(x:It):∀L:List It,L.Pairwise (λa b=>lg a b=true)->(∀y∈L,y.2.1<x.2.1)->(insL x L).Pairwise (λa b=>lg a b=true)
 |[],_,_=>by simp[insL]
 |y::L,e,c=>by
  obtain⟨h1,h⟩:=jA.1 e;unfold insL;split
  ·next f=>
   refine jA.2 ⟨λz d=>?_,aiI x L h λz d=>c z (zC _ d)⟩;rcases jP.1 ((WW x L).mem_iff.1 d)with g|g
   ·exact h1 z g
   ·rw[jW]at g;subst g;exact axl f (c y Us)
  ·next f=>
   refine jA.2 ⟨λz d=>?_,e⟩;rcases bI.1 d with rfl|g
   ·exact ajs ah
   ·exact ajs (by have:=axk (h1 z g);omega)
def Qk.put{h L:List It}{n a:Int}{t:Q0}(s:Qk h L n):Qk (rV h (a,n,t)) (insL (a,n,t) L) (n+1):=by
 have b:=O4 h (a,n,t) s.heap;have c:=SV h (a,n,t) s.heap;refine⟨by rw[c];exact b.1,(WW _ _).trans ((s.perm.append_right _).trans b.2.symm),aiI _ _ s.srt s.low,λx d=>?_⟩;rcases jP.1 ((WW _ _).mem_iff.1 d)with g|g
 ·have:=s.low x g;omega
 ·rw[jW]at g;subst g;show n<n+1
  omega
def wrap_u64(n:Int):0<=IntKind.u64.wrap n/\IntKind.u64.wrap n<18446744073709551616:=by
 have:IntKind.u64.wrap n=n%18446744073709551616:=by simp[IntKind.wrap,IntKind.signed,IntKind.bits]
 rw[this];omega
def ajr{k:List Sn}{i:Nat}(hi:i<=k.length):OA 2 (some (.l (k.map sn))) (some (.zq (i:Int))) (some (.zq (k.length:Int)))=some (.l ((k.drop i).map sn)):=by
 rw[nT,au]
 ·congr 2;rw[zB,zB,mg aA,List.map_drop]
 ·refine⟨ah,ah,aA,?_⟩;rw[List.all_map];exact List.all_eq_true.2 λx _=>rfl
def amd(k:List Sn):(k.map sn).all (GV.gQ 2)=true:=by rw[List.all_map];exact List.all_eq_true.2 λx _=>rfl
def alU(t:List Row)(e:Int)(d:eF t):∀(m i:Nat)(a:List Row),i+m=t.length->a.length=i->
 TT.lim 40 [.l (t.map row),.zq t.length,.zq i,.zu e,.l (a.map row)]=some [.zq 0,.l ((a++t.drop i).map row)]
 |0,i,a,hi,l=>by have h0:t.drop i=[]:=iK;have h:¬((i:Int)<t.length):=ah;refine aB ?_;simp[h,h0]
 |m+1,i,a,hi,l=>by
  have b:i<t.length:=ah;have o:=d.len;have kc:=Hu t[i].1 (EX (d.few _ (iT b)));have c:GV.g [.l (t[i].1.map ent),.zu t[i].2]=row t[i]:=rfl;have f:(row t[i]).gQ 2=true:=rfl;have g:2*(a.length+1)*32<=281474976710656/\a.length+1<=281474976710656:=ah;have h:((i:Int)<t.length):=ah;have n:=bH ((i:Int)+1);have k:TT.lim 40 [.l (t.map row),.zq t.length,.zq ((i:Int)+1),.zu e,.l ((a++[t[i]]).map row)]=_:=alU t e d m (i+1) (a++[t[i]]) ah (by simp;omega);have j:a++t.drop i=a++[t[i]]++t.drop (i+1):=by rw[List.append_assoc,MS,<-iR b]
  rw[j];generalize a++[t[i]]++t.drop (i+1)=R at *;simp only[oK,iU,jH]at k;refine aB ?_;simp[-List.getElem_cons_drop,h,b,n,kc,c,f,g,k]
def Ph(s:Sn)(h:eF s.2):TT.lim 39 [sn s]=some [sn s]:=by have k:TT.lim 40 [.l (s.2.map row),.zq s.2.length,.zq 0,.zu s.1,.l []]=_:=alU s.2 s.1 h s.2.length 0 [] ah rfl;rw[aX,dY]at k;have d:=h.len;have b:(32:Int)*s.2.length<=281474976710656/\(s.2.length:Int)<=1152921504606846976:=ah;have a:(GV.g [.l [],.zu 0]).gQ 2=true:=rfl;have c:GV.g [.zu s.1,.l (s.2.map row)]=sn s:=rfl;refine aW ?_;simp[b,a,k,c]
structure Kp(k:List Sn):Prop where
 len:k.length<=8
 tb:∀s∈k,Tb s.2
 pos:∀s∈k,0<s.1/\s.1<18446744073709551616
 rise:k.Pairwise λa b=>a.1<b.1/\pO b.2 a.2=true
def Kp.nil:Kp []:=⟨aV,aA,aA,List.Pairwise.nil⟩
def ai8(v b:GV):TT.lim 45 [v,.l [],b]=some [.zq 0,.zu 0,.l [],.b false]:=by refine aB ?_;simp
def ai7(v b:GV)(k:List Sn)(m:Nat)(x:Sn)(i:k.length=m+1)(j:m<=1000)(d:k[m]? =some x)(e:eF x.2):
 TT.lim 45 [v,.l (k.map sn),b]=some [.zq 0,.zu x.1,.l (x.2.map row),.b true]:=by
 have kc:=Ph x e;have f:=bH ((m:Int));have g:((k.length:Nat):Int)=(m:Int)+1:=ah;have a:¬((m:Int)+1=0):=ah;have c:(m:Int)<(m:Int)+1:=ah;have h:GV.g [.zu x.1,.l (x.2.map row)]=sn x:=rfl;refine aB ?_;simp[g,a,f,d,kc,h,c]
def jC(e:Int)(k:List Sn):W2:=k.findIdx? λs=>decide (s.1=e)
def sJ:W2->List GV
 |some j=>[.zq 0,.zq (j:Int)]
 |none=>[.zq 1]
def EY{e:Int}{k:List Sn}{j:Nat}(h:jC e k=some j):∃x,k[j]? =some x/\x.1=e/\j<k.length:=by unfold jC at h;obtain⟨a,b,-⟩:=List.findIdx?_eq_some_iff_getElem.1 h;exact⟨k[j],bZ a,by simpa using b,a⟩
def aue{e:Int}{k:List Sn}(h:jC e k=none):∀x∈k,x.1≠e:=by unfold jC at h;intro x a b;have:=List.findIdx?_eq_none_iff.1 h x a;simp[b]at this
def sD(e:Int)(k:List Sn)(b:Int):Bool×List Sn×Int:=if e<=b then(false,k,b)else match jC e k with
 |none=>(false,k,b)
 |some i=>(true,k.drop i,e)
def oL(x:Sn)(b:Int):List Sn->List Sn×Int
 |[]=>([x],b)
 |y::r=>if 8<r.length+2 then(r++[x],if y.1=b then 0 else b)else(y::r++[x],b)
def jU(x:Sn)(k:List Sn)(b:Int):Int×List Sn×Int:=
 if nN x.2≠0 then(nN x.2,k,b)else if x.1=0 then(18,k,b)else match k.getLast? with
 |none=>(0,oL x b k)
 |some l=>if x.1<=l.1 then(20,k,b)else if pO x.2 l.2=false then(21,k,b)else(0,oL x b k)
def last_at{k:List Sn}{l:Sn}(h:k.getLast? =some l):∃m,k.length=m+1/\k[m]? =some l/\l∈k:=by
 cases a:k with
 |nil=>subst a;simp at h
 |cons y r=>
  refine⟨r.length,aA,?_,?_⟩
  ·rw[<-a,<-h,List.getLast?_eq_getElem?,a];simp
  ·rw[<-a];exact zF h
def last_none{k:List Sn}(h:k.getLast? =none):k=[]:=List.getLast?_eq_none_iff.1 h
def az2(x:Sn)(v:GV)(k:List Sn)(b:Int)(J:eF x.2)(L:Kp k):
 TT.lim 62 [.zu x.1,.l (x.2.map row),v,.l (k.map sn),.zu b]=some [.zq 0,.zq (jU x k b).1,.l ((jU x k b).2.1.map sn),.zu (jU x k b).2.2]:=by
 have h:=Vt x J;have kc:=Ph x J;have j:GV.g [.zu x.1,.l (x.2.map row)]=sn x:=rfl;have M:(sn x).gQ 2=true:=rfl;unfold jU;by_cases c:nN x.2=0;rotate_left
 ·rw[au c];refine aB ?_;simp[j,h,c]
 rw[aj (by simpa using c)];by_cases e:x.1=0
 ·rw[au e];have N:(x.1=0)=True:=eq_true e;clear e;refine aB ?_;simp[j,h,c,N]
 rw[aj e];have h8:=L.len;cases O:k.getLast? with
 |none=>obtain rfl:=last_none O;refine aB ?_;simp[j,h,c,e,kc,M,oL]
 |some l=>
  obtain⟨m,U,E,n⟩:=last_at O;have F:((k.length:Nat):Int)=(m:Int)+1:=ah;have u:(0:Int)<(m:Int)+1:=ah;have d:(m:Int)<(m:Int)+1:=ah;have w:=bH ((m:Int));simp only;by_cases p:x.1<=l.1
  ·rw[au p];refine aB ?_;simp[j,h,c,e,F,u,w,E,p,d]
  rw[aj p];have t:=afx x.2 l.2 ((vI _).1 c).1 (L.tb l n).ok.1 J.few (L.tb l n).few;cases R:pO x.2 l.2 with
  |false=>rw[R]at t;refine aB ?_;simp[j,h,c,e,F,u,w,E,p,t,d]
  |true=>
   rw[R]at t;rw[aj aA];have S:(k++[x]).length=m+2:=by simp;omega
   have q:=ajr (k:=k++[x]) (i:=1) ah;have s:Jv 2 32 (some (.l (k.map sn))) (some (.l [sn x]))=some (.l ((k++[x]).map sn)):=by
    rw[GZ,au]
    ·rw[oK];rfl
    ·refine⟨rfl,?_,?_⟩<;>simp only[gB,iD,lK]<;>omega
   have V:=bH ((m:Int)+2);cases k with
   |nil=>simp at O
   |cons y r=>
    have hr:r.length=m:=by simpa using U
    by_cases h5:8<m+2
    ·have W:2*((y::r++[x]).drop 1).length*32<=281474976710656/\((y::r++[x]).drop 1).length<=281474976710656:=by rw[fU];omega
     have z:=amd ((y::r++[x]).drop 1);have X:(y::r++[x]).drop 1=r++[x]:=rfl;have hn:(m:Int)+1+1=(m:Int)+2:=ah;have G:(8:Int)<(m:Int)+2:=ah;have T:((y::r++[x]).map sn)[0]? =some (sn y):=rfl;have o:(0:Int)<(m:Int)+2:=ah;have f:(((y::r++[x]).length:Nat):Int)=(m:Int)+2:=ah;have H:(((y::r++[x]).map sn).length:Int)=(m:Int)+2:=by rw[gB];exact f
     have I:(((y::r).map sn).length:Int)=(m:Int)+1:=by rw[gB];exact F
     have g:((y::r).map sn)[m]? =some (sn l):=by rw[jy,E];rfl
     have A:OA 2 (some (.l ((y::r++[x]).map sn))) (some (.zq 1)) (some (.zq ((m:Int)+2)))=some (.l ((r++[x]).map sn)):=by rw[<-f];exact q
     rw[X]at W z;have D:Jv 2 32 (some (.l [])) (some (.l ((r++[x]).map sn)))=some (.l ((r++[x]).map sn)):=by
      rw[GZ,au]
      ·rfl
      ·exact⟨z,by simp only[gB,lK];omega,by simp only[gB,lK];omega⟩
     have a:oL x b (y::r)=(r++[x],if y.1=b then 0 else b):=au (ah:8<r.length+2);rw[a];clear a q;generalize r++[x]=R1 at *;generalize(y::r++[x]).map sn=Y,(y::r).map sn=Z at *;by_cases P:y.1=b
     ·have Q:(y.1=b)=True:=eq_true P;clear P;refine aB ?_;simp[-nT,-List.all_eq_true,-List.all_map,-GZ,j,h,c,e,I,H,u,w,g,p,t,kc,s,G,o,T,Q,A,D,d]
     ·refine aB ?_;simp[-nT,-List.all_eq_true,-List.all_map,-GZ,j,h,c,e,I,H,u,w,g,p,t,kc,s,G,o,T,P,A,D,d]
    ·have G:¬(8:Int)<(m:Int)+2:=ah;have f:(((y::r++[x]).length:Nat):Int)=(m:Int)+2:=ah;have H:(((y::r++[x]).map sn).length:Int)=(m:Int)+2:=by rw[gB];exact f
     have I:(((y::r).map sn).length:Int)=(m:Int)+1:=by rw[gB];exact F
     have g:((y::r).map sn)[m]? =some (sn l):=by rw[jy,E];rfl
     have a:oL x b (y::r)=(y::r++[x],b):=aj (ah:¬8<r.length+2);rw[a];clear a q;show _=some [_,_,GV.l ((y::r++[x]).map sn),_]
     generalize(y::r++[x]).map sn=Y,(y::r).map sn=Z at *;refine aB ?_;simp[-nT,-List.all_eq_true,-List.all_map,-GZ,j,h,c,e,I,H,u,w,g,p,t,kc,s,G,d]
abbrev Ms:=(Int×Int×Int×List Row)×Int
def full(l:Sn):Ms:=((5,l.1,0,l.2),0)
def cZ(v:Int)(k:List Sn)(b:Int):Ms:=match k.getLast? with
 |none=>((0,0,0,[]),24)
 |some l=>if l.1=b then((0,0,0,[]),24)else match jC b k with
  |none=>full l
  |some i=>if 2<=v then match k[i]? with
    |none=>full l
    |some s=>if(qg s l).2≠0 then((0,0,0,[]),(qg s l).2)else((6,(qg s l).1.2.1,(qg s l).1.1,(qg s l).1.2.2),0)
   else full l
def Iz(r:Ms):Q1:=[.zq 0,.zq r.1.1,.zu r.1.2.1,.zu r.1.2.2.1,.l (r.1.2.2.2.map row),.zq r.2]
def jT(k:List Sn):Sn:=k.getLast?.getD zS
def CJ(x:Sn)(a:Int)(k:List Sn):Sn:=
 if(lM (jT k) ((jT k).1,IntKind.u64.wrap ((jT k).1+a),x.2)).2≠0 then x else(lM (jT k) ((jT k).1,IntKind.u64.wrap ((jT k).1+a),x.2)).1
def abI{k:List Sn}(a:Kp k):Tb (jT k).2:=by
 unfold jT;cases b:k.getLast? with
 |none=>exact CW
 |some l=>exact a.tb l (zF b)
def aw0(v b:GV)(k:List Sn)(c:Kp k):TT.lim 45 [v,.l (k.map sn),b]=some [.zq 0,.zu (jT k).1,.l ((jT k).2.map row),.b k.getLast?.isSome]:=by
 have g:=c.len;unfold jT;cases d:k.getLast? with
 |none=>obtain rfl:=last_none d;exact ai8 v b
 |some l=>obtain⟨m,e,f,a⟩:=last_at d;exact ai7 v b k m l e ah f (c.tb l a).good
def Kp.add{k:List Sn}(d:Kp k){x:Sn}{b:Int}(p:Tb x.2)(h0:0<x.1/\x.1<18446744073709551616)(z:∀l,k.getLast? =some l->l.1<x.1/\pO x.2 l.2=true):Kp (oL x b k).1:=by
 have e:∀s∈k,s.1<x.1/\pO x.2 s.2=true:=by
  intro s c;obtain⟨i,hi,rfl⟩:=List.getElem_of_mem c;cases q:k.getLast? with
  |none=>exact absurd hi (by rw[last_none q];simp)
  |some l=>
   obtain⟨m,E,f,g⟩:=last_at q;obtain⟨A,v⟩:=z l q;have j:m<k.length:=ah;have n:k[m]=l:=by have:=bZ j;rw[f]at this;injection this with this;exact this.symm
   rcases zI i m with o|o
   ·have w:=Ut.1 d.rise i m hi j o;rw[n]at w;exact⟨ah,an8 p.rise (d.tb l g).rise (d.tb _ (iT hi)).rise v w.2⟩
   ·have:i=m:=ah;subst this;simp only[n];exact⟨A,v⟩
 cases k with
 |nil=>exact⟨by simp[oL],by simpa[oL]using p,by simpa[oL]using h0,by simp[oL]⟩
 |cons y r=>
  have t:Kp r:=⟨by have:=d.len;simp at this;omega,λs c=>d.tb s (by simp[c]),λs c=>d.pos s (by simp[c]),(jA.1 d.rise).2⟩
  have D:=d.len;simp only[iD]at D;simp only[oL];split
  ·refine⟨by simp;omega,?_,?_,?_⟩
   ·intro s c;rcases jP.1 c with h|h
    ·exact t.tb s h
    ·rw[jW.1 h];exact p
   ·intro s c;rcases jP.1 c with h|h
    ·exact t.pos s h
    ·rw[jW.1 h];exact h0
   ·refine aeY.2 ⟨t.rise,aA,λa f b u=>?_⟩;rw[jW.1 u];exact e a (by simp[f])
  ·refine⟨by simp;omega,?_,?_,?_⟩
   ·intro s c;rcases jP.1 c with h|h
    ·exact d.tb s h
    ·rw[jW.1 h];exact p
   ·intro s c;rcases jP.1 c with h|h
    ·exact d.pos s h
    ·rw[jW.1 h];exact h0
   ·refine aeY.2 ⟨d.rise,aA,λa f b u=>?_⟩;rw[jW.1 u];exact e a f
def ak4{x:Sn}{k:List Sn}{b:Int}(a:Kp k)(e:eF x.2)(h0:0<=x.1/\x.1<18446744073709551616):Kp (jU x k b).2.1:=by
 unfold jU;split
 ·exact a
 next f=>
 split
 ·exact a
 next i=>
 have d:Tb x.2:=e.tb ((vI _).1 (by simpa using f));split
 ·next c=>exact a.add d ⟨ah,h0.2⟩ λl h=>by rw[c]at h;cases h
 ·next l c=>
  split
  ·exact a
  next j=>
  split
  ·exact a
  next g=>exact a.add d ⟨ah,h0.2⟩ λm h=>by rw[c]at h;injection h with h;subst h;exact⟨ah,by simpa using g⟩
def Kp.drop{k:List Sn}(a:Kp k)(i:Nat):Kp (k.drop i):=
 ⟨by have:=a.len;rw[fU];omega,λs b=>a.tb s (MQ b),λs b=>a.pos s (MQ b),a.rise.sublist (aeM i k)⟩
def ZG{e:Int}{k:List Sn}{b:Int}(a:Kp k):Kp (sD e k b).2.1:=by
 unfold sD;split
 ·exact a
 split
 ·exact a
 ·exact a.drop _
def aj0{x:Sn}{a:Int}{k:List Sn}(e:Kp k)(c:eF x.2)(h0:0<=x.1/\x.1<18446744073709551616):eF (CJ x a k).2/\0<=(CJ x a k).1/\(CJ x a k).1<18446744073709551616:=by
 unfold CJ;split
 ·exact⟨c,h0⟩
 next b=>
 have b:(lM (jT k) ((jT k).1,IntKind.u64.wrap ((jT k).1+a),x.2)).2=0:=by simpa using b
 have:=afv (abI e).good (d:=((jT k).1,IntKind.u64.wrap ((jT k).1+a),x.2)) c b;refine⟨this.1.good,?_⟩;rw[(Nq b).2.2.2.2];exact wrap_u64 _
def Rl{g:GV}(h:(dh.int .u8).has g):∃n,g=.i .u8 n/\0<=n/\n<256:=by simp only[dh.has]at h;obtain⟨n,rfl,a,b⟩:=h;exact⟨n,rfl,by simpa[IntKind.min,IntKind.signed]using a,by simp[IntKind.max,IntKind.signed,IntKind.bits]at b;omega⟩
def Yc(l:Sn)(h:eF l.2):TT.lim 70 [.zu l.1,.l (l.2.map row),.zu l.1,.l (l.2.map row)]=some [.zq 0,.b true]:=by have a:=alP l.2 l.2 h h;refine aB ?_;simp[a]
def anv(xs:Q1)(k:List Sn):Prop:=∀s∈k,gZ (.zu s.1) xs=some (sn s)
def key_inj{a b:Int}{x:GV}(h1:rJ (.zu a) x=true)(c:rJ (.zu b) x=true):a=b:=by
 cases x<;>simp[rJ]at h1 c
 omega
def aiS(a b:Int):rJ (.zu a) (.zu b)=decide (a=b):=by simp only[rJ];rw[zx];simp
def vH(a b:Int)(u:GV):∀xs:Q1,gZ (.zu a) (kH (.zu b) u xs)=if a=b then some u else gZ (.zu a) xs
 |[]=>by
  show(if rJ (.zu a) (.zu b)=true then some u else none)=_
  rw[aiS];by_cases h:a=b<;>simp[h,gZ]
 |.g [x,v]::xs=>by
  have e:=vH a b u xs;show gZ (.zu a) (if rJ (.zu b) x=true then .g [.zu b,u]::xs else .g [x,v]::kH (.zu b) u xs)=if a=b then some u else(if rJ (.zu a) x=true then some v else gZ (.zu a) xs)
  cases c:rJ (.zu b) x with
  |true=>
   rw[au rfl];show(if rJ (.zu a) (.zu b)=true then some u else gZ (.zu a) xs)=_
   rw[aiS];by_cases h:a=b
   ·simp[h]
   ·cases d:rJ (.zu a) x with
    |true=>exact absurd (key_inj d c) h
    |false=>simp[h]
  |false=>
   rw[aj aA];show(if rJ (.zu a) x=true then some v else gZ (.zu a) (kH (.zu b) u xs))=_
   rw[e];cases d:rJ (.zu a) x with
   |true=>
    by_cases h:a=b
    ·subst h;rw[d]at c;cases c
    ·simp[h]
   |false=>simp
 |.g []::xs=>vH a b u xs
 |.g [_]::xs=>vH a b u xs
 |.g (_::_::_::_)::xs=>vH a b u xs
 |.i _ _::xs=>vH a b u xs
 |.b _::xs=>vH a b u xs
 |.s _::xs=>vH a b u xs
 |.l _::xs=>vH a b u xs
structure Lead(xs:Q1)(k:List Sn)(b:Int):Prop where
 kp:Kp k
 map:anv xs k
 base:b=0\/∃s∈k,s.1=b
def aw6{e:Int}{xs:Q1}{k:List Sn}{b:Int}(h:Lead xs k b):Lead xs (sD e k b).2.1 (sD e k b).2.2:=by
 refine⟨ZG h.kp,?_,?_⟩
 ·unfold sD;split
  ·exact h.map
  split
  ·exact h.map
  ·exact λs c=>h.map s (MQ c)
 ·unfold sD;split
  ·exact h.base
  split
  ·exact h.base
  ·next i d=>
   obtain⟨x,f,a,hi⟩:=EY d;refine .inr ⟨x,?_,a⟩;have:(k.drop i)[0]? =some x:=by rw[uI];simpa using f
   exact tN this
def afk{x:Sn}{b:Int}{k:List Sn}{s:Sn}(h:s∈(oL x b k).1):s∈k\/s=x:=by
 unfold oL at h;split at h
 ·exact .inr (by simpa using h)
 ·split at h
  ·rcases jP.1 h with h|h
   ·exact .inl (by simp[h])
   ·exact .inr (by simpa using h)
  ·rcases jP.1 h with h|h
   ·exact .inl h
   ·exact .inr (by simpa using h)
def anR{x:Sn}{b:Int}{k:List Sn}(h:b=0\/∃s∈k,s.1=b):(oL x b k).2=0\/∃s∈(oL x b k).1,s.1=(oL x b k).2:=by
 unfold oL;split
 ·rcases h with h|⟨s,a,-⟩
  ·exact .inl h
  ·simp at a
 ·next y r=>
  split
  ·by_cases d:y.1=b
   ·exact .inl (by simp[d])
   ·rcases h with h|⟨s,a,c⟩
    ·exact .inl (by simp[h])
    ·rcases bI.1 a with e|e
     ·subst e;exact absurd c d
     ·exact .inr ⟨s,by simp[e],by simp[d,c]⟩
  ·rcases h with h|⟨s,a,c⟩
   ·exact .inl h
   ·exact .inr ⟨s,jP.2 (.inl a),c⟩
def aw8{x:Sn}{xs:Q1}{k:List Sn}{b:Int}(h:Lead xs k b)(r:eF x.2)(h0:0<=x.1/\x.1<18446744073709551616):
 Lead (if(jU x k b).1=0 then kH (.zu x.1) (sn x) xs else xs) (jU x k b).2.1 (jU x k b).2.2:=by
 have d:=ak4 (b:=b) h.kp r h0;have add:∀f:Kp (oL x b k).1,(∀l,k.getLast? =some l->l.1<x.1)->Lead (kH (.zu x.1) (sn x) xs) (oL x b k).1 (oL x b k).2:=by
  intro f e;refine⟨f,?_,anR h.base⟩;intro s o;rw[vH];by_cases j:s.1=x.1
  ·rw[au j];rcases afk o with h1|h1
   ·exfalso;obtain⟨i,hi,rfl⟩:=List.getElem_of_mem h1;cases n:k.getLast? with
    |none=>exact absurd hi (by rw[last_none n];simp)
    |some l=>
     obtain⟨m,z,t,p⟩:=last_at n;have A:=e l n;have g:m<k.length:=ah;have q:k[m]=l:=by have:=bZ g;rw[t]at this;injection this with this;exact this.symm
     rcases zI i m with c|c
     ·have u:=Ut.1 h.kp.rise i m hi g c;rw[q]at u;omega
     ·have:i=m:=ah;subst this;rw[q]at j;omega
   ·rw[h1]
  ·rw[aj j];rcases afk o with h1|h1
   ·exact h.map s h1
   ·subst h1;exact absurd rfl j
 unfold jU at d⊢;split
 ·next h1=>simpa[h1]using h
 next h1=>
 rw[aj h1]at d;split
 ·simpa using h
 next v=>
 rw[aj v]at d;split
 ·next e=>
  rw[e]at d;exact add d λl a=>by rw[e]at a;cases a
 ·next l e=>
  rw[e]at d;simp only at d;split
  ·exact h
  next w=>
  rw[aj w]at d;split
  ·exact h
  next y=>
  rw[aj y]at d;exact add d λD a=>by rw[e]at a;injection a with a;subst a;omega
def jQ(kind epoch base:Int)(t:List Row):aQ:={kind:=kind,id:=0,min:=0,max:=0,chosen:=0,flags:=0,cost:=0,priority:=0,deadline:=0,retry:=0,epoch:=epoch,base:=base,digest:=0,lag:=0,code:=0,want:=0,remaining:=0,allowed:=false,name:=[],region:=[],note:=[],d:=[],t:=t}
def aob{b a base:Int}{t:List Row}(h1: -9223372036854775808<=b/\b<=9223372036854775807)(c:0<=a/\a<18446744073709551616)(d:0<=base/\base<18446744073709551616)(e:Rows t):vZ (jQ b a base t):=by refine⟨h1,?_,?_,?_,?_,?_,?_,?_,?_,?_,c,d,?_,?_,?_,?_,?_,?_,?_,?_,?_,e⟩<;>simp[jQ,uF]
def Xi{k:List Sn}{b:Int}(f:Kp k){l s:Sn}{i:Nat}(a:k.getLast? =some l)(j:l.1≠b)(w:jC b k=some i)(n:k[i]? =some s):(qg s l).2=0/\eF (qg s l).1.2.2:=by
 obtain⟨y,d,o,hi⟩:=EY w;rw[n]at d;injection d with d
 subst d;have e:=zF a;have g:=tN n;obtain⟨m,x,p,-⟩:=last_at a;have h:m<k.length:=ah;have u:k[m]=l:=by have:=bZ h;rw[p]at this;injection this with this;exact this.symm
 have q:k[i]=s:=by have:=bZ hi;rw[n]at this;injection this with this;exact this.symm
 have r:i<m:=by
  rcases zI i m with c|c
  ·exact c
  ·have:i=m:=ah;subst this;rw[u]at q;subst q;exact absurd o j
 have t:=Ut.1 f.rise i m hi h r;rw[u,q]at t;have v:(qg s l).2=0:=by rw[asW (f.tb s g).ok (f.tb l e).ok t.1 t.2]
 exact⟨v,(afB (f.tb s g).good (f.tb l e).good v).2.2⟩
def ayb{v:Int}{k:List Sn}{b:Int}(e:Kp k):(-9223372036854775808<=(cZ v k b).1.1/\(cZ v k b).1.1<=9223372036854775807)/\(0<=(cZ v k b).1.2.1/\(cZ v k b).1.2.1<18446744073709551616)/\(0<=(cZ v k b).1.2.2.1/\(cZ v k b).1.2.2.1<18446744073709551616)/\eF (cZ v k b).1.2.2.2:=by
 have zero:∀c:Int,(-9223372036854775808<=((((0,0,0,[]),c):Ms)).1.1/\((((0,0,0,[]),c):Ms)).1.1<=9223372036854775807)/\(0<=((((0,0,0,[]),c):Ms)).1.2.1/\((((0,0,0,[]),c):Ms)).1.2.1<18446744073709551616)/\(0<=((((0,0,0,[]),c):Ms)).1.2.2.1/\((((0,0,0,[]),c):Ms)).1.2.2.1<18446744073709551616)/\eF ((((0,0,0,[]),c):Ms)).1.2.2.2:=λc=>⟨aA,aA,aA,CW.good⟩
 unfold cZ;cases h:k.getLast? with
 |none=>exact zero 24
 |some l=>
  have d:=zF h;have r:=e.pos l d
  have a:(-9223372036854775808<=(full l).1.1/\(full l).1.1<=9223372036854775807)/\(0<=(full l).1.2.1/\(full l).1.2.1<18446744073709551616)/\(0<=(full l).1.2.2.1/\(full l).1.2.2.1<18446744073709551616)/\eF (full l).1.2.2.2:=
   ⟨by simp[full],⟨by simp only[full];omega,by simp only[full];omega⟩,by simp[full],(e.tb l d).good⟩
  simp only;by_cases f:l.1=b
  ·rw[au f];exact zero 24
  rw[aj f];cases j:jC b k with
  |none=>exact a
  |some i=>
   obtain⟨s,g,-,hi⟩:=EY j;obtain⟨m,p⟩:=Xi e h f j g;simp only[g];by_cases n:2<=v
   ·rw[au n,aj (by simp[m])];have o:=(aay m).2.2.2.2;have q:=e.pos s (tN g);refine⟨aA,?_,?_,p⟩
    ·simp only[o];omega
    ·simp only[o];omega
   ·rw[aj n];exact a
abbrev An:=Int×Int×Int×Int
def iH(c v kd a d:Int)(t:List Row)(b:Bool)(h:Sn):An×Int×Bool×Sn:=
 if c≠0 then((0,0,0,0),c,b,h)
 else if kd=5 then(if b=true/\a<=h.1 then((7,h.1,0,0),20,b,h)else((7,a,0,0),0,true,(a,t)))
 else if kd=6 then(if b=true/\a<=h.1 then((7,h.1,0,0),20,b,h)
  else if(lM h (d,a,t)).2≠0 then((8,a,IntKind.u64.wrap (lM h (d,a,t)).2,if 2<=v then h.1 else 0),(lM h (d,a,t)).2,b,h)
  else((7,(lM h (d,a,t)).1.1,0,0),0,true,(lM h (d,a,t)).1))
 else((0,0,0,0),15,b,h)
def zl(r:An×Int×Bool×Sn):Q1:=[.zq 0,.zq r.1.1,.zu r.1.2.1,.zu r.1.2.2.1,.zu r.1.2.2.2,.zq r.2.1,.b r.2.2.1,.zu r.2.2.2.1,.l (r.2.2.2.2.map row)]
set_option maxHeartbeats 2000000 in
def aEU(b:aQ)(g:List aK)(v:Int)(i:Bool)(h:Sn)(x:vZ b)(t:eF b.t)(u:fD g)(o:g.length<=1000000)(y:eF h.2):
 TT.lim 222 ((jh b (aI g)).cells++[.zq v,.b i,.zu h.1,.l (h.2.map row)])=some (zl (iH (fC b g v) v b.kind b.epoch b.base b.t i h)):=by
 have d:=abX b g v x t.few u o;have p:=Ph (b.epoch,b.t) t;have c:=afu h (b.base,b.epoch,b.t) y t;have w:GV.g [.zu b.epoch,.l (b.t.map row)]=sn (b.epoch,b.t):=rfl;have m:GV.g [.zu h.1,.l (h.2.map row)]=sn h:=rfl;have n:GV.g [.zu b.base,.zu b.epoch,.l (b.t.map row)]=dl (b.base,b.epoch,b.t):=rfl;rw[fE];simp only[bD,aX];unfold iH;generalize lM h (b.base,b.epoch,b.t)=A at *;obtain⟨⟨D,E⟩,z⟩:=A;generalize fC b g v=C,aI g=R at *;by_cases r:C=0;rotate_left
 ·rw[au r];refine aB ?_;simp -implicitDefEqProofs[lT,d,r,zl]
 rw[aj (by simpa using r)];subst r;by_cases j:b.kind=5
 ·rw[au j];have f:(b.kind=5)=True:=eq_true j;clear j;cases i with
  |false=>refine aB ?_;simp -implicitDefEqProofs[lT,d,f,zl,w,p]
  |true=>
   by_cases a:b.epoch<=h.1
   ·refine aB ?_;simp -implicitDefEqProofs[lT,d,f,zl,a]
   ·refine aB ?_;simp -implicitDefEqProofs[lT,d,f,zl,a,w,p]
 rw[aj j];by_cases q:b.kind=6;rotate_left
 ·rw[aj q];refine aB ?_;simp -implicitDefEqProofs[lT,d,j,q,zl]
 rw[au q];have f:(b.kind=5)=False:=eq_false j;have k:(b.kind=6)=True:=eq_true q;clear j q;by_cases a:i=true/\b.epoch<=h.1
 ·rw[au a];obtain⟨rfl,a⟩:=a;refine aB ?_;simp -implicitDefEqProofs[lT,d,f,k,zl,a]
 rw[aj a];by_cases l:z=0
 ·rw[aj (by simpa using l)];subst l;cases i with
  |false=>refine aB ?_;simp -implicitDefEqProofs[lT,d,f,k,zl,m,n,c]
  |true=>have a:¬b.epoch<=h.1:=λe=>a ⟨rfl,e⟩;refine aB ?_;simp -implicitDefEqProofs[lT,d,f,k,zl,a,m,n,c]
 ·rw[au l];by_cases s:2<=v
  ·cases i with
   |false=>refine aB ?_;simp -implicitDefEqProofs[lT,d,f,k,zl,m,n,c,l,s]
   |true=>have a:¬b.epoch<=h.1:=λe=>a ⟨rfl,e⟩;refine aB ?_;simp -implicitDefEqProofs[lT,d,f,k,zl,a,m,n,c,l,s]
  ·cases i with
   |false=>refine aB ?_;simp -implicitDefEqProofs[lT,d,f,k,zl,m,n,c,l,s]
   |true=>have a:¬b.epoch<=h.1:=λe=>a ⟨rfl,e⟩;refine aB ?_;simp -implicitDefEqProofs[lT,d,f,k,zl,a,m,n,c,l,s]
def avA(v e t:GV):TT.lim 69 [v,.b false,e,t]=some [.zq 0,.zu 0,.l [],.b false]:=by refine aB ?_;simp
def avC(v:GV)(h:Sn)(b:eF h.2):TT.lim 69 [v,.b true,.zu h.1,.l (h.2.map row)]=some [.zq 0,.zu h.1,.l (h.2.map row),.b true]:=by have a:=Ph h b;have c:GV.g [.zu h.1,.l (h.2.map row)]=sn h:=rfl;refine aB ?_;simp[c,a]
def avz(v:GV)(a:Bool)(h:Sn)(b:eF h.2)(c:a=false->h=zS):TT.lim 69 [v,.b a,.zu h.1,.l (h.2.map row)]=some [.zq 0,.zu h.1,.l (h.2.map row),.b a]:=by
 cases a with
 |false=>rw[c rfl];exact avA v _ _
 |true=>exact avC v h b
abbrev Tm:=Int×Int×Int×List Row
def GY(a:An)(k:List Sn)(b:Int):List Sn×Int:=if a.1=7 then(sD a.2.1 k b).2 else if a.1=8 then(k,0)else(k,b)
def atg{x y:dS}(h:ent x=ent y):x=y:=by
 unfold ent at h;injection h with h
 simp only[yA,GV.s.injEq,and_true]at h;exact Jp h.1 h.2
def aBd{x y:Row}(h:row x=row y):x=y:=by
 unfold row at h;injection h with h
 simp only[yA,GV.l.injEq,GV.i.injEq,and_true,true_and]at h;exact Jp ((List.map_inj_right λ_ _=>atg).1 h.1) h.2
def TI{x y:Sn}(h:sn x=sn y):x=y:=by
 unfold sn at h;injection h with h
 simp only[yA,GV.l.injEq,GV.i.injEq,and_true,true_and]at h;exact Jp h.1 ((List.map_inj_right λ_ _=>aBd).1 h.2)
def zA(xs:Q1)(m:Tm):Prop:=
 (m.1=5/\Tb m.2.2.2/\(0<m.2.1/\m.2.1<18446744073709551616)/\m.2.2.1=0/\gZ (.zu m.2.1) xs=some (sn (m.2.1,m.2.2.2)))\/
 (m.1=6/\Tb m.2.2.2/\(0<m.2.2.1/\m.2.2.1<m.2.1/\m.2.1<18446744073709551616)/\∃s l:Sn,gZ (.zu m.2.2.1) xs=some (sn s)/\gZ (.zu m.2.1) xs=some (sn l)/\l.1=m.2.1/\s.1=m.2.2.1/\Tb l.2/\lM s (m.2.2.1,m.2.1,m.2.2.2)=(l,0))
def OC{xs:Q1}{k:List Sn}{b:Int}{V:Int}(h:Lead xs k b)(h0:(cZ V k b).2=0):zA xs (cZ V k b).1/\∃l,k.getLast? =some l/\(cZ V k b).1.2.1=l.1/\l.1≠b/\((cZ V k b).1.1=6->2<=V/\b≠0/\(cZ V k b).1.2.2.1=b)/\((cZ V k b).1.1=5->(cZ V k b).1.2.2.2=l.2):=by
 unfold cZ at h0⊢;cases g:k.getLast? with
 |none=>rw[g]at h0;simp at h0
 |some l=>
  rw[g]at h0;simp only at h0⊢;have a:=zF g;have u:=h.kp.pos l a;have c:zA xs (full l).1:=.inl ⟨rfl,h.kp.tb l a,u,rfl,h.map l a⟩;by_cases f:l.1=b
  ·rw[au f]at h0;simp at h0
  rw[aj f]at h0⊢;cases j:jC b k with
  |none=>exact⟨c,l,rfl,rfl,f,λe=>by simp[full]at e,λ_=>rfl⟩
  |some i=>
   rw[j]at h0;obtain⟨s,m,n,hi⟩:=EY j;obtain⟨o,-⟩:=Xi h.kp g f j m;simp only[m]at h0⊢;by_cases p:2<=V
   ·rw[au p,aj (by simp[o])];have d:=tN m;have q:=aay o;have v:=afB (h.kp.tb s d).good (h.kp.tb l a).good o;have r:=(agK (h.kp.tb s d) (h.kp.tb l a) q.2.2.2.1).1;have t:=h.kp.pos s d;rw[q.2.2.2.2]at v⊢;refine⟨.inr ⟨rfl,r,⟨t.1,q.2.2.1,u.2⟩,s,l,h.map s d,h.map l a,rfl,rfl,h.kp.tb l a,v.2.1⟩,l,rfl,rfl,f,λ_=>⟨p,?_,n⟩,λe=>by simp at e⟩;omega
   ·rw[aj p];exact⟨c,l,rfl,rfl,f,λe=>by simp[full]at e,λ_=>rfl⟩
structure jc(xs:Q1)(told:List Tm)(back:List An)(k:List Sn)(b:Int)(sm:Bool)(h:Sn):Prop where
 lead:Lead xs k b
 keys:∀e g,gZ (.zu e) xs=some g->∃l,k.getLast? =some l/\e<=l.1
 told:∀m∈told,zA xs m
 back:∀a∈back,a.1=7->sm=true/\a.2.1<=h.1
 has:(sm=true/\gZ (.zu h.1) xs=some (sn h)/\Tb h.2)\/(sm=false/\h=zS)
 base:b<=0\/(sm=true/\b<=h.1)
 zero:gZ (.zu 0) xs=none
def jc.tb{xs:Q1}{told:List Tm}{back:List An}{k:List Sn}{b:Int}{c:Bool}{h:Sn}(f:jc xs told back k b c h):Tb h.2:=by
 rcases f.has with⟨-,-,a⟩|⟨-,a⟩
 ·exact a
 ·rw[a];exact CW
def ak5{x:Sn}{k:List Sn}{b:Int}(h0:(jU x k b).1=0):(jU x k b).2.1.getLast? =some x/\∀l,k.getLast? =some l->l.1<x.1:=by
 have a:(oL x b k).1.getLast? =some x:=by
  unfold oL;split
  ·rfl
  ·split
   ·simp
   ·exact List.getLast?_concat
 unfold jU at h0⊢;split at h0
 ·next c=>exact absurd h0 c
 next c=>
 split at h0
 ·cases h0
 next d=>
 rw[aj c,aj d];cases f:k.getLast? with
 |none=>exact⟨a,λl e=>by cases e⟩
 |some l=>
  rw[f]at h0;simp only at h0⊢;split at h0
  ·cases h0
  next g=>
  split at h0
  ·cases h0
  next h=>
  rw[aj g,aj h];exact⟨a,λi e=>by injection e with e;subst e;omega⟩
def az3{x:Sn}{k:List Sn}{b:Int}(h0:(jU x k b).1=0):x.1≠0:=by
 intro c;unfold jU at h0;split at h0
 ·next a=>exact a h0
 ·cases h0
def az1{x:Sn}{k:List Sn}{b:Int}(h0:(jU x k b).1≠0):(jU x k b).2=(k,b):=by
 unfold jU at h0⊢;split
 ·rfl
 next c=>
 rw[aj c]at h0;split
 ·rfl
 next d=>
 rw[aj d]at h0;cases a:k.getLast? with
 |none=>rw[a]at h0;simp at h0
 |some l=>
  rw[a]at h0;simp only at h0⊢;split
  ·rfl
  next e=>
  rw[aj e]at h0;split
  ·rfl
  next f=>
  rw[aj f]at h0;simp at h0
def az0{x:Sn}{k:List Sn}{b:Int}:(jU x k b).2.2=b\/(jU x k b).2.2=0:=by
 have a:(oL x b k).2=b\/(oL x b k).2=0:=by
  unfold oL;split
  ·exact .inl rfl
  ·split
   ·simp only;split
    ·exact .inr rfl
    ·exact .inl rfl
   ·exact .inl rfl
 unfold jU;split
 ·exact .inl rfl
 split
 ·exact .inl rfl
 split
 ·exact a
 ·split
  ·exact .inl rfl
  split
  ·exact .inl rfl
  ·exact a
def ahX{xs:Q1}{m:Tm}{e:Int}{g:GV}(h:zA xs m)(o:∀a c,gZ (.zu a) xs=some c->a≠e):zA (kH (.zu e) g xs) m:=by
 have b:∀{a:Int}{c:GV},gZ (.zu a) xs=some c->gZ (.zu a) (kH (.zu e) g xs)=some c:=by intro a c n;rw[vH,aj (o a c n)];exact n
 rcases h with⟨d,f,i,j,k⟩|⟨d,f,i,s,l,j,k,p⟩
 ·exact .inl ⟨d,f,i,j,b k⟩
 ·exact .inr ⟨d,f,i,s,l,b j,b k,p⟩
def ahD{xs:Q1}{a:List Tm}{c:List An}{k:List Sn}{b:Int}{r:Bool}{h:Sn}(f:jc xs a c k b r h){x:Sn}(u:eF x.2)(h0:0<=x.1/\x.1<18446744073709551616):
 jc (if(jU x k b).1=0 then kH (.zu x.1) (sn x) xs else xs) a c (jU x k b).2.1 (jU x k b).2.2 r h:=by
 have o:=aw8 f.lead u h0;by_cases g:(jU x k b).1=0
 ·rw[au g]at o⊢;obtain⟨v,s⟩:=ak5 g;have t:∀d i,gZ (.zu d) xs=some i->d≠x.1:=by intro d i j;obtain⟨l,n,p⟩:=f.keys d i j;have:=s l n;omega
  refine⟨o,?_,λm w=>ahX (f.told m w) t,f.back,?_,?_,by rw[vH,aj (λe=>az3 g e.symm)];exact f.zero⟩
  ·intro d i j;refine⟨x,v,?_⟩;rw[vH]at j;split at j
   ·next e=>omega
   ·obtain⟨l,n,p⟩:=f.keys d i j;have:=s l n;omega
  ·rcases f.has with⟨n,p,y⟩|q
   ·exact .inl ⟨n,by rw[vH,aj (t _ _ p)];exact p,y⟩
   ·exact .inr q
  ·rcases az0 (x:=x) (k:=k) (b:=b)with e|e
   ·rw[e];exact f.base
   ·rw[e];exact .inl (gq _)
 ·rw[aj g]at o⊢;rw[az1 g]at o⊢;exact f
def ahF{xs:Q1}{d:List Tm}{g:List An}{k:List Sn}{b:Int}{n:Bool}{h:Sn}(f:jc xs d g k b n h){m:Tm}(I:zA xs m)(c v:Int):
 jc xs d (g++[(iH c v m.1 m.2.1 m.2.2.1 m.2.2.2 n h).1]) k b (iH c v m.1 m.2.1 m.2.2.1 m.2.2.2 n h).2.2.1 (iH c v m.1 m.2.1 m.2.2.1 m.2.2.2 n h).2.2.2/\h.1<=(iH c v m.1 m.2.1 m.2.2.1 m.2.2.2 n h).2.2.2.1:=by
 have i:∀a:An,(a.1=7->n=true/\a.2.1<=h.1)->jc xs d (g++[a]) k b n h:=λa t=>
  ⟨f.lead,f.keys,f.told,λy p=>by
   rcases jP.1 p with q|q
   ·exact f.back y q
   ·rw[jW.1 q];exact t,f.has,f.base,f.zero⟩
 have o:∀l:Sn,gZ (.zu l.1) xs=some (sn l)->Tb l.2->h.1<=l.1->jc xs d (g++[(7,l.1,0,0)]) k b true l:=λl u J j=>
  ⟨f.lead,f.keys,f.told,λy p e=>by
   rcases jP.1 p with q|q
   ·have:=f.back y q e;exact⟨rfl,ah⟩
   ·rw[jW.1 q];exact⟨rfl,gq _⟩,.inl ⟨rfl,u,J⟩,by
   rcases f.base with q|q
   ·exact .inl q
   ·exact .inr ⟨rfl,ah⟩,f.zero⟩
 have r:¬(n=true/\m.2.1<=h.1)->0<m.2.1->h.1<=m.2.1:=by
  intro L O;rcases f.has with⟨q,-⟩|⟨-,q⟩
  ·rcases aeC h.1 m.2.1 with c|c
   ·omega
   ·exact absurd ⟨q,c⟩ L
  ·rw[q];simp only[zS];omega
 unfold iH;by_cases u:c=0;rotate_left
 ·rw[au u];exact⟨i _ (λe=>by simp at e),gq _⟩
 rw[aj (by simpa using u)];rcases I with⟨z,F,A,G,w⟩|⟨z,F,A,s,l,G,w,H,P,M,N⟩
 ·rw[au z];by_cases j:n=true/\m.2.1<=h.1
  ·rw[au j];exact⟨i _ (λ_=>⟨j.1,gq _⟩),gq _⟩
  ·rw[aj j];exact⟨o (m.2.1,m.2.2.2) w F (r j A.1),r j A.1⟩
 ·rw[bU,au z];by_cases j:n=true/\m.2.1<=h.1
  ·rw[au j];exact⟨i _ (λ_=>⟨j.1,gq _⟩),gq _⟩
  ·rw[aj j];by_cases t:(lM h (m.2.2.1,m.2.1,m.2.2.2)).2=0;rotate_left
   ·rw[au t];exact⟨i _ (λe=>by simp at e),gq _⟩
   ·rw[aj (by simpa using t)];have x:=(Nq t).2.2.1;simp only at x;have D:h=s:=by
     rcases f.has with⟨-,q,-⟩|⟨-,q⟩
     ·rw[x,G]at q;injection q with q
      exact(TI q).symm
     ·exfalso;rw[q]at x;simp only[zS]at x;omega
    rw[D,N];rw[<-H]at w;have E:=r j ah;rw[D,<-H]at E;exact⟨o l w M (by rw[D];exact E),E⟩
def afj{e:Int}{k:List Sn}{b:Int}:(sD e k b).2.1.getLast? =k.getLast?:=by
 unfold sD;split
 ·rfl
 split
 ·rfl
 ·next i a=>
  obtain⟨x,-,-,hi⟩:=EY a;simp only;rw[List.getLast?_drop,bU]
def anJ{e:Int}{k:List Sn}{b:Int}:(sD e k b).2.2=b\/(sD e k b).2.2=e:=by
 unfold sD;split
 ·exact .inl rfl
 split
 ·exact .inl rfl
 ·exact .inr rfl
def aaR{xs:Q1}{c:List Tm}{d:List An}{k:List Sn}{b:Int}{i:Bool}{h:Sn}(f:jc xs c d k b i h){a:An}(j:a.1=7->i=true/\a.2.1<=h.1):
 jc xs c d (GY a k b).1 (GY a k b).2 i h/\(GY a k b).1.getLast? =k.getLast?:=by
 unfold GY;split
 ·next l=>
  have m:=j l;refine⟨⟨aw6 f.lead,λe g n=>by rw[afj];exact f.keys e g n,f.told,f.back,f.has,?_,f.zero⟩,afj⟩;rcases anJ (e:=a.2.1) (k:=k) (b:=b)with e|e
  ·rw[e];exact f.base
  ·rw[e];exact .inr m
 split
 ·exact⟨⟨⟨f.lead.kp,f.lead.map,.inl rfl⟩,f.keys,f.told,f.back,f.has,.inl (gq _),f.zero⟩,rfl⟩
 ·exact⟨f,rfl⟩
def jc.getD{xs:Q1}{told:List Tm}{back:List An}{k:List Sn}{b:Int}{a:Bool}{h:Sn}(f:jc xs told back k b a h):(gZ (.zu h.1) xs).getD (.g [.zu 0,.l []])=sn h:=by
 rcases f.has with⟨-,q,-⟩|⟨-,q⟩
 ·rw[q];rfl
 ·rw[q];show(gZ (.zu 0) xs).getD _=_
  rw[f.zero];rfl
def jc.no{xs:Q1}{told:List Tm}{back:List An}{k:List Sn}{b:Int}{a:Bool}{h:Sn}(f:jc xs told back k b a h)(e:a=false):h=zS:=by
 rcases f.has with⟨q,-⟩|⟨-,q⟩
 ·rw[q]at e;cases e
 ·exact q
def ayk(V a:Int)(t:List Row)(b:V=1\/V=2\/V=3):(iF.all λn=>rF (aT 5 V) n ||oV (jQ 5 a 0 t) n)=true:=by rcases b with rfl|rfl|rfl<;>rfl
def ayj(V a b:Int)(t:List Row)(c:V=2\/V=3):(iF.all λn=>rF (aT 6 V) n ||oV (jQ 6 a b t) n)=true:=by rcases c with rfl|rfl<;>rfl
def axA(V a:Int)(t:List Row)(g:V=1\/V=2\/V=3)(b:nN t=0):kP (jQ 5 a 0 t) (aT 5 V)=0:=by
 have e:pF [] 0 256=0:=rfl;have c:qA (jQ 5 a 0 t) uX=0:=rfl;have d:qA (jQ 5 a 0 t) yS=nN t:=rfl;have f:qA (jQ 5 a 0 t) zW=pF [] 0 256:=rfl;have h:qA (jQ 5 a 0 t) Cm=0:=rfl;have i:aT 5 1=[⟨1,0,1,uX⟩,⟨2,5,1,yS⟩]:=rfl;have j:aT 5 2=[⟨1,0,1,uX⟩,⟨2,5,1,yS⟩,⟨3,3,2,zW⟩]:=rfl;have k:aT 5 3=[⟨1,0,1,uX⟩,⟨2,5,1,yS⟩,⟨3,3,2,zW⟩,⟨4,0,3,Cm⟩]:=rfl;rcases g with rfl|rfl|rfl
 ·rw[i];simp only[kP,c,d,b,if_true]
 ·rw[j];simp only[kP,c,d,f,e,b,if_true]
 ·rw[k];simp only[kP,c,d,f,h,e,b,if_true]
def axz(V a b:Int)(t:List Row)(i:V=2\/V=3)(c:nN t=0):kP (jQ 6 a b t) (aT 6 V)=0:=by
 have d:pF [] 0 256=0:=rfl;have e:qA (jQ 6 a b t) DV=0:=rfl;have f:qA (jQ 6 a b t) uX=0:=rfl;have g:qA (jQ 6 a b t) yS=nN t:=rfl;have h:qA (jQ 6 a b t) zW=pF [] 0 256:=rfl;have j:qA (jQ 6 a b t) Cm=0:=rfl;have k:aT 6 2=[⟨1,0,2,DV⟩,⟨2,0,2,uX⟩,⟨3,5,2,yS⟩,⟨4,3,2,zW⟩]:=rfl;have l:aT 6 3=[⟨1,0,2,DV⟩,⟨2,0,2,uX⟩,⟨3,5,2,yS⟩,⟨4,3,2,zW⟩,⟨5,0,3,Cm⟩]:=rfl;rcases i with rfl|rfl
 ·rw[k];simp only[kP,e,f,g,h,d,c,if_true]
 ·rw[l];simp only[kP,e,f,g,h,j,d,c,if_true]
def XY(a:List dU):O7 a []=0:=by
 have h:jR 0 0 []=0:=by unfold jR;rfl
 unfold O7;rw[aj (by rw[h];simp),aj aA]
def aaf{xs:Q1}{m:Tm}{V:Int}(h1:1<=V)(k:V<=3)(h:zA xs m)(h6:m.1=6->2<=V):fC (jQ m.1 m.2.1 m.2.2.1 m.2.2.2) [] V=0:=by
 rcases h with⟨b,c,i,j,-⟩|⟨b,c,i,-⟩
 ·have a:V=1\/V=2\/V=3:=ah;rw[b,j];unfold fC;have d:aT (jQ 5 m.2.1 0 m.2.2.2).kind V≠[]:=(by rcases a with rfl|rfl|rfl<;>decide:aT 5 V≠[])
  have e:(iF.all λn=>rF (aT (jQ 5 m.2.1 0 m.2.2.2).kind V) n ||oV (jQ 5 m.2.1 0 m.2.2.2) n)=true:=ayk V m.2.1 m.2.2.2 a;have f:kP (jQ 5 m.2.1 0 m.2.2.2) (aT (jQ 5 m.2.1 0 m.2.2.2).kind V)=0:=axA V m.2.1 m.2.2.2 a ((vI _).2 c.ok);have g:EJ (jQ 5 m.2.1 0 m.2.2.2)=0:=by
   show(if m.2.1<1 then(18:Int)else 0)=0
   rw[bU]
  rw[bU,bU,aj d,aj (by rw[e];simp),aj (by rw[f];simp),aj (by rw[g];simp)];exact XY _
 ·have a:V=2\/V=3:=by have:=h6 b;omega
  rw[b];unfold fC;have d:aT (jQ 6 m.2.1 m.2.2.1 m.2.2.2).kind V≠[]:=(by rcases a with rfl|rfl<;>decide:aT 6 V≠[])
  have e:(iF.all λn=>rF (aT (jQ 6 m.2.1 m.2.2.1 m.2.2.2).kind V) n ||oV (jQ 6 m.2.1 m.2.2.1 m.2.2.2) n)=true:=ayj V m.2.1 m.2.2.1 m.2.2.2 a;have f:kP (jQ 6 m.2.1 m.2.2.1 m.2.2.2) (aT (jQ 6 m.2.1 m.2.2.1 m.2.2.2).kind V)=0:=axz V m.2.1 m.2.2.1 m.2.2.2 a ((vI _).2 c.ok);have g:EJ (jQ 6 m.2.1 m.2.2.1 m.2.2.2)=0:=by
   show(if m.2.2.1<1 then(18:Int)else if m.2.1<=m.2.2.1 then 20 else 0)=0
   rw[bU,bU]
  rw[bU,bU,aj d,aj (by rw[e];simp),aj (by rw[f];simp),aj (by rw[g];simp)];exact XY _
def gV(V:Int)(k:List Sn)(b:Int)(a:Bool)(h:Sn):(List Sn×Int)×Bool×Sn:=
 if(cZ V k b).2=0 then
  (GY (iH (fC (jQ (cZ V k b).1.1 (cZ V k b).1.2.1 (cZ V k b).1.2.2.1 (cZ V k b).1.2.2.2) [] V) V (cZ V k b).1.1 (cZ V k b).1.2.1 (cZ V k b).1.2.2.1 (cZ V k b).1.2.2.2 a h).1 k b,
   (iH (fC (jQ (cZ V k b).1.1 (cZ V k b).1.2.1 (cZ V k b).1.2.2.1 (cZ V k b).1.2.2.2) [] V) V (cZ V k b).1.1 (cZ V k b).1.2.1 (cZ V k b).1.2.2.1 (cZ V k b).1.2.2.2 a h).2.2)
 else((k,b),a,h)
def X6{xs:Q1}{c:List Tm}{d:List An}{k:List Sn}{b:Int}{e:Bool}{h:Sn}(f:jc xs c d k b e h)(V:Int):
 ∃g,jc xs c g (gV V k b e h).1.1 (gV V k b e h).1.2 (gV V k b e h).2.1 (gV V k b e h).2.2/\(gV V k b e h).1.1.getLast? =k.getLast?:=by
 unfold gV;by_cases i:(cZ V k b).2=0
 ·rw[au i];have m:=(OC f.lead i).1;have j:=(ahF f m (fC (jQ (cZ V k b).1.1 (cZ V k b).1.2.1 (cZ V k b).1.2.2.1 (cZ V k b).1.2.2.2) [] V) V).1;generalize iH (fC (jQ (cZ V k b).1.1 (cZ V k b).1.2.1 (cZ V k b).1.2.2.1 (cZ V k b).1.2.2.2) [] V) V (cZ V k b).1.1 (cZ V k b).1.2.1 (cZ V k b).1.2.2.1 (cZ V k b).1.2.2.2 e h=R at *;have l:=aaR j (a:=R.1) (j.back R.1 aA);exact⟨_,l.1,l.2⟩
 ·rw[aj i];exact⟨d,f,rfl⟩
def jc.le_last{xs:Q1}{told:List Tm}{back:List An}{k:List Sn}{b:Int}{i:Bool}{h l:Sn}(f:jc xs told back k b i h)(d:k.getLast? =some l):h.1<=l.1/\(i=true->h.1=l.1->h=l):=by
 have g:=f.lead.map l (zF d);have m:=f.lead.kp.pos l (zF d);rcases f.has with⟨j,a,o⟩|⟨j,a⟩
 ·obtain⟨p,c,n⟩:=f.keys _ _ a;rw[d]at c;injection c with c
  subst c;refine⟨n,λ_ e=>?_⟩;rw[e,g]at a;injection a with a
  exact(TI a).symm
 ·refine⟨by rw[a];simp only[zS];omega,λe=>by rw[j]at e;cases e⟩
def alA{xs:Q1}{a:List Tm}{d:List An}{k:List Sn}{b:Int}{h l:Sn}(f:jc xs a d k b true h)(j:k.getLast? =some l)(i:h=l)(V:Int):(gV V k b true h).2=(true,l):=by
 unfold gV;by_cases g:(cZ V k b).2=0
 ·rw[au g];obtain⟨n,o,e,p,-⟩:=OC f.lead g;rw[j]at e;injection e with e
  subst e;generalize fC (jQ (cZ V k b).1.1 (cZ V k b).1.2.1 (cZ V k b).1.2.2.1 (cZ V k b).1.2.2.2) [] V=c at *;generalize(cZ V k b).1=M at *;subst i;unfold iH;have m:(true=true/\M.2.1<=h.1):=⟨rfl,ah⟩
  repeat' split
  all_goals first|rfl|contradiction
 ·rw[aj g,i]
def alz{xs:Q1}{j:List Tm}{m:List An}{k:List Sn}{b:Int}{n:Bool}{h l:Sn}(f:jc xs j m k b n h)(c:k.getLast? =some l)(V:Int)(h1:1<=V)(J:V<=3)(L:0<=b):
 (gV V k b n h).2=(true,l)\/(b≠0/\(gV V k b n h).1.2=0):=by
 obtain⟨N,v⟩:=f.le_last c;have O:=f.lead.kp.pos l (zF c);have w:=f.lead.map l (zF c);by_cases a:n=true/\h.1=l.1
 ·obtain⟨rfl,e⟩:=a;have:=v rfl e;exact .inl (alA f c this V)
 have d:¬(n=true/\l.1<=h.1):=λe=>a ⟨e.1,ah⟩;have o:l.1≠b:=by
  intro e;rcases f.base with q|⟨P,q2⟩
  ·omega
  ·exact d ⟨P,ah⟩
 have D:(cZ V k b).2=0:=by
  unfold cZ;rw[c];simp only;rw[aj o];cases E:jC b k with
  |none=>rfl
  |some i=>
   obtain⟨s,r,-,hi⟩:=EY E;obtain⟨Q,-⟩:=Xi f.lead.kp c o E r;simp only[r];split
   ·rw[aj (by simp[Q])]
   ·rfl
 obtain⟨x,l',t,F,-,y,G⟩:=OC f.lead D;rw[c]at t;injection t with t
 subst t;have R:=aaf h1 J x λe=>(y e).1;unfold gV;rw[au D,R];generalize(cZ V k b).1=M at *;obtain⟨M1,M2,S,T⟩:=M;simp only at F G y x⊢;subst F;unfold iH;rw[aj aA];rcases x with⟨g,-⟩|⟨g,m2,m3,s,U,H,p,W,X,m8,I⟩
 ·simp only at g;have Y:=G g;rw[au g,aj d];simp only;rw[Y];exact .inl rfl
 ·simp only at g H p W X I;obtain⟨v2,Z,bb⟩:=y g;rw[bU,au g,aj d];by_cases z:(lM h (S,l.1,T)).2=0;rotate_left
  ·rw[au z];refine .inr ⟨Z,?_⟩;simp only;unfold GY;simp
  ·rw[aj (by simpa using z)];refine .inl ?_;have u:=(Nq z).2.2.1;simp only at u;have r:h=s:=by
    rcases f.has with⟨-,q,-⟩|⟨-,q⟩
    ·rw[u,H]at q;injection q with q
     exact(TI q).symm
    ·exfalso;rw[q]at u;simp only[zS]at u;omega
   have A:U=l:=by
    rw[w]at p;injection p with p
    exact(TI p).symm
   simp only;rw[r,I,A]
def aw7{xs:Q1}{k:List Sn}{b:Int}(h:Lead xs k b):0<=b:=by
 rcases h.base with q|⟨s,a,e⟩
 ·omega
 ·have:=h.kp.pos s a;omega
def ahE:jc [] [] [] [] 0 false zS:=
 ⟨⟨Kp.nil,λs b=>by simp at b,.inl rfl⟩,λe g h=>by simp[gZ]at h,λm c=>by simp at c,λa d=>by simp at d,.inr ⟨rfl,rfl⟩,.inl (gq _),rfl⟩
def iE(a:An):aQ:={kind:=a.1,id:=0,min:=0,max:=0,chosen:=0,flags:=0,cost:=0,priority:=0,deadline:=0,retry:=0,epoch:=a.2.1,base:=0,digest:=0,lag:=0,code:=a.2.2.1,want:=a.2.2.2,remaining:=0,allowed:=false,name:=[],region:=[],note:=[],d:=[],t:=[]}
def ZM{a:An}(h1: -9223372036854775808<=a.1/\a.1<=9223372036854775807)(b:0<=a.2.1/\a.2.1<18446744073709551616)(c:0<=a.2.2.1/\a.2.2.1<18446744073709551616)(d:0<=a.2.2.2/\a.2.2.2<18446744073709551616):vZ (iE a):=by refine⟨h1,?_,?_,?_,?_,?_,?_,?_,?_,?_,b,?_,?_,?_,c,d,?_,?_,?_,?_,?_,?_⟩<;>simp[iE,uF,Rows]
def ayi(V e:Int)(a:V=1\/V=2\/V=3):(iF.all λn=>rF (aT 7 V) n ||oV (iE (7,e,0,0)) n)=true:=by rcases a with rfl|rfl|rfl<;>rfl
def ayo(e c:Int):(iF.all λn=>rF (aT 8 1) n ||oV (iE (8,e,c,0)) n)=true:=rfl
def ajV(V e c w:Int)(a:V=2\/V=3):(iF.all λn=>rF (aT 8 V) n ||oV (iE (8,e,c,w)) n)=true:=by rcases a with rfl|rfl<;>rfl
def axy(V e:Int)(a:V=1\/V=2\/V=3):kP (iE (7,e,0,0)) (aT 7 V)=0:=by rcases a with rfl|rfl|rfl<;>rfl
def axC(V e c w:Int)(f:V=1\/V=2\/V=3):kP (iE (8,e,c,w)) (aT 8 V)=0:=by
 have g:pF [] 0 256=0:=rfl;have a:qA (iE (8,e,c,w)) uX=0:=rfl;have b:qA (iE (8,e,c,w)) Cj=0:=rfl;have d:qA (iE (8,e,c,w)) DW=0:=rfl;have h:qA (iE (8,e,c,w)) FK=pF [] 0 256:=rfl;have i:aT 8 1=[⟨1,0,1,uX⟩,⟨2,0,1,Cj⟩]:=rfl;have j:aT 8 2=[⟨1,0,1,uX⟩,⟨2,0,1,Cj⟩,⟨3,0,2,DW⟩]:=rfl;have k:aT 8 3=[⟨1,0,1,uX⟩,⟨2,0,1,Cj⟩,⟨3,0,2,DW⟩,⟨4,3,3,FK⟩]:=rfl;rcases f with rfl|rfl|rfl
 ·rw[i];simp only[kP,a,b,if_true]
 ·rw[j];simp only[kP,a,b,d,if_true]
 ·rw[k];simp only[kP,a,b,d,h,g,if_true]
def Vw(e:Int){V:Int}(h1:1<=V)(g:V<=3):fC (iE (7,e,0,0)) [] V=0:=by
 have a:V=1\/V=2\/V=3:=ah;unfold fC;have b:aT (iE (7,e,0,0)).kind V≠[]:=(by rcases a with rfl|rfl|rfl<;>decide:aT 7 V≠[])
 have c:(iF.all λn=>rF (aT (iE (7,e,0,0)).kind V) n ||oV (iE (7,e,0,0)) n)=true:=ayi V e a;have d:kP (iE (7,e,0,0)) (aT (iE (7,e,0,0)).kind V)=0:=axy V e a;have f:EJ (iE (7,e,0,0))=0:=rfl;rw[bU,bU,aj b,aj (by rw[c];simp),aj (by rw[d];simp),aj (by rw[f];simp)];exact XY _
def aoV(e c w:Int){V:Int}(h1:1<=V)(i:V<=3)(b:¬2<=V->w=0):fC (iE (8,e,c,w)) [] V=0:=by
 have a:V=1\/V=2\/V=3:=ah;unfold fC;have d:aT (iE (8,e,c,w)).kind V≠[]:=(by rcases a with rfl|rfl|rfl<;>decide:aT 8 V≠[])
 have f:(iF.all λn=>rF (aT (iE (8,e,c,w)).kind V) n ||oV (iE (8,e,c,w)) n)=true:=by
  rcases a with rfl|rfl|rfl
  ·rw[b ah];exact ayo e c
  ·exact ajV 2 e c w (.inl rfl)
  ·exact ajV 3 e c w (.inr rfl)
 have g:kP (iE (8,e,c,w)) (aT (iE (8,e,c,w)).kind V)=0:=axC V e c w a;have h:EJ (iE (8,e,c,w))=0:=rfl;rw[bU,bU,aj d,aj (by rw[f];simp),aj (by rw[g];simp),aj (by rw[h];simp)];exact XY _
structure Rec(v:Int)(sm:Bool)(h:Sn):Prop where
 lo:1<=v
 hi:v<=3
 good:eF h.2
 ep:0<=h.1/\h.1<18446744073709551616
 no:sm=false->h=zS
def Tf{v:Int}{d:Bool}{h:Sn}(r:Rec v d h)(c kd a b:Int)(t:List Row)(j:eF t)(f:0<=a/\a<18446744073709551616):
 Rec v (iH c v kd a b t d h).2.2.1 (iH c v kd a b t d h).2.2.2/\vZ (iE (iH c v kd a b t d h).1)/\((iH c v kd a b t d h).1.1=0\/((iH c v kd a b t d h).1.1≠0/\fC (iE (iH c v kd a b t d h).1) [] v=0)):=by
 have r1:=r.lo;have r2:=r.hi;have z:vZ (iE (0,0,0,0)):=ZM aV aV aV aV;have g:∀e:Int,0<=e/\e<18446744073709551616->vZ (iE (7,e,0,0)):=λe h=>ZM aA h aA aA;unfold iH;split
 ·exact⟨r,z,.inl rfl⟩
 split
 ·split
  ·exact⟨r,g _ r.ep,.inr ⟨aA,Vw _ r1 r2⟩⟩
  ·exact⟨⟨r1,r2,j,f,λe=>by cases e⟩,g _ f,.inr ⟨aA,Vw _ r1 r2⟩⟩
 split
 ·split
  ·exact⟨r,g _ r.ep,.inr ⟨aA,Vw _ r1 r2⟩⟩
  split
  ·refine⟨r,ZM aA f (wrap_u64 _) ?_,.inr ⟨aA,aoV _ _ _ r1 r2 λl=>aj l⟩⟩;simp only;split
   ·exact r.ep
   ·simp
  ·next i=>
   have i:(lM h (b,a,t)).2=0:=by simpa using i
   have m:=(Nq i).2.2.2.2;have n:=(afv r.good j i).1.good;have k:0<=(lM h (b,a,t)).1.1/\(lM h (b,a,t)).1.1<18446744073709551616:=by rw[m];exact f
   exact⟨⟨r1,r2,n,k,λe=>by cases e⟩,g _ k,.inr ⟨aA,Vw _ r1 r2⟩⟩
 ·exact⟨r,z,.inl rfl⟩
