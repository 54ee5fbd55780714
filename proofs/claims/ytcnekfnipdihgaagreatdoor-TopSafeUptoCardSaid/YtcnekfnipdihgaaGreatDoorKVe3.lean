/- What the trees compute: plain laws. -/
import Derived.Test.YtcnekfnipdihgaaGreatDoorKVe2
set_option linter.all false
namespace Go.Proofs.YtcnekfnipdihgaaGreatDoor
open Go Go.aP
set_option maxRecDepth 100000
namespace V
abbrev It:=Int×Int×Q2
def dF(x:It):GV:=.g [.zu x.1,.zu x.2.1,.s x.2.2]
@[simp] theorem awp(x:It):(dF x).cells=[.zu x.1,.zu x.2.1,.s x.2.2]:=rfl
def lH(a b:It):Bool:=if a.1=b.1 then decide (a.2.1<b.2.1)else decide (a.1<b.1)
def leI(a b:It):Prop:=lH b a=false
def Xd(a b:It):leI a b↔a.1<b.1\/(a.1=b.1/\a.2.1<=b.2.1):=by
 unfold leI lH;split
 ·next h=>simp;omega
 ·next h=>simp;omega
def ai3(a:It):leI a a:=(Xd a a).2 (.inr ⟨rfl,gZ _⟩)
def abD{a b c:It}(h1:leI a b)(d:leI b c):leI a c:=by rw[Xd]at *;omega
def RF{a b:It}(h:lH a b=true):leI a b:=by
 rw[Xd];unfold lH at h;split at h
 ·next e=>have:=Du h;omega
 ·next e=>have:=Du h;omega
def awN{a b:It}(h:leI a b):a.1<=b.1:=by rw[Xd]at h;omega
def dI:It:=(0,0,[])
abbrev at_(h:List It)(i:Nat):It:=h.getD i dI
def jf(h:List It)(i j:Nat):List It:=(h.set i (at_ h j)).set j (at_ h i)
def FN(h:List It)(i j:Nat):(jf h i j).length=h.length:=by simp[jf]
def ZJ(h:List It){i j:Nat}(hi:i<h.length)(f:j<h.length)(k:Nat):at_ (jf h i j) k=if k=j then at_ h i else if k=i then at_ h j else at_ h k:=by
 unfold jf at_;simp only[zN,aeJ,IL];by_cases a:k=j
 ·subst a;simp[f]
 ·have b:¬j=k:=λe=>a e.symm;rw[aj b,aj a];by_cases c:k=i
  ·subst c;simp[hi]
  ·have d:¬i=k:=λe=>c e.symm;rw[aj d,aj c]
def swap_perm(h:List It){i j:Nat}(hi:i<h.length)(a:j<h.length):(jf h i j).Perm h:=by have:=Array.swap_perm (xs:=h.toArray) (i:=i) (j:=j) (by simpa using hi) (by simpa using a);have b:=this.toList;simp only[Array.toList_swap]at b;unfold jf at_;simpa[zN,hi,a]using b
def par(k:Nat):Nat:=(k-1)/2
def Heap(h:List It)(n:Nat):Prop:=∀k,0<k->k<n->leI (at_ h (par k)) (at_ h k)
def BR:Nat->List It->Nat->List It
 |0,h,_=>h
 |f+1,h,j=>if par j=j\/lH (at_ h j) (at_ h (par j))=false then h else BR f (jf h (par j) j) (par j)
structure ae4(h:List It)(n j:Nat):Prop where
 jn:j<n
 heap:∀k,0<k->k<n->k≠j->leI (at_ h (par k)) (at_ h k)
 kids:∀k,0<k->k<n->par k=j->0<j->leI (at_ h (par j)) (at_ h k)
def amI:∀(f:Nat)(h:List It)(j n:Nat),j<f->n=h.length->ae4 h n j->Heap (BR f h j) n/\(BR f h j).Perm h
 |0,h,j,n,v,_,_=>ah
 |f+1,h,j,n,v,w,d=>by
  unfold BR;split
  ·next b=>
   refine⟨λk h0 g=>?_,aex _⟩;by_cases e:k=j
   ·subst e;rcases b with b|b
    ·unfold par at b;omega
    ·exact b
   ·exact d.heap k h0 g e
  ·next b=>
   rw[not_or]at b;obtain⟨x,m⟩:=b;have m:lH (at_ h j) (at_ h (par j))=true:=by simpa using m
   have y:0<j:=by
    rcases Uj j with e|e
    ·subst e;exact absurd rfl x
    ·exact e
   have A:par j<j:=by unfold par;omega
   have z:=d.jn;have a:=ZJ h (i:=par j) (j:=j) ah ah;have o:ae4 (jf h (par j) j) n (par j):=by
    refine⟨ah,λk h0 g p=>?_,λk h0 g l r=>?_⟩
    ·rw[a,a];by_cases c:k=j
     ·subst c;rw[dL,au rfl,au rfl];exact RF m
     ·rw[aj c,aj p];by_cases s:par k=j
      ·rw[au s];exact d.kids k h0 g s y
      ·rw[aj s];by_cases t:par k=par j
       ·rw[au t];exact abD (RF m) (t▸d.heap k h0 g c)
       ·rw[aj t];exact d.heap k h0 g c
    ·rw[a,a];have q:par (par j)<par j:=by unfold par at *;omega
     rw[dL,dL];have u:=d.heap (par j) r ah ah;by_cases c:k=j
     ·subst c;rw[au rfl];exact u
     ·rw[aj c,aj (λe=>by rw[e]at l;omega)];exact abD u (l▸d.heap k h0 g c)
   obtain⟨r1,r2⟩:=amI f (jf h (par j) j) (par j) n ah (by rw[FN];exact w) o;exact⟨r1,r2.trans (swap_perm h ah ah)⟩
def vG(h:List It)(x:It):List It:=BR (h.length+1) (h++[x]) h.length
def OC(h:List It)(x:It)(c:Heap h h.length):Heap (vG h x) (h.length+1)/\(vG h x).Perm (h++[x]):=by
 refine amI _ _ _ _ ah aA ⟨ah,λk b d e=>?_,λk b d a _=>?_⟩
 ·have f:k<h.length:=ah;have g:at_ (h++[x]) k=at_ h k:=by simp[at_,oG (ah:k<h.length)]
  have i:at_ (h++[x]) (par k)=at_ h (par k):=by simp[at_,oG (show par k<h.length by unfold par;omega)]
  rw[g,i];exact c k b ah
 ·exfalso;unfold par at a;omega
def kid(h:List It)(i n:Nat):Nat:=if 2*i+2<n/\lH (at_ h (2*i+2)) (at_ h (2*i+1))=true then 2*i+2 else 2*i+1
def og:Nat->List It->Nat->Nat->List It
 |0,h,_,_=>h
 |f+1,h,i,n=>if n<=2*i+1\/lH (at_ h (kid h i n)) (at_ h i)=false then h else og f (jf h i (kid h i n)) (kid h i n) n
structure ael(h:List It)(n i:Nat):Prop where
 heap:∀k,0<k->k<n->par k≠i->leI (at_ h (par k)) (at_ h k)
 kids:∀k,0<k->k<n->par k=i->0<i->leI (at_ h (par i)) (at_ h k)
def aiM{h:List It}{i n:Nat}(h1:2*i+1<n):kid h i n<n/\par (kid h i n)=i/\i<kid h i n/\∀k,0<k->k<n->par k=i->leI (at_ h (kid h i n)) (at_ h k):=by
 unfold kid;have b:∀k,0<k->par k=i->k=2*i+1\/k=2*i+2:=λk c d=>by unfold par at d;omega
 split
 ·next f=>
  refine⟨f.1,by unfold par;omega,ah,λk c d a=>?_⟩;rcases b k c a with rfl|rfl
  ·exact RF f.2
  ·exact ai3 _
 ·next f=>
  refine⟨h1,by unfold par;omega,ah,λk c d a=>?_⟩;rcases b k c a with rfl|rfl
  ·exact ai3 _
  ·have:¬lH (at_ h (2*i+2)) (at_ h (2*i+1))=true:=λe=>f ⟨d,e⟩;unfold leI;simpa using this
def agQ:∀(f:Nat)(h:List It)(i n:Nat),n-i<f->n<=h.length->ael h n i->Heap (og f h i n) n/\(og f h i n).Perm h/\∀k,n<=k->at_ (og f h i n) k=at_ h k
 |0,h,i,n,v,_,_=>ah
 |f+1,h,i,n,v,w,m=>by
  unfold og;split
  ·next d=>
   refine⟨λk h0 b=>?_,aex _,λ_ _=>rfl⟩;by_cases e:par k=i
   ·by_cases o:n<=2*i+1
    ·unfold par at e;omega
    ·have d:=d.resolve_left o;have:=(aiM (h:=h) (i:=i) (n:=n) ah).2.2.2 k h0 b e;rw[e];exact abD d this
   ·exact m.heap k h0 b e
  ·next d=>
   rw[not_or]at d;obtain⟨A,p⟩:=d;have p:lH (at_ h (kid h i n)) (at_ h i)=true:=by simpa using p
   obtain⟨x,q,B,y⟩:=aiM (h:=h) (i:=i) (n:=n) ah;generalize kid h i n=j at *;have a:=ZJ h (i:=i) (j:=j) ah ah;have r:ael (jf h i j) n j:=by
    refine⟨λk h0 b s=>?_,λk h0 b c z=>?_⟩
    ·rw[a,a];rw[aj s];by_cases t:k=j
     ·subst t;rw[au rfl,q,au rfl];exact RF p
     ·rw[aj t];by_cases g:par k=i
      ·rw[au g];by_cases l:k=i
       ·unfold par at g;omega
       ·rw[aj l];exact y k h0 b g
      ·rw[aj g];by_cases l:k=i
       ·rw[au l];subst l;exact m.kids j ah x q h0
       ·rw[aj l];exact m.heap k h0 b g
    ·rw[a,a];have u:par j=i:=q;rw[dL,au u];rw[aj (by unfold par at c;omega),aj (by unfold par at c u;omega)];exact c▸m.heap k h0 b ah
   obtain⟨r1,r2,r3⟩:=agQ f (jf h i j) j n ah (by rw[FN];exact w) r;refine⟨r1,r2.trans (swap_perm h ah ah),λk b=>?_⟩;rw[r3 k b,a,dL,dL]
def aiI{h:List It}{k:Nat}(a:k<h.length):(h.map dF)[k]? =some (dF (at_ h k)):=by rw[iO,bV a];simp[at_,a]
def az1(x:It)(a b:Int)(c:Q2):(dF x).put 0 [.zu a,.zu b,.s c]=some (dF (a,b,c)):=rfl
def aDm(h:List It)(k:Nat)(x:It):(h.map dF).set k (dF x)=(h.set k x).map dF:=by rw[Zb]
def awq(x:It):dF (x.1,x.2.1,x.2.2)=dF x:=rfl
def Bv{h:List It}{k:Nat}(a:k<h.length):EL (some (.l (h.map dF))) (some (.zq (k:Int)))=some (.zq (k:Int)):=by rw[jQ,au ⟨ah,by rw[gG];omega⟩]
def CQ{h:List It}{k:Nat}(a:k<h.length):at2 3 (some (.l (h.map dF))) (some (.zq (k:Int)))=some (dF (at_ h k)):=by rw[dA,lM,(ah:((k:Int)).toNat=k),aiI a];rfl
def Ls{h:List It}{k:Nat}(a:k<h.length)(x:It):FU 3 0 (some (.l (h.map dF))) (some (.zq (k:Int))) (some [.zu x.1,.zu x.2.1,.s x.2.2])=some (.l ((h.set k x).map dF)):=by rw[vN,au ⟨ah,rfl⟩,(ah:((k:Int)).toNat=k),aiI a];simp only[AU,awp,ig,kF,if_true,az1,awq,iH,aDm]
def ayS(j:Nat)(c:j<=1000000):IntKind.i64.wrap ((IntKind.i64.wrap ((j:Int)-1)).tdiv 2)=(par j:Nat)/\IntKind.i64.wrap ((j:Int)-1)=(j:Int)-1:=by
 have a:=bI ((j:Int)-1);have b:((j:Int)-1).tdiv 2=(par j:Nat):=by
  rcases Uj j with e|e
  ·subst e;rfl
  ·have:(j:Int)-1=((j-1:Nat):Int):=ah;rw[this];exact(Int.ofNat_tdiv (j-1) 2).symm
 refine⟨?_,a⟩;rw[a,b];exact wrap64 ah (by unfold par;omega)
def amJ:∀(f:Nat)(h:List It)(j:Nat)(c:GV),j<f->j<h.length->h.length<=1000000->
 TT.lim 148 [.zq (j:Int),.l (h.map dF),c]=some [.zq 0,.l ((BR f h j).map dF)]
 |0,h,j,c,z,_,_=>ah
 |f+1,h,j,c,z,r,A=>by
  obtain⟨w1,a⟩:=ayS j ah;rw[a]at w1;have k:par j<h.length:=by unfold par;omega
  have l:=CQ r;have m:=CQ k;have n:=Bv r;have o:=Bv k;have v:=Ls k (at_ h j);have g:j<(h.set (par j) (at_ h j)).length:=by rw[IL];exact r
  have s:=Ls g (at_ h (par j));have w:=Bv g;have p:=λt:par j<f=>amJ f (jf h (par j) j) (par j) c t (by rw[FN];exact k) (by rw[FN];exact A);have B:(h.set (par j) (at_ h j)).set j (at_ h (par j))=jf h (par j) j:=rfl;rw[B]at s;have D:par j<=j:=by unfold par;omega
  by_cases e:par j=j
  ·have u:BR (f+1) h j=h:=au (.inl e);rw[u];have b:((par j:Nat):Int)=(j:Int):=ah;refine aB ?_;simp[w1,a,b]
  ·have b:¬((par j:Nat):Int)=(j:Int):=ah;have p:=p ah;have u:BR (f+1) h j=if lH (at_ h j) (at_ h (par j))=false then h else BR f (jf h (par j) j) (par j):=by
    show(if par j=j\/lH (at_ h j) (at_ h (par j))=false then h else BR f (jf h (par j) j) (par j))=_
    by_cases q:lH (at_ h j) (at_ h (par j))=false
    ·rw[au (.inr q),au q]
    ·rw[aj (λh=>h.elim e q),aj q]
   rw[u];generalize at_ h j=x,at_ h (par j)=y,jf h (par j) j=E at *;generalize h.set (par j) x=F,((par j:Nat):Int)=G at *;refine aB ?_;unfold lH;by_cases d:x.1=y.1
   ·have d:=eq_true d;by_cases i:x.2.1<y.2.1
    ·simp[-jQ,-dA,-vN,w1,a,b,l,m,n,o,w,v,s,d,i,p]
    ·simp[-jQ,-dA,-vN,w1,a,b,l,m,n,o,d,i]
   ·by_cases i:x.1<y.1
    ·simp[-jQ,-dA,-vN,w1,a,b,l,m,n,o,w,v,s,d,i,p]
    ·simp[-jQ,-dA,-vN,w1,a,b,l,m,n,o,d,i]
def aE9(h:List It)(j:Nat)(c:GV)(a:j<h.length)(b:h.length<=1000000):TT.lim 147 [.zq (j:Int),.l (h.map dF),c]=some [.zq 0,.l ((BR (j+1) h j).map dF)]:=by have d:=amJ (j+1) h j c ah a b;refine aB ?_;simp[d]
def Dn{a b:It}{v:Bool}(h:lH a b=v):((a.1=b.1)=True/\(a.2.1<b.2.1)=(v=true))\/((a.1=b.1)=False/\(a.1<b.1)=(v=true)):=by
 unfold lH at h;by_cases e:a.1=b.1
 ·rw[au e]at h;refine .inl ⟨eq_true e,?_⟩;rw[<-h,decide_eq_true_eq]
 ·rw[aj e]at h;refine .inr ⟨eq_false e,?_⟩;rw[<-h,decide_eq_true_eq]
def agR:∀(f:Nat)(h:List It)(i n:Nat)(a0 c:GV),n-i<f->n<=h.length->h.length<=1000000->i<=1000000->
 ∃o:Nat,TT.lim 159 [a0,.zq (n:Int),.zq (i:Int),.l (h.map dF),c]=some [.zq 0,.zq (o:Int),.l ((og f h i n).map dF)]
 |0,h,i,n,a0,c,T,_,_,_=>ah
 |f+1,h,i,n,a0,c,T,U,W,hi=>by
  have J:og (f+1) h i n=if n<=2*i+1\/lH (at_ h (kid h i n)) (at_ h i)=false then h else og f (jf h i (kid h i n)) (kid h i n) n:=rfl
  have w1:=bI (2*(i:Int));have v:=bI (2*(i:Int)+1);have x:=bI (2*(i:Int)+1+1);by_cases L:n<=2*i+1
  ·rw[J,au (.inl L)];have a:(n:Int)<=2*(i:Int)+1:=ah;refine⟨i,jC rfl rfl ?_⟩;simp[w1,v,a]
  have a:¬(n:Int)<=2*(i:Int)+1:=ah;have k:¬(2*(i:Int)+1<0):=ah;have D:2*i+1<h.length:=ah;have w:i<h.length:=ah;have M:2*(i:Int)+1=((2*i+1:Nat):Int):=ah;have P:2*(i:Int)+1+1=((2*i+2:Nat):Int):=ah;have p:=CQ D;have q:=Bv D;have z:=CQ w;have A:=Bv w
  have step:∀j:Nat,j<n->i<j->(∃o:Nat,TT.lim 159 [a0,.zq (n:Int),.zq (j:Int),.l ((jf h i j).map dF),c]=some [.zq 0,.zq (o:Int),.l ((og f (jf h i j) j n).map dF)])/\
   FU 3 0 (some (.l (h.map dF))) (some (.zq (i:Int))) (some [.zu (at_ h j).1,.zu (at_ h j).2.1,.s (at_ h j).2.2])=some (.l ((h.set i (at_ h j)).map dF))/\
   FU 3 0 (some (.l ((h.set i (at_ h j)).map dF))) (some (.zq (j:Int))) (some [.zu (at_ h i).1,.zu (at_ h i).2.1,.s (at_ h i).2.2])=some (.l ((jf h i j).map dF)):=by
   intro j Y X;refine⟨agR f (jf h i j) j n a0 c ah (by rw[FN];exact U) (by rw[FN];exact W) ah,Ls w (at_ h j),?_⟩;exact Ls (h:=h.set i (at_ h j)) (by rw[IL];omega) (at_ h i)
  by_cases N:2*i+2<n
  ·have g:2*(i:Int)+1+1<(n:Int):=ah;have E:2*i+2<h.length:=ah;have F:=CQ E;have G:=Bv E;rw[<-M]at p q;rw[<-P]at F G;by_cases r:lH (at_ h (2*i+2)) (at_ h (2*i+1))=true
   ·have H:kid h i n=2*i+2:=by unfold kid;rw[au ⟨N,r⟩]
    rw[J,H];obtain⟨⟨o,s⟩,I,t⟩:=step (2*i+2) N ah;rw[<-P]at s t;generalize at_ h (2*i+2)=O,at_ h (2*i+1)=B,at_ h i=y,og f (jf h i (2*i+2)) (2*i+2) n=R at *;generalize jf h i (2*i+2)=S,h.set i O=Q at *;cases u:lH O y with
    |true=>refine⟨o,?_⟩;rw[aj (λe=>e.elim L aA)];refine aB ?_;rcases Dn r with⟨l,m⟩|⟨l,m⟩<;>rcases Dn u with⟨b,d⟩|⟨b,d⟩<;>simp[-jQ,-dA,-vN,w1,v,x,a,k,g,p,F,z,q,G,A,l,m,b,d,I,t,s]
    |false=>refine⟨i,?_⟩;rw[au (.inr rfl)];refine aB ?_;rcases Dn r with⟨l,m⟩|⟨l,m⟩<;>rcases Dn u with⟨b,d⟩|⟨b,d⟩<;>simp[-jQ,-dA,-vN,w1,v,x,a,k,g,p,F,z,q,G,A,l,m,b,d]
   ·have H:kid h i n=2*i+1:=by unfold kid;rw[aj (λe=>r e.2)]
    have r:lH (at_ h (2*i+2)) (at_ h (2*i+1))=false:=by simpa using r
    rw[J,H];obtain⟨⟨o,s⟩,I,t⟩:=step (2*i+1) ah ah;rw[<-M]at s t;generalize at_ h (2*i+2)=O,at_ h (2*i+1)=B,at_ h i=y,og f (jf h i (2*i+1)) (2*i+1) n=R at *;generalize jf h i (2*i+1)=S,h.set i B=Q at *;cases u:lH B y with
    |true=>refine⟨o,?_⟩;rw[aj (λe=>e.elim L aA)];refine aB ?_;rcases Dn r with⟨l,m⟩|⟨l,m⟩<;>rcases Dn u with⟨b,d⟩|⟨b,d⟩<;>simp[-jQ,-dA,-vN,w1,v,x,a,k,g,p,F,z,q,G,A,l,m,b,d,I,t,s]
    |false=>refine⟨i,?_⟩;rw[au (.inr rfl)];refine aB ?_;rcases Dn r with⟨l,m⟩|⟨l,m⟩<;>rcases Dn u with⟨b,d⟩|⟨b,d⟩<;>simp[-jQ,-dA,-vN,w1,v,x,a,k,g,p,F,z,q,G,A,l,m,b,d]
  ·have g:¬2*(i:Int)+1+1<(n:Int):=ah;have H:kid h i n=2*i+1:=by unfold kid;rw[aj (λe=>N e.1)]
   rw[<-M]at p q;rw[J,H];obtain⟨⟨o,s⟩,I,t⟩:=step (2*i+1) ah ah;rw[<-M]at s t;generalize at_ h (2*i+1)=B,at_ h i=y,og f (jf h i (2*i+1)) (2*i+1) n=R at *;generalize jf h i (2*i+1)=S,h.set i B=Q at *;cases u:lH B y with
   |true=>refine⟨o,?_⟩;rw[aj (λe=>e.elim L aA)];refine aB ?_;rcases Dn u with⟨b,d⟩|⟨b,d⟩<;>simp[-jQ,-dA,-vN,w1,v,x,a,k,g,p,z,q,A,b,d,I,t,s]
   |false=>refine⟨i,?_⟩;rw[au (.inr rfl)];refine aB ?_;rcases Dn u with⟨b,d⟩|⟨b,d⟩<;>simp[-jQ,-dA,-vN,w1,v,x,a,k,g,p,z,q,A,b,d]
def oD(h:List It):List It:=(og (h.length-1+1) (jf h 0 (h.length-1)) 0 (h.length-1)).take (h.length-1)
def aaw:∀(f:Nat)(h:List It)(i n:Nat),(og f h i n).length=h.length
 |0,h,i,n=>rfl
 |f+1,h,i,n=>by
  unfold og;split
  ·rfl
  ·rw[aaw,FN]
def afv{h:List It}{n k:Nat}(a:k<n):at_ (h.take n) k=at_ h k:=by unfold at_;simp[List.getD,mW,a]
def XV(h:List It)(n:Nat)(m:h.length=n+1)(q:Heap h (n+1)):
 (oD h).length=n/\Heap (oD h) n/\(at_ h 0::oD h).Perm h/\at_ (og (n+1) (jf h 0 n) 0 n) n=at_ h 0:=by
 have r:(jf h 0 n).length=n+1:=by rw[FN,m]
 have b:=ZJ h (i:=0) (j:=n) ah ah;have s:=agQ (n+1) (jf h 0 n) 0 n ah ah ⟨λk c d o=>by
  have f:par k<k:=by unfold par;omega
  rw[b,b,dL,aj o,dL,dL];exact q k c ah,λk c d o t=>ah⟩
 obtain⟨d1,d2,d3⟩:=s;have a:at_ (og (n+1) (jf h 0 n) 0 n) n=at_ h 0:=by rw[d3 n ah,b,au rfl]
 have g:(og (n+1) (jf h 0 n) 0 n).length=n+1:=by rw[aaw,r]
 have l:oD h=(og (n+1) (jf h 0 n) 0 n).take n:=by unfold oD;rw[m];rfl
 generalize og (n+1) (jf h 0 n) 0 n=D at *;refine⟨by rw[l,lZ,g];omega,?_,?_,a⟩
 ·intro k c d;have f:par k<k:=by unfold par;omega
  rw[l,afv ah,afv d];exact d1 k c d
 ·have e:D.take n++[at_ h 0]=D:=by
   rw[<-a];have:at_ D n=D[n]'(by omega):=by simp[at_,List.getD,bV (ah:n<D.length)]
   rw[this,List.take_append_getElem (ah:n<D.length),lS ah]
  have p:(at_ h 0::oD h).Perm (D.take n++[at_ h 0]):=by rw[l];exact(ang (l₁:=[at_ h 0]) (l₂:=D.take n))
  rw[e]at p;exact p.trans (d2.trans (swap_perm h ah ah))
def SK(h:List It)(x:It)(a:Heap h h.length):(vG h x).length=h.length+1:=by have:=(OC h x a).2.length_eq;simpa using this
def fQ:Nat->Int->List It->List Q2×List It
 |0,_,h=>([],h)
 |m+1,t,h=>if h=[]\/t<(at_ h 0).1 then([],h)else((at_ h 0).2.2::(fQ m t (oD h)).1,(fQ m t (oD h)).2)
def VA(t:Int):∀(m:Nat)(h:List It),h.length=m->Heap h h.length->Heap (fQ m t h).2 (fQ m t h).2.length/\(fQ m t h).1.length+(fQ m t h).2.length=m
 |0,h,c,d=>by simp only[fQ];exact⟨d,by simpa using c⟩
 |m+1,h,c,d=>by
  simp only[fQ];split
  ·exact⟨d,by simpa using c⟩
  ·obtain⟨r1,r2,r3,-⟩:=XV h m c (by rw[<-c];exact d);obtain⟨a,b⟩:=VA t m (oD h) r1 (by rw[r1];exact r2);exact⟨a,by simp only[ig];omega⟩
structure PZ(h L:List It)(n:Int):Prop where
 heap:Heap h h.length
 perm:L.Perm h
 srt:L.Pairwise (λx y=>lH x y=true)
 low:∀x∈L,x.2.1<n
def PZ.len{h L:List It}{n:Int}(s:PZ h L n):h.length=L.length:=s.perm.length_eq.symm
def insL(x:It):List It->List It
 |[]=>[x]
 |y::L=>if y.1<=x.1 then y::insL x L else x::y::L
def WQ(x:It):∀L,(insL x L).Perm (L++[x])
 |[]=>aex _
 |y::L=>by
  unfold insL;split
  ·exact(WQ x L).cons y
  ·exact ang (l₁:=[x]) (l₂:=y::L)
def aw3{y x:It}(h:y.1<=x.1)(a:y.2.1<x.2.1):lH y x=true:=by
 unfold lH;split
 ·simpa using a
 ·simp;omega
def ajm{y x:It}(h:x.1<y.1):lH x y=true:=by unfold lH;rw[dL];simpa using h
def aw2{x y:It}(h:lH x y=true):x.1<=y.1:=awN (RF h)
def aiB(x:It):∀L:List It,L.Pairwise (λa b=>lH a b=true)->(∀y∈L,y.2.1<x.2.1)->(insL x L).Pairwise (λa b=>lH a b=true)
 |[],_,_=>by simp[insL]
 |y::L,e,c=>by
  obtain⟨h1,h⟩:=jm.1 e;unfold insL;split
  ·next f=>
   refine jm.2 ⟨λz d=>?_,aiB x L h λz d=>c z (yU _ d)⟩;rcases iP.1 ((WQ x L).mem_iff.1 d)with g|g
   ·exact h1 z g
   ·rw[jI]at g;subst g;exact aw3 f (c y PD)
  ·next f=>
   refine jm.2 ⟨λz d=>?_,e⟩;rcases bJ.1 d with rfl|g
   ·exact ajm ah
   ·exact ajm (by have:=aw2 (h1 z g);omega)
def PZ.put{h L:List It}{n a:Int}{t:Q2}(s:PZ h L n):PZ (vG h (a,n,t)) (insL (a,n,t) L) (n+1):=by
 have b:=OC h (a,n,t) s.heap;have c:=SK h (a,n,t) s.heap;refine⟨by rw[c];exact b.1,(WQ _ _).trans ((s.perm.append_right _).trans b.2.symm),aiB _ _ s.srt s.low,λx d=>?_⟩;rcases iP.1 ((WQ _ _).mem_iff.1 d)with g|g
 ·have:=s.low x g;omega
 ·rw[jI]at g;subst g;show n<n+1
  omega
def wrap_u64(n:Int):0<=IntKind.u64.wrap n/\IntKind.u64.wrap n<18446744073709551616:=by
 have:IntKind.u64.wrap n=n%18446744073709551616:=by simp[IntKind.wrap,IntKind.signed,IntKind.bits]
 rw[this];omega
def ajl{k:List Sn}{i:Nat}(hi:i<=k.length):Oe 2 (some (.l (k.map sn))) (some (.zq (i:Int))) (some (.zq (k.length:Int)))=some (.l ((k.drop i).map sn)):=by
 rw[nI,au]
 ·congr 2;rw[tY,tY,lS aA,List.map_drop]
 ·refine⟨ah,ah,aA,?_⟩;rw[List.all_map];exact List.all_eq_true.2 λx _=>rfl
def alY(k:List Sn):(k.map sn).all (GV.gu 2)=true:=by rw[List.all_map];exact List.all_eq_true.2 λx _=>rfl
def alF(t:List Row)(e:Int)(d:bZ t):∀(m i:Nat)(a:List Row),i+m=t.length->a.length=i->
 TT.lim 46 [.l (t.map row),.zq t.length,.zq i,.zu e,.l (a.map row)]=some [.zq 0,.l ((a++t.drop i).map row)]
 |0,i,a,hi,l=>by have h0:t.drop i=[]:=iE;have h:¬((i:Int)<t.length):=ah;refine aB ?_;simp[h,h0]
 |m+1,i,a,hi,l=>by
  have b:i<t.length:=ah;have o:=d.len;have kc:=GH t[i].1 (EC (d.few _ (gY b)));have c:GV.g [.l (t[i].1.map ent),.zu t[i].2]=row t[i]:=rfl;have f:(row t[i]).gu 2=true:=rfl;have g:2*(a.length+1)*32<=281474976710656/\a.length+1<=281474976710656:=ah;have h:((i:Int)<t.length):=ah;have n:=bI ((i:Int)+1);have k:TT.lim 46 [.l (t.map row),.zq t.length,.zq ((i:Int)+1),.zu e,.l ((a++[t[i]]).map row)]=_:=alF t e d m (i+1) (a++[t[i]]) ah (by simp;omega);have j:a++t.drop i=a++[t[i]]++t.drop (i+1):=by rw[List.append_assoc,PK,<-iG b]
  rw[j];generalize a++[t[i]]++t.drop (i+1)=R at *;simp only[nP,iU,jU]at k;refine aB ?_;simp[-List.getElem_cons_drop,h,b,n,kc,c,f,g,k]
def OO(s:Sn)(h:bZ s.2):TT.lim 45 [sn s]=some [sn s]:=by have k:TT.lim 46 [.l (s.2.map row),.zq s.2.length,.zq 0,.zu s.1,.l []]=_:=alF s.2 s.1 h s.2.length 0 [] ah rfl;rw[aW,dY]at k;have d:=h.len;have b:(32:Int)*s.2.length<=281474976710656/\(s.2.length:Int)<=1152921504606846976:=ah;have a:(GV.g [.l [],.zu 0]).gu 2=true:=rfl;have c:GV.g [.zu s.1,.l (s.2.map row)]=sn s:=rfl;refine aV ?_;simp[b,a,k,c]
structure Kp(k:List Sn):Prop where
 len:k.length<=8
 tb:∀s∈k,Tb s.2
 pos:∀s∈k,0<s.1/\s.1<18446744073709551616
 rise:k.Pairwise λa b=>a.1<b.1/\kT b.2 a.2=true
def Kp.nil:Kp []:=⟨aU,aA,aA,List.Pairwise.nil⟩
def ai2(v b:GV):TT.lim 55 [v,.l [],b]=some [.zq 0,.zu 0,.l [],.b false]:=by refine aB ?_;simp
def ai1(v b:GV)(k:List Sn)(m:Nat)(x:Sn)(i:k.length=m+1)(j:m<=1000)(d:k[m]? =some x)(e:bZ x.2):
 TT.lim 55 [v,.l (k.map sn),b]=some [.zq 0,.zu x.1,.l (x.2.map row),.b true]:=by
 have kc:=OO x e;have f:=bI ((m:Int));have g:((k.length:Nat):Int)=(m:Int)+1:=ah;have a:¬((m:Int)+1=0):=ah;have c:(m:Int)<(m:Int)+1:=ah;have h:GV.g [.zu x.1,.l (x.2.map row)]=sn x:=rfl;refine aB ?_;simp[g,a,f,d,kc,h,c]
def jZ(e:Int)(k:List Sn):W3:=k.findIdx? λs=>decide (s.1=e)
def rG:W3->List GV
 |some j=>[.zq 0,.zq (j:Int)]
 |none=>[.zq 1]
def Jz{e:Int}{k:List Sn}{j:Nat}(h:jZ e k=some j):∃x,k[j]? =some x/\x.1=e/\j<k.length:=by unfold jZ at h;obtain⟨a,b,-⟩:=List.findIdx?_eq_some_iff_getElem.1 h;exact⟨k[j],bV a,by simpa using b,a⟩
def sJ(e:Int)(k:List Sn)(b:Int):Bool×List Sn×Int:=if e<=b then(false,k,b)else match jZ e k with
 |none=>(false,k,b)
 |some i=>(true,k.drop i,e)
def nX(x:Sn)(b:Int):List Sn->List Sn×Int
 |[]=>([x],b)
 |y::r=>if 8<r.length+2 then(r++[x],if y.1=b then 0 else b)else(y::r++[x],b)
def jd(x:Sn)(k:List Sn)(b:Int):Int×List Sn×Int:=
 if oK x.2≠0 then(oK x.2,k,b)else if x.1=0 then(18,k,b)else match k.getLast? with
 |none=>(0,nX x b k)
 |some l=>if x.1<=l.1 then(20,k,b)else if kT x.2 l.2=false then(21,k,b)else(0,nX x b k)
def last_at{k:List Sn}{l:Sn}(h:k.getLast? =some l):∃m,k.length=m+1/\k[m]? =some l/\l∈k:=by
 cases a:k with
 |nil=>subst a;simp at h
 |cons y r=>
  refine⟨r.length,aA,?_,?_⟩
  ·rw[<-a,<-h,List.getLast?_eq_getElem?,a];simp
  ·rw[<-a];exact Eb h
def last_none{k:List Sn}(h:k.getLast? =none):k=[]:=List.getLast?_eq_none_iff.1 h
def azN(x:Sn)(v:GV)(k:List Sn)(b:Int)(I:bZ x.2)(J:Kp k):
 TT.lim 34 [.zu x.1,.l (x.2.map row),v,.l (k.map sn),.zu b]=some [.zq 0,.zq (jd x k b).1,.l ((jd x k b).2.1.map sn),.zu (jd x k b).2.2]:=by
 have h:=Vj x I;have kc:=OO x I;have j:GV.g [.zu x.1,.l (x.2.map row)]=sn x:=rfl;have L:(sn x).gu 2=true:=rfl;unfold jd;by_cases c:oK x.2=0;rotate_left
 ·rw[au c];refine aB ?_;simp[j,h,c]
 rw[aj (by simpa using c)];by_cases e:x.1=0
 ·rw[au e];have M:(x.1=0)=True:=eq_true e;clear e;refine aB ?_;simp[j,h,c,M]
 rw[aj e];have h8:=J.len;cases N:k.getLast? with
 |none=>obtain rfl:=last_none N;refine aB ?_;simp[j,h,c,e,kc,L,nX]
 |some l=>
  obtain⟨m,T,D,n⟩:=last_at N;have E:((k.length:Nat):Int)=(m:Int)+1:=ah;have u:(0:Int)<(m:Int)+1:=ah;have d:(m:Int)<(m:Int)+1:=ah;have w:=bI ((m:Int));simp only;by_cases p:x.1<=l.1
  ·rw[au p];refine aB ?_;simp[j,h,c,e,E,u,w,D,p,d]
  rw[aj p];have t:=ZI x.2 l.2 ((xu _).1 c).1 (J.tb l n).ok.1 I.few (J.tb l n).few;cases Q:kT x.2 l.2 with
  |false=>rw[Q]at t;refine aB ?_;simp[j,h,c,e,E,u,w,D,p,t,d]
  |true=>
   rw[Q]at t;rw[aj aA];have R:(k++[x]).length=m+2:=by simp;omega
   have q:=ajl (k:=k++[x]) (i:=1) ah;have s:Gl 2 32 (some (.l (k.map sn))) (some (.l [sn x]))=some (.l ((k++[x]).map sn)):=by
    rw[nY,au]
    ·rw[nP];rfl
    ·refine⟨rfl,?_,?_⟩<;>simp only[gG,ig,kF]<;>omega
   have U:=bI ((m:Int)+2);cases k with
   |nil=>simp at N
   |cons y r=>
    have hr:r.length=m:=by simpa using T
    by_cases h5:8<m+2
    ·have W:2*((y::r++[x]).drop 1).length*32<=281474976710656/\((y::r++[x]).drop 1).length<=281474976710656:=by rw[fP];omega
     have z:=alY ((y::r++[x]).drop 1);have X:(y::r++[x]).drop 1=r++[x]:=rfl;have hn:(m:Int)+1+1=(m:Int)+2:=ah;have F:(8:Int)<(m:Int)+2:=ah;have S:((y::r++[x]).map sn)[0]? =some (sn y):=rfl;have o:(0:Int)<(m:Int)+2:=ah;have f:(((y::r++[x]).length:Nat):Int)=(m:Int)+2:=ah;have G:(((y::r++[x]).map sn).length:Int)=(m:Int)+2:=by rw[gG];exact f
     have H:(((y::r).map sn).length:Int)=(m:Int)+1:=by rw[gG];exact E
     have g:((y::r).map sn)[m]? =some (sn l):=by rw[iO,D];rfl
     have A:Oe 2 (some (.l ((y::r++[x]).map sn))) (some (.zq 1)) (some (.zq ((m:Int)+2)))=some (.l ((r++[x]).map sn)):=by rw[<-f];exact q
     rw[X]at W z;have B:Gl 2 32 (some (.l [])) (some (.l ((r++[x]).map sn)))=some (.l ((r++[x]).map sn)):=by
      rw[nY,au]
      ·rfl
      ·exact⟨z,by simp only[gG,kF];omega,by simp only[gG,kF];omega⟩
     have a:nX x b (y::r)=(r++[x],if y.1=b then 0 else b):=au (ah:8<r.length+2);rw[a];clear a q;generalize r++[x]=R1 at *;generalize(y::r++[x]).map sn=Y,(y::r).map sn=Z at *;by_cases O:y.1=b
     ·have P:(y.1=b)=True:=eq_true O;clear O;refine aB ?_;simp[-nI,-List.all_eq_true,-List.all_map,-nY,j,h,c,e,H,G,u,w,g,p,t,kc,s,F,o,S,P,A,B,d]
     ·refine aB ?_;simp[-nI,-List.all_eq_true,-List.all_map,-nY,j,h,c,e,H,G,u,w,g,p,t,kc,s,F,o,S,O,A,B,d]
    ·have F:¬(8:Int)<(m:Int)+2:=ah;have f:(((y::r++[x]).length:Nat):Int)=(m:Int)+2:=ah;have G:(((y::r++[x]).map sn).length:Int)=(m:Int)+2:=by rw[gG];exact f
     have H:(((y::r).map sn).length:Int)=(m:Int)+1:=by rw[gG];exact E
     have g:((y::r).map sn)[m]? =some (sn l):=by rw[iO,D];rfl
     have a:nX x b (y::r)=(y::r++[x],b):=aj (ah:¬8<r.length+2);rw[a];clear a q;show _=some [_,_,GV.l ((y::r++[x]).map sn),_]
     generalize(y::r++[x]).map sn=Y,(y::r).map sn=Z at *;refine aB ?_;simp[-nI,-List.all_eq_true,-List.all_map,-nY,j,h,c,e,H,G,u,w,g,p,t,kc,s,F,d]
abbrev Ms:=(Int×Int×Int×List Row)×Int
def full(l:Sn):Ms:=((5,l.1,0,l.2),0)
def ku(v:Int)(k:List Sn)(b:Int):Ms:=match k.getLast? with
 |none=>((0,0,0,[]),24)
 |some l=>if l.1=b then((0,0,0,[]),24)else match jZ b k with
  |none=>full l
  |some i=>if 2<=v then match k[i]? with
    |none=>full l
    |some s=>if(qI s l).2≠0 then((0,0,0,[]),(qI s l).2)else((6,(qI s l).1.2.1,(qI s l).1.1,(qI s l).1.2.2),0)
   else full l
def H7(r:Ms):Q3:=[.zq 0,.zq r.1.1,.zu r.1.2.1,.zu r.1.2.2.1,.l (r.1.2.2.2.map row),.zq r.2]
def eY(k:List Sn):Sn:=k.getLast?.getD zS
def zA(x:Sn)(a:Int)(k:List Sn):Sn:=
 if(ny (eY k) ((eY k).1,IntKind.u64.wrap ((eY k).1+a),x.2)).2≠0 then x else(ny (eY k) ((eY k).1,IntKind.u64.wrap ((eY k).1+a),x.2)).1
def Xc{k:List Sn}(a:Kp k):Tb (eY k).2:=by
 unfold eY;cases b:k.getLast? with
 |none=>exact DW
 |some l=>exact a.tb l (Eb b)
def awJ(v b:GV)(k:List Sn)(c:Kp k):TT.lim 55 [v,.l (k.map sn),b]=some [.zq 0,.zu (eY k).1,.l ((eY k).2.map row),.b k.getLast?.isSome]:=by
 have g:=c.len;unfold eY;cases d:k.getLast? with
 |none=>obtain rfl:=last_none d;exact ai2 v b
 |some l=>obtain⟨m,e,f,a⟩:=last_at d;exact ai1 v b k m l e ah f (c.tb l a).good
def Kp.add{k:List Sn}(d:Kp k){x:Sn}{b:Int}(p:Tb x.2)(h0:0<x.1/\x.1<18446744073709551616)(z:∀l,k.getLast? =some l->l.1<x.1/\kT x.2 l.2=true):Kp (nX x b k).1:=by
 have e:∀s∈k,s.1<x.1/\kT x.2 s.2=true:=by
  intro s c;obtain⟨i,hi,rfl⟩:=List.getElem_of_mem c;cases q:k.getLast? with
  |none=>exact absurd hi (by rw[last_none q];simp)
  |some l=>
   obtain⟨m,D,f,g⟩:=last_at q;obtain⟨A,v⟩:=z l q;have j:m<k.length:=ah;have n:k[m]=l:=by have:=bV j;rw[f]at this;injection this with this;exact this.symm
   rcases xY i m with o|o
   ·have w:=Ud.1 d.rise i m hi j o;rw[n]at w;exact⟨ah,afs p.rise (d.tb l g).rise (d.tb _ (gY hi)).rise v w.2⟩
   ·have:i=m:=ah;subst this;simp only[n];exact⟨A,v⟩
 cases k with
 |nil=>exact⟨by simp[nX],by simpa[nX]using p,by simpa[nX]using h0,by simp[nX]⟩
 |cons y r=>
  have t:Kp r:=⟨by have:=d.len;simp at this;omega,λs c=>d.tb s (by simp[c]),λs c=>d.pos s (by simp[c]),(jm.1 d.rise).2⟩
  have B:=d.len;simp only[ig]at B;simp only[nX];split
  ·refine⟨by simp;omega,?_,?_,?_⟩
   ·intro s c;rcases iP.1 c with h|h
    ·exact t.tb s h
    ·rw[jI.1 h];exact p
   ·intro s c;rcases iP.1 c with h|h
    ·exact t.pos s h
    ·rw[jI.1 h];exact h0
   ·refine aeP.2 ⟨t.rise,aA,λa f b u=>?_⟩;rw[jI.1 u];exact e a (by simp[f])
  ·refine⟨by simp;omega,?_,?_,?_⟩
   ·intro s c;rcases iP.1 c with h|h
    ·exact d.tb s h
    ·rw[jI.1 h];exact p
   ·intro s c;rcases iP.1 c with h|h
    ·exact d.pos s h
    ·rw[jI.1 h];exact h0
   ·refine aeP.2 ⟨d.rise,aA,λa f b u=>?_⟩;rw[jI.1 u];exact e a f
def ac5{x:Sn}{k:List Sn}{b:Int}(a:Kp k)(e:bZ x.2)(h0:0<=x.1/\x.1<18446744073709551616):Kp (jd x k b).2.1:=by
 unfold jd;split
 ·exact a
 next f=>
 split
 ·exact a
 next i=>
 have d:Tb x.2:=e.tb ((xu _).1 (by simpa using f));split
 ·next c=>exact a.add d ⟨ah,h0.2⟩ λl h=>by rw[c]at h;cases h
 ·next l c=>
  split
  ·exact a
  next j=>
  split
  ·exact a
  next g=>exact a.add d ⟨ah,h0.2⟩ λm h=>by rw[c]at h;injection h with h;subst h;exact⟨ah,by simpa using g⟩
def Kp.drop{k:List Sn}(a:Kp k)(i:Nat):Kp (k.drop i):=
 ⟨by have:=a.len;rw[fP];omega,λs b=>a.tb s (LZ b),λs b=>a.pos s (LZ b),a.rise.sublist (Y5 i k)⟩
def Zx{e:Int}{k:List Sn}{b:Int}(a:Kp k):Kp (sJ e k b).2.1:=by
 unfold sJ;split
 ·exact a
 split
 ·exact a
 ·exact a.drop _
def Xv{x:Sn}{a:Int}{k:List Sn}(e:Kp k)(c:bZ x.2)(h0:0<=x.1/\x.1<18446744073709551616):bZ (zA x a k).2/\0<=(zA x a k).1/\(zA x a k).1<18446744073709551616:=by
 unfold zA;split
 ·exact⟨c,h0⟩
 next b=>
 have b:(ny (eY k) ((eY k).1,IntKind.u64.wrap ((eY k).1+a),x.2)).2=0:=by simpa using b
 have:=afp (Xc e).good (d:=((eY k).1,IntKind.u64.wrap ((eY k).1+a),x.2)) c b;refine⟨this.1.good,?_⟩;rw[(UY b).2.2.2.2];exact wrap_u64 _
def Rf{g:GV}(h:(cO.int .u8).has g):∃n,g=.i .u8 n/\0<=n/\n<256:=by simp only[cO.has]at h;obtain⟨n,rfl,a,b⟩:=h;exact⟨n,rfl,by simpa[IntKind.min,IntKind.signed]using a,by simp[IntKind.max,IntKind.signed,IntKind.bits]at b;omega⟩
def alx(l:Sn)(h:bZ l.2):TT.lim 230 [.zu l.1,.l (l.2.map row),.zu l.1,.l (l.2.map row)]=some [.zq 0,.b true]:=by have a:=X9 l.2 l.2 h h;refine aB ?_;simp[a]
def anh(xs:Q3)(k:List Sn):Prop:=∀s∈k,gy (.zu s.1) xs=some (sn s)
def key_inj{a b:Int}{x:GV}(h1:qO (.zu a) x=true)(c:qO (.zu b) x=true):a=b:=by
 cases x<;>simp[qO]at h1 c
 omega
def aiL(a b:Int):qO (.zu a) (.zu b)=decide (a=b):=by simp only[qO];rw[yR];simp
def sO(a b:Int)(u:GV):∀xs:Q3,gy (.zu a) (kK (.zu b) u xs)=if a=b then some u else gy (.zu a) xs
 |[]=>by
  show(if qO (.zu a) (.zu b)=true then some u else none)=_
  rw[aiL];by_cases h:a=b<;>simp[h,gy]
 |.g [x,v]::xs=>by
  have e:=sO a b u xs;show gy (.zu a) (if qO (.zu b) x=true then .g [.zu b,u]::xs else .g [x,v]::kK (.zu b) u xs)=if a=b then some u else(if qO (.zu a) x=true then some v else gy (.zu a) xs)
  cases c:qO (.zu b) x with
  |true=>
   rw[au rfl];show(if qO (.zu a) (.zu b)=true then some u else gy (.zu a) xs)=_
   rw[aiL];by_cases h:a=b
   ·simp[h]
   ·cases d:qO (.zu a) x with
    |true=>exact absurd (key_inj d c) h
    |false=>simp[h]
  |false=>
   rw[aj aA];show(if qO (.zu a) x=true then some v else gy (.zu a) (kK (.zu b) u xs))=_
   rw[e];cases d:qO (.zu a) x with
   |true=>
    by_cases h:a=b
    ·subst h;rw[d]at c;cases c
    ·simp[h]
   |false=>simp
 |.g []::xs=>sO a b u xs
 |.g [_]::xs=>sO a b u xs
 |.g (_::_::_::_)::xs=>sO a b u xs
 |.i _ _::xs=>sO a b u xs
 |.b _::xs=>sO a b u xs
 |.s _::xs=>sO a b u xs
 |.l _::xs=>sO a b u xs
structure Lead(xs:Q3)(k:List Sn)(b:Int):Prop where
 kp:Kp k
 map:anh xs k
 base:b=0\/∃s∈k,s.1=b
def awP{e:Int}{xs:Q3}{k:List Sn}{b:Int}(h:Lead xs k b):Lead xs (sJ e k b).2.1 (sJ e k b).2.2:=by
 refine⟨Zx h.kp,?_,?_⟩
 ·unfold sJ;split
  ·exact h.map
  split
  ·exact h.map
  ·exact λs c=>h.map s (LZ c)
 ·unfold sJ;split
  ·exact h.base
  split
  ·exact h.base
  ·next i d=>
   obtain⟨x,f,a,hi⟩:=Jz d;refine .inr ⟨x,?_,a⟩;have:(k.drop i)[0]? =some x:=by rw[uh];simpa using f
   exact sD this
def afb{x:Sn}{b:Int}{k:List Sn}{s:Sn}(h:s∈(nX x b k).1):s∈k\/s=x:=by
 unfold nX at h;split at h
 ·exact .inr (by simpa using h)
 ·split at h
  ·rcases iP.1 h with h|h
   ·exact .inl (by simp[h])
   ·exact .inr (by simpa using h)
  ·rcases iP.1 h with h|h
   ·exact .inl h
   ·exact .inr (by simpa using h)
def anE{x:Sn}{b:Int}{k:List Sn}(h:b=0\/∃s∈k,s.1=b):(nX x b k).2=0\/∃s∈(nX x b k).1,s.1=(nX x b k).2:=by
 unfold nX;split
 ·rcases h with h|⟨s,a,-⟩
  ·exact .inl h
  ·simp at a
 ·next y r=>
  split
  ·by_cases d:y.1=b
   ·exact .inl (by simp[d])
   ·rcases h with h|⟨s,a,c⟩
    ·exact .inl (by simp[h])
    ·rcases bJ.1 a with e|e
     ·subst e;exact absurd c d
     ·exact .inr ⟨s,by simp[e],by simp[d,c]⟩
  ·rcases h with h|⟨s,a,c⟩
   ·exact .inl h
   ·exact .inr ⟨s,iP.2 (.inl a),c⟩
def awQ{x:Sn}{xs:Q3}{k:List Sn}{b:Int}(h:Lead xs k b)(r:bZ x.2)(h0:0<=x.1/\x.1<18446744073709551616):
 Lead (if(jd x k b).1=0 then kK (.zu x.1) (sn x) xs else xs) (jd x k b).2.1 (jd x k b).2.2:=by
 have d:=ac5 (b:=b) h.kp r h0;have add:∀f:Kp (nX x b k).1,(∀l,k.getLast? =some l->l.1<x.1)->Lead (kK (.zu x.1) (sn x) xs) (nX x b k).1 (nX x b k).2:=by
  intro f e;refine⟨f,?_,anE h.base⟩;intro s o;rw[sO];by_cases j:s.1=x.1
  ·rw[au j];rcases afb o with h1|h1
   ·exfalso;obtain⟨i,hi,rfl⟩:=List.getElem_of_mem h1;cases n:k.getLast? with
    |none=>exact absurd hi (by rw[last_none n];simp)
    |some l=>
     obtain⟨m,z,t,p⟩:=last_at n;have A:=e l n;have g:m<k.length:=ah;have q:k[m]=l:=by have:=bV g;rw[t]at this;injection this with this;exact this.symm
     rcases xY i m with c|c
     ·have u:=Ud.1 h.kp.rise i m hi g c;rw[q]at u;omega
     ·have:i=m:=ah;subst this;rw[q]at j;omega
   ·rw[h1]
  ·rw[aj j];rcases afb o with h1|h1
   ·exact h.map s h1
   ·subst h1;exact absurd rfl j
 unfold jd at d⊢;split
 ·next h1=>simpa[h1]using h
 next h1=>
 rw[aj h1]at d;split
 ·simpa using h
 next v=>
 rw[aj v]at d;split
 ·next e=>
  rw[e]at d;exact add d λl a=>by rw[e]at a;cases a
 ·next l e=>
  rw[e]at d;simp only at d;split
  ·exact h
  next w=>
  rw[aj w]at d;split
  ·exact h
  next y=>
  rw[aj y]at d;exact add d λB a=>by rw[e]at a;injection a with a;subst a;omega
def U0(kind epoch base:Int)(t:List Row):aQ:={kind:=kind,id:=0,min:=0,max:=0,chosen:=0,flags:=0,cost:=0,priority:=0,deadline:=0,retry:=0,epoch:=epoch,base:=base,digest:=0,lag:=0,code:=0,want:=0,remaining:=0,allowed:=false,name:=[],region:=[],note:=[],d:=[],t:=t}
def anV{b a base:Int}{t:List Row}(h1: -9223372036854775808<=b/\b<=9223372036854775807)(c:0<=a/\a<18446744073709551616)(d:0<=base/\base<18446744073709551616)(e:Rows t):vP (U0 b a base t):=by refine⟨h1,?_,?_,?_,?_,?_,?_,?_,?_,?_,c,d,?_,?_,?_,?_,?_,?_,?_,?_,?_,e⟩<;>simp[U0,tX]
def aiX{k:List Sn}{b:Int}(f:Kp k){l s:Sn}{i:Nat}(a:k.getLast? =some l)(j:l.1≠b)(w:jZ b k=some i)(n:k[i]? =some s):(qI s l).2=0/\bZ (qI s l).1.2.2:=by
 obtain⟨y,d,o,hi⟩:=Jz w;rw[n]at d;injection d with d
 subst d;have e:=Eb a;have g:=sD n;obtain⟨m,x,p,-⟩:=last_at a;have h:m<k.length:=ah;have u:k[m]=l:=by have:=bV h;rw[p]at this;injection this with this;exact this.symm
 have q:k[i]=s:=by have:=bV hi;rw[n]at this;injection this with this;exact this.symm
 have r:i<m:=by
  rcases xY i m with c|c
  ·exact c
  ·have:i=m:=ah;subst this;rw[u]at q;subst q;exact absurd o j
 have t:=Ud.1 f.rise i m hi h r;rw[u,q]at t;have v:(qI s l).2=0:=by rw[asI (f.tb s g).ok (f.tb l e).ok t.1 t.2]
 exact⟨v,(afw (f.tb s g).good (f.tb l e).good v).2.2⟩
def axS{v:Int}{k:List Sn}{b:Int}(e:Kp k):(-9223372036854775808<=(ku v k b).1.1/\(ku v k b).1.1<=9223372036854775807)/\(0<=(ku v k b).1.2.1/\(ku v k b).1.2.1<18446744073709551616)/\(0<=(ku v k b).1.2.2.1/\(ku v k b).1.2.2.1<18446744073709551616)/\bZ (ku v k b).1.2.2.2:=by
 have zero:∀c:Int,(-9223372036854775808<=((((0,0,0,[]),c):Ms)).1.1/\((((0,0,0,[]),c):Ms)).1.1<=9223372036854775807)/\(0<=((((0,0,0,[]),c):Ms)).1.2.1/\((((0,0,0,[]),c):Ms)).1.2.1<18446744073709551616)/\(0<=((((0,0,0,[]),c):Ms)).1.2.2.1/\((((0,0,0,[]),c):Ms)).1.2.2.1<18446744073709551616)/\bZ ((((0,0,0,[]),c):Ms)).1.2.2.2:=λc=>⟨aA,aA,aA,DW.good⟩
 unfold ku;cases h:k.getLast? with
 |none=>exact zero 24
 |some l=>
  have d:=Eb h;have r:=e.pos l d
  have a:(-9223372036854775808<=(full l).1.1/\(full l).1.1<=9223372036854775807)/\(0<=(full l).1.2.1/\(full l).1.2.1<18446744073709551616)/\(0<=(full l).1.2.2.1/\(full l).1.2.2.1<18446744073709551616)/\bZ (full l).1.2.2.2:=
   ⟨by simp[full],⟨by simp only[full];omega,by simp only[full];omega⟩,by simp[full],(e.tb l d).good⟩
  simp only;by_cases f:l.1=b
  ·rw[au f];exact zero 24
  rw[aj f];cases j:jZ b k with
  |none=>exact a
  |some i=>
   obtain⟨s,g,-,hi⟩:=Jz j;obtain⟨m,p⟩:=aiX e h f j g;simp only[g];by_cases n:2<=v
   ·rw[au n,aj (by simp[m])];have o:=(aat m).2.2.2.2;have q:=e.pos s (sD g);refine⟨aA,?_,?_,p⟩
    ·simp only[o];omega
    ·simp only[o];omega
   ·rw[aj n];exact a
abbrev An:=Int×Int×Int×Int
def lF(c v kd a d:Int)(t:List Row)(b:Bool)(h:Sn):An×Int×Bool×Sn:=
 if c≠0 then((0,0,0,0),c,b,h)
 else if kd=5 then(if b=true/\a<=h.1 then((7,h.1,0,0),20,b,h)else((7,a,0,0),0,true,(a,t)))
 else if kd=6 then(if b=true/\a<=h.1 then((7,h.1,0,0),20,b,h)
  else if(ny h (d,a,t)).2≠0 then((8,a,IntKind.u64.wrap (ny h (d,a,t)).2,if 2<=v then h.1 else 0),(ny h (d,a,t)).2,b,h)
  else((7,(ny h (d,a,t)).1.1,0,0),0,true,(ny h (d,a,t)).1))
 else((0,0,0,0),15,b,h)
def yP(r:An×Int×Bool×Sn):Q3:=[.zq 0,.zq r.1.1,.zu r.1.2.1,.zu r.1.2.2.1,.zu r.1.2.2.2,.zq r.2.1,.b r.2.2.1,.zu r.2.2.2.1,.l (r.2.2.2.2.map row)]
set_option maxHeartbeats 2000000 in
def aEC(b:aQ)(g:List aK)(v:Int)(i:Bool)(h:Sn)(x:vP b)(t:bZ b.t)(u:fB g)(o:g.length<=1000000)(y:bZ h.2):
 TT.lim 207 ((jc b (aI g)).cells++[.zq v,.b i,.zu h.1,.l (h.2.map row)])=some (yP (lF (gK b g v) v b.kind b.epoch b.base b.t i h)):=by
 have d:=abQ b g v x t.few u o;have p:=OO (b.epoch,b.t) t;have c:=afo h (b.base,b.epoch,b.t) y t;have w:GV.g [.zu b.epoch,.l (b.t.map row)]=sn (b.epoch,b.t):=rfl;have m:GV.g [.zu h.1,.l (h.2.map row)]=sn h:=rfl;have n:GV.g [.zu b.base,.zu b.epoch,.l (b.t.map row)]=dl (b.base,b.epoch,b.t):=rfl;rw[fD];simp only[bg,aW];unfold lF;generalize ny h (b.base,b.epoch,b.t)=A at *;obtain⟨⟨B,D⟩,z⟩:=A;generalize gK b g v=C,aI g=R at *;by_cases r:C=0;rotate_left
 ·rw[au r];refine aB ?_;simp -implicitDefEqProofs[lJ,d,r,yP]
 rw[aj (by simpa using r)];subst r;by_cases j:b.kind=5
 ·rw[au j];have f:(b.kind=5)=True:=eq_true j;clear j;cases i with
  |false=>refine aB ?_;simp -implicitDefEqProofs[lJ,d,f,yP,w,p]
  |true=>
   by_cases a:b.epoch<=h.1
   ·refine aB ?_;simp -implicitDefEqProofs[lJ,d,f,yP,a]
   ·refine aB ?_;simp -implicitDefEqProofs[lJ,d,f,yP,a,w,p]
 rw[aj j];by_cases q:b.kind=6;rotate_left
 ·rw[aj q];refine aB ?_;simp -implicitDefEqProofs[lJ,d,j,q,yP]
 rw[au q];have f:(b.kind=5)=False:=eq_false j;have k:(b.kind=6)=True:=eq_true q;clear j q;by_cases a:i=true/\b.epoch<=h.1
 ·rw[au a];obtain⟨rfl,a⟩:=a;refine aB ?_;simp -implicitDefEqProofs[lJ,d,f,k,yP,a]
 rw[aj a];by_cases l:z=0
 ·rw[aj (by simpa using l)];subst l;cases i with
  |false=>refine aB ?_;simp -implicitDefEqProofs[lJ,d,f,k,yP,m,n,c]
  |true=>have a:¬b.epoch<=h.1:=λe=>a ⟨rfl,e⟩;refine aB ?_;simp -implicitDefEqProofs[lJ,d,f,k,yP,a,m,n,c]
 ·rw[au l];by_cases s:2<=v
  ·cases i with
   |false=>refine aB ?_;simp -implicitDefEqProofs[lJ,d,f,k,yP,m,n,c,l,s]
   |true=>have a:¬b.epoch<=h.1:=λe=>a ⟨rfl,e⟩;refine aB ?_;simp -implicitDefEqProofs[lJ,d,f,k,yP,a,m,n,c,l,s]
  ·cases i with
   |false=>refine aB ?_;simp -implicitDefEqProofs[lJ,d,f,k,yP,m,n,c,l,s]
   |true=>have a:¬b.epoch<=h.1:=λe=>a ⟨rfl,e⟩;refine aB ?_;simp -implicitDefEqProofs[lJ,d,f,k,yP,a,m,n,c,l,s]
def avl(v e t:GV):TT.lim 226 [v,.b false,e,t]=some [.zq 0,.zu 0,.l [],.b false]:=by refine aB ?_;simp
def avm(v:GV)(h:Sn)(b:bZ h.2):TT.lim 226 [v,.b true,.zu h.1,.l (h.2.map row)]=some [.zq 0,.zu h.1,.l (h.2.map row),.b true]:=by have a:=OO h b;have c:GV.g [.zu h.1,.l (h.2.map row)]=sn h:=rfl;refine aB ?_;simp[c,a]
def avk(v:GV)(a:Bool)(h:Sn)(b:bZ h.2)(c:a=false->h=zS):TT.lim 226 [v,.b a,.zu h.1,.l (h.2.map row)]=some [.zq 0,.zu h.1,.l (h.2.map row),.b a]:=by
 cases a with
 |false=>rw[c rfl];exact avl v _ _
 |true=>exact avm v h b
abbrev Tm:=Int×Int×Int×List Row
def UR(a:An)(k:List Sn)(b:Int):List Sn×Int:=if a.1=7 then(sJ a.2.1 k b).2 else if a.1=8 then(k,0)else(k,b)
def as5{x y:dU}(h:ent x=ent y):x=y:=by
 unfold ent at h;injection h with h
 simp only[xU,GV.s.injEq,and_true]at h;exact PU h.1 h.2
def aAS{x y:Row}(h:row x=row y):x=y:=by
 unfold row at h;injection h with h
 simp only[xU,GV.l.injEq,GV.i.injEq,and_true,true_and]at h;exact PU ((List.map_inj_right λ_ _=>as5).1 h.1) h.2
def Ld{x y:Sn}(h:sn x=sn y):x=y:=by
 unfold sn at h;injection h with h
 simp only[xU,GV.l.injEq,GV.i.injEq,and_true,true_and]at h;exact PU h.1 ((List.map_inj_right λ_ _=>aAS).1 h.2)
def zM(xs:Q3)(m:Tm):Prop:=
 (m.1=5/\Tb m.2.2.2/\(0<m.2.1/\m.2.1<18446744073709551616)/\m.2.2.1=0/\gy (.zu m.2.1) xs=some (sn (m.2.1,m.2.2.2)))\/
 (m.1=6/\Tb m.2.2.2/\(0<m.2.2.1/\m.2.2.1<m.2.1/\m.2.1<18446744073709551616)/\∃s l:Sn,gy (.zu m.2.2.1) xs=some (sn s)/\gy (.zu m.2.1) xs=some (sn l)/\l.1=m.2.1/\s.1=m.2.2.1/\Tb l.2/\ny s (m.2.2.1,m.2.1,m.2.2.2)=(l,0))
def axR{xs:Q3}{k:List Sn}{b:Int}{V:Int}(h:Lead xs k b)(h0:(ku V k b).2=0):zM xs (ku V k b).1/\∃l,k.getLast? =some l/\(ku V k b).1.2.1=l.1/\l.1≠b/\((ku V k b).1.1=6->2<=V/\b≠0/\(ku V k b).1.2.2.1=b)/\((ku V k b).1.1=5->(ku V k b).1.2.2.2=l.2):=by
 unfold ku at h0⊢;cases g:k.getLast? with
 |none=>rw[g]at h0;simp at h0
 |some l=>
  rw[g]at h0;simp only at h0⊢;have a:=Eb g;have u:=h.kp.pos l a;have c:zM xs (full l).1:=.inl ⟨rfl,h.kp.tb l a,u,rfl,h.map l a⟩;by_cases f:l.1=b
  ·rw[au f]at h0;simp at h0
  rw[aj f]at h0⊢;cases j:jZ b k with
  |none=>exact⟨c,l,rfl,rfl,f,λe=>by simp[full]at e,λ_=>rfl⟩
  |some i=>
   rw[j]at h0;obtain⟨s,m,n,hi⟩:=Jz j;obtain⟨o,-⟩:=aiX h.kp g f j m;simp only[m]at h0⊢;by_cases p:2<=V
   ·rw[au p,aj (by simp[o])];have d:=sD m;have q:=aat o;have v:=afw (h.kp.tb s d).good (h.kp.tb l a).good o;have r:=(agH (h.kp.tb s d) (h.kp.tb l a) q.2.2.2.1).1;have t:=h.kp.pos s d;rw[q.2.2.2.2]at v⊢;refine⟨.inr ⟨rfl,r,⟨t.1,q.2.2.1,u.2⟩,s,l,h.map s d,h.map l a,rfl,rfl,h.kp.tb l a,v.2.1⟩,l,rfl,rfl,f,λ_=>⟨p,?_,n⟩,λe=>by simp at e⟩;omega
   ·rw[aj p];exact⟨c,l,rfl,rfl,f,λe=>by simp[full]at e,λ_=>rfl⟩
structure kN(xs:Q3)(told:List Tm)(back:List An)(k:List Sn)(b:Int)(sm:Bool)(h:Sn):Prop where
 lead:Lead xs k b
 keys:∀e g,gy (.zu e) xs=some g->∃l,k.getLast? =some l/\e<=l.1
 told:∀m∈told,zM xs m
 back:∀a∈back,a.1=7->sm=true/\a.2.1<=h.1
 has:(sm=true/\gy (.zu h.1) xs=some (sn h)/\Tb h.2)\/(sm=false/\h=zS)
 base:b<=0\/(sm=true/\b<=h.1)
 zero:gy (.zu 0) xs=none
def kN.tb{xs:Q3}{told:List Tm}{back:List An}{k:List Sn}{b:Int}{c:Bool}{h:Sn}(f:kN xs told back k b c h):Tb h.2:=by
 rcases f.has with⟨-,-,a⟩|⟨-,a⟩
 ·exact a
 ·rw[a];exact DW
def XM{x:Sn}{k:List Sn}{b:Int}(h0:(jd x k b).1=0):(jd x k b).2.1.getLast? =some x/\∀l,k.getLast? =some l->l.1<x.1:=by
 have a:(nX x b k).1.getLast? =some x:=by
  unfold nX;split
  ·rfl
  ·split
   ·simp
   ·exact List.getLast?_concat
 unfold jd at h0⊢;split at h0
 ·next c=>exact absurd h0 c
 next c=>
 split at h0
 ·cases h0
 next d=>
 rw[aj c,aj d];cases f:k.getLast? with
 |none=>exact⟨a,λl e=>by cases e⟩
 |some l=>
  rw[f]at h0;simp only at h0⊢;split at h0
  ·cases h0
  next g=>
  split at h0
  ·cases h0
  next h=>
  rw[aj g,aj h];exact⟨a,λi e=>by injection e with e;subst e;omega⟩
def azP{x:Sn}{k:List Sn}{b:Int}(h0:(jd x k b).1=0):x.1≠0:=by
 intro c;unfold jd at h0;split at h0
 ·next a=>exact a h0
 ·cases h0
def azL{x:Sn}{k:List Sn}{b:Int}(h0:(jd x k b).1≠0):(jd x k b).2=(k,b):=by
 unfold jd at h0⊢;split
 ·rfl
 next c=>
 rw[aj c]at h0;split
 ·rfl
 next d=>
 rw[aj d]at h0;cases a:k.getLast? with
 |none=>rw[a]at h0;simp at h0
 |some l=>
  rw[a]at h0;simp only at h0⊢;split
  ·rfl
  next e=>
  rw[aj e]at h0;split
  ·rfl
  next f=>
  rw[aj f]at h0;simp at h0
def azK{x:Sn}{k:List Sn}{b:Int}:(jd x k b).2.2=b\/(jd x k b).2.2=0:=by
 have a:(nX x b k).2=b\/(nX x b k).2=0:=by
  unfold nX;split
  ·exact .inl rfl
  ·split
   ·simp only;split
    ·exact .inr rfl
    ·exact .inl rfl
   ·exact .inl rfl
 unfold jd;split
 ·exact .inl rfl
 split
 ·exact .inl rfl
 split
 ·exact a
 ·split
  ·exact .inl rfl
  split
  ·exact .inl rfl
  ·exact a
def ahU{xs:Q3}{m:Tm}{e:Int}{g:GV}(h:zM xs m)(o:∀a c,gy (.zu a) xs=some c->a≠e):zM (kK (.zu e) g xs) m:=by
 have b:∀{a:Int}{c:GV},gy (.zu a) xs=some c->gy (.zu a) (kK (.zu e) g xs)=some c:=by intro a c n;rw[sO,aj (o a c n)];exact n
 rcases h with⟨d,f,i,j,k⟩|⟨d,f,i,s,l,j,k,p⟩
 ·exact .inl ⟨d,f,i,j,b k⟩
 ·exact .inr ⟨d,f,i,s,l,b j,b k,p⟩
def ahz{xs:Q3}{a:List Tm}{c:List An}{k:List Sn}{b:Int}{r:Bool}{h:Sn}(f:kN xs a c k b r h){x:Sn}(u:bZ x.2)(h0:0<=x.1/\x.1<18446744073709551616):
 kN (if(jd x k b).1=0 then kK (.zu x.1) (sn x) xs else xs) a c (jd x k b).2.1 (jd x k b).2.2 r h:=by
 have o:=awQ f.lead u h0;by_cases g:(jd x k b).1=0
 ·rw[au g]at o⊢;obtain⟨v,s⟩:=XM g;have t:∀d i,gy (.zu d) xs=some i->d≠x.1:=by intro d i j;obtain⟨l,n,p⟩:=f.keys d i j;have:=s l n;omega
  refine⟨o,?_,λm w=>ahU (f.told m w) t,f.back,?_,?_,by rw[sO,aj (λe=>azP g e.symm)];exact f.zero⟩
  ·intro d i j;refine⟨x,v,?_⟩;rw[sO]at j;split at j
   ·next e=>omega
   ·obtain⟨l,n,p⟩:=f.keys d i j;have:=s l n;omega
  ·rcases f.has with⟨n,p,y⟩|q
   ·exact .inl ⟨n,by rw[sO,aj (t _ _ p)];exact p,y⟩
   ·exact .inr q
  ·rcases azK (x:=x) (k:=k) (b:=b)with e|e
   ·rw[e];exact f.base
   ·rw[e];exact .inl (gZ _)
 ·rw[aj g]at o⊢;rw[azL g]at o⊢;exact f
def aue{xs:Q3}{d:List Tm}{g:List An}{k:List Sn}{b:Int}{n:Bool}{h:Sn}(f:kN xs d g k b n h){m:Tm}(H:zM xs m)(c v:Int):
 kN xs d (g++[(lF c v m.1 m.2.1 m.2.2.1 m.2.2.2 n h).1]) k b (lF c v m.1 m.2.1 m.2.2.1 m.2.2.2 n h).2.2.1 (lF c v m.1 m.2.1 m.2.2.1 m.2.2.2 n h).2.2.2/\h.1<=(lF c v m.1 m.2.1 m.2.2.1 m.2.2.2 n h).2.2.2.1:=by
 have i:∀a:An,(a.1=7->n=true/\a.2.1<=h.1)->kN xs d (g++[a]) k b n h:=λa t=>
  ⟨f.lead,f.keys,f.told,λy p=>by
   rcases iP.1 p with q|q
   ·exact f.back y q
   ·rw[jI.1 q];exact t,f.has,f.base,f.zero⟩
 have o:∀l:Sn,gy (.zu l.1) xs=some (sn l)->Tb l.2->h.1<=l.1->kN xs d (g++[(7,l.1,0,0)]) k b true l:=λl u I j=>
  ⟨f.lead,f.keys,f.told,λy p e=>by
   rcases iP.1 p with q|q
   ·have:=f.back y q e;exact⟨rfl,ah⟩
   ·rw[jI.1 q];exact⟨rfl,gZ _⟩,.inl ⟨rfl,u,I⟩,by
   rcases f.base with q|q
   ·exact .inl q
   ·exact .inr ⟨rfl,ah⟩,f.zero⟩
 have r:¬(n=true/\m.2.1<=h.1)->0<m.2.1->h.1<=m.2.1:=by
  intro J N;rcases f.has with⟨q,-⟩|⟨-,q⟩
  ·rcases aev h.1 m.2.1 with c|c
   ·omega
   ·exact absurd ⟨q,c⟩ J
  ·rw[q];simp only[zS];omega
 unfold lF;by_cases u:c=0;rotate_left
 ·rw[au u];exact⟨i _ (λe=>by simp at e),gZ _⟩
 rw[aj (by simpa using u)];rcases H with⟨z,E,A,F,w⟩|⟨z,E,A,s,l,F,w,G,O,L,M⟩
 ·rw[au z];by_cases j:n=true/\m.2.1<=h.1
  ·rw[au j];exact⟨i _ (λ_=>⟨j.1,gZ _⟩),gZ _⟩
  ·rw[aj j];exact⟨o (m.2.1,m.2.2.2) w E (r j A.1),r j A.1⟩
 ·rw[dL,au z];by_cases j:n=true/\m.2.1<=h.1
  ·rw[au j];exact⟨i _ (λ_=>⟨j.1,gZ _⟩),gZ _⟩
  ·rw[aj j];by_cases t:(ny h (m.2.2.1,m.2.1,m.2.2.2)).2=0;rotate_left
   ·rw[au t];exact⟨i _ (λe=>by simp at e),gZ _⟩
   ·rw[aj (by simpa using t)];have x:=(UY t).2.2.1;simp only at x;have B:h=s:=by
     rcases f.has with⟨-,q,-⟩|⟨-,q⟩
     ·rw[x,F]at q;injection q with q
      exact(Ld q).symm
     ·exfalso;rw[q]at x;simp only[zS]at x;omega
    rw[B,M];rw[<-G]at w;have D:=r j ah;rw[B,<-G]at D;exact⟨o l w L (by rw[B];exact D),D⟩
def afa{e:Int}{k:List Sn}{b:Int}:(sJ e k b).2.1.getLast? =k.getLast?:=by
 unfold sJ;split
 ·rfl
 split
 ·rfl
 ·next i a=>
  obtain⟨x,-,-,hi⟩:=Jz a;simp only;rw[List.getLast?_drop,dL]
def anv{e:Int}{k:List Sn}{b:Int}:(sJ e k b).2.2=b\/(sJ e k b).2.2=e:=by
 unfold sJ;split
 ·exact .inl rfl
 split
 ·exact .inl rfl
 ·exact .inr rfl
def ahy{xs:Q3}{c:List Tm}{d:List An}{k:List Sn}{b:Int}{i:Bool}{h:Sn}(f:kN xs c d k b i h){a:An}(j:a.1=7->i=true/\a.2.1<=h.1):
 kN xs c d (UR a k b).1 (UR a k b).2 i h/\(UR a k b).1.getLast? =k.getLast?:=by
 unfold UR;split
 ·next l=>
  have m:=j l;refine⟨⟨awP f.lead,λe g n=>by rw[afa];exact f.keys e g n,f.told,f.back,f.has,?_,f.zero⟩,afa⟩;rcases anv (e:=a.2.1) (k:=k) (b:=b)with e|e
  ·rw[e];exact f.base
  ·rw[e];exact .inr m
 split
 ·exact⟨⟨⟨f.lead.kp,f.lead.map,.inl rfl⟩,f.keys,f.told,f.back,f.has,.inl (gZ _),f.zero⟩,rfl⟩
 ·exact⟨f,rfl⟩
def kN.getD{xs:Q3}{told:List Tm}{back:List An}{k:List Sn}{b:Int}{a:Bool}{h:Sn}(f:kN xs told back k b a h):(gy (.zu h.1) xs).getD (.g [.zu 0,.l []])=sn h:=by
 rcases f.has with⟨-,q,-⟩|⟨-,q⟩
 ·rw[q];rfl
 ·rw[q];show(gy (.zu 0) xs).getD _=_
  rw[f.zero];rfl
def kN.no{xs:Q3}{told:List Tm}{back:List An}{k:List Sn}{b:Int}{a:Bool}{h:Sn}(f:kN xs told back k b a h)(e:a=false):h=zS:=by
 rcases f.has with⟨q,-⟩|⟨-,q⟩
 ·rw[q]at e;cases e
 ·exact q
def alc(a:List eF):OI a []=0:=by
 have h:jJ 0 0 []=0:=by unfold jJ;rfl
 unfold OI;rw[aj (by rw[h];simp),aj aA]
def kN.le_last{xs:Q3}{told:List Tm}{back:List An}{k:List Sn}{b:Int}{i:Bool}{h l:Sn}(f:kN xs told back k b i h)(d:k.getLast? =some l):h.1<=l.1/\(i=true->h.1=l.1->h=l):=by
 have g:=f.lead.map l (Eb d);have m:=f.lead.kp.pos l (Eb d);rcases f.has with⟨j,a,o⟩|⟨j,a⟩
 ·obtain⟨p,c,n⟩:=f.keys _ _ a;rw[d]at c;injection c with c
  subst c;refine⟨n,λ_ e=>?_⟩;rw[e,g]at a;injection a with a
  exact(Ld a).symm
 ·refine⟨by rw[a];simp only[zS];omega,λe=>by rw[j]at e;cases e⟩
def ahA:kN [] [] [] [] 0 false zS:=
 ⟨⟨Kp.nil,λs b=>by simp at b,.inl rfl⟩,λe g h=>by simp[gy]at h,λm c=>by simp at c,λa d=>by simp at d,.inr ⟨rfl,rfl⟩,.inl (gZ _),rfl⟩
def jv(a:An):aQ:={kind:=a.1,id:=0,min:=0,max:=0,chosen:=0,flags:=0,cost:=0,priority:=0,deadline:=0,retry:=0,epoch:=a.2.1,base:=0,digest:=0,lag:=0,code:=a.2.2.1,want:=a.2.2.2,remaining:=0,allowed:=false,name:=[],region:=[],note:=[],d:=[],t:=[]}
def ZE{a:An}(h1: -9223372036854775808<=a.1/\a.1<=9223372036854775807)(b:0<=a.2.1/\a.2.1<18446744073709551616)(c:0<=a.2.2.1/\a.2.2.1<18446744073709551616)(d:0<=a.2.2.2/\a.2.2.2<18446744073709551616):vP (jv a):=by refine⟨h1,?_,?_,?_,?_,?_,?_,?_,?_,?_,b,?_,?_,?_,c,d,?_,?_,?_,?_,?_,?_⟩<;>simp[jv,tX,Rows]
def axZ(V e:Int)(a:V=1\/V=2\/V=3):(iR.all λn=>uZ (aZ 7 V) n ||qR (jv (7,e,0,0)) n)=true:=by rcases a with rfl|rfl|rfl<;>rfl
def ax3(e c:Int):(iR.all λn=>uZ (aZ 8 1) n ||qR (jv (8,e,c,0)) n)=true:=rfl
def ajP(V e c w:Int)(a:V=2\/V=3):(iR.all λn=>uZ (aZ 8 V) n ||qR (jv (8,e,c,w)) n)=true:=by rcases a with rfl|rfl<;>rfl
def axf(V e:Int)(a:V=1\/V=2\/V=3):oN (jv (7,e,0,0)) (aZ 7 V)=0:=by rcases a with rfl|rfl|rfl<;>rfl
def axh(V e c w:Int)(f:V=1\/V=2\/V=3):oN (jv (8,e,c,w)) (aZ 8 V)=0:=by
 have g:qX [] 0 256=0:=rfl;have a:yH (jv (8,e,c,w)) BK=0:=rfl;have b:yH (jv (8,e,c,w)) BJ=0:=rfl;have d:yH (jv (8,e,c,w)) Dt=0:=rfl;have h:yH (jv (8,e,c,w)) ET=qX [] 0 256:=rfl;have i:aZ 8 1=[⟨1,0,1,BK⟩,⟨2,0,1,BJ⟩]:=rfl;have j:aZ 8 2=[⟨1,0,1,BK⟩,⟨2,0,1,BJ⟩,⟨3,0,2,Dt⟩]:=rfl;have k:aZ 8 3=[⟨1,0,1,BK⟩,⟨2,0,1,BJ⟩,⟨3,0,2,Dt⟩,⟨4,3,3,ET⟩]:=rfl;rcases f with rfl|rfl|rfl
 ·rw[i];simp only[oN,a,b,if_true]
 ·rw[j];simp only[oN,a,b,d,if_true]
 ·rw[k];simp only[oN,a,b,d,h,g,if_true]
def Vl(e:Int){V:Int}(h1:1<=V)(g:V<=3):gK (jv (7,e,0,0)) [] V=0:=by
 have a:V=1\/V=2\/V=3:=ah;unfold gK;have b:aZ (jv (7,e,0,0)).kind V≠[]:=(by rcases a with rfl|rfl|rfl<;>decide:aZ 7 V≠[])
 have c:(iR.all λn=>uZ (aZ (jv (7,e,0,0)).kind V) n ||qR (jv (7,e,0,0)) n)=true:=axZ V e a;have d:oN (jv (7,e,0,0)) (aZ (jv (7,e,0,0)).kind V)=0:=axf V e a;have f:Jf (jv (7,e,0,0))=0:=rfl;rw[dL,dL,aj b,aj (by rw[c];simp),aj (by rw[d];simp),aj (by rw[f];simp)];exact alc _
def aoL(e c w:Int){V:Int}(h1:1<=V)(i:V<=3)(b:¬2<=V->w=0):gK (jv (8,e,c,w)) [] V=0:=by
 have a:V=1\/V=2\/V=3:=ah;unfold gK;have d:aZ (jv (8,e,c,w)).kind V≠[]:=(by rcases a with rfl|rfl|rfl<;>decide:aZ 8 V≠[])
 have f:(iR.all λn=>uZ (aZ (jv (8,e,c,w)).kind V) n ||qR (jv (8,e,c,w)) n)=true:=by
  rcases a with rfl|rfl|rfl
  ·rw[b ah];exact ax3 e c
  ·exact ajP 2 e c w (.inl rfl)
  ·exact ajP 3 e c w (.inr rfl)
 have g:oN (jv (8,e,c,w)) (aZ (jv (8,e,c,w)).kind V)=0:=axh V e c w a;have h:Jf (jv (8,e,c,w))=0:=rfl;rw[dL,dL,aj d,aj (by rw[f];simp),aj (by rw[g];simp),aj (by rw[h];simp)];exact alc _
structure Rec(v:Int)(sm:Bool)(h:Sn):Prop where
 lo:1<=v
 hi:v<=3
 good:bZ h.2
 ep:0<=h.1/\h.1<18446744073709551616
 no:sm=false->h=zS
def XR{v:Int}{d:Bool}{h:Sn}(r:Rec v d h)(c kd a b:Int)(t:List Row)(j:bZ t)(f:0<=a/\a<18446744073709551616):
 Rec v (lF c v kd a b t d h).2.2.1 (lF c v kd a b t d h).2.2.2/\vP (jv (lF c v kd a b t d h).1)/\((lF c v kd a b t d h).1.1=0\/((lF c v kd a b t d h).1.1≠0/\gK (jv (lF c v kd a b t d h).1) [] v=0)):=by
 have r1:=r.lo;have r2:=r.hi;have z:vP (jv (0,0,0,0)):=ZE aU aU aU aU;have g:∀e:Int,0<=e/\e<18446744073709551616->vP (jv (7,e,0,0)):=λe h=>ZE aA h aA aA;unfold lF;split
 ·exact⟨r,z,.inl rfl⟩
 split
 ·split
  ·exact⟨r,g _ r.ep,.inr ⟨aA,Vl _ r1 r2⟩⟩
  ·exact⟨⟨r1,r2,j,f,λe=>by cases e⟩,g _ f,.inr ⟨aA,Vl _ r1 r2⟩⟩
 split
 ·split
  ·exact⟨r,g _ r.ep,.inr ⟨aA,Vl _ r1 r2⟩⟩
  split
  ·refine⟨r,ZE aA f (wrap_u64 _) ?_,.inr ⟨aA,aoL _ _ _ r1 r2 λl=>aj l⟩⟩;simp only;split
   ·exact r.ep
   ·simp
  ·next i=>
   have i:(ny h (b,a,t)).2=0:=by simpa using i
   have m:=(UY i).2.2.2.2;have n:=(afp r.good j i).1.good;have k:0<=(ny h (b,a,t)).1.1/\(ny h (b,a,t)).1.1<18446744073709551616:=by rw[m];exact f
   exact⟨⟨r1,r2,n,k,λe=>by cases e⟩,g _ k,.inr ⟨aA,Vl _ r1 r2⟩⟩
 ·exact⟨r,z,.inl rfl⟩
