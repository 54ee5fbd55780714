/- What the trees compute: plain laws. -/
import Derived.Test.YtboioicpmmipfaaGreatDoorKJe2
set_option linter.all false
namespace Go.Proofs.YtboioicpmmipfaaGreatDoor
open Go Go.aP
set_option maxRecDepth 100000
namespace J
abbrev It:=Int×Int×Q0
def dD(x:It):GV:=.g [.zu x.1,.zu x.2.1,.s x.2.2]
@[simp] theorem axm(x:It):(dD x).cells=[.zu x.1,.zu x.2.1,.s x.2.2]:=rfl
def lu(a b:It):Bool:=if a.1=b.1 then decide (a.2.1<b.2.1)else decide (a.1<b.1)
def leI(a b:It):Prop:=lu b a=false
def Xj(a b:It):leI a b↔a.1<b.1\/(a.1=b.1/\a.2.1<=b.2.1):=by
 unfold leI lu;split
 ·next h=>simp;omega
 ·next h=>simp;omega
def ajr(a:It):leI a a:=(Xj a a).2 (.inr ⟨rfl,iG _⟩)
def abN{a b c:It}(h1:leI a b)(d:leI b c):leI a c:=by rw[Xj]at *;omega
def RH{a b:It}(h:lu a b=true):leI a b:=by
 rw[Xj];unfold lu at h;split at h
 ·next e=>have:=DW h;omega
 ·next e=>have:=DW h;omega
def axK{a b:It}(h:leI a b):a.1<=b.1:=by rw[Xj]at h;omega
def dI:It:=(0,0,[])
abbrev at_(h:List It)(i:Nat):It:=h.getD i dI
def jm(h:List It)(i j:Nat):List It:=(h.set i (at_ h j)).set j (at_ h i)
def Gm(h:List It)(i j:Nat):(jm h i j).length=h.length:=by simp[jm]
def ZN(h:List It){i j:Nat}(hi:i<h.length)(f:j<h.length)(k:Nat):at_ (jm h i j) k=if k=j then at_ h i else if k=i then at_ h j else at_ h k:=by
 unfold jm at_;simp only[Aj,ae4,Ji];by_cases a:k=j
 ·subst a;simp[f]
 ·have b:¬j=k:=λe=>a e.symm;rw[aj b,aj a];by_cases c:k=i
  ·subst c;simp[hi]
  ·have d:¬i=k:=λe=>c e.symm;rw[aj d,aj c]
def swap_perm(h:List It){i j:Nat}(hi:i<h.length)(a:j<h.length):(jm h i j).Perm h:=by have:=Array.swap_perm (xs:=h.toArray) (i:=i) (j:=j) (by simpa using hi) (by simpa using a);have b:=this.toList;simp only[Array.toList_swap]at b;unfold jm at_;simpa[Aj,hi,a]using b
def par(k:Nat):Nat:=(k-1)/2
def Heap(h:List It)(n:Nat):Prop:=∀k,0<k->k<n->leI (at_ h (par k)) (at_ h k)
def Af:Nat->List It->Nat->List It
 |0,h,_=>h
 |f+1,h,j=>if par j=j\/lu (at_ h j) (at_ h (par j))=false then h else Af f (jm h (par j) j) (par j)
structure afo(h:List It)(n j:Nat):Prop where
 jn:j<n
 heap:∀k,0<k->k<n->k≠j->leI (at_ h (par k)) (at_ h k)
 kids:∀k,0<k->k<n->par k=j->0<j->leI (at_ h (par j)) (at_ h k)
def ane:∀(f:Nat)(h:List It)(j n:Nat),j<f->n=h.length->afo h n j->Heap (Af f h j) n/\(Af f h j).Perm h
 |0,h,j,n,v,_,_=>ah
 |f+1,h,j,n,v,w,d=>by
  unfold Af;split
  ·next b=>
   refine⟨λk h0 g=>?_,aeR _⟩;by_cases e:k=j
   ·subst e;rcases b with b|b
    ·unfold par at b;omega
    ·exact b
   ·exact d.heap k h0 g e
  ·next b=>
   rw[not_or]at b;obtain⟨x,m⟩:=b;have m:lu (at_ h j) (at_ h (par j))=true:=by simpa using m
   have y:0<j:=by
    rcases Uw j with e|e
    ·subst e;exact absurd rfl x
    ·exact e
   have A:par j<j:=by unfold par;omega
   have z:=d.jn;have a:=ZN h (i:=par j) (j:=j) ah ah;have o:afo (jm h (par j) j) n (par j):=by
    refine⟨ah,λk h0 g p=>?_,λk h0 g l r=>?_⟩
    ·rw[a,a];by_cases c:k=j
     ·subst c;rw[bW,au rfl,au rfl];exact RH m
     ·rw[aj c,aj p];by_cases s:par k=j
      ·rw[au s];exact d.kids k h0 g s y
      ·rw[aj s];by_cases t:par k=par j
       ·rw[au t];exact abN (RH m) (t▸d.heap k h0 g c)
       ·rw[aj t];exact d.heap k h0 g c
    ·rw[a,a];have q:par (par j)<par j:=by unfold par at *;omega
     rw[bW,bW];have u:=d.heap (par j) r ah ah;by_cases c:k=j
     ·subst c;rw[au rfl];exact u
     ·rw[aj c,aj (λe=>by rw[e]at l;omega)];exact abN u (l▸d.heap k h0 g c)
   obtain⟨r1,r2⟩:=ane f (jm h (par j) j) (par j) n ah (by rw[Gm];exact w) o;exact⟨r1,r2.trans (swap_perm h ah ah)⟩
def rV(h:List It)(x:It):List It:=Af (h.length+1) (h++[x]) h.length
def OV(h:List It)(x:It)(c:Heap h h.length):Heap (rV h x) (h.length+1)/\(rV h x).Perm (h++[x]):=by
 refine ane _ _ _ _ ah aA ⟨ah,λk b d e=>?_,λk b d a _=>?_⟩
 ·have f:k<h.length:=ah;have g:at_ (h++[x]) k=at_ h k:=by simp[at_,pF (ah:k<h.length)]
  have i:at_ (h++[x]) (par k)=at_ h (par k):=by simp[at_,pF (show par k<h.length by unfold par;omega)]
  rw[g,i];exact c k b ah
 ·exfalso;unfold par at a;omega
def kid(h:List It)(i n:Nat):Nat:=if 2*i+2<n/\lu (at_ h (2*i+2)) (at_ h (2*i+1))=true then 2*i+2 else 2*i+1
def oD:Nat->List It->Nat->Nat->List It
 |0,h,_,_=>h
 |f+1,h,i,n=>if n<=2*i+1\/lu (at_ h (kid h i n)) (at_ h i)=false then h else oD f (jm h i (kid h i n)) (kid h i n) n
structure aeH(h:List It)(n i:Nat):Prop where
 heap:∀k,0<k->k<n->par k≠i->leI (at_ h (par k)) (at_ h k)
 kids:∀k,0<k->k<n->par k=i->0<i->leI (at_ h (par i)) (at_ h k)
def ajb{h:List It}{i n:Nat}(h1:2*i+1<n):kid h i n<n/\par (kid h i n)=i/\i<kid h i n/\∀k,0<k->k<n->par k=i->leI (at_ h (kid h i n)) (at_ h k):=by
 unfold kid;have b:∀k,0<k->par k=i->k=2*i+1\/k=2*i+2:=λk c d=>by unfold par at d;omega
 split
 ·next f=>
  refine⟨f.1,by unfold par;omega,ah,λk c d a=>?_⟩;rcases b k c a with rfl|rfl
  ·exact RH f.2
  ·exact ajr _
 ·next f=>
  refine⟨h1,by unfold par;omega,ah,λk c d a=>?_⟩;rcases b k c a with rfl|rfl
  ·exact ajr _
  ·have:¬lu (at_ h (2*i+2)) (at_ h (2*i+1))=true:=λe=>f ⟨d,e⟩;unfold leI;simpa using this
def ahc:∀(f:Nat)(h:List It)(i n:Nat),n-i<f->n<=h.length->aeH h n i->Heap (oD f h i n) n/\(oD f h i n).Perm h/\∀k,n<=k->at_ (oD f h i n) k=at_ h k
 |0,h,i,n,v,_,_=>ah
 |f+1,h,i,n,v,w,m=>by
  unfold oD;split
  ·next d=>
   refine⟨λk h0 b=>?_,aeR _,λ_ _=>rfl⟩;by_cases e:par k=i
   ·by_cases o:n<=2*i+1
    ·unfold par at e;omega
    ·have d:=d.resolve_left o;have:=(ajb (h:=h) (i:=i) (n:=n) ah).2.2.2 k h0 b e;rw[e];exact abN d this
   ·exact m.heap k h0 b e
  ·next d=>
   rw[not_or]at d;obtain⟨A,p⟩:=d;have p:lu (at_ h (kid h i n)) (at_ h i)=true:=by simpa using p
   obtain⟨x,q,B,y⟩:=ajb (h:=h) (i:=i) (n:=n) ah;generalize kid h i n=j at *;have a:=ZN h (i:=i) (j:=j) ah ah;have r:aeH (jm h i j) n j:=by
    refine⟨λk h0 b s=>?_,λk h0 b c z=>?_⟩
    ·rw[a,a];rw[aj s];by_cases t:k=j
     ·subst t;rw[au rfl,q,au rfl];exact RH p
     ·rw[aj t];by_cases g:par k=i
      ·rw[au g];by_cases l:k=i
       ·unfold par at g;omega
       ·rw[aj l];exact y k h0 b g
      ·rw[aj g];by_cases l:k=i
       ·rw[au l];subst l;exact m.kids j ah x q h0
       ·rw[aj l];exact m.heap k h0 b g
    ·rw[a,a];have u:par j=i:=q;rw[bW,au u];rw[aj (by unfold par at c;omega),aj (by unfold par at c u;omega)];exact c▸m.heap k h0 b ah
   obtain⟨r1,r2,r3⟩:=ahc f (jm h i j) j n ah (by rw[Gm];exact w) r;refine⟨r1,r2.trans (swap_perm h ah ah),λk b=>?_⟩;rw[r3 k b,a,bW,bW]
def ai7{h:List It}{k:Nat}(a:k<h.length):(h.map dD)[k]? =some (dD (at_ h k)):=by rw[jA,cO a];simp[at_,a]
def aA1(x:It)(a b:Int)(c:Q0):(dD x).put 0 [.zu a,.zu b,.s c]=some (dD (a,b,c)):=rfl
def aEA(h:List It)(k:Nat)(x:It):(h.map dD).set k (dD x)=(h.set k x).map dD:=by rw[Zh]
def axn(x:It):dD (x.1,x.2.1,x.2.2)=dD x:=rfl
def BX{h:List It}{k:Nat}(a:k<h.length):Fe (some (.l (h.map dD))) (some (.zq (k:Int)))=some (.zq (k:Int)):=by rw[ku,au ⟨ah,by rw[gU];omega⟩]
def Dj{h:List It}{k:Nat}(a:k<h.length):at2 3 (some (.l (h.map dD))) (some (.zq (k:Int)))=some (dD (at_ h k)):=by rw[fO,lY,(ah:((k:Int)).toNat=k),ai7 a];rfl
def LZ{h:List It}{k:Nat}(a:k<h.length)(x:It):Gq 3 0 (some (.l (h.map dD))) (some (.zq (k:Int))) (some [.zu x.1,.zu x.2.1,.s x.2.2])=some (.l ((h.set k x).map dD)):=by rw[vX,au ⟨ah,rfl⟩,(ah:((k:Int)).toNat=k),ai7 a];simp only[BA,axm,iE,lQ,if_true,aA1,axn,iO,aEA]
def azS(j:Nat)(c:j<=1000000):IntKind.i64.wrap ((IntKind.i64.wrap ((j:Int)-1)).tdiv 2)=(par j:Nat)/\IntKind.i64.wrap ((j:Int)-1)=(j:Int)-1:=by
 have a:=bK ((j:Int)-1);have b:((j:Int)-1).tdiv 2=(par j:Nat):=by
  rcases Uw j with e|e
  ·subst e;rfl
  ·have:(j:Int)-1=((j-1:Nat):Int):=ah;rw[this];exact(Int.ofNat_tdiv (j-1) 2).symm
 refine⟨?_,a⟩;rw[a,b];exact wrap64 ah (by unfold par;omega)
def anf:∀(f:Nat)(h:List It)(j:Nat)(c:GV),j<f->j<h.length->h.length<=1000000->
 TT.lim 141 [.zq (j:Int),.l (h.map dD),c]=some [.zq 0,.l ((Af f h j).map dD)]
 |0,h,j,c,z,_,_=>ah
 |f+1,h,j,c,z,r,A=>by
  obtain⟨w1,a⟩:=azS j ah;rw[a]at w1;have k:par j<h.length:=by unfold par;omega
  have l:=Dj r;have m:=Dj k;have n:=BX r;have o:=BX k;have v:=LZ k (at_ h j);have g:j<(h.set (par j) (at_ h j)).length:=by rw[Ji];exact r
  have s:=LZ g (at_ h (par j));have w:=BX g;have p:=λt:par j<f=>anf f (jm h (par j) j) (par j) c t (by rw[Gm];exact k) (by rw[Gm];exact A);have B:(h.set (par j) (at_ h j)).set j (at_ h (par j))=jm h (par j) j:=rfl;rw[B]at s;have D:par j<=j:=by unfold par;omega
  by_cases e:par j=j
  ·have u:Af (f+1) h j=h:=au (.inl e);rw[u];have b:((par j:Nat):Int)=(j:Int):=ah;refine aB ?_;simp[w1,a,b]
  ·have b:¬((par j:Nat):Int)=(j:Int):=ah;have p:=p ah;have u:Af (f+1) h j=if lu (at_ h j) (at_ h (par j))=false then h else Af f (jm h (par j) j) (par j):=by
    show(if par j=j\/lu (at_ h j) (at_ h (par j))=false then h else Af f (jm h (par j) j) (par j))=_
    by_cases q:lu (at_ h j) (at_ h (par j))=false
    ·rw[au (.inr q),au q]
    ·rw[aj (λh=>h.elim e q),aj q]
   rw[u];generalize at_ h j=x,at_ h (par j)=y,jm h (par j) j=E at *;generalize h.set (par j) x=F,((par j:Nat):Int)=G at *;refine aB ?_;unfold lu;by_cases d:x.1=y.1
   ·have d:=eq_true d;by_cases i:x.2.1<y.2.1
    ·simp[-ku,-fO,-vX,w1,a,b,l,m,n,o,w,v,s,d,i,p]
    ·simp[-ku,-fO,-vX,w1,a,b,l,m,n,o,d,i]
   ·by_cases i:x.1<y.1
    ·simp[-ku,-fO,-vX,w1,a,b,l,m,n,o,w,v,s,d,i,p]
    ·simp[-ku,-fO,-vX,w1,a,b,l,m,n,o,d,i]
def aGk(h:List It)(j:Nat)(c:GV)(a:j<h.length)(b:h.length<=1000000):TT.lim 140 [.zq (j:Int),.l (h.map dD),c]=some [.zq 0,.l ((Af (j+1) h j).map dD)]:=by have d:=anf (j+1) h j c ah a b;refine aB ?_;simp[d]
def DN{a b:It}{v:Bool}(h:lu a b=v):((a.1=b.1)=True/\(a.2.1<b.2.1)=(v=true))\/((a.1=b.1)=False/\(a.1<b.1)=(v=true)):=by
 unfold lu at h;by_cases e:a.1=b.1
 ·rw[au e]at h;refine .inl ⟨eq_true e,?_⟩;rw[<-h,decide_eq_true_eq]
 ·rw[aj e]at h;refine .inr ⟨eq_false e,?_⟩;rw[<-h,decide_eq_true_eq]
def ahd:∀(f:Nat)(h:List It)(i n:Nat)(a0 c:GV),n-i<f->n<=h.length->h.length<=1000000->i<=1000000->
 ∃o:Nat,TT.lim 217 [a0,.zq (n:Int),.zq (i:Int),.l (h.map dD),c]=some [.zq 0,.zq (o:Int),.l ((oD f h i n).map dD)]
 |0,h,i,n,a0,c,U,_,_,_=>ah
 |f+1,h,i,n,a0,c,U,V,W,hi=>by
  have M:oD (f+1) h i n=if n<=2*i+1\/lu (at_ h (kid h i n)) (at_ h i)=false then h else oD f (jm h i (kid h i n)) (kid h i n) n:=rfl
  have w1:=bK (2*(i:Int));have v:=bK (2*(i:Int)+1);have x:=bK (2*(i:Int)+1+1);by_cases N:n<=2*i+1
  ·rw[M,au (.inl N)];have a:(n:Int)<=2*(i:Int)+1:=ah;refine⟨i,jI rfl rfl ?_⟩;simp[w1,v,a]
  have a:¬(n:Int)<=2*(i:Int)+1:=ah;have k:¬(2*(i:Int)+1<0):=ah;have D:2*i+1<h.length:=ah;have w:i<h.length:=ah;have O:2*(i:Int)+1=((2*i+1:Nat):Int):=ah;have T:2*(i:Int)+1+1=((2*i+2:Nat):Int):=ah;have p:=Dj D;have q:=BX D;have z:=Dj w;have A:=BX w
  have step:∀j:Nat,j<n->i<j->(∃o:Nat,TT.lim 217 [a0,.zq (n:Int),.zq (j:Int),.l ((jm h i j).map dD),c]=some [.zq 0,.zq (o:Int),.l ((oD f (jm h i j) j n).map dD)])/\
   Gq 3 0 (some (.l (h.map dD))) (some (.zq (i:Int))) (some [.zu (at_ h j).1,.zu (at_ h j).2.1,.s (at_ h j).2.2])=some (.l ((h.set i (at_ h j)).map dD))/\
   Gq 3 0 (some (.l ((h.set i (at_ h j)).map dD))) (some (.zq (j:Int))) (some [.zu (at_ h i).1,.zu (at_ h i).2.1,.s (at_ h i).2.2])=some (.l ((jm h i j).map dD)):=by
   intro j Y X;refine⟨ahd f (jm h i j) j n a0 c ah (by rw[Gm];exact V) (by rw[Gm];exact W) ah,LZ w (at_ h j),?_⟩;exact LZ (h:=h.set i (at_ h j)) (by rw[Ji];omega) (at_ h i)
  by_cases P:2*i+2<n
  ·have g:2*(i:Int)+1+1<(n:Int):=ah;have E:2*i+2<h.length:=ah;have F:=Dj E;have G:=BX E;rw[<-O]at p q;rw[<-T]at F G;by_cases r:lu (at_ h (2*i+2)) (at_ h (2*i+1))=true
   ·have H:kid h i n=2*i+2:=by unfold kid;rw[au ⟨P,r⟩]
    rw[M,H];obtain⟨⟨o,s⟩,I,t⟩:=step (2*i+2) P ah;rw[<-T]at s t;generalize at_ h (2*i+2)=Q,at_ h (2*i+1)=B,at_ h i=y,oD f (jm h i (2*i+2)) (2*i+2) n=R at *;generalize jm h i (2*i+2)=S,h.set i Q=L at *;cases u:lu Q y with
    |true=>refine⟨o,?_⟩;rw[aj (λe=>e.elim N aA)];refine aB ?_;rcases DN r with⟨l,m⟩|⟨l,m⟩<;>rcases DN u with⟨b,d⟩|⟨b,d⟩<;>simp[-ku,-fO,-vX,w1,v,x,a,k,g,p,F,z,q,G,A,l,m,b,d,I,t,s]
    |false=>refine⟨i,?_⟩;rw[au (.inr rfl)];refine aB ?_;rcases DN r with⟨l,m⟩|⟨l,m⟩<;>rcases DN u with⟨b,d⟩|⟨b,d⟩<;>simp[-ku,-fO,-vX,w1,v,x,a,k,g,p,F,z,q,G,A,l,m,b,d]
   ·have H:kid h i n=2*i+1:=by unfold kid;rw[aj (λe=>r e.2)]
    have r:lu (at_ h (2*i+2)) (at_ h (2*i+1))=false:=by simpa using r
    rw[M,H];obtain⟨⟨o,s⟩,I,t⟩:=step (2*i+1) ah ah;rw[<-O]at s t;generalize at_ h (2*i+2)=Q,at_ h (2*i+1)=B,at_ h i=y,oD f (jm h i (2*i+1)) (2*i+1) n=R at *;generalize jm h i (2*i+1)=S,h.set i B=L at *;cases u:lu B y with
    |true=>refine⟨o,?_⟩;rw[aj (λe=>e.elim N aA)];refine aB ?_;rcases DN r with⟨l,m⟩|⟨l,m⟩<;>rcases DN u with⟨b,d⟩|⟨b,d⟩<;>simp[-ku,-fO,-vX,w1,v,x,a,k,g,p,F,z,q,G,A,l,m,b,d,I,t,s]
    |false=>refine⟨i,?_⟩;rw[au (.inr rfl)];refine aB ?_;rcases DN r with⟨l,m⟩|⟨l,m⟩<;>rcases DN u with⟨b,d⟩|⟨b,d⟩<;>simp[-ku,-fO,-vX,w1,v,x,a,k,g,p,F,z,q,G,A,l,m,b,d]
  ·have g:¬2*(i:Int)+1+1<(n:Int):=ah;have H:kid h i n=2*i+1:=by unfold kid;rw[aj (λe=>P e.1)]
   rw[<-O]at p q;rw[M,H];obtain⟨⟨o,s⟩,I,t⟩:=step (2*i+1) ah ah;rw[<-O]at s t;generalize at_ h (2*i+1)=B,at_ h i=y,oD f (jm h i (2*i+1)) (2*i+1) n=R at *;generalize jm h i (2*i+1)=S,h.set i B=L at *;cases u:lu B y with
   |true=>refine⟨o,?_⟩;rw[aj (λe=>e.elim N aA)];refine aB ?_;rcases DN u with⟨b,d⟩|⟨b,d⟩<;>simp[-ku,-fO,-vX,w1,v,x,a,k,g,p,z,q,A,b,d,I,t,s]
   |false=>refine⟨i,?_⟩;rw[au (.inr rfl)];refine aB ?_;rcases DN u with⟨b,d⟩|⟨b,d⟩<;>simp[-ku,-fO,-vX,w1,v,x,a,k,g,p,z,q,A,b,d]
def nX(h:List It):List It:=(oD (h.length-1+1) (jm h 0 (h.length-1)) 0 (h.length-1)).take (h.length-1)
def aaB:∀(f:Nat)(h:List It)(i n:Nat),(oD f h i n).length=h.length
 |0,h,i,n=>rfl
 |f+1,h,i,n=>by
  unfold oD;split
  ·rfl
  ·rw[aaB,Gm]
def afN{h:List It}{n k:Nat}(a:k<n):at_ (h.take n) k=at_ h k:=by unfold at_;simp[List.getD,oh,a]
def X0(h:List It)(n:Nat)(m:h.length=n+1)(q:Heap h (n+1)):
 (nX h).length=n/\Heap (nX h) n/\(at_ h 0::nX h).Perm h/\at_ (oD (n+1) (jm h 0 n) 0 n) n=at_ h 0:=by
 have r:(jm h 0 n).length=n+1:=by rw[Gm,m]
 have b:=ZN h (i:=0) (j:=n) ah ah;have s:=ahc (n+1) (jm h 0 n) 0 n ah ah ⟨λk c d o=>by
  have f:par k<k:=by unfold par;omega
  rw[b,b,bW,aj o,bW,bW];exact q k c ah,λk c d o t=>ah⟩
 obtain⟨d1,d2,d3⟩:=s;have a:at_ (oD (n+1) (jm h 0 n) 0 n) n=at_ h 0:=by rw[d3 n ah,b,au rfl]
 have g:(oD (n+1) (jm h 0 n) 0 n).length=n+1:=by rw[aaB,r]
 have l:nX h=(oD (n+1) (jm h 0 n) 0 n).take n:=by unfold nX;rw[m];rfl
 generalize oD (n+1) (jm h 0 n) 0 n=D at *;refine⟨by rw[l,mQ,g];omega,?_,?_,a⟩
 ·intro k c d;have f:par k<k:=by unfold par;omega
  rw[l,afN ah,afN d];exact d1 k c d
 ·have e:D.take n++[at_ h 0]=D:=by
   rw[<-a];have:at_ D n=D[n]'(by omega):=by simp[at_,List.getD,cO (ah:n<D.length)]
   rw[this,List.take_append_getElem (ah:n<D.length),mF ah]
  have p:(at_ h 0::nX h).Perm (D.take n++[at_ h 0]):=by rw[l];exact(anO (l₁:=[at_ h 0]) (l₂:=D.take n))
  rw[e]at p;exact p.trans (d2.trans (swap_perm h ah ah))
def SQ(h:List It)(x:It)(a:Heap h h.length):(rV h x).length=h.length+1:=by have:=(OV h x a).2.length_eq;simpa using this
def dM:Nat->Int->List It->List Q0×List It
 |0,_,h=>([],h)
 |m+1,t,h=>if h=[]\/t<(at_ h 0).1 then([],h)else((at_ h 0).2.2::(dM m t (nX h)).1,(dM m t (nX h)).2)
def VJ(t:Int):∀(m:Nat)(h:List It),h.length=m->Heap h h.length->Heap (dM m t h).2 (dM m t h).2.length/\(dM m t h).1.length+(dM m t h).2.length=m
 |0,h,c,d=>by simp only[dM];exact⟨d,by simpa using c⟩
 |m+1,h,c,d=>by
  simp only[dM];split
  ·exact⟨d,by simpa using c⟩
  ·obtain⟨r1,r2,r3,-⟩:=X0 h m c (by rw[<-c];exact d);obtain⟨a,b⟩:=VJ t m (nX h) r1 (by rw[r1];exact r2);exact⟨a,by simp only[iE];omega⟩
structure Qc(h L:List It)(n:Int):Prop where
 heap:Heap h h.length
 perm:L.Perm h
 srt:L.Pairwise (λx y=>lu x y=true)
 low:∀x∈L,x.2.1<n
def Qc.len{h L:List It}{n:Int}(s:Qc h L n):h.length=L.length:=s.perm.length_eq.symm
def insL(x:It):List It->List It
 |[]=>[x]
 |y::L=>if y.1<=x.1 then y::insL x L else x::y::L
def WV(x:It):∀L,(insL x L).Perm (L++[x])
 |[]=>aeR _
 |y::L=>by
  unfold insL;split
  ·exact(WV x L).cons y
  ·exact anO (l₁:=[x]) (l₂:=y::L)
def ax3{y x:It}(h:y.1<=x.1)(a:y.2.1<x.2.1):lu y x=true:=by
 unfold lu;split
 ·simpa using a
 ·simp;omega
def ajL{y x:It}(h:x.1<y.1):lu x y=true:=by unfold lu;rw[bW];simpa using h
def ax2{x y:It}(h:lu x y=true):x.1<=y.1:=axK (RH h)
def ai0(x:It):∀L:List It,L.Pairwise (λa b=>lu a b=true)->(∀y∈L,y.2.1<x.2.1)->(insL x L).Pairwise (λa b=>lu a b=true)
 |[],_,_=>by simp[insL]
 |y::L,e,c=>by
  obtain⟨h1,h⟩:=jB.1 e;unfold insL;split
  ·next f=>
   refine jB.2 ⟨λz d=>?_,ai0 x L h λz d=>c z (zG _ d)⟩;rcases jQ.1 ((WV x L).mem_iff.1 d)with g|g
   ·exact h1 z g
   ·rw[jX]at g;subst g;exact ax3 f (c y Um)
  ·next f=>
   refine jB.2 ⟨λz d=>?_,e⟩;rcases bH.1 d with rfl|g
   ·exact ajL ah
   ·exact ajL (by have:=ax2 (h1 z g);omega)
def Qc.put{h L:List It}{n a:Int}{t:Q0}(s:Qc h L n):Qc (rV h (a,n,t)) (insL (a,n,t) L) (n+1):=by
 have b:=OV h (a,n,t) s.heap;have c:=SQ h (a,n,t) s.heap;refine⟨by rw[c];exact b.1,(WV _ _).trans ((s.perm.append_right _).trans b.2.symm),ai0 _ _ s.srt s.low,λx d=>?_⟩;rcases jQ.1 ((WV _ _).mem_iff.1 d)with g|g
 ·have:=s.low x g;omega
 ·rw[jX]at g;subst g;show n<n+1
  omega
def wrap_u64(n:Int):0<=IntKind.u64.wrap n/\IntKind.u64.wrap n<18446744073709551616:=by
 have:IntKind.u64.wrap n=n%18446744073709551616:=by simp[IntKind.wrap,IntKind.signed,IntKind.bits]
 rw[this];omega
def ajK{k:List Sn}{i:Nat}(hi:i<=k.length):Ou 2 (some (.l (k.map sn))) (some (.zq (i:Int))) (some (.zq (k.length:Int)))=some (.l ((k.drop i).map sn)):=by
 rw[nT,au]
 ·congr 2;rw[zF,zF,mF aA,List.map_drop]
 ·refine⟨ah,ah,aA,?_⟩;rw[List.all_map];exact List.all_eq_true.2 λx _=>rfl
def amv(k:List Sn):(k.map sn).all (GV.gV 2)=true:=by rw[List.all_map];exact List.all_eq_true.2 λx _=>rfl
def al8(t:List Row)(e:Int)(d:dX t):∀(m i:Nat)(a:List Row),i+m=t.length->a.length=i->
 TT.lim 43 [.l (t.map row),.zq t.length,.zq i,.zu e,.l (a.map row)]=some [.zq 0,.l ((a++t.drop i).map row)]
 |0,i,a,hi,l=>by have h0:t.drop i=[]:=iP;have h:¬((i:Int)<t.length):=ah;refine aB ?_;simp[h,h0]
 |m+1,i,a,hi,l=>by
  have b:i<t.length:=ah;have o:=d.len;have kc:=Ht t[i].1 (ET (d.few _ (iZ b)));have c:GV.g [.l (t[i].1.map ent),.zu t[i].2]=row t[i]:=rfl;have f:(row t[i]).gV 2=true:=rfl;have g:2*(a.length+1)*32<=281474976710656/\a.length+1<=281474976710656:=ah;have h:((i:Int)<t.length):=ah;have n:=bK ((i:Int)+1);have k:TT.lim 43 [.l (t.map row),.zq t.length,.zq ((i:Int)+1),.zu e,.l ((a++[t[i]]).map row)]=_:=al8 t e d m (i+1) (a++[t[i]]) ah (by simp;omega);have j:a++t.drop i=a++[t[i]]++t.drop (i+1):=by rw[List.append_assoc,MR,<-iY b]
  rw[j];generalize a++[t[i]]++t.drop (i+1)=R at *;simp only[oJ,jc,jJ]at k;refine aB ?_;simp[-List.getElem_cons_drop,h,b,n,kc,c,f,g,k]
def O5(s:Sn)(h:dX s.2):TT.lim 42 [sn s]=some [sn s]:=by have k:TT.lim 43 [.l (s.2.map row),.zq s.2.length,.zq 0,.zu s.1,.l []]=_:=al8 s.2 s.1 h s.2.length 0 [] ah rfl;rw[aZ,dY]at k;have d:=h.len;have b:(32:Int)*s.2.length<=281474976710656/\(s.2.length:Int)<=1152921504606846976:=ah;have a:(GV.g [.l [],.zu 0]).gV 2=true:=rfl;have c:GV.g [.zu s.1,.l (s.2.map row)]=sn s:=rfl;refine aW ?_;simp[b,a,k,c]
structure Kp(k:List Sn):Prop where
 len:k.length<=8
 tb:∀s∈k,Tb s.2
 pos:∀s∈k,0<s.1/\s.1<18446744073709551616
 rise:k.Pairwise λa b=>a.1<b.1/\pK b.2 a.2=true
def Kp.nil:Kp []:=⟨aU,aA,aA,List.Pairwise.nil⟩
def ajq(v b:GV):TT.lim 173 [v,.l [],b]=some [.zq 0,.zu 0,.l [],.b false]:=by refine aB ?_;simp
def ajp(v b:GV)(k:List Sn)(m:Nat)(x:Sn)(i:k.length=m+1)(j:m<=1000)(d:k[m]? =some x)(e:dX x.2):
 TT.lim 173 [v,.l (k.map sn),b]=some [.zq 0,.zu x.1,.l (x.2.map row),.b true]:=by
 have kc:=O5 x e;have f:=bK ((m:Int));have g:((k.length:Nat):Int)=(m:Int)+1:=ah;have a:¬((m:Int)+1=0):=ah;have c:(m:Int)<(m:Int)+1:=ah;have h:GV.g [.zu x.1,.l (x.2.map row)]=sn x:=rfl;refine aB ?_;simp[g,a,f,d,kc,h,c]
def jD(e:Int)(k:List Sn):W2:=k.findIdx? λs=>decide (s.1=e)
def sJ:W2->List GV
 |some j=>[.zq 0,.zq (j:Int)]
 |none=>[.zq 1]
def EU{e:Int}{k:List Sn}{j:Nat}(h:jD e k=some j):∃x,k[j]? =some x/\x.1=e/\j<k.length:=by unfold jD at h;obtain⟨a,b,-⟩:=List.findIdx?_eq_some_iff_getElem.1 h;exact⟨k[j],cO a,by simpa using b,a⟩
def auN{e:Int}{k:List Sn}(h:jD e k=none):∀x∈k,x.1≠e:=by unfold jD at h;intro x a b;have:=List.findIdx?_eq_none_iff.1 h x a;simp[b]at this
def sD(e:Int)(k:List Sn)(b:Int):Bool×List Sn×Int:=if e<=b then(false,k,b)else match jD e k with
 |none=>(false,k,b)
 |some i=>(true,k.drop i,e)
def oK(x:Sn)(b:Int):List Sn->List Sn×Int
 |[]=>([x],b)
 |y::r=>if 8<r.length+2 then(r++[x],if y.1=b then 0 else b)else(y::r++[x],b)
def jV(x:Sn)(k:List Sn)(b:Int):Int×List Sn×Int:=
 if nO x.2≠0 then(nO x.2,k,b)else if x.1=0 then(18,k,b)else match k.getLast? with
 |none=>(0,oK x b k)
 |some l=>if x.1<=l.1 then(20,k,b)else if pK x.2 l.2=false then(21,k,b)else(0,oK x b k)
def last_at{k:List Sn}{l:Sn}(h:k.getLast? =some l):∃m,k.length=m+1/\k[m]? =some l/\l∈k:=by
 cases a:k with
 |nil=>subst a;simp at h
 |cons y r=>
  refine⟨r.length,aA,?_,?_⟩
  ·rw[<-a,<-h,List.getLast?_eq_getElem?,a];simp
  ·rw[<-a];exact yE h
def last_none{k:List Sn}(h:k.getLast? =none):k=[]:=List.getLast?_eq_none_iff.1 h
def aAM(x:Sn)(v:GV)(k:List Sn)(b:Int)(I:dX x.2)(L:Kp k):
 TT.lim 163 [.zu x.1,.l (x.2.map row),v,.l (k.map sn),.zu b]=some [.zq 0,.zq (jV x k b).1,.l ((jV x k b).2.1.map sn),.zu (jV x k b).2.2]:=by
 have h:=Vs x I;have kc:=O5 x I;have j:GV.g [.zu x.1,.l (x.2.map row)]=sn x:=rfl;have M:(sn x).gV 2=true:=rfl;unfold jV;by_cases c:nO x.2=0;rotate_left
 ·rw[au c];refine aB ?_;simp[j,h,c]
 rw[aj (by simpa using c)];by_cases e:x.1=0
 ·rw[au e];have N:(x.1=0)=True:=eq_true e;clear e;refine aB ?_;simp[j,h,c,N]
 rw[aj e];have h8:=L.len;cases O:k.getLast? with
 |none=>obtain rfl:=last_none O;refine aB ?_;simp[j,h,c,e,kc,M,oK]
 |some l=>
  obtain⟨m,U,D,n⟩:=last_at O;have E:((k.length:Nat):Int)=(m:Int)+1:=ah;have u:(0:Int)<(m:Int)+1:=ah;have d:(m:Int)<(m:Int)+1:=ah;have w:=bK ((m:Int));simp only;by_cases p:x.1<=l.1
  ·rw[au p];refine aB ?_;simp[j,h,c,e,E,u,w,D,p,d]
  rw[aj p];have t:=afK x.2 l.2 ((vI _).1 c).1 (L.tb l n).ok.1 I.few (L.tb l n).few;cases R:pK x.2 l.2 with
  |false=>rw[R]at t;refine aB ?_;simp[j,h,c,e,E,u,w,D,p,t,d]
  |true=>
   rw[R]at t;rw[aj aA];have S:(k++[x]).length=m+2:=by simp;omega
   have q:=ajK (k:=k++[x]) (i:=1) ah;have s:Jy 2 32 (some (.l (k.map sn))) (some (.l [sn x]))=some (.l ((k++[x]).map sn)):=by
    rw[GY,au]
    ·rw[oJ];rfl
    ·refine⟨rfl,?_,?_⟩<;>simp only[gU,iE,lQ]<;>omega
   have V:=bK ((m:Int)+2);cases k with
   |nil=>simp at O
   |cons y r=>
    have hr:r.length=m:=by simpa using U
    by_cases h5:8<m+2
    ·have W:2*((y::r++[x]).drop 1).length*32<=281474976710656/\((y::r++[x]).drop 1).length<=281474976710656:=by rw[fZ];omega
     have z:=amv ((y::r++[x]).drop 1);have X:(y::r++[x]).drop 1=r++[x]:=rfl;have hn:(m:Int)+1+1=(m:Int)+2:=ah;have F:(8:Int)<(m:Int)+2:=ah;have T:((y::r++[x]).map sn)[0]? =some (sn y):=rfl;have o:(0:Int)<(m:Int)+2:=ah;have f:(((y::r++[x]).length:Nat):Int)=(m:Int)+2:=ah;have G:(((y::r++[x]).map sn).length:Int)=(m:Int)+2:=by rw[gU];exact f
     have H:(((y::r).map sn).length:Int)=(m:Int)+1:=by rw[gU];exact E
     have g:((y::r).map sn)[m]? =some (sn l):=by rw[jA,D];rfl
     have A:Ou 2 (some (.l ((y::r++[x]).map sn))) (some (.zq 1)) (some (.zq ((m:Int)+2)))=some (.l ((r++[x]).map sn)):=by rw[<-f];exact q
     rw[X]at W z;have B:Jy 2 32 (some (.l [])) (some (.l ((r++[x]).map sn)))=some (.l ((r++[x]).map sn)):=by
      rw[GY,au]
      ·rfl
      ·exact⟨z,by simp only[gU,lQ];omega,by simp only[gU,lQ];omega⟩
     have a:oK x b (y::r)=(r++[x],if y.1=b then 0 else b):=au (ah:8<r.length+2);rw[a];clear a q;generalize r++[x]=R1 at *;generalize(y::r++[x]).map sn=Y,(y::r).map sn=Z at *;by_cases P:y.1=b
     ·have Q:(y.1=b)=True:=eq_true P;clear P;refine aB ?_;simp[-nT,-List.all_eq_true,-List.all_map,-GY,j,h,c,e,H,G,u,w,g,p,t,kc,s,F,o,T,Q,A,B,d]
     ·refine aB ?_;simp[-nT,-List.all_eq_true,-List.all_map,-GY,j,h,c,e,H,G,u,w,g,p,t,kc,s,F,o,T,P,A,B,d]
    ·have F:¬(8:Int)<(m:Int)+2:=ah;have f:(((y::r++[x]).length:Nat):Int)=(m:Int)+2:=ah;have G:(((y::r++[x]).map sn).length:Int)=(m:Int)+2:=by rw[gU];exact f
     have H:(((y::r).map sn).length:Int)=(m:Int)+1:=by rw[gU];exact E
     have g:((y::r).map sn)[m]? =some (sn l):=by rw[jA,D];rfl
     have a:oK x b (y::r)=(y::r++[x],b):=aj (ah:¬8<r.length+2);rw[a];clear a q;show _=some [_,_,GV.l ((y::r++[x]).map sn),_]
     generalize(y::r++[x]).map sn=Y,(y::r).map sn=Z at *;refine aB ?_;simp[-nT,-List.all_eq_true,-List.all_map,-GY,j,h,c,e,H,G,u,w,g,p,t,kc,s,F,d]
abbrev Ms:=(Int×Int×Int×List Row)×Int
def full(l:Sn):Ms:=((5,l.1,0,l.2),0)
def cZ(v:Int)(k:List Sn)(b:Int):Ms:=match k.getLast? with
 |none=>((0,0,0,[]),24)
 |some l=>if l.1=b then((0,0,0,[]),24)else match jD b k with
  |none=>full l
  |some i=>if 2<=v then match k[i]? with
    |none=>full l
    |some s=>if(qh s l).2≠0 then((0,0,0,[]),(qh s l).2)else((6,(qh s l).1.2.1,(qh s l).1.1,(qh s l).1.2.2),0)
   else full l
def Iy(r:Ms):Q1:=[.zq 0,.zq r.1.1,.zu r.1.2.1,.zu r.1.2.2.1,.l (r.1.2.2.2.map row),.zq r.2]
def iq(k:List Sn):Sn:=k.getLast?.getD zS
def xY(x:Sn)(a:Int)(k:List Sn):Sn:=
 if(lS (iq k) ((iq k).1,IntKind.u64.wrap ((iq k).1+a),x.2)).2≠0 then x else(lS (iq k) ((iq k).1,IntKind.u64.wrap ((iq k).1+a),x.2)).1
def Xi{k:List Sn}(a:Kp k):Tb (iq k).2:=by
 unfold iq;cases b:k.getLast? with
 |none=>exact CU
 |some l=>exact a.tb l (yE b)
def axG(v b:GV)(k:List Sn)(c:Kp k):TT.lim 173 [v,.l (k.map sn),b]=some [.zq 0,.zu (iq k).1,.l ((iq k).2.map row),.b k.getLast?.isSome]:=by
 have g:=c.len;unfold iq;cases d:k.getLast? with
 |none=>obtain rfl:=last_none d;exact ajq v b
 |some l=>obtain⟨m,e,f,a⟩:=last_at d;exact ajp v b k m l e ah f (c.tb l a).good
def Kp.add{k:List Sn}(d:Kp k){x:Sn}{b:Int}(p:Tb x.2)(h0:0<x.1/\x.1<18446744073709551616)(z:∀l,k.getLast? =some l->l.1<x.1/\pK x.2 l.2=true):Kp (oK x b k).1:=by
 have e:∀s∈k,s.1<x.1/\pK x.2 s.2=true:=by
  intro s c;obtain⟨i,hi,rfl⟩:=List.getElem_of_mem c;cases q:k.getLast? with
  |none=>exact absurd hi (by rw[last_none q];simp)
  |some l=>
   obtain⟨m,D,f,g⟩:=last_at q;obtain⟨A,v⟩:=z l q;have j:m<k.length:=ah;have n:k[m]=l:=by have:=cO j;rw[f]at this;injection this with this;exact this.symm
   rcases zJ i m with o|o
   ·have w:=Un.1 d.rise i m hi j o;rw[n]at w;exact⟨ah,aov p.rise (d.tb l g).rise (d.tb _ (iZ hi)).rise v w.2⟩
   ·have:i=m:=ah;subst this;simp only[n];exact⟨A,v⟩
 cases k with
 |nil=>exact⟨by simp[oK],by simpa[oK]using p,by simpa[oK]using h0,by simp[oK]⟩
 |cons y r=>
  have t:Kp r:=⟨by have:=d.len;simp at this;omega,λs c=>d.tb s (by simp[c]),λs c=>d.pos s (by simp[c]),(jB.1 d.rise).2⟩
  have B:=d.len;simp only[iE]at B;simp only[oK];split
  ·refine⟨by simp;omega,?_,?_,?_⟩
   ·intro s c;rcases jQ.1 c with h|h
    ·exact t.tb s h
    ·rw[jX.1 h];exact p
   ·intro s c;rcases jQ.1 c with h|h
    ·exact t.pos s h
    ·rw[jX.1 h];exact h0
   ·refine afb.2 ⟨t.rise,aA,λa f b u=>?_⟩;rw[jX.1 u];exact e a (by simp[f])
  ·refine⟨by simp;omega,?_,?_,?_⟩
   ·intro s c;rcases jQ.1 c with h|h
    ·exact d.tb s h
    ·rw[jX.1 h];exact p
   ·intro s c;rcases jQ.1 c with h|h
    ·exact d.pos s h
    ·rw[jX.1 h];exact h0
   ·refine afb.2 ⟨d.rise,aA,λa f b u=>?_⟩;rw[jX.1 u];exact e a f
def alh{x:Sn}{k:List Sn}{b:Int}(a:Kp k)(e:dX x.2)(h0:0<=x.1/\x.1<18446744073709551616):Kp (jV x k b).2.1:=by
 unfold jV;split
 ·exact a
 next f=>
 split
 ·exact a
 next i=>
 have d:Tb x.2:=e.tb ((vI _).1 (by simpa using f));split
 ·next c=>exact a.add d ⟨ah,h0.2⟩ λl h=>by rw[c]at h;cases h
 ·next l c=>
  split
  ·exact a
  next j=>
  split
  ·exact a
  next g=>exact a.add d ⟨ah,h0.2⟩ λm h=>by rw[c]at h;injection h with h;subst h;exact⟨ah,by simpa using g⟩
def Kp.drop{k:List Sn}(a:Kp k)(i:Nat):Kp (k.drop i):=
 ⟨by have:=a.len;rw[fZ];omega,λs b=>a.tb s (MO b),λs b=>a.pos s (MO b),a.rise.sublist (aeZ i k)⟩
def ZC{e:Int}{k:List Sn}{b:Int}(a:Kp k):Kp (sD e k b).2.1:=by
 unfold sD;split
 ·exact a
 split
 ·exact a
 ·exact a.drop _
def XA{x:Sn}{a:Int}{k:List Sn}(e:Kp k)(c:dX x.2)(h0:0<=x.1/\x.1<18446744073709551616):dX (xY x a k).2/\0<=(xY x a k).1/\(xY x a k).1<18446744073709551616:=by
 unfold xY;split
 ·exact⟨c,h0⟩
 next b=>
 have b:(lS (iq k) ((iq k).1,IntKind.u64.wrap ((iq k).1+a),x.2)).2=0:=by simpa using b
 have:=afI (Xi e).good (d:=((iq k).1,IntKind.u64.wrap ((iq k).1+a),x.2)) c b;refine⟨this.1.good,?_⟩;rw[(Np b).2.2.2.2];exact wrap_u64 _
def Rh{g:GV}(h:(dh.int .u8).has g):∃n,g=.i .u8 n/\0<=n/\n<256:=by simp only[dh.has]at h;obtain⟨n,rfl,a,b⟩:=h;exact⟨n,rfl,by simpa[IntKind.min,IntKind.signed]using a,by simp[IntKind.max,IntKind.signed,IntKind.bits]at b;omega⟩
def aEk(l:Sn)(h:dX l.2):TT.lim 316 [.zu l.1,.l (l.2.map row),.zu l.1,.l (l.2.map row)]=some [.zq 0,.b true]:=by have a:=al3 l.2 l.2 h h;refine aB ?_;simp[a]
def anP(xs:Q1)(k:List Sn):Prop:=∀s∈k,iC (.zu s.1) xs=some (sn s)
def key_inj{a b:Int}{x:GV}(h1:rJ (.zu a) x=true)(c:rJ (.zu b) x=true):a=b:=by
 cases x<;>simp[rJ]at h1 c
 omega
def aja(a b:Int):rJ (.zu a) (.zu b)=decide (a=b):=by simp only[rJ];rw[zA];simp
def vH(a b:Int)(u:GV):∀xs:Q1,iC (.zu a) (kV (.zu b) u xs)=if a=b then some u else iC (.zu a) xs
 |[]=>by
  show(if rJ (.zu a) (.zu b)=true then some u else none)=_
  rw[aja];by_cases h:a=b<;>simp[h,iC]
 |.g [x,v]::xs=>by
  have e:=vH a b u xs;show iC (.zu a) (if rJ (.zu b) x=true then .g [.zu b,u]::xs else .g [x,v]::kV (.zu b) u xs)=if a=b then some u else(if rJ (.zu a) x=true then some v else iC (.zu a) xs)
  cases c:rJ (.zu b) x with
  |true=>
   rw[au rfl];show(if rJ (.zu a) (.zu b)=true then some u else iC (.zu a) xs)=_
   rw[aja];by_cases h:a=b
   ·simp[h]
   ·cases d:rJ (.zu a) x with
    |true=>exact absurd (key_inj d c) h
    |false=>simp[h]
  |false=>
   rw[aj aA];show(if rJ (.zu a) x=true then some v else iC (.zu a) (kV (.zu b) u xs))=_
   rw[e];cases d:rJ (.zu a) x with
   |true=>
    by_cases h:a=b
    ·subst h;rw[d]at c;cases c
    ·simp[h]
   |false=>simp
 |.g []::xs=>vH a b u xs
 |.g [_]::xs=>vH a b u xs
 |.g (_::_::_::_)::xs=>vH a b u xs
 |.i _ _::xs=>vH a b u xs
 |.b _::xs=>vH a b u xs
 |.s _::xs=>vH a b u xs
 |.l _::xs=>vH a b u xs
structure Lead(xs:Q1)(k:List Sn)(b:Int):Prop where
 kp:Kp k
 map:anP xs k
 base:b=0\/∃s∈k,s.1=b
def axM{e:Int}{xs:Q1}{k:List Sn}{b:Int}(h:Lead xs k b):Lead xs (sD e k b).2.1 (sD e k b).2.2:=by
 refine⟨ZC h.kp,?_,?_⟩
 ·unfold sD;split
  ·exact h.map
  split
  ·exact h.map
  ·exact λs c=>h.map s (MO c)
 ·unfold sD;split
  ·exact h.base
  split
  ·exact h.base
  ·next i d=>
   obtain⟨x,f,a,hi⟩:=EU d;refine .inr ⟨x,?_,a⟩;have:(k.drop i)[0]? =some x:=by rw[uJ];simpa using f
   exact tN this
def afx{x:Sn}{b:Int}{k:List Sn}{s:Sn}(h:s∈(oK x b k).1):s∈k\/s=x:=by
 unfold oK at h;split at h
 ·exact .inr (by simpa using h)
 ·split at h
  ·rcases jQ.1 h with h|h
   ·exact .inl (by simp[h])
   ·exact .inr (by simpa using h)
  ·rcases jQ.1 h with h|h
   ·exact .inl h
   ·exact .inr (by simpa using h)
def aoe{x:Sn}{b:Int}{k:List Sn}(h:b=0\/∃s∈k,s.1=b):(oK x b k).2=0\/∃s∈(oK x b k).1,s.1=(oK x b k).2:=by
 unfold oK;split
 ·rcases h with h|⟨s,a,-⟩
  ·exact .inl h
  ·simp at a
 ·next y r=>
  split
  ·by_cases d:y.1=b
   ·exact .inl (by simp[d])
   ·rcases h with h|⟨s,a,c⟩
    ·exact .inl (by simp[h])
    ·rcases bH.1 a with e|e
     ·subst e;exact absurd c d
     ·exact .inr ⟨s,by simp[e],by simp[d,c]⟩
  ·rcases h with h|⟨s,a,c⟩
   ·exact .inl h
   ·exact .inr ⟨s,jQ.2 (.inl a),c⟩
def axO{x:Sn}{xs:Q1}{k:List Sn}{b:Int}(h:Lead xs k b)(r:dX x.2)(h0:0<=x.1/\x.1<18446744073709551616):
 Lead (if(jV x k b).1=0 then kV (.zu x.1) (sn x) xs else xs) (jV x k b).2.1 (jV x k b).2.2:=by
 have d:=alh (b:=b) h.kp r h0;have add:∀f:Kp (oK x b k).1,(∀l,k.getLast? =some l->l.1<x.1)->Lead (kV (.zu x.1) (sn x) xs) (oK x b k).1 (oK x b k).2:=by
  intro f e;refine⟨f,?_,aoe h.base⟩;intro s o;rw[vH];by_cases j:s.1=x.1
  ·rw[au j];rcases afx o with h1|h1
   ·exfalso;obtain⟨i,hi,rfl⟩:=List.getElem_of_mem h1;cases n:k.getLast? with
    |none=>exact absurd hi (by rw[last_none n];simp)
    |some l=>
     obtain⟨m,z,t,p⟩:=last_at n;have A:=e l n;have g:m<k.length:=ah;have q:k[m]=l:=by have:=cO g;rw[t]at this;injection this with this;exact this.symm
     rcases zJ i m with c|c
     ·have u:=Un.1 h.kp.rise i m hi g c;rw[q]at u;omega
     ·have:i=m:=ah;subst this;rw[q]at j;omega
   ·rw[h1]
  ·rw[aj j];rcases afx o with h1|h1
   ·exact h.map s h1
   ·subst h1;exact absurd rfl j
 unfold jV at d⊢;split
 ·next h1=>simpa[h1]using h
 next h1=>
 rw[aj h1]at d;split
 ·simpa using h
 next v=>
 rw[aj v]at d;split
 ·next e=>
  rw[e]at d;exact add d λl a=>by rw[e]at a;cases a
 ·next l e=>
  rw[e]at d;simp only at d;split
  ·exact h
  next w=>
  rw[aj w]at d;split
  ·exact h
  next y=>
  rw[aj y]at d;exact add d λB a=>by rw[e]at a;injection a with a;subst a;omega
def jR(kind epoch base:Int)(t:List Row):aQ:={kind:=kind,id:=0,min:=0,max:=0,chosen:=0,flags:=0,cost:=0,priority:=0,deadline:=0,retry:=0,epoch:=epoch,base:=base,digest:=0,lag:=0,code:=0,want:=0,remaining:=0,allowed:=false,name:=[],region:=[],note:=[],d:=[],t:=t}
def aoy{b a base:Int}{t:List Row}(h1: -9223372036854775808<=b/\b<=9223372036854775807)(c:0<=a/\a<18446744073709551616)(d:0<=base/\base<18446744073709551616)(e:Rows t):vZ (jR b a base t):=by refine⟨h1,?_,?_,?_,?_,?_,?_,?_,?_,?_,c,d,?_,?_,?_,?_,?_,?_,?_,?_,?_,e⟩<;>simp[jR,uG]
def Xh{k:List Sn}{b:Int}(f:Kp k){l s:Sn}{i:Nat}(a:k.getLast? =some l)(j:l.1≠b)(w:jD b k=some i)(n:k[i]? =some s):(qh s l).2=0/\dX (qh s l).1.2.2:=by
 obtain⟨y,d,o,hi⟩:=EU w;rw[n]at d;injection d with d
 subst d;have e:=yE a;have g:=tN n;obtain⟨m,x,p,-⟩:=last_at a;have h:m<k.length:=ah;have u:k[m]=l:=by have:=cO h;rw[p]at this;injection this with this;exact this.symm
 have q:k[i]=s:=by have:=cO hi;rw[n]at this;injection this with this;exact this.symm
 have r:i<m:=by
  rcases zJ i m with c|c
  ·exact c
  ·have:i=m:=ah;subst this;rw[u]at q;subst q;exact absurd o j
 have t:=Un.1 f.rise i m hi h r;rw[u,q]at t;have v:(qh s l).2=0:=by rw[atu (f.tb s g).ok (f.tb l e).ok t.1 t.2]
 exact⟨v,(afO (f.tb s g).good (f.tb l e).good v).2.2⟩
def ayS{v:Int}{k:List Sn}{b:Int}(e:Kp k):(-9223372036854775808<=(cZ v k b).1.1/\(cZ v k b).1.1<=9223372036854775807)/\(0<=(cZ v k b).1.2.1/\(cZ v k b).1.2.1<18446744073709551616)/\(0<=(cZ v k b).1.2.2.1/\(cZ v k b).1.2.2.1<18446744073709551616)/\dX (cZ v k b).1.2.2.2:=by
 have zero:∀c:Int,(-9223372036854775808<=((((0,0,0,[]),c):Ms)).1.1/\((((0,0,0,[]),c):Ms)).1.1<=9223372036854775807)/\(0<=((((0,0,0,[]),c):Ms)).1.2.1/\((((0,0,0,[]),c):Ms)).1.2.1<18446744073709551616)/\(0<=((((0,0,0,[]),c):Ms)).1.2.2.1/\((((0,0,0,[]),c):Ms)).1.2.2.1<18446744073709551616)/\dX ((((0,0,0,[]),c):Ms)).1.2.2.2:=λc=>⟨aA,aA,aA,CU.good⟩
 unfold cZ;cases h:k.getLast? with
 |none=>exact zero 24
 |some l=>
  have d:=yE h;have r:=e.pos l d
  have a:(-9223372036854775808<=(full l).1.1/\(full l).1.1<=9223372036854775807)/\(0<=(full l).1.2.1/\(full l).1.2.1<18446744073709551616)/\(0<=(full l).1.2.2.1/\(full l).1.2.2.1<18446744073709551616)/\dX (full l).1.2.2.2:=
   ⟨by simp[full],⟨by simp only[full];omega,by simp only[full];omega⟩,by simp[full],(e.tb l d).good⟩
  simp only;by_cases f:l.1=b
  ·rw[au f];exact zero 24
  rw[aj f];cases j:jD b k with
  |none=>exact a
  |some i=>
   obtain⟨s,g,-,hi⟩:=EU j;obtain⟨m,p⟩:=Xh e h f j g;simp only[g];by_cases n:2<=v
   ·rw[au n,aj (by simp[m])];have o:=(aay m).2.2.2.2;have q:=e.pos s (tN g);refine⟨aA,?_,?_,p⟩
    ·simp only[o];omega
    ·simp only[o];omega
   ·rw[aj n];exact a
abbrev An:=Int×Int×Int×Int
def iL(c v kd a d:Int)(t:List Row)(b:Bool)(h:Sn):An×Int×Bool×Sn:=
 if c≠0 then((0,0,0,0),c,b,h)
 else if kd=5 then(if b=true/\a<=h.1 then((7,h.1,0,0),20,b,h)else((7,a,0,0),0,true,(a,t)))
 else if kd=6 then(if b=true/\a<=h.1 then((7,h.1,0,0),20,b,h)
  else if(lS h (d,a,t)).2≠0 then((8,a,IntKind.u64.wrap (lS h (d,a,t)).2,if 2<=v then h.1 else 0),(lS h (d,a,t)).2,b,h)
  else((7,(lS h (d,a,t)).1.1,0,0),0,true,(lS h (d,a,t)).1))
 else((0,0,0,0),15,b,h)
def zx(r:An×Int×Bool×Sn):Q1:=[.zq 0,.zq r.1.1,.zu r.1.2.1,.zu r.1.2.2.1,.zu r.1.2.2.2,.zq r.2.1,.b r.2.2.1,.zu r.2.2.2.1,.l (r.2.2.2.2.map row)]
set_option maxHeartbeats 2000000 in
def aFP(b:aQ)(g:List aK)(v:Int)(i:Bool)(h:Sn)(x:vZ b)(t:dX b.t)(u:fF g)(o:g.length<=1000000)(y:dX h.2):
 TT.lim 292 ((jk b (aI g)).cells++[.zq v,.b i,.zu h.1,.l (h.2.map row)])=some (zx (iL (fE b g v) v b.kind b.epoch b.base b.t i h)):=by
 have d:=abZ b g v x t.few u o;have p:=O5 (b.epoch,b.t) t;have c:=afH h (b.base,b.epoch,b.t) y t;have w:GV.g [.zu b.epoch,.l (b.t.map row)]=sn (b.epoch,b.t):=rfl;have m:GV.g [.zu h.1,.l (h.2.map row)]=sn h:=rfl;have n:GV.g [.zu b.base,.zu b.epoch,.l (b.t.map row)]=dl (b.base,b.epoch,b.t):=rfl;rw[fG];simp only[bG,aZ];unfold iL;generalize lS h (b.base,b.epoch,b.t)=A at *;obtain⟨⟨B,D⟩,z⟩:=A;generalize fE b g v=C,aI g=R at *;by_cases r:C=0;rotate_left
 ·rw[au r];refine aB ?_;simp -implicitDefEqProofs[lW,d,r,zx]
 rw[aj (by simpa using r)];subst r;by_cases j:b.kind=5
 ·rw[au j];have f:(b.kind=5)=True:=eq_true j;clear j;cases i with
  |false=>refine aB ?_;simp -implicitDefEqProofs[lW,d,f,zx,w,p]
  |true=>
   by_cases a:b.epoch<=h.1
   ·refine aB ?_;simp -implicitDefEqProofs[lW,d,f,zx,a]
   ·refine aB ?_;simp -implicitDefEqProofs[lW,d,f,zx,a,w,p]
 rw[aj j];by_cases q:b.kind=6;rotate_left
 ·rw[aj q];refine aB ?_;simp -implicitDefEqProofs[lW,d,j,q,zx]
 rw[au q];have f:(b.kind=5)=False:=eq_false j;have k:(b.kind=6)=True:=eq_true q;clear j q;by_cases a:i=true/\b.epoch<=h.1
 ·rw[au a];obtain⟨rfl,a⟩:=a;refine aB ?_;simp -implicitDefEqProofs[lW,d,f,k,zx,a]
 rw[aj a];by_cases l:z=0
 ·rw[aj (by simpa using l)];subst l;cases i with
  |false=>refine aB ?_;simp -implicitDefEqProofs[lW,d,f,k,zx,m,n,c]
  |true=>have a:¬b.epoch<=h.1:=λe=>a ⟨rfl,e⟩;refine aB ?_;simp -implicitDefEqProofs[lW,d,f,k,zx,a,m,n,c]
 ·rw[au l];by_cases s:2<=v
  ·cases i with
   |false=>refine aB ?_;simp -implicitDefEqProofs[lW,d,f,k,zx,m,n,c,l,s]
   |true=>have a:¬b.epoch<=h.1:=λe=>a ⟨rfl,e⟩;refine aB ?_;simp -implicitDefEqProofs[lW,d,f,k,zx,a,m,n,c,l,s]
  ·cases i with
   |false=>refine aB ?_;simp -implicitDefEqProofs[lW,d,f,k,zx,m,n,c,l,s]
   |true=>have a:¬b.epoch<=h.1:=λe=>a ⟨rfl,e⟩;refine aB ?_;simp -implicitDefEqProofs[lW,d,f,k,zx,a,m,n,c,l,s]
def awj(v e t:GV):TT.lim 313 [v,.b false,e,t]=some [.zq 0,.zu 0,.l [],.b false]:=by refine aB ?_;simp
def awk(v:GV)(h:Sn)(b:dX h.2):TT.lim 313 [v,.b true,.zu h.1,.l (h.2.map row)]=some [.zq 0,.zu h.1,.l (h.2.map row),.b true]:=by have a:=O5 h b;have c:GV.g [.zu h.1,.l (h.2.map row)]=sn h:=rfl;refine aB ?_;simp[c,a]
def awi(v:GV)(a:Bool)(h:Sn)(b:dX h.2)(c:a=false->h=zS):TT.lim 313 [v,.b a,.zu h.1,.l (h.2.map row)]=some [.zq 0,.zu h.1,.l (h.2.map row),.b a]:=by
 cases a with
 |false=>rw[c rfl];exact awj v _ _
 |true=>exact awk v h b
abbrev Tm:=Int×Int×Int×List Row
def GX(a:An)(k:List Sn)(b:Int):List Sn×Int:=if a.1=7 then(sD a.2.1 k b).2 else if a.1=8 then(k,0)else(k,b)
def atT{x y:dS}(h:ent x=ent y):x=y:=by
 unfold ent at h;injection h with h
 simp only[yC,GV.s.injEq,and_true]at h;exact Jr h.1 h.2
def aBX{x y:Row}(h:row x=row y):x=y:=by
 unfold row at h;injection h with h
 simp only[yC,GV.l.injEq,GV.i.injEq,and_true,true_and]at h;exact Jr ((List.map_inj_right λ_ _=>atT).1 h.1) h.2
def TA{x y:Sn}(h:sn x=sn y):x=y:=by
 unfold sn at h;injection h with h
 simp only[yC,GV.l.injEq,GV.i.injEq,and_true,true_and]at h;exact Jr h.1 ((List.map_inj_right λ_ _=>aBX).1 h.2)
def zC(xs:Q1)(m:Tm):Prop:=
 (m.1=5/\Tb m.2.2.2/\(0<m.2.1/\m.2.1<18446744073709551616)/\m.2.2.1=0/\iC (.zu m.2.1) xs=some (sn (m.2.1,m.2.2.2)))\/
 (m.1=6/\Tb m.2.2.2/\(0<m.2.2.1/\m.2.2.1<m.2.1/\m.2.1<18446744073709551616)/\∃s l:Sn,iC (.zu m.2.2.1) xs=some (sn s)/\iC (.zu m.2.1) xs=some (sn l)/\l.1=m.2.1/\s.1=m.2.2.1/\Tb l.2/\lS s (m.2.2.1,m.2.1,m.2.2.2)=(l,0))
def Ox{xs:Q1}{k:List Sn}{b:Int}{V:Int}(h:Lead xs k b)(h0:(cZ V k b).2=0):zC xs (cZ V k b).1/\∃l,k.getLast? =some l/\(cZ V k b).1.2.1=l.1/\l.1≠b/\((cZ V k b).1.1=6->2<=V/\b≠0/\(cZ V k b).1.2.2.1=b)/\((cZ V k b).1.1=5->(cZ V k b).1.2.2.2=l.2):=by
 unfold cZ at h0⊢;cases g:k.getLast? with
 |none=>rw[g]at h0;simp at h0
 |some l=>
  rw[g]at h0;simp only at h0⊢;have a:=yE g;have u:=h.kp.pos l a;have c:zC xs (full l).1:=.inl ⟨rfl,h.kp.tb l a,u,rfl,h.map l a⟩;by_cases f:l.1=b
  ·rw[au f]at h0;simp at h0
  rw[aj f]at h0⊢;cases j:jD b k with
  |none=>exact⟨c,l,rfl,rfl,f,λe=>by simp[full]at e,λ_=>rfl⟩
  |some i=>
   rw[j]at h0;obtain⟨s,m,n,hi⟩:=EU j;obtain⟨o,-⟩:=Xh h.kp g f j m;simp only[m]at h0⊢;by_cases p:2<=V
   ·rw[au p,aj (by simp[o])];have d:=tN m;have q:=aay o;have v:=afO (h.kp.tb s d).good (h.kp.tb l a).good o;have r:=(ag0 (h.kp.tb s d) (h.kp.tb l a) q.2.2.2.1).1;have t:=h.kp.pos s d;rw[q.2.2.2.2]at v⊢;refine⟨.inr ⟨rfl,r,⟨t.1,q.2.2.1,u.2⟩,s,l,h.map s d,h.map l a,rfl,rfl,h.kp.tb l a,v.2.1⟩,l,rfl,rfl,f,λ_=>⟨p,?_,n⟩,λe=>by simp at e⟩;omega
   ·rw[aj p];exact⟨c,l,rfl,rfl,f,λe=>by simp[full]at e,λ_=>rfl⟩
structure iW(xs:Q1)(told:List Tm)(back:List An)(k:List Sn)(b:Int)(sm:Bool)(h:Sn):Prop where
 lead:Lead xs k b
 keys:∀e g,iC (.zu e) xs=some g->∃l,k.getLast? =some l/\e<=l.1
 told:∀m∈told,zC xs m
 back:∀a∈back,a.1=7->sm=true/\a.2.1<=h.1
 has:(sm=true/\iC (.zu h.1) xs=some (sn h)/\Tb h.2)\/(sm=false/\h=zS)
 base:b<=0\/(sm=true/\b<=h.1)
 zero:iC (.zu 0) xs=none
def iW.tb{xs:Q1}{told:List Tm}{back:List An}{k:List Sn}{b:Int}{c:Bool}{h:Sn}(f:iW xs told back k b c h):Tb h.2:=by
 rcases f.has with⟨-,-,a⟩|⟨-,a⟩
 ·exact a
 ·rw[a];exact CU
def ali{x:Sn}{k:List Sn}{b:Int}(h0:(jV x k b).1=0):(jV x k b).2.1.getLast? =some x/\∀l,k.getLast? =some l->l.1<x.1:=by
 have a:(oK x b k).1.getLast? =some x:=by
  unfold oK;split
  ·rfl
  ·split
   ·simp
   ·exact List.getLast?_concat
 unfold jV at h0⊢;split at h0
 ·next c=>exact absurd h0 c
 next c=>
 split at h0
 ·cases h0
 next d=>
 rw[aj c,aj d];cases f:k.getLast? with
 |none=>exact⟨a,λl e=>by cases e⟩
 |some l=>
  rw[f]at h0;simp only at h0⊢;split at h0
  ·cases h0
  next g=>
  split at h0
  ·cases h0
  next h=>
  rw[aj g,aj h];exact⟨a,λi e=>by injection e with e;subst e;omega⟩
def aAN{x:Sn}{k:List Sn}{b:Int}(h0:(jV x k b).1=0):x.1≠0:=by
 intro c;unfold jV at h0;split at h0
 ·next a=>exact a h0
 ·cases h0
def aAK{x:Sn}{k:List Sn}{b:Int}(h0:(jV x k b).1≠0):(jV x k b).2=(k,b):=by
 unfold jV at h0⊢;split
 ·rfl
 next c=>
 rw[aj c]at h0;split
 ·rfl
 next d=>
 rw[aj d]at h0;cases a:k.getLast? with
 |none=>rw[a]at h0;simp at h0
 |some l=>
  rw[a]at h0;simp only at h0⊢;split
  ·rfl
  next e=>
  rw[aj e]at h0;split
  ·rfl
  next f=>
  rw[aj f]at h0;simp at h0
def aAJ{x:Sn}{k:List Sn}{b:Int}:(jV x k b).2.2=b\/(jV x k b).2.2=0:=by
 have a:(oK x b k).2=b\/(oK x b k).2=0:=by
  unfold oK;split
  ·exact .inl rfl
  ·split
   ·simp only;split
    ·exact .inr rfl
    ·exact .inl rfl
   ·exact .inl rfl
 unfold jV;split
 ·exact .inl rfl
 split
 ·exact .inl rfl
 split
 ·exact a
 ·split
  ·exact .inl rfl
  split
  ·exact .inl rfl
  ·exact a
def aii{xs:Q1}{m:Tm}{e:Int}{g:GV}(h:zC xs m)(o:∀a c,iC (.zu a) xs=some c->a≠e):zC (kV (.zu e) g xs) m:=by
 have b:∀{a:Int}{c:GV},iC (.zu a) xs=some c->iC (.zu a) (kV (.zu e) g xs)=some c:=by intro a c n;rw[vH,aj (o a c n)];exact n
 rcases h with⟨d,f,i,j,k⟩|⟨d,f,i,s,l,j,k,p⟩
 ·exact .inl ⟨d,f,i,j,b k⟩
 ·exact .inr ⟨d,f,i,s,l,b j,b k,p⟩
def ahT{xs:Q1}{a:List Tm}{c:List An}{k:List Sn}{b:Int}{r:Bool}{h:Sn}(f:iW xs a c k b r h){x:Sn}(u:dX x.2)(h0:0<=x.1/\x.1<18446744073709551616):
 iW (if(jV x k b).1=0 then kV (.zu x.1) (sn x) xs else xs) a c (jV x k b).2.1 (jV x k b).2.2 r h:=by
 have o:=axO f.lead u h0;by_cases g:(jV x k b).1=0
 ·rw[au g]at o⊢;obtain⟨v,s⟩:=ali g;have t:∀d i,iC (.zu d) xs=some i->d≠x.1:=by intro d i j;obtain⟨l,n,p⟩:=f.keys d i j;have:=s l n;omega
  refine⟨o,?_,λm w=>aii (f.told m w) t,f.back,?_,?_,by rw[vH,aj (λe=>aAN g e.symm)];exact f.zero⟩
  ·intro d i j;refine⟨x,v,?_⟩;rw[vH]at j;split at j
   ·next e=>omega
   ·obtain⟨l,n,p⟩:=f.keys d i j;have:=s l n;omega
  ·rcases f.has with⟨n,p,y⟩|q
   ·exact .inl ⟨n,by rw[vH,aj (t _ _ p)];exact p,y⟩
   ·exact .inr q
  ·rcases aAJ (x:=x) (k:=k) (b:=b)with e|e
   ·rw[e];exact f.base
   ·rw[e];exact .inl (iG _)
 ·rw[aj g]at o⊢;rw[aAK g]at o⊢;exact f
def ahV{xs:Q1}{d:List Tm}{g:List An}{k:List Sn}{b:Int}{n:Bool}{h:Sn}(f:iW xs d g k b n h){m:Tm}(H:zC xs m)(c v:Int):
 iW xs d (g++[(iL c v m.1 m.2.1 m.2.2.1 m.2.2.2 n h).1]) k b (iL c v m.1 m.2.1 m.2.2.1 m.2.2.2 n h).2.2.1 (iL c v m.1 m.2.1 m.2.2.1 m.2.2.2 n h).2.2.2/\h.1<=(iL c v m.1 m.2.1 m.2.2.1 m.2.2.2 n h).2.2.2.1:=by
 have i:∀a:An,(a.1=7->n=true/\a.2.1<=h.1)->iW xs d (g++[a]) k b n h:=λa t=>
  ⟨f.lead,f.keys,f.told,λy p=>by
   rcases jQ.1 p with q|q
   ·exact f.back y q
   ·rw[jX.1 q];exact t,f.has,f.base,f.zero⟩
 have o:∀l:Sn,iC (.zu l.1) xs=some (sn l)->Tb l.2->h.1<=l.1->iW xs d (g++[(7,l.1,0,0)]) k b true l:=λl u I j=>
  ⟨f.lead,f.keys,f.told,λy p e=>by
   rcases jQ.1 p with q|q
   ·have:=f.back y q e;exact⟨rfl,ah⟩
   ·rw[jX.1 q];exact⟨rfl,iG _⟩,.inl ⟨rfl,u,I⟩,by
   rcases f.base with q|q
   ·exact .inl q
   ·exact .inr ⟨rfl,ah⟩,f.zero⟩
 have r:¬(n=true/\m.2.1<=h.1)->0<m.2.1->h.1<=m.2.1:=by
  intro L O;rcases f.has with⟨q,-⟩|⟨-,q⟩
  ·rcases aeP h.1 m.2.1 with c|c
   ·omega
   ·exact absurd ⟨q,c⟩ L
  ·rw[q];simp only[zS];omega
 unfold iL;by_cases u:c=0;rotate_left
 ·rw[au u];exact⟨i _ (λe=>by simp at e),iG _⟩
 rw[aj (by simpa using u)];rcases H with⟨z,E,A,F,w⟩|⟨z,E,A,s,l,F,w,G,P,M,N⟩
 ·rw[au z];by_cases j:n=true/\m.2.1<=h.1
  ·rw[au j];exact⟨i _ (λ_=>⟨j.1,iG _⟩),iG _⟩
  ·rw[aj j];exact⟨o (m.2.1,m.2.2.2) w E (r j A.1),r j A.1⟩
 ·rw[bW,au z];by_cases j:n=true/\m.2.1<=h.1
  ·rw[au j];exact⟨i _ (λ_=>⟨j.1,iG _⟩),iG _⟩
  ·rw[aj j];by_cases t:(lS h (m.2.2.1,m.2.1,m.2.2.2)).2=0;rotate_left
   ·rw[au t];exact⟨i _ (λe=>by simp at e),iG _⟩
   ·rw[aj (by simpa using t)];have x:=(Np t).2.2.1;simp only at x;have B:h=s:=by
     rcases f.has with⟨-,q,-⟩|⟨-,q⟩
     ·rw[x,F]at q;injection q with q
      exact(TA q).symm
     ·exfalso;rw[q]at x;simp only[zS]at x;omega
    rw[B,N];rw[<-G]at w;have D:=r j ah;rw[B,<-G]at D;exact⟨o l w M (by rw[B];exact D),D⟩
def afv{e:Int}{k:List Sn}{b:Int}:(sD e k b).2.1.getLast? =k.getLast?:=by
 unfold sD;split
 ·rfl
 split
 ·rfl
 ·next i a=>
  obtain⟨x,-,-,hi⟩:=EU a;simp only;rw[List.getLast?_drop,bW]
def an2{e:Int}{k:List Sn}{b:Int}:(sD e k b).2.2=b\/(sD e k b).2.2=e:=by
 unfold sD;split
 ·exact .inl rfl
 split
 ·exact .inl rfl
 ·exact .inr rfl
def aaU{xs:Q1}{c:List Tm}{d:List An}{k:List Sn}{b:Int}{i:Bool}{h:Sn}(f:iW xs c d k b i h){a:An}(j:a.1=7->i=true/\a.2.1<=h.1):
 iW xs c d (GX a k b).1 (GX a k b).2 i h/\(GX a k b).1.getLast? =k.getLast?:=by
 unfold GX;split
 ·next l=>
  have m:=j l;refine⟨⟨axM f.lead,λe g n=>by rw[afv];exact f.keys e g n,f.told,f.back,f.has,?_,f.zero⟩,afv⟩;rcases an2 (e:=a.2.1) (k:=k) (b:=b)with e|e
  ·rw[e];exact f.base
  ·rw[e];exact .inr m
 split
 ·exact⟨⟨⟨f.lead.kp,f.lead.map,.inl rfl⟩,f.keys,f.told,f.back,f.has,.inl (iG _),f.zero⟩,rfl⟩
 ·exact⟨f,rfl⟩
def iW.getD{xs:Q1}{told:List Tm}{back:List An}{k:List Sn}{b:Int}{a:Bool}{h:Sn}(f:iW xs told back k b a h):(iC (.zu h.1) xs).getD (.g [.zu 0,.l []])=sn h:=by
 rcases f.has with⟨-,q,-⟩|⟨-,q⟩
 ·rw[q];rfl
 ·rw[q];show(iC (.zu 0) xs).getD _=_
  rw[f.zero];rfl
def iW.no{xs:Q1}{told:List Tm}{back:List An}{k:List Sn}{b:Int}{a:Bool}{h:Sn}(f:iW xs told back k b a h)(e:a=false):h=zS:=by
 rcases f.has with⟨q,-⟩|⟨-,q⟩
 ·rw[q]at e;cases e
 ·exact q
def ay1(V a:Int)(t:List Row)(b:V=1\/V=2\/V=3):(iH.all λn=>rF (aT 5 V) n ||oU (jR 5 a 0 t) n)=true:=by rcases b with rfl|rfl|rfl<;>rfl
def ay0(V a b:Int)(t:List Row)(c:V=2\/V=3):(iH.all λn=>rF (aT 6 V) n ||oU (jR 6 a b t) n)=true:=by rcases c with rfl|rfl<;>rfl
def ayh(V a:Int)(t:List Row)(g:V=1\/V=2\/V=3)(b:nO t=0):kT (jR 5 a 0 t) (aT 5 V)=0:=by
 have e:pq [] 0 256=0:=rfl;have c:qA (jR 5 a 0 t) uY=0:=rfl;have d:qA (jR 5 a 0 t) yV=nO t:=rfl;have f:qA (jR 5 a 0 t) zW=pq [] 0 256:=rfl;have h:qA (jR 5 a 0 t) Cm=0:=rfl;have i:aT 5 1=[⟨1,0,1,uY⟩,⟨2,5,1,yV⟩]:=rfl;have j:aT 5 2=[⟨1,0,1,uY⟩,⟨2,5,1,yV⟩,⟨3,3,2,zW⟩]:=rfl;have k:aT 5 3=[⟨1,0,1,uY⟩,⟨2,5,1,yV⟩,⟨3,3,2,zW⟩,⟨4,0,3,Cm⟩]:=rfl;rcases g with rfl|rfl|rfl
 ·rw[i];simp only[kT,c,d,b,if_true]
 ·rw[j];simp only[kT,c,d,f,e,b,if_true]
 ·rw[k];simp only[kT,c,d,f,h,e,b,if_true]
def ayg(V a b:Int)(t:List Row)(i:V=2\/V=3)(c:nO t=0):kT (jR 6 a b t) (aT 6 V)=0:=by
 have d:pq [] 0 256=0:=rfl;have e:qA (jR 6 a b t) DU=0:=rfl;have f:qA (jR 6 a b t) uY=0:=rfl;have g:qA (jR 6 a b t) yV=nO t:=rfl;have h:qA (jR 6 a b t) zW=pq [] 0 256:=rfl;have j:qA (jR 6 a b t) Cm=0:=rfl;have k:aT 6 2=[⟨1,0,2,DU⟩,⟨2,0,2,uY⟩,⟨3,5,2,yV⟩,⟨4,3,2,zW⟩]:=rfl;have l:aT 6 3=[⟨1,0,2,DU⟩,⟨2,0,2,uY⟩,⟨3,5,2,yV⟩,⟨4,3,2,zW⟩,⟨5,0,3,Cm⟩]:=rfl;rcases i with rfl|rfl
 ·rw[k];simp only[kT,e,f,g,h,d,c,if_true]
 ·rw[l];simp only[kT,e,f,g,h,j,d,c,if_true]
def XZ(a:List dU):OZ a []=0:=by
 have h:jS 0 0 []=0:=by unfold jS;rfl
 unfold OZ;rw[aj (by rw[h];simp),aj aA]
def aaf{xs:Q1}{m:Tm}{V:Int}(h1:1<=V)(k:V<=3)(h:zC xs m)(h6:m.1=6->2<=V):fE (jR m.1 m.2.1 m.2.2.1 m.2.2.2) [] V=0:=by
 rcases h with⟨b,c,i,j,-⟩|⟨b,c,i,-⟩
 ·have a:V=1\/V=2\/V=3:=ah;rw[b,j];unfold fE;have d:aT (jR 5 m.2.1 0 m.2.2.2).kind V≠[]:=(by rcases a with rfl|rfl|rfl<;>decide:aT 5 V≠[])
  have e:(iH.all λn=>rF (aT (jR 5 m.2.1 0 m.2.2.2).kind V) n ||oU (jR 5 m.2.1 0 m.2.2.2) n)=true:=ay1 V m.2.1 m.2.2.2 a;have f:kT (jR 5 m.2.1 0 m.2.2.2) (aT (jR 5 m.2.1 0 m.2.2.2).kind V)=0:=ayh V m.2.1 m.2.2.2 a ((vI _).2 c.ok);have g:EI (jR 5 m.2.1 0 m.2.2.2)=0:=by
   show(if m.2.1<1 then(18:Int)else 0)=0
   rw[bW]
  rw[bW,bW,aj d,aj (by rw[e];simp),aj (by rw[f];simp),aj (by rw[g];simp)];exact XZ _
 ·have a:V=2\/V=3:=by have:=h6 b;omega
  rw[b];unfold fE;have d:aT (jR 6 m.2.1 m.2.2.1 m.2.2.2).kind V≠[]:=(by rcases a with rfl|rfl<;>decide:aT 6 V≠[])
  have e:(iH.all λn=>rF (aT (jR 6 m.2.1 m.2.2.1 m.2.2.2).kind V) n ||oU (jR 6 m.2.1 m.2.2.1 m.2.2.2) n)=true:=ay0 V m.2.1 m.2.2.1 m.2.2.2 a;have f:kT (jR 6 m.2.1 m.2.2.1 m.2.2.2) (aT (jR 6 m.2.1 m.2.2.1 m.2.2.2).kind V)=0:=ayg V m.2.1 m.2.2.1 m.2.2.2 a ((vI _).2 c.ok);have g:EI (jR 6 m.2.1 m.2.2.1 m.2.2.2)=0:=by
   show(if m.2.2.1<1 then(18:Int)else if m.2.1<=m.2.2.1 then 20 else 0)=0
   rw[bW,bW]
  rw[bW,bW,aj d,aj (by rw[e];simp),aj (by rw[f];simp),aj (by rw[g];simp)];exact XZ _
def gW(V:Int)(k:List Sn)(b:Int)(a:Bool)(h:Sn):(List Sn×Int)×Bool×Sn:=
 if(cZ V k b).2=0 then
  (GX (iL (fE (jR (cZ V k b).1.1 (cZ V k b).1.2.1 (cZ V k b).1.2.2.1 (cZ V k b).1.2.2.2) [] V) V (cZ V k b).1.1 (cZ V k b).1.2.1 (cZ V k b).1.2.2.1 (cZ V k b).1.2.2.2 a h).1 k b,
   (iL (fE (jR (cZ V k b).1.1 (cZ V k b).1.2.1 (cZ V k b).1.2.2.1 (cZ V k b).1.2.2.2) [] V) V (cZ V k b).1.1 (cZ V k b).1.2.1 (cZ V k b).1.2.2.1 (cZ V k b).1.2.2.2 a h).2.2)
 else((k,b),a,h)
def X7{xs:Q1}{c:List Tm}{d:List An}{k:List Sn}{b:Int}{e:Bool}{h:Sn}(f:iW xs c d k b e h)(V:Int):
 ∃g,iW xs c g (gW V k b e h).1.1 (gW V k b e h).1.2 (gW V k b e h).2.1 (gW V k b e h).2.2/\(gW V k b e h).1.1.getLast? =k.getLast?:=by
 unfold gW;by_cases i:(cZ V k b).2=0
 ·rw[au i];have m:=(Ox f.lead i).1;have j:=(ahV f m (fE (jR (cZ V k b).1.1 (cZ V k b).1.2.1 (cZ V k b).1.2.2.1 (cZ V k b).1.2.2.2) [] V) V).1;generalize iL (fE (jR (cZ V k b).1.1 (cZ V k b).1.2.1 (cZ V k b).1.2.2.1 (cZ V k b).1.2.2.2) [] V) V (cZ V k b).1.1 (cZ V k b).1.2.1 (cZ V k b).1.2.2.1 (cZ V k b).1.2.2.2 e h=R at *;have l:=aaU j (a:=R.1) (j.back R.1 aA);exact⟨_,l.1,l.2⟩
 ·rw[aj i];exact⟨d,f,rfl⟩
def iW.le_last{xs:Q1}{told:List Tm}{back:List An}{k:List Sn}{b:Int}{i:Bool}{h l:Sn}(f:iW xs told back k b i h)(d:k.getLast? =some l):h.1<=l.1/\(i=true->h.1=l.1->h=l):=by
 have g:=f.lead.map l (yE d);have m:=f.lead.kp.pos l (yE d);rcases f.has with⟨j,a,o⟩|⟨j,a⟩
 ·obtain⟨p,c,n⟩:=f.keys _ _ a;rw[d]at c;injection c with c
  subst c;refine⟨n,λ_ e=>?_⟩;rw[e,g]at a;injection a with a
  exact(TA a).symm
 ·refine⟨by rw[a];simp only[zS];omega,λe=>by rw[j]at e;cases e⟩
def alO{xs:Q1}{a:List Tm}{d:List An}{k:List Sn}{b:Int}{h l:Sn}(f:iW xs a d k b true h)(j:k.getLast? =some l)(i:h=l)(V:Int):(gW V k b true h).2=(true,l):=by
 unfold gW;by_cases g:(cZ V k b).2=0
 ·rw[au g];obtain⟨n,o,e,p,-⟩:=Ox f.lead g;rw[j]at e;injection e with e
  subst e;generalize fE (jR (cZ V k b).1.1 (cZ V k b).1.2.1 (cZ V k b).1.2.2.1 (cZ V k b).1.2.2.2) [] V=c at *;generalize(cZ V k b).1=M at *;subst i;unfold iL;have m:(true=true/\M.2.1<=h.1):=⟨rfl,ah⟩
  repeat' split
  all_goals first|rfl|contradiction
 ·rw[aj g,i]
def alN{xs:Q1}{j:List Tm}{m:List An}{k:List Sn}{b:Int}{n:Bool}{h l:Sn}(f:iW xs j m k b n h)(c:k.getLast? =some l)(V:Int)(h1:1<=V)(I:V<=3)(L:0<=b):
 (gW V k b n h).2=(true,l)\/(b≠0/\(gW V k b n h).1.2=0):=by
 obtain⟨N,v⟩:=f.le_last c;have O:=f.lead.kp.pos l (yE c);have w:=f.lead.map l (yE c);by_cases a:n=true/\h.1=l.1
 ·obtain⟨rfl,e⟩:=a;have:=v rfl e;exact .inl (alO f c this V)
 have d:¬(n=true/\l.1<=h.1):=λe=>a ⟨e.1,ah⟩;have o:l.1≠b:=by
  intro e;rcases f.base with q|⟨P,q2⟩
  ·omega
  ·exact d ⟨P,ah⟩
 have B:(cZ V k b).2=0:=by
  unfold cZ;rw[c];simp only;rw[aj o];cases D:jD b k with
  |none=>rfl
  |some i=>
   obtain⟨s,r,-,hi⟩:=EU D;obtain⟨Q,-⟩:=Xh f.lead.kp c o D r;simp only[r];split
   ·rw[aj (by simp[Q])]
   ·rfl
 obtain⟨x,l',t,E,-,y,F⟩:=Ox f.lead B;rw[c]at t;injection t with t
 subst t;have R:=aaf h1 I x λe=>(y e).1;unfold gW;rw[au B,R];generalize(cZ V k b).1=M at *;obtain⟨M1,M2,S,T⟩:=M;simp only at E F y x⊢;subst E;unfold iL;rw[aj aA];rcases x with⟨g,-⟩|⟨g,m2,m3,s,U,G,p,W,X,m8,H⟩
 ·simp only at g;have Y:=F g;rw[au g,aj d];simp only;rw[Y];exact .inl rfl
 ·simp only at g G p W X H;obtain⟨v2,Z,bb⟩:=y g;rw[bW,au g,aj d];by_cases z:(lS h (S,l.1,T)).2=0;rotate_left
  ·rw[au z];refine .inr ⟨Z,?_⟩;simp only;unfold GX;simp
  ·rw[aj (by simpa using z)];refine .inl ?_;have u:=(Np z).2.2.1;simp only at u;have r:h=s:=by
    rcases f.has with⟨-,q,-⟩|⟨-,q⟩
    ·rw[u,G]at q;injection q with q
     exact(TA q).symm
    ·exfalso;rw[q]at u;simp only[zS]at u;omega
   have A:U=l:=by
    rw[w]at p;injection p with p
    exact(TA p).symm
   simp only;rw[r,H,A]
def axN{xs:Q1}{k:List Sn}{b:Int}(h:Lead xs k b):0<=b:=by
 rcases h.base with q|⟨s,a,e⟩
 ·omega
 ·have:=h.kp.pos s a;omega
def ahU:iW [] [] [] [] 0 false zS:=
 ⟨⟨Kp.nil,λs b=>by simp at b,.inl rfl⟩,λe g h=>by simp[iC]at h,λm c=>by simp at c,λa d=>by simp at d,.inr ⟨rfl,rfl⟩,.inl (iG _),rfl⟩
def iF(a:An):aQ:={kind:=a.1,id:=0,min:=0,max:=0,chosen:=0,flags:=0,cost:=0,priority:=0,deadline:=0,retry:=0,epoch:=a.2.1,base:=0,digest:=0,lag:=0,code:=a.2.2.1,want:=a.2.2.2,remaining:=0,allowed:=false,name:=[],region:=[],note:=[],d:=[],t:=[]}
def ZJ{a:An}(h1: -9223372036854775808<=a.1/\a.1<=9223372036854775807)(b:0<=a.2.1/\a.2.1<18446744073709551616)(c:0<=a.2.2.1/\a.2.2.1<18446744073709551616)(d:0<=a.2.2.2/\a.2.2.2<18446744073709551616):vZ (iF a):=by refine⟨h1,?_,?_,?_,?_,?_,?_,?_,?_,?_,b,?_,?_,?_,c,d,?_,?_,?_,?_,?_,?_⟩<;>simp[iF,uG,Rows]
def ayZ(V e:Int)(a:V=1\/V=2\/V=3):(iH.all λn=>rF (aT 7 V) n ||oU (iF (7,e,0,0)) n)=true:=by rcases a with rfl|rfl|rfl<;>rfl
def ay5(e c:Int):(iH.all λn=>rF (aT 8 1) n ||oU (iF (8,e,c,0)) n)=true:=rfl
def aki(V e c w:Int)(a:V=2\/V=3):(iH.all λn=>rF (aT 8 V) n ||oU (iF (8,e,c,w)) n)=true:=by rcases a with rfl|rfl<;>rfl
def ayf(V e:Int)(a:V=1\/V=2\/V=3):kT (iF (7,e,0,0)) (aT 7 V)=0:=by rcases a with rfl|rfl|rfl<;>rfl
def ayj(V e c w:Int)(f:V=1\/V=2\/V=3):kT (iF (8,e,c,w)) (aT 8 V)=0:=by
 have g:pq [] 0 256=0:=rfl;have a:qA (iF (8,e,c,w)) uY=0:=rfl;have b:qA (iF (8,e,c,w)) Cj=0:=rfl;have d:qA (iF (8,e,c,w)) DV=0:=rfl;have h:qA (iF (8,e,c,w)) FD=pq [] 0 256:=rfl;have i:aT 8 1=[⟨1,0,1,uY⟩,⟨2,0,1,Cj⟩]:=rfl;have j:aT 8 2=[⟨1,0,1,uY⟩,⟨2,0,1,Cj⟩,⟨3,0,2,DV⟩]:=rfl;have k:aT 8 3=[⟨1,0,1,uY⟩,⟨2,0,1,Cj⟩,⟨3,0,2,DV⟩,⟨4,3,3,FD⟩]:=rfl;rcases f with rfl|rfl|rfl
 ·rw[i];simp only[kT,a,b,if_true]
 ·rw[j];simp only[kT,a,b,d,if_true]
 ·rw[k];simp only[kT,a,b,d,h,g,if_true]
def Vu(e:Int){V:Int}(h1:1<=V)(g:V<=3):fE (iF (7,e,0,0)) [] V=0:=by
 have a:V=1\/V=2\/V=3:=ah;unfold fE;have b:aT (iF (7,e,0,0)).kind V≠[]:=(by rcases a with rfl|rfl|rfl<;>decide:aT 7 V≠[])
 have c:(iH.all λn=>rF (aT (iF (7,e,0,0)).kind V) n ||oU (iF (7,e,0,0)) n)=true:=ayZ V e a;have d:kT (iF (7,e,0,0)) (aT (iF (7,e,0,0)).kind V)=0:=ayf V e a;have f:EI (iF (7,e,0,0))=0:=rfl;rw[bW,bW,aj b,aj (by rw[c];simp),aj (by rw[d];simp),aj (by rw[f];simp)];exact XZ _
def apn(e c w:Int){V:Int}(h1:1<=V)(i:V<=3)(b:¬2<=V->w=0):fE (iF (8,e,c,w)) [] V=0:=by
 have a:V=1\/V=2\/V=3:=ah;unfold fE;have d:aT (iF (8,e,c,w)).kind V≠[]:=(by rcases a with rfl|rfl|rfl<;>decide:aT 8 V≠[])
 have f:(iH.all λn=>rF (aT (iF (8,e,c,w)).kind V) n ||oU (iF (8,e,c,w)) n)=true:=by
  rcases a with rfl|rfl|rfl
  ·rw[b ah];exact ay5 e c
  ·exact aki 2 e c w (.inl rfl)
  ·exact aki 3 e c w (.inr rfl)
 have g:kT (iF (8,e,c,w)) (aT (iF (8,e,c,w)).kind V)=0:=ayj V e c w a;have h:EI (iF (8,e,c,w))=0:=rfl;rw[bW,bW,aj d,aj (by rw[f];simp),aj (by rw[g];simp),aj (by rw[h];simp)];exact XZ _
structure Rec(v:Int)(sm:Bool)(h:Sn):Prop where
 lo:1<=v
 hi:v<=3
 good:dX h.2
 ep:0<=h.1/\h.1<18446744073709551616
 no:sm=false->h=zS
def S9{v:Int}{d:Bool}{h:Sn}(r:Rec v d h)(c kd a b:Int)(t:List Row)(j:dX t)(f:0<=a/\a<18446744073709551616):
 Rec v (iL c v kd a b t d h).2.2.1 (iL c v kd a b t d h).2.2.2/\vZ (iF (iL c v kd a b t d h).1)/\((iL c v kd a b t d h).1.1=0\/((iL c v kd a b t d h).1.1≠0/\fE (iF (iL c v kd a b t d h).1) [] v=0)):=by
 have r1:=r.lo;have r2:=r.hi;have z:vZ (iF (0,0,0,0)):=ZJ aU aU aU aU;have g:∀e:Int,0<=e/\e<18446744073709551616->vZ (iF (7,e,0,0)):=λe h=>ZJ aA h aA aA;unfold iL;split
 ·exact⟨r,z,.inl rfl⟩
 split
 ·split
  ·exact⟨r,g _ r.ep,.inr ⟨aA,Vu _ r1 r2⟩⟩
  ·exact⟨⟨r1,r2,j,f,λe=>by cases e⟩,g _ f,.inr ⟨aA,Vu _ r1 r2⟩⟩
 split
 ·split
  ·exact⟨r,g _ r.ep,.inr ⟨aA,Vu _ r1 r2⟩⟩
  split
  ·refine⟨r,ZJ aA f (wrap_u64 _) ?_,.inr ⟨aA,apn _ _ _ r1 r2 λl=>aj l⟩⟩;simp only;split
   ·exact r.ep
   ·simp
  ·next i=>
   have i:(lS h (b,a,t)).2=0:=by simpa using i
   have m:=(Np i).2.2.2.2;have n:=(afI r.good j i).1.good;have k:0<=(lS h (b,a,t)).1.1/\(lS h (b,a,t)).1.1<18446744073709551616:=by rw[m];exact f
   exact⟨⟨r1,r2,n,k,λe=>by cases e⟩,g _ k,.inr ⟨aA,Vu _ r1 r2⟩⟩
 ·exact⟨r,z,.inl rfl⟩
