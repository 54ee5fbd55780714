/- What the trees compute: plain laws. -/
import Derived.Test.YthchhlenbkefnaaGreatDoorKUe1
set_option linter.all false
namespace Go.Proofs.YthchhlenbkefnaaGreatDoor
open Go Go.aN
set_option maxRecDepth 100000
namespace U
def fF(s:Q0):Q0×Nat×Int:=
 if(aB s).2.2≠0 then([],0,(aB s).2.2)else
 if s.length-(aB s).2.1<(aB s).1 then([],0,1)else
 ((s.drop (aB s).2.1).take (aB s).1,(aB s).2.1+(aB s).1,0)
def X4{s:Q0}(h:(fF s).2.2=0):1<=(fF s).2.1/\(fF s).2.1<=s.length/\(fF s).1.length<=s.length:=by
 unfold fF at h⊢;by_cases a:(aB s).2.2=0;rotate_left
 ·rw[aj a]at h;exact absurd h a
 rw[ah (λe=>e a)]at h⊢;obtain⟨c,d,f,g,i⟩:=lF a;by_cases b:s.length-(aB s).2.1<(aB s).1
 ·rw[aj b]at h;cases h
 rw[ah b];simp only[lN,fH];omega
def alT(t:Q0)(a:Nat)(h:a<=t.length)(v:t.length<=100000000):
 ∃at2:Nat,TT.lim 309 [.s t,.zq a]=some [.zq 0,.s (fF (t.drop a)).1,.zq (fF (t.drop a)).2.2,.s t,.zq at2]/\((fF (t.drop a)).2.2=0->at2=a+(fF (t.drop a)).2.1):=by
 have d:=DI t a h (by omega);unfold fF;by_cases b:(aB (t.drop a)).2.2=0;rotate_left
 ·obtain⟨j,k⟩:=KX b;rw[j,k]at d;rw[aj b];generalize(aB (t.drop a)).2.2=e at *;refine⟨a,jm rfl rfl ?_,λh=>absurd h b⟩;simp[d,b]
 obtain⟨w,x,l,y,_⟩:=lF b;rw[ah (λe=>e b)];rw[b]at d;rw[fH]at l⊢;rw[rJ];generalize(aB (t.drop a)).1=n,(aB (t.drop a)).2.1=i at *;have w1:=bF ((t.length:Int)-((a:Int)+(i:Int)));have f:=jA ((t.length:Int)-((a:Int)+(i:Int)));simp only[FP]at d;by_cases g:t.length-a-i<n
 ·have c:(t.length:Int)-((a:Int)+(i:Int))<(n:Int):=by omega
  rw[aj g];refine⟨a+i,jm rfl rfl ?_,λh=>by cases h⟩;simp[d,w1,f,c]
 ·have c:¬(t.length:Int)-((a:Int)+(i:Int))<(n:Int):=by omega
  rw[ah g];have m:=bF ((n:Int));have o:=bF ((a:Int)+(i:Int)+(n:Int));have p:((t.take (a+i+n)).drop (a+i))=(t.drop (a+i)).take n:=by rw[Lp];congr 1;omega
  have q:(a:Int)+(i:Int)<=(a:Int)+(i:Int)+(n:Int)/\(a:Int)+(i:Int)+(n:Int)<=t.length:=by omega
  have r:(0:Int)<=(a:Int)+(i:Int):=by omega
  have s:((a:Int)+(i:Int)+(n:Int)).toNat=a+i+n:=by omega
  have u:((a:Int)+(i:Int)).toNat=a+i:=by omega
  generalize(t.drop (a+i)).take n=X at *;refine⟨a+i+n,jm rfl rfl ?_,λ_=>by simp only;omega⟩;simp[d,w1,f,m,o,c,q,r,s,u,p]
def dV(s:Q0):dK×Nat×Int:=
 if(fF s).2.2≠0 then(([],[]),0,(fF s).2.2)else
 if(fF (s.drop (fF s).2.1)).2.2≠0 then(([],[]),0,(fF (s.drop (fF s).2.1)).2.2)else
 if uh ((fF s).1,(fF (s.drop (fF s).2.1)).1)≠0 then(([],[]),0,uh ((fF s).1,(fF (s.drop (fF s).2.1)).1))else
 (((fF s).1,(fF (s.drop (fF s).2.1)).1),(fF s).2.1+(fF (s.drop (fF s).2.1)).2.1,0)
def U9{s:Q0}(h:(dV s).2.2=0):2<=(dV s).2.1/\(dV s).2.1<=s.length/\uh (dV s).1=0/\(dV s).1.1.length<=s.length/\(dV s).1.2.length<=s.length/\
 (fF s).2.2=0/\(fF (s.drop (fF s).2.1)).2.2=0/\(dV s).1=((fF s).1,(fF (s.drop (fF s).2.1)).1)/\(dV s).2.1=(fF s).2.1+(fF (s.drop (fF s).2.1)).2.1:=by
 unfold dV at h⊢;by_cases a:(fF s).2.2=0;rotate_left
 ·rw[aj a]at h;exact absurd h a
 rw[ah (λe=>e a)]at h⊢;by_cases b:(fF (s.drop (fF s).2.1)).2.2=0;rotate_left
 ·rw[aj b]at h;exact absurd h b
 rw[ah (λe=>e b)]at h⊢;by_cases c:uh ((fF s).1,(fF (s.drop (fF s).2.1)).1)=0;rotate_left
 ·rw[aj c]at h;exact absurd h c
 rw[ah (λe=>e c)];obtain⟨i,j,d⟩:=X4 a;obtain⟨k,f,g⟩:=X4 b;rw[fH]at f g;exact⟨by simp only;omega,by simp only;omega,c,d,by simp only;omega,a,b,rfl,rfl⟩
def asO(t:Q0)(a:Nat)(h:a<=t.length)(l:t.length<=100000000):
 ∃at2:Nat,TT.lim 308 [.s t,.zq a]=some [.zq 0,.s (dV (t.drop a)).1.1,.s (dV (t.drop a)).1.2,.zq (dV (t.drop a)).2.2,.s t,.zq at2]/\((dV (t.drop a)).2.2=0->at2=a+(dV (t.drop a)).2.1):=by
 obtain⟨p,f,j⟩:=alT t a h l;unfold dV;by_cases b:(fF (t.drop a)).2.2=0;rotate_left
 ·rw[aj b];generalize fF (t.drop a)=A at *;refine⟨p,jm rfl rfl ?_,λh=>absurd h b⟩;simp[f,b]
 have j:=j b;obtain⟨u,n,o⟩:=X4 b;rw[fH]at n o;have k:(t.drop a).drop (fF (t.drop a)).2.1=t.drop p:=by rw[rJ,j]
 obtain⟨q,i,m⟩:=alT t p (by omega) l;rw[ah (λe=>e b),k];rw[b]at f;by_cases c:(fF (t.drop p)).2.2=0;rotate_left
 ·rw[aj c];generalize fF (t.drop a)=A,fF (t.drop p)=B at *;refine⟨q,jm rfl rfl ?_,λh=>absurd h c⟩;simp[f,i,c]
 have m:=m c;obtain⟨v,r,s⟩:=X4 c;rw[fH]at r s;rw[ah (λe=>e c)];rw[c]at i;have kc:=agC ((fF (t.drop a)).1,(fF (t.drop p)).1) (by simp only;omega) (by simp only;omega);have d:TT.lim 41 [.g [.s (fF (t.drop a)).1,.s (fF (t.drop p)).1]]=_:=kc;generalize fF (t.drop a)=A,fF (t.drop p)=B at *;by_cases g:uh (A.1,B.1)=0;rotate_left
 ·rw[aj g];refine⟨q,jm rfl rfl ?_,λh=>absurd h g⟩;generalize uh (A.1,B.1)=E at *;simp[f,i,d,g]
 ·rw[ah (λe=>e g)];rw[g]at d;refine⟨q,jm rfl rfl ?_,λ_=>by simp only;omega⟩;simp[f,i,d]
def AA(p:Option dK)(x:dK):Int:=match p with
 |none=>0
 |some k=>zJ k.1 x.1
def gJ:Nat->Option dK->List UInt8->List dK×Nat×Int
 |0,_,_=>([],0,0)
 |m+1,p,s=>if(dV s).2.2≠0 then([],0,(dV s).2.2)else
  if AA p (dV s).1≠0 then([],0,AA p (dV s).1)else
  if(gJ m (some (dV s).1) (s.drop (dV s).2.1)).2.2≠0 then([],0,(gJ m (some (dV s).1) (s.drop (dV s).2.1)).2.2)else
  ((dV s).1::(gJ m (some (dV s).1) (s.drop (dV s).2.1)).1,(dV s).2.1+(gJ m (some (dV s).1) (s.drop (dV s).2.1)).2.1,0)
def U3(m:Nat)(p:Option dK)(s:Q0):gJ (m+1) p s=if(dV s).2.2≠0 then([],0,(dV s).2.2)else
 if AA p (dV s).1≠0 then([],0,AA p (dV s).1)else
 if(gJ m (some (dV s).1) (s.drop (dV s).2.1)).2.2≠0 then([],0,(gJ m (some (dV s).1) (s.drop (dV s).2.1)).2.2)else
 ((dV s).1::(gJ m (some (dV s).1) (s.drop (dV s).2.1)).1,(dV s).2.1+(gJ m (some (dV s).1) (s.drop (dV s).2.1)).2.1,0):=rfl
def Dh(a:List dK)(t:Q0)(at2:Nat)(r:List dK×Nat×Int):Q1:=if r.2.2≠0 then[.zq 0,.zq r.2.2,.s t,.zq at2]else[.zq 1,.l ((a++r.1).map ent),.s t,.zq at2]
def asH(L:Q1)(n i a at2:Int)(t:Q0)(x:dK)(e:Int)(h:i<n)(b:¬e=0)
 (k:TT.lim 308 [.s t,.zq a]=some [.zq 0,.s x.1,.s x.2,.zq e,.s t,.zq at2]):
 TT.lim 307 [.l L,.zq n,.zq i,.s t,.zq a]=some [.zq 0,.zq e,.s t,.zq at2]:=by
 refine au ?_;simp[h,k,b]
def asF(L:Q1)(n a at2:Int)(t:Q0)(x:dK)(R:Q1)(h:0<n)(b:2*(L.length+1)*32<=281474976710656/\L.length+1<=281474976710656)
 (k:TT.lim 308 [.s t,.zq a]=some [.zq 0,.s x.1,.s x.2,.zq 0,.s t,.zq at2])
 (c:TT.lim 307 [.l (L++[ent x]),.zq n,.zq 1,.s t,.zq at2]=some R):
 TT.lim 307 [.l L,.zq n,.zq 0,.s t,.zq a]=some R:=by
 have d:GV.g [.s x.1,.s x.2]=ent x:=rfl;have w1:=bF 1;refine au ?_;simp[h,k,d,GV.fP,b,w1,c]
def asG(L:Q1)(n:Int)(i:Nat)(a at2:Int)(t:Q0)(p x:dK)(h:(i:Int)+1<n)(hi:i+1<=100000000)(g:L.length=i+1)(e:L[i]? =some (ent p))(j:¬zJ p.1 x.1=0)
 (k:TT.lim 308 [.s t,.zq a]=some [.zq 0,.s x.1,.s x.2,.zq 0,.s t,.zq at2]):
 TT.lim 307 [.l L,.zq n,.zq ((i:Int)+1),.s t,.zq a]=some [.zq 0,.zq (zJ p.1 x.1),.s t,.zq at2]:=by
 have l:(0:Int)<(i:Int)+1:=by omega
 have b:(i:Int)<(i:Int)+1:=by omega
 have w:=bF ((i:Int));have c:L[i]'(by omega)=ent p:=by have:=e;rw[bT (by omega)]at this;exact IC this
 unfold zJ at j⊢;by_cases d:x.1=p.1
 ·have f:(x.1=p.1)=True:=eq_true d;clear d;refine au ?_;simp[h,k,l,b,w,g,e,c,f]
 ·by_cases m:Op.bytesLess x.1 p.1=true
  ·refine au ?_;simp[h,k,l,b,w,g,e,c,d,m]
  ·simp[d,m]at j
def asI(L:Q1)(n:Int)(i:Nat)(b at2:Int)(t:Q0)(p x:dK)(R:Q1)(h:(i:Int)+1<n)(hi:i+1<=100000000)(o:(i:Int)<L.length)(q:L.length<=100000000)(l:L[i]? =some (ent p))(a:zJ p.1 x.1=0)
 (k:TT.lim 308 [.s t,.zq b]=some [.zq 0,.s x.1,.s x.2,.zq 0,.s t,.zq at2])
 (r:TT.lim 307 [.l (L++[ent x]),.zq n,.zq ((i:Int)+1+1),.s t,.zq at2]=some R):
 TT.lim 307 [.l L,.zq n,.zq ((i:Int)+1),.s t,.zq b]=some R:=by
 have s:(0:Int)<(i:Int)+1:=by omega
 have d:(i:Int)<(i:Int)+1:=by omega
 have w:=bF ((i:Int));have u:=bF ((i:Int)+1+1);have c:i<L.length:=by omega
 have f:L[i]=ent p:=by have:=l;rw[bT c]at this;exact IC this
 have v:GV.g [.s x.1,.s x.2]=ent x:=rfl;have g:2*(L.length+1)*32<=281474976710656/\L.length+1<=281474976710656:=by omega
 unfold zJ at a;have m:¬x.1=p.1:=by intro e;rw[aj e]at a;exact absurd a (by decide)
 rw[ah m]at a;have j:¬Op.bytesLess x.1 p.1=true:=by intro e;rw[aj e]at a;exact absurd a (by decide)
 have j:Op.bytesLess x.1 p.1=false:=by simpa using j
 refine au ?_;simp[h,k,s,d,w,u,o,c,l,f,m,j,v,GV.fP,g,r]
def awH(b:List dK)(p:Option dK):Prop:=(b=[]/\p=none)\/∃a x,b=a++[x]/\p=some x
def agi(t:Q0)(B:t.length<=100000000)(n:Nat)(E:n<=1000):∀(m:Nat)(c:List dK)(p:Option dK)(b:Nat),c.length+m=n->awH c p->b<=t.length->
 ∃at2:Nat,TT.lim 307 [.l (c.map ent),.zq n,.zq c.length,.s t,.zq b]=some (Dh c t at2 (gJ m p (t.drop b)))/\((gJ m p (t.drop b)).2.2=0->at2=b+(gJ m p (t.drop b)).2.1)
 |0,c,p,b,hi,D,h=>by
  have s:¬((c.length:Int)<(n:Int)):=by omega
  refine⟨b,?_,λ_=>by simp[gJ]⟩;have q:(c.map ent).length=c.length:=by simp
  unfold gJ Dh;simp only[ne_eq,not_true_eq_false,if_false,qp];generalize c.map ent=L at *;refine au ?_;simp[s]
 |m+1,c,p,b,hi,D,h=>by
  obtain⟨at2,k,u⟩:=asO t b h B;rw[U3];by_cases g:(dV (t.drop b)).2.2=0;rotate_left
  ·rw[aj g];refine⟨at2,?_,λh=>absurd h g⟩;have:Dh c t at2 ([],0,(dV (t.drop b)).2.2)=[.zq 0,.zq (dV (t.drop b)).2.2,.s t,.zq at2]:=by unfold Dh;rw[aj g]
   rw[this];exact asH _ _ _ _ _ _ _ _ (by omega) g k
  rw[ah (λe=>e g)];rw[g]at k;have u:=u g;obtain⟨H,F,_⟩:=U9 g;rw[fH]at F;have v:(t.drop b).drop (dV (t.drop b)).2.1=t.drop at2:=by rw[rJ,u]
  rw[v];have w:at2<=t.length:=by omega
  generalize I:(dV (t.drop b)).1=x at *;obtain⟨d,r,G⟩:=agi t B n E m (c++[x]) (some x) at2 (by rw[eP,FT];omega) (.inr ⟨c,x,rfl,rfl⟩) w;have i:Dh c t d (if(gJ m (some x) (t.drop at2)).2.2≠0 then([],0,(gJ m (some x) (t.drop at2)).2.2)else(x::(gJ m (some x) (t.drop at2)).1,(dV (t.drop b)).2.1+(gJ m (some x) (t.drop at2)).2.1,0))=Dh (c++[x]) t d (gJ m (some x) (t.drop at2)):=by
   unfold Dh;by_cases l:(gJ m (some x) (t.drop at2)).2.2=0
   ·simp[l]
   ·simp[l]
  have j:((if(gJ m (some x) (t.drop at2)).2.2≠0 then(([]:List dK),0,(gJ m (some x) (t.drop at2)).2.2)else(x::(gJ m (some x) (t.drop at2)).1,(dV (t.drop b)).2.1+(gJ m (some x) (t.drop at2)).2.1,0)).2.2=0->d=b+(if(gJ m (some x) (t.drop at2)).2.2≠0 then(([]:List dK),0,(gJ m (some x) (t.drop at2)).2.2)else(x::(gJ m (some x) (t.drop at2)).1,(dV (t.drop b)).2.1+(gJ m (some x) (t.drop at2)).2.1,0)).2.1):=by
   by_cases l:(gJ m (some x) (t.drop at2)).2.2=0
   ·rw[ah (λe=>e l)];intro _;have:=G l;simp only;omega
   ·rw[aj l];intro h;exact absurd h l
  rw[nM]at r;rcases D with⟨rfl,rfl⟩|⟨a,y,rfl,rfl⟩
  ·have z:AA none x=0:=rfl;rw[z,ah (by simp)];refine⟨d,?_,j⟩;rw[i];exact asF [] n b at2 t x _ (by simp at hi;omega) (by simp) k r
  ·by_cases o:zJ y.1 x.1=0;rotate_left
   ·have f:AA (some y) x≠0:=o;rw[aj f];refine⟨at2,?_,λh=>absurd h o⟩;have:Dh (a++[y]) t at2 ([],0,AA (some y) x)=[.zq 0,.zq (zJ y.1 x.1),.s t,.zq at2]:=by unfold Dh;rw[aj f];rfl
    rw[this];have q:((a++[y]).length:Int)=(a.length:Int)+1:=by simp
    rw[q];rw[eP,FT]at hi;exact asG _ n a.length b at2 t y x (by omega) (by omega) (by simp) (by simp) o k
   ·have f:¬AA (some y) x≠0:=λe=>e o;rw[ah f];refine⟨d,?_,j⟩;rw[i];have q:((a++[y]).length:Int)=(a.length:Int)+1:=by simp
    have A:((a++[y]++[x]).length:Int)=(a.length:Int)+1+1:=by simp;omega
    rw[q];rw[A]at r;rw[eP,FT]at hi;exact asI _ n a.length b at2 t y x _ (by omega) (by omega) (by simp;omega) (by simp;omega) (by simp) o k r
def CP(e:Int):List dK×Nat×Int:=([],0,e)
def oC(s:Q0):List dK×Nat×Int:=
 if(aB s).2.2≠0 then CP (aB s).2.2 else
 if(aB s).1=0 then CP 12 else
 if 16<(aB s).1 then CP 13 else
 if(gJ (aB s).1 none (s.drop (aB s).2.1)).2.2≠0 then CP (gJ (aB s).1 none (s.drop (aB s).2.1)).2.2 else
 ((gJ (aB s).1 none (s.drop (aB s).2.1)).1,(aB s).2.1+(gJ (aB s).1 none (s.drop (aB s).2.1)).2.1,0)
def asy(t:Q0)(a:Nat)(h:a<=t.length)(p:t.length<=100000000):
 ∃at2:Nat,TT.lim 306 [.s t,.zq a]=some [.zq 0,.l ((oC (t.drop a)).1.map ent),.zq (oC (t.drop a)).2.2,.s t,.zq at2]/\((oC (t.drop a)).2.2=0->at2=a+(oC (t.drop a)).2.1):=by
 have d:=DI t a h (by omega);unfold oC;by_cases g:(aB (t.drop a)).2.2=0;rotate_left
 ·obtain⟨q,l⟩:=KX g;rw[q,l]at d;rw[aj g];generalize(aB (t.drop a)).2.2=e at *;refine⟨a,jm rfl rfl ?_,λh=>absurd h g⟩;simp[d,g,CP]
 obtain⟨x,y,s,z,_⟩:=lF g;rw[ah (λe=>e g)];rw[g]at d;rw[fH]at s;rw[rJ];by_cases b:16<(aB (t.drop a)).1
 ·have f:¬(aB (t.drop a)).1=0:=by omega
  have k:(16:Int)<((aB (t.drop a)).1:Nat):=by omega
  rw[ah f,aj b];generalize(aB (t.drop a)).1=n,(aB (t.drop a)).2.1=i at *;refine⟨a+i,jm rfl rfl ?_,λh=>by cases h⟩;simp only[FP]at d;simp[d,f,b,k,CP]
 obtain⟨at2,u,l⟩:=agi t p (aB (t.drop a)).1 (by omega) (aB (t.drop a)).1 [] none (a+(aB (t.drop a)).2.1) (by simp) (.inl ⟨rfl,rfl⟩) (by omega);generalize(aB (t.drop a)).1=n,(aB (t.drop a)).2.1=i at *;by_cases f:n=0
 ·rw[aj f];have m:((n:Int)=0)=True:=eq_true (by omega);refine⟨a+i,jm rfl rfl ?_,λh=>by cases h⟩;simp only[FP]at d;simp[d,f,m,CP]
 rw[ah f,ah b];have k:¬(16:Int)<(n:Int):=by omega
 have w:=bF ((n:Int));have o:(0:Int)<=(n:Int)/\32*(n:Int)<=281474976710656/\(n:Int)<=1152921504606846976:=by omega
 have c:TT.lim 307 [.l [],.zq n,.zq 0,.s t,.zq ((a:Int)+(i:Int))]=_:=u;generalize v:gJ n none (t.drop (a+i))=r at *;refine⟨at2,jm rfl rfl ?_,λh=>?_⟩
 ·simp only[FP]at d;unfold Dh at c;by_cases j:r.2.2=0
  ·simp only[j,ne_eq,not_true_eq_false,if_false,aX]at c⊢;simp[d,f,b,k,w,o,c,GV.fP]
  ·simp only[j,ne_eq,not_false_eq_true,if_true]at c⊢;simp[d,f,b,k,w,o,c,GV.fP,CP]
 ·by_cases j:r.2.2=0
  ·rw[ah (λe=>e j)];have:=l j;simp only;omega
  ·rw[aj j]at h;exact absurd h j
def rZ(s:Q0):List dK×Int:=
 if(oC s).2.2≠0 then([],(oC s).2.2)else if(oC s).2.1<s.length then([],10)else((oC s).1,0)
def ZL:∀(m:Nat)(p:Option dK)(s:Q0),(gJ m p s).2.2=0->(gJ m p s).2.1<=s.length/\(gJ m p s).1.length=m/\∀x∈(gJ m p s).1,uh x=0/\x.1.length<=s.length/\x.2.length<=s.length
 |0,p,s,_=>by simp[gJ]
 |m+1,p,s,h=>by
  rw[U3]at h⊢;by_cases h1:(dV s).2.2=0;rotate_left
  ·rw[aj h1]at h;exact absurd h h1
  rw[ah (λe=>e h1)]at h⊢;by_cases b:AA p (dV s).1=0;rotate_left
  ·rw[aj b]at h;exact absurd h b
  rw[ah (λe=>e b)]at h⊢;by_cases a:(gJ m (some (dV s).1) (s.drop (dV s).2.1)).2.2=0;rotate_left
  ·rw[aj a]at h;exact absurd h a
  rw[ah (λe=>e a)];obtain⟨q,r,d,f,g,_⟩:=U9 h1;obtain⟨i,j,k⟩:=ZL m (some (dV s).1) _ a;rw[fH]at i;refine⟨by simp only;omega,by simp[j],λx c=>?_⟩;rcases bH.1 c with rfl|c
  ·exact⟨d,f,g⟩
  ·obtain⟨l,n,o⟩:=k x c;rw[fH]at n o;exact⟨l,by omega,by omega⟩
def agl{s:Q0}(h:(oC s).2.2=0):(aB s).2.2=0/\0<(aB s).1/\(aB s).1<=16/\(gJ (aB s).1 none (s.drop (aB s).2.1)).2.2=0/\(oC s).1=(gJ (aB s).1 none (s.drop (aB s).2.1)).1/\
 (oC s).2.1=(aB s).2.1+(gJ (aB s).1 none (s.drop (aB s).2.1)).2.1/\(oC s).2.1<=s.length:=by
 unfold oC at h⊢;by_cases a:(aB s).2.2=0;rotate_left
 ·rw[aj a]at h;exact absurd h a
 rw[ah (λe=>e a)]at h⊢;by_cases c:(aB s).1=0
 ·rw[aj c]at h;exact absurd h (by simp[CP])
 rw[ah c]at h⊢;by_cases d:16<(aB s).1
 ·rw[aj d]at h;exact absurd h (by simp[CP])
 rw[ah d]at h⊢;by_cases b:(gJ (aB s).1 none (s.drop (aB s).2.1)).2.2=0;rotate_left
 ·rw[aj b]at h;exact absurd h b
 rw[ah (λe=>e b)];obtain⟨f,g,i,_,_⟩:=lF a;obtain⟨d1,_,_⟩:=ZL _ _ _ b;rw[fH]at d1;exact⟨a,by omega,by omega,b,rfl,rfl,by simp only;omega⟩
def agp(s:Q0)(d:s.length<=100000000):TT.lim 305 [.s s]=some [.l ((rZ s).1.map ent),.zq (rZ s).2]:=by
 obtain⟨at2,k,b⟩:=asy s 0 (by omega) d;rw[dN,show((0:Nat):Int)=0 from rfl]at k;rw[dN]at b;unfold rZ;by_cases a:(oC s).2.2=0;rotate_left
 ·rw[aj a];generalize oC s=r at *;refine Vr rfl rfl ?_ (by rfl);simp[k,a]
 have b:=b a;obtain⟨_,_,_,_,_,_,f⟩:=agl a;rw[ah (λe=>e a)];rw[a]at k;rw[lQ]at b;have w:=bF ((s.length:Int)-(at2:Int));rw[<-b]at f⊢;generalize oC s=r at *;by_cases c:at2<s.length
 ·rw[aj c];refine aT ?_;simp[k,w,c]
 ·rw[ah c];refine aT ?_;simp[k,w,c]
def KC(e:Int):Row×Nat×Int:=(([],0),0,e)
def iq(a s:Q0):Row×Nat×Int:=
 if(rZ a).2≠0 then KC (rZ a).2 else
 if(aB s).2.2≠0 then KC (aB s).2.2 else
 if(aB s).1=0 then KC 17 else(((rZ a).1,((aB s).1:Nat)),(aB s).2.1,0)
def acG{a s:Q0}(h:(iq a s).2.2=0):(rZ a).2=0/\(aB s).2.2=0/\(aB s).1≠0/\(iq a s).1=((rZ a).1,(((aB s).1:Nat):Int))/\(iq a s).2.1=(aB s).2.1:=by
 unfold iq at h⊢;by_cases b:(rZ a).2=0;rotate_left
 ·rw[aj b]at h;exact absurd h b
 rw[ah (λe=>e b)]at h⊢;by_cases c:(aB s).2.2=0;rotate_left
 ·rw[aj c]at h;exact absurd h c
 rw[ah (λe=>e c)]at h⊢;by_cases d:(aB s).1=0
 ·rw[aj d]at h;exact absurd h (by simp[KC])
 rw[ah d];exact⟨b,c,d,rfl,rfl⟩
def rowP(b t:Q0)(a:Nat)(h:a<=t.length)(m:t.length<=100000000)(j:b.length<=100000000):
 ∃at2:Nat,TT.lim 314 [.s b,.s t,.zq a]=some [.zq 0,.l ((iq b (t.drop a)).1.1.map ent),.zu (iq b (t.drop a)).1.2,.zq (iq b (t.drop a)).2.2,.s t,.zq at2]/\
  ((iq b (t.drop a)).2.2=0->at2=a+(iq b (t.drop a)).2.1):=by
 have g:=agp b j;have c:=DI t a h (by omega);unfold iq;generalize rZ b=D at *;by_cases d:D.2=0;rotate_left
 ·rw[aj d];refine⟨a,jm rfl rfl ?_,λh=>absurd h d⟩;simp[g,d,KC]
 rw[ah (λe=>e d)];by_cases f:(aB (t.drop a)).2.2=0;rotate_left
 ·obtain⟨k,l⟩:=KX f;rw[k,l]at c;rw[aj f];generalize aB (t.drop a)=V at *;refine⟨a,jm rfl rfl ?_,λh=>absurd h f⟩;simp[g,c,d,f,KC]
 rw[ah (λe=>e f)];rw[f]at c;simp only[FP]at c;generalize aB (t.drop a)=V at *;by_cases i:V.1=0
 ·rw[aj i];rw[i]at c;refine⟨a+V.2.1,jm rfl rfl ?_,λh=>by cases h⟩;simp[g,c,d,KC]
 ·rw[ah i];refine⟨a+V.2.1,jm rfl rfl ?_,λ_=>rfl⟩;simp[g,c,d,i]
def iE:Nat->List UInt8->Bool->List UInt8->List Row×Nat×Int
 |0,_,_,_=>([],0,0)
 |m+1,a,first,s=>if(bM s a first).2.2≠0 then([],0,(bM s a first).2.2)else
  if(iq (bM s a first).1 (s.drop (bM s a first).2.1)).2.2≠0 then([],0,(iq (bM s a first).1 (s.drop (bM s a first).2.1)).2.2)else
  if(iE m (bM s a first).1 false (s.drop ((bM s a first).2.1+(iq (bM s a first).1 (s.drop (bM s a first).2.1)).2.1))).2.2≠0 then([],0,(iE m (bM s a first).1 false (s.drop ((bM s a first).2.1+(iq (bM s a first).1 (s.drop (bM s a first).2.1)).2.1))).2.2)else
  ((iq (bM s a first).1 (s.drop (bM s a first).2.1)).1::(iE m (bM s a first).1 false (s.drop ((bM s a first).2.1+(iq (bM s a first).1 (s.drop (bM s a first).2.1)).2.1))).1,
   (bM s a first).2.1+(iq (bM s a first).1 (s.drop (bM s a first).2.1)).2.1+(iE m (bM s a first).1 false (s.drop ((bM s a first).2.1+(iq (bM s a first).1 (s.drop (bM s a first).2.1)).2.1))).2.1,0)
def W9(m:Nat)(a:Q0)(first:Bool)(s:Q0):iE (m+1) a first s=if(bM s a first).2.2≠0 then([],0,(bM s a first).2.2)else
 if(iq (bM s a first).1 (s.drop (bM s a first).2.1)).2.2≠0 then([],0,(iq (bM s a first).1 (s.drop (bM s a first).2.1)).2.2)else
 if(iE m (bM s a first).1 false (s.drop ((bM s a first).2.1+(iq (bM s a first).1 (s.drop (bM s a first).2.1)).2.1))).2.2≠0 then([],0,(iE m (bM s a first).1 false (s.drop ((bM s a first).2.1+(iq (bM s a first).1 (s.drop (bM s a first).2.1)).2.1))).2.2)else
 ((iq (bM s a first).1 (s.drop (bM s a first).2.1)).1::(iE m (bM s a first).1 false (s.drop ((bM s a first).2.1+(iq (bM s a first).1 (s.drop (bM s a first).2.1)).2.1))).1,
  (bM s a first).2.1+(iq (bM s a first).1 (s.drop (bM s a first).2.1)).2.1+(iE m (bM s a first).1 false (s.drop ((bM s a first).2.1+(iq (bM s a first).1 (s.drop (bM s a first).2.1)).2.1))).2.1,0):=rfl
def Dj(a:List Row)(t:Q0)(at2:Nat)(r:List Row×Nat×Int):Q1:=if r.2.2≠0 then[.zq 0,.zq r.2.2,.s t,.zq at2]else[.zq 1,.l ((a++r.1).map row),.s t,.zq at2]
def azJ(L:Q1)(a t X:Q0)(n i b at2:Int)(first:Bool)(e:Int)(h:i<n)(c:decide (i=0)=first)(d:¬e=0)
 (k:TT.lim 313 [.s t,.zq b,.s a,.b first]=some [.zq 0,.s X,.zq e,.s t,.zq at2]):
 TT.lim 312 [.l L,.s a,.zq n,.zq i,.s t,.zq b]=some [.zq 0,.zq e,.s t,.zq at2]:=by
 refine au ?_;simp[h,c,k,d]
def azL(L:Q1)(a t X:Q0)(D:Q1)(N:Int)(n i b at2 c:Int)(first:Bool)(e:Int)(h:i<n)(d:decide (i=0)=first)(f:¬e=0)
 (k:TT.lim 313 [.s t,.zq b,.s a,.b first]=some [.zq 0,.s X,.zq 0,.s t,.zq at2])
 (g:TT.lim 314 [.s X,.s t,.zq at2]=some [.zq 0,.l D,.zu N,.zq e,.s t,.zq c]):
 TT.lim 312 [.l L,.s a,.zq n,.zq i,.s t,.zq b]=some [.zq 0,.zq e,.s t,.zq c]:=by
 refine au ?_;simp[h,d,k,g,f]
def azK(L:Q1)(a t X:Q0)(D:Q1)(N:Int)(n i b at2 c:Int)(first:Bool)(R:Q1)(h:i<n)(e:decide (i=0)=first)(f:IntKind.i64.wrap (i+1)=i+1)(l:L.length<=100000000)
 (k:TT.lim 313 [.s t,.zq b,.s a,.b first]=some [.zq 0,.s X,.zq 0,.s t,.zq at2])
 (g:TT.lim 314 [.s X,.s t,.zq at2]=some [.zq 0,.l D,.zu N,.zq 0,.s t,.zq c])
 (j:TT.lim 312 [.l (L++[.g [.l D,.zu N]]),.s X,.zq n,.zq (i+1),.s t,.zq c]=some R):
 TT.lim 312 [.l L,.s a,.zq n,.zq i,.s t,.zq b]=some R:=by
 have d:2*(L.length+1)*32<=281474976710656/\L.length+1<=281474976710656:=by omega
 refine au ?_;simp[h,e,k,g,f,GV.fP,d,j]
def akc(t:Q0)(s:t.length<=100000000)(n:Nat)(E:n<=1000):∀(m:Nat)(b:List Row)(a:Q0)(c:Nat),b.length+m=n->c<=t.length->a.length<=c->
 ∃at2:Nat,TT.lim 312 [.l (b.map row),.s a,.zq n,.zq b.length,.s t,.zq c]=some (Dj b t at2 (iE m a (decide ((b.length:Int)=0)) (t.drop c)))/\
  ((iE m a (decide ((b.length:Int)=0)) (t.drop c)).2.2=0->at2=c+(iE m a (decide ((b.length:Int)=0)) (t.drop c)).2.1)
 |0,b,a,c,hi,h,F=>by
  have u:¬((b.length:Int)<(n:Int)):=by omega
  refine⟨c,?_,λ_=>by simp[iE]⟩;unfold iE Dj;simp only[ne_eq,not_true_eq_false,if_false,qp];generalize b.map row=L at *;refine au ?_;simp[u]
 |m+1,b,a,c,hi,h,F=>by
  obtain⟨at2,k,r⟩:=azz t a (decide ((b.length:Int)=0)) c h s (by omega);rw[W9];generalize v:decide ((b.length:Int)=0)=first at *
  by_cases g:(bM (t.drop c) a first).2.2=0;rotate_left
  ·rw[aj g];refine⟨at2,?_,λh=>absurd h g⟩;have:Dj b t at2 ([],0,(bM (t.drop c) a first).2.2)=[.zq 0,.zq (bM (t.drop c) a first).2.2,.s t,.zq at2]:=by unfold Dj;rw[aj g]
   rw[this];exact azJ _ _ _ _ _ _ _ _ _ _ (by omega) v g k
  rw[ah (λe=>e g)];rw[g]at k;have r:=r g;obtain⟨R,G,H⟩:=acs g;rw[fH]at G;have w:∀j,(t.drop c).drop ((bM (t.drop c) a first).2.1+j)=t.drop (at2+j):=by intro j;rw[rJ,r,jL]
  have x:(t.drop c).drop (bM (t.drop c) a first).2.1=t.drop at2:=by rw[rJ,r]
  have I:(bM (t.drop c) a first).1.length<=at2:=by split at H<;>omega
  rw[w,x];generalize(bM (t.drop c) a first).1=X,(bM (t.drop c) a first).2.1=J at *;obtain⟨d,y,z⟩:=rowP X t at2 (by omega) s (by omega);by_cases i:(iq X (t.drop at2)).2.2=0;rotate_left
  ·rw[aj i];refine⟨d,?_,λh=>absurd h i⟩;have:Dj b t d ([],0,(iq X (t.drop at2)).2.2)=[.zq 0,.zq (iq X (t.drop at2)).2.2,.s t,.zq d]:=by unfold Dj;rw[aj i]
   rw[this];exact azL _ _ _ _ _ _ _ _ _ _ _ _ _ (by omega) v i k y
  rw[ah (λe=>e i)];rw[i]at y;have z:=z i;obtain⟨_,M,_,_,S⟩:=acG i;obtain⟨T,V,N,_,_⟩:=lF M;rw[fH]at N;have A:at2+(iq X (t.drop at2)).2.1=d:=z.symm;rw[A];have p:GV.g [.l ((iq X (t.drop at2)).1.1.map ent),.zu (iq X (t.drop at2)).1.2]=row (iq X (t.drop at2)).1:=rfl;obtain⟨l,B,D⟩:=akc t s n E m (b++[(iq X (t.drop at2)).1]) X d (by rw[eP,FT];omega) (by omega) (by omega);have f:decide (((b++[(iq X (t.drop at2)).1]).length:Int)=0)=false:=by simp;omega
  have O:((b++[(iq X (t.drop at2)).1]).length:Int)=(b.length:Int)+1:=by simp
  rw[f]at B D;rw[O,nM]at B;generalize(iq X (t.drop at2)).1=Q,(iq X (t.drop at2)).2.1=P at *;have q:Dj b t l (if(iE m X false (t.drop d)).2.2≠0 then([],0,(iE m X false (t.drop d)).2.2)else(Q::(iE m X false (t.drop d)).1,J+P+(iE m X false (t.drop d)).2.1,0))=Dj (b++[Q]) t l (iE m X false (t.drop d)):=by
   unfold Dj;by_cases o:(iE m X false (t.drop d)).2.2=0
   ·simp[o]
   ·simp[o]
  refine⟨l,?_,?_⟩
  ·rw[q];exact azK _ _ _ _ _ _ _ _ _ _ _ _ _ (by omega) v (wrap64 (by omega) (by omega)) (by simp;omega) k y (by rw[p];exact B)
  ·by_cases o:(iE m X false (t.drop d)).2.2=0
   ·rw[ah (λe=>e o)];intro _;have:=D o;simp only;omega
   ·rw[aj o];intro h;exact absurd h o
def JD(e:Int):List Row×Nat×Int:=([],0,e)
def nT(s:Q0):List Row×Nat×Int:=
 if(aB s).2.2≠0 then JD (aB s).2.2 else
 if 256<(aB s).1 then JD 13 else
 if(iE (aB s).1 [] true (s.drop (aB s).2.1)).2.2≠0 then JD (iE (aB s).1 [] true (s.drop (aB s).2.1)).2.2 else
 ((iE (aB s).1 [] true (s.drop (aB s).2.1)).1,(aB s).2.1+(iE (aB s).1 [] true (s.drop (aB s).2.1)).2.1,0)
def awx(t:Q0)(a:Nat)(h:a<=t.length)(o:t.length<=100000000):
 ∃at2:Nat,TT.lim 311 [.s t,.zq a]=some [.zq 0,.l ((nT (t.drop a)).1.map row),.zq (nT (t.drop a)).2.2,.s t,.zq at2]/\((nT (t.drop a)).2.2=0->at2=a+(nT (t.drop a)).2.1):=by
 have d:=DI t a h (by omega);unfold nT;by_cases f:(aB (t.drop a)).2.2=0;rotate_left
 ·obtain⟨p,j⟩:=KX f;rw[p,j]at d;rw[aj f];generalize(aB (t.drop a)).2.2=e at *;refine⟨a,jm rfl rfl ?_,λh=>absurd h f⟩;simp[d,f,JD]
 obtain⟨s,u,q,v,_⟩:=lF f;rw[ah (λe=>e f)];rw[f]at d;rw[fH]at q;rw[rJ];by_cases b:256<(aB (t.drop a)).1
 ·have k:(256:Int)<((aB (t.drop a)).1:Nat):=by omega
  rw[aj b];generalize(aB (t.drop a)).1=n,(aB (t.drop a)).2.1=i at *;refine⟨a+i,jm rfl rfl ?_,λh=>by cases h⟩;simp only[FP]at d;simp[d,b,k,JD]
 obtain⟨at2,l,j⟩:=akc t o (aB (t.drop a)).1 (by omega) (aB (t.drop a)).1 [] [] (a+(aB (t.drop a)).2.1) (by simp) (by omega) (by simp);generalize(aB (t.drop a)).1=n,(aB (t.drop a)).2.1=i at *;rw[ah b];have k:¬(256:Int)<(n:Int):=by omega
 have w:=bF ((n:Int));have m:(0:Int)<=(n:Int)/\32*(n:Int)<=281474976710656/\(n:Int)<=1152921504606846976:=by omega
 rw[show decide ((([]:List Row).length:Int)=0)=true from rfl]at l j;have c:TT.lim 312 [.l [],.s [],.zq n,.zq 0,.s t,.zq ((a:Int)+(i:Int))]=_:=l;generalize iE n [] true (t.drop (a+i))=r at *;refine⟨at2,jm rfl rfl ?_,λh=>?_⟩
 ·simp only[FP]at d;unfold Dj at c;by_cases g:r.2.2=0
  ·simp only[g,ne_eq,not_true_eq_false,if_false,aX]at c⊢;simp[d,b,k,w,m,c,GV.fP]
  ·simp only[g,ne_eq,not_false_eq_true,if_true]at c⊢;simp[d,b,k,w,m,c,GV.fP,JD]
 ·by_cases g:r.2.2=0
  ·rw[ah (λe=>e g)];have:=j g;simp only;omega
  ·rw[aj g]at h;exact absurd h g
def sK(s:Q0):List Row×Int:=
 if(nT s).2.2≠0 then([],(nT s).2.2)else if(nT s).2.1<s.length then([],10)else((nT s).1,0)
def acr:∀(m:Nat)(a:Q0)(first:Bool)(s:Q0),(iE m a first s).2.2=0->(iE m a first s).2.1<=s.length/\(iE m a first s).1.length=m
 |0,a,first,s,_=>by simp[iE]
 |m+1,a,first,s,h=>by
  rw[W9]at h⊢;by_cases h1:(bM s a first).2.2=0;rotate_left
  ·rw[aj h1]at h;exact absurd h h1
  rw[ah (λe=>e h1)]at h⊢;by_cases b:(iq (bM s a first).1 (s.drop (bM s a first).2.1)).2.2=0;rotate_left
  ·rw[aj b]at h;exact absurd h b
  rw[ah (λe=>e b)]at h⊢;by_cases c:(iE m (bM s a first).1 false (s.drop ((bM s a first).2.1+(iq (bM s a first).1 (s.drop (bM s a first).2.1)).2.1))).2.2=0;rotate_left
  ·rw[aj c]at h;exact absurd h c
  rw[ah (λe=>e c)];obtain⟨j,k,_⟩:=acs h1;obtain⟨_,d,_,_,l⟩:=acG b;obtain⟨n,o,f,_,_⟩:=lF d;rw[fH]at f;obtain⟨g,i⟩:=acr m _ _ _ c;rw[fH]at g;exact⟨by simp only;omega,by simp[i]⟩
def aif{s:Q0}(h:(nT s).2.2=0):(aB s).2.2=0/\(aB s).1<=256/\(iE (aB s).1 [] true (s.drop (aB s).2.1)).2.2=0/\(nT s).1=(iE (aB s).1 [] true (s.drop (aB s).2.1)).1/\
 (nT s).2.1=(aB s).2.1+(iE (aB s).1 [] true (s.drop (aB s).2.1)).2.1/\(nT s).2.1<=s.length:=by
 unfold nT at h⊢;by_cases a:(aB s).2.2=0;rotate_left
 ·rw[aj a]at h;exact absurd h a
 rw[ah (λe=>e a)]at h⊢;by_cases c:256<(aB s).1
 ·rw[aj c]at h;exact absurd h (by simp[JD])
 rw[ah c]at h⊢;by_cases b:(iE (aB s).1 [] true (s.drop (aB s).2.1)).2.2=0;rotate_left
 ·rw[aj b]at h;exact absurd h b
 rw[ah (λe=>e b)];obtain⟨d,f,g,_,_⟩:=lF a;obtain⟨d1,_⟩:=acr _ _ _ _ b;rw[fH]at d1;exact⟨a,by omega,b,rfl,rfl,by simp only;omega⟩
def aE4(s:Q0)(d:s.length<=100000000):TT.lim 310 [.s s]=some [.l ((sK s).1.map row),.zq (sK s).2]:=by
 obtain⟨at2,k,b⟩:=awx s 0 (by omega) d;rw[dN,show((0:Nat):Int)=0 from rfl]at k;rw[dN]at b;unfold sK;by_cases a:(nT s).2.2=0;rotate_left
 ·rw[aj a];generalize nT s=r at *;refine Vr rfl rfl ?_ (by rfl);simp[k,a]
 have b:=b a;obtain⟨_,_,_,_,_,f⟩:=aif a;rw[ah (λe=>e a)];rw[a]at k;rw[lQ]at b;have w:=bF ((s.length:Int)-(at2:Int));rw[<-b]at f⊢;generalize nT s=r at *;by_cases c:at2<s.length
 ·rw[aj c];refine aT ?_;simp[k,w,c]
 ·rw[ah c];refine aT ?_;simp[k,w,c]
def ny:Q0->List Row->List UInt8
 |_,[]=>[]
 |a,r::t=>sJ a (dG r.1)++(aQ r.2.toNat++ny (dG r.1) t)
def pY(t:List Row):Q0:=aQ t.length++ny [] t
def EP(t:List Row):Q0×Int:=if oz t≠0 then([],oz t)else(pY t,0)
def acN:∀(t:List Row)(a:Q0),(∀r∈t,iL r.1=true/\0<=r.2/\r.2<18446744073709551616)->(ny a t).length<=40000*t.length
 |[],a,_=>by simp[ny]
 |r::t,a,h=>by obtain⟨h1,c,d⟩:=h r (by simp);have e:=QH h1;have f:=ajv a (dG r.1) (by omega);have g:=oJ (n:=r.2.toNat) (by omega);have i:=acN t (dG r.1) λq b=>h q (by simp[b]);simp only[ny,eP,gV];omega
def awE(L:Q1)(n i:Int)(D:List dK)(N:Int)(a k O V b:Q0)(R:Q1)(j:Nat)(hi:i=j)(h:i<n)(g:L[j]? =some (row (D,N)))(l:IntKind.i64.wrap (i+1)=i+1)(m:TT.lim 14 [.l (D.map ent)]=some [.s k])(o:TT.lim 114 [.s a,.s k]=some [.s O])
 (p:TT.lim 15 [.zu N]=some [.s V]) (c:2*(b.length+O.length)<=281474976710656/\b.length+O.length<=281474976710656) (d:2*(b.length+(O.length+V.length))<=281474976710656/\b.length+(O.length+V.length)<=281474976710656)
 (q:TT.lim 113 [.s k,.l L,.zq n,.zq (i+1),.l (dh b++(dh O++dh V))]=some R):
 TT.lim 113 [.s a,.l L,.zq n,.zq i,.l (dh b)]=some R:=by
 subst hi;have e:=PK O;have f:=PK V;refine au ?_;simp[-List.all_eq_true,h,g,l,m,o,p,e,f,c,d,jL,q]
def ais(l:List Row)(k:l.length<=1000)(f:∀r∈l,iL r.1=true/\0<=r.2/\r.2<18446744073709551616):∀(m i:Nat)(a b:Q0),i+m=l.length->a.length<=100000->b.length<=10+40000*i->
 TT.lim 113 [.s a,.l (l.map row),.zq l.length,.zq i,.l (dh b)]=some [.zq 0,.l (dh (b++ny a (l.drop i)))]
 |0,i,a,b,hi,o,d=>by
  have p:l.drop i=[]:=ig;have h:¬((i:Int)<l.length):=by omega
  rw[p];refine au ?_;simp[h,ny]
 |m+1,i,a,b,hi,o,d=>by
  have c:i<l.length:=by omega
  obtain⟨g,u,v⟩:=f l[i] (gX c);have w:=QH g;have q:=CY l[i].1 g;have s:=ayr a (dG l[i].1) (by omega) (by omega);have x:=ajv a (dG l[i].1) (by omega);have j:=zf l[i].2.toNat (by omega);rw[show((l[i].2.toNat:Nat):Int)=l[i].2 by omega]at j;have y:=oJ (n:=l[i].2.toNat) (by omega);have e:=ais l k f m (i+1) (dG l[i].1) (b++(sJ a (dG l[i].1)++aQ l[i].2.toNat)) (by omega) (by omega) (by simp only[eP];omega);have t:b++ny a (l.drop i)=b++(sJ a (dG l[i].1)++aQ l[i].2.toNat)++ny (dG l[i].1) (l.drop (i+1)):=by rw[iC c];simp[ny]
  rw[t];rw[Za b,Za]at e;rw[show((i+1:Nat):Int)=(i:Int)+1 by omega]at e;exact awE _ _ _ l[i].1 l[i].2 a _ _ _ b _ i rfl (by omega) (by simp[c]) (wrap64 (by omega) (by omega)) q s j (by omega) (by omega) e
def awD(t:List Row)(c:Rows t)(l:yJ t):TT.lim 112 [.l (t.map row)]=some [.s (EP t).1,.zq (EP t).2]:=by
 have d:=UK t c l;unfold EP;by_cases a:oz t=0;rotate_left
 ·rw[aj a];refine Vr rfl rfl ?_ (by rfl);simp[d,a]
 rw[ah (λe=>e a)];rw[a]at d;have m:=((wO t).1 a).1;have o:∀r∈t,iL r.1=true/\0<=r.2/\r.2<18446744073709551616:=λr f=>⟨l r f,(c.2 r f).2.1,(c.2 r f).2.2⟩
 have u:=zf t.length (by omega);have x:=oJ (n:=t.length) (by omega);have p:=ais t (by omega) o t.length 0 [] (aQ t.length) (by omega) (by simp) (by omega);rw[dN,show((0:Nat):Int)=0 from rfl]at p;have q:=acN t [] o;have w:=jA ((t.length:Int));have ok:=PK (aQ t.length);have s:2*(aQ t.length).length<=281474976710656/\(aQ t.length).length<=281474976710656:=by omega
 have g:=Zd (pY t);have h:(dh (pY t)).length<=281474976710656:=by rw[afk];unfold pY;rw[eP];omega
 have i:TT.lim 113 [.s [],.l (t.map row),.zq t.length,.zq 0,.l (dh (aQ t.length))]=some [.zq 0,.l (dh (pY t))]:=p;generalize dh (pY t)=y at *;generalize pY t=P at *;generalize b:dh (aQ t.length)=v at *;have j:v.length=(aQ t.length).length:=by rw[<-b,afk]
 rw[<-j]at s;have k:(t.map row).length=t.length:=by simp
 generalize t.map row=L at *;refine aT ?_;simp[-List.all_eq_true,d,k,w,u,b,ok,s,i,g,h]
def ZR{x:dK}(h:uh x=0):x.1.length<=64/\x.2.length<=256:=by
 have d:∀(s:Q0)(lo hi:Int),qP s lo hi=0->(s.length:Int)<=hi:=by
  intro s lo hi h;unfold qP at h;split at h
  ·cases h
  ·split at h
   ·cases h
   ·omega
 unfold uh at h;by_cases c:qP x.1 1 64=0
 ·rw[ah (λe=>e c)]at h;have a:=d _ _ _ c;have b:=d _ _ _ h;omega
 ·rw[aj c]at h;exact absurd h c
def alW{s:Q0}(h:(fF s).2.2=0):aQ (fF s).1.length++(fF s).1=s.take (fF s).2.1:=by
 unfold fF at h⊢;by_cases a:(aB s).2.2=0;rotate_left
 ·rw[aj a]at h;exact absurd h a
 rw[ah (λe=>e a)]at h⊢;obtain⟨d,f,g,i,c⟩:=lF a;by_cases b:s.length-(aB s).2.1<(aB s).1
 ·rw[aj b]at h;cases h
 rw[ah b];simp only[lN,fH];rw[LJ (by omega),c,DV]
def asN{s:Q0}(h:(dV s).2.2=0):jc (dV s).1=s.take (dV s).2.1:=by obtain⟨_,_,_,_,_,a,b,c,d⟩:=U9 h;rw[c,d];unfold jc;simp only;have e:=alW a;have f:=alW b;rw[e,List.append_assoc,f,DV]
def agk:∀(m:Nat)(p:Option dK)(s:Q0),(gJ m p s).2.2=0->(gJ m p s).1.flatMap jc=s.take (gJ m p s).2.1/\tZ (p.map (·.1)) (gJ m p s).1=0
 |0,p,s,_=>by simp[gJ,tZ]
 |m+1,p,s,h=>by
  rw[U3]at h⊢;by_cases h1:(dV s).2.2=0;rotate_left
  ·rw[aj h1]at h;exact absurd h h1
  rw[ah (λe=>e h1)]at h⊢;by_cases b:AA p (dV s).1=0;rotate_left
  ·rw[aj b]at h;exact absurd h b
  rw[ah (λe=>e b)]at h⊢;by_cases c:(gJ m (some (dV s).1) (s.drop (dV s).2.1)).2.2=0;rotate_left
  ·rw[aj c]at h;exact absurd h c
  rw[ah (λe=>e c)];obtain⟨i,d⟩:=agk m (some (dV s).1) _ c;obtain⟨_,_,j,_⟩:=U9 h1;have l:=asN h1;refine⟨by simp only[kE,i,l,DV],?_⟩;unfold tZ;rw[ah (λe=>e j)];cases p with
  |none=>exact d
  |some k=>
   have a:zJ k.1 (dV s).1.1=0:=b;unfold zJ at a;simp only[gZ];by_cases f:(dV s).1.1=k.1
   ·rw[aj f]at a;exact absurd a (by decide)
   rw[ah f]at a⊢;by_cases g:Op.bytesLess (dV s).1.1 k.1=true
   ·rw[aj g]at a;exact absurd a (by decide)
   rw[ah g];exact d
structure DOk(d:List dK)(key:Q0):Prop where
 chk:xY d=0
 few:iL d=true
 ents:sU d
 put:dG d=key
def asA{s:Q0}(h:(oC s).2.2=0)(n:s.length<=100000000):DOk (oC s).1 (s.take (oC s).2.1):=by
 obtain⟨d,o,p,b,e,f,q⟩:=agl h;obtain⟨r,g,c⟩:=ZL _ _ _ b;obtain⟨i,j⟩:=agk _ _ _ b;obtain⟨t,u,v,w,k⟩:=lF d;rw[e,f];refine⟨?_,?_,⟨by omega,λx a=>?_⟩,?_⟩
 ·unfold xY;rw[dA,dA];exact j
 ·unfold iL;rw[aK,decide_eq_true_iff,List.all_eq_true];refine⟨λx a=>?_,by omega⟩;obtain⟨l,m⟩:=ZR (c x a).1;unfold vO;rw[decide_eq_true_iff];omega
 ·obtain⟨l,m⟩:=ZR (c x a).1;omega
 ·unfold dG;rw[g,k,i,DV]
def agr{s:Q0}(h:(rZ s).2=0)(c:s.length<=100000000):DOk (rZ s).1 s:=by
 unfold rZ at h⊢;by_cases a:(oC s).2.2=0;rotate_left
 ·rw[aj a]at h;exact absurd h a
 rw[ah (λe=>e a)]at h⊢;by_cases b:(oC s).2.1<s.length
 ·rw[aj b]at h;exact absurd h (by simp)
 rw[ah b];have:=asA a c;rw[lG (by omega)]at this;exact this
def azB{s a:Q0}{first:Bool}(h:(bM s a first).2.2=0)(f:first=true->a=[]):sJ a (bM s a first).1=s.take (bM s a first).2.1/\(first=false->a<(bM s a first).1):=by
 have k:(if first=true then[]else a)=a:=by
  cases first with
  |true=>rw[aj rfl,f rfl]
  |false=>rfl
 unfold bM at h⊢;simp only[k]at h⊢;by_cases b:(aB s).2.2=0;rotate_left
 ·rw[aj b]at h;exact absurd h b
 rw[ah (λe=>e b)]at h⊢;by_cases g:a.length<(aB s).1
 ·rw[aj g]at h;exact absurd h (by simp[nX])
 rw[ah g]at h⊢;by_cases c:(aB (s.drop (aB s).2.1)).2.2=0;rotate_left
 ·rw[aj c]at h;exact absurd h c
 rw[ah (λe=>e c)]at h⊢;by_cases i:s.length-((aB s).2.1+(aB (s.drop (aB s).2.1)).2.1)<(aB (s.drop (aB s).2.1)).1
 ·rw[aj i]at h;exact absurd h (by simp[nX])
 rw[ah i]at h⊢;obtain⟨u,v,w,x,l⟩:=lF b;obtain⟨y,z,A,B,m⟩:=lF c;have n:((s.drop ((aB s).2.1+(aB (s.drop (aB s).2.1)).2.1)).take (aB (s.drop (aB s).2.1)).1).length=(aB (s.drop (aB s).2.1)).1:=by rw[lN,fH];omega
 generalize o:(s.drop ((aB s).2.1+(aB (s.drop (aB s).2.1)).2.1)).take (aB (s.drop (aB s).2.1)).1=X at *;by_cases d:first=false/\Op.bytesLess a (a.take (aB s).1++X)=false
 ·rw[aj d]at h;exact absurd h (by simp[nX])
 rw[ah d]at h⊢;by_cases j:(aB s).1<common a (a.take (aB s).1++X)
 ·rw[aj j]at h;exact absurd h (by simp[nX])
 rw[ah j];have p:=afR (aB s).1 a X (by omega);have q:common a (a.take (aB s).1++X)=(aB s).1:=by omega
 refine⟨?_,λf=>?_⟩
 ·unfold sJ;simp only[q];have r:(a.take (aB s).1++X).length-(aB s).1=(aB (s.drop (aB s).2.1)).1:=by rw[eP,lN,n];omega
  have t:(a.take (aB s).1++X).drop (aB s).1=X:=by rw[Yr (by rw[lN];omega)];rw[Io (by rw[lN];omega)];rfl
  rw[r,t,l,m,<-o];rw[DV,DV,<-rJ]
 ·simp only[f,true_and]at d;rw[<-Me];simpa using d
def ake:∀(m:Nat)(a:Q0)(first:Bool)(s:Q0),(iE m a first s).2.2=0->(first=true->a=[])->a.length+s.length<=100000000->
 ny a (iE m a first s).1=s.take (iE m a first s).2.1/\jC (iE m a first s).1/\(first=false->∀r∈(iE m a first s).1,a<K r)/\(∀r∈(iE m a first s).1,yB r=0/\iL r.1=true/\sU r.1/\0<=r.2/\r.2<18446744073709551616)
 |0,a,first,s,_,_,_=>by simp[iE,ny,jC]
 |m+1,a,first,s,h,n,B=>by
  rw[W9]at h⊢;by_cases h1:(bM s a first).2.2=0;rotate_left
  ·rw[aj h1]at h;exact absurd h h1
  rw[ah (λe=>e h1)]at h⊢;by_cases c:(iq (bM s a first).1 (s.drop (bM s a first).2.1)).2.2=0;rotate_left
  ·rw[aj c]at h;exact absurd h c
  rw[ah (λe=>e c)]at h⊢;by_cases d:(iE m (bM s a first).1 false (s.drop ((bM s a first).2.1+(iq (bM s a first).1 (s.drop (bM s a first).2.1)).2.1))).2.2=0;rotate_left
  ·rw[aj d]at h;exact absurd h d
  rw[ah (λe=>e d)];obtain⟨D,E,o⟩:=acs h1;obtain⟨p,j⟩:=azB h1 n;obtain⟨q,t,F,g,u⟩:=acG c;have v:(bM s a first).1.length<=a.length+(bM s a first).2.1:=by cases first<;>simp at o<;>omega
  obtain⟨G,H,I,J,w⟩:=lF t;have f:=agr q (by omega);obtain⟨x,y,k,z⟩:=ake m _ false _ d (λe=>by cases e) (by rw[fH];omega);have i:K (iq (bM s a first).1 (s.drop (bM s a first).2.1)).1=(bM s a first).1:=by rw[g];exact f.put
  have A:(iq (bM s a first).1 (s.drop (bM s a first).2.1)).1.2.toNat=(aB (s.drop (bM s a first).2.1)).1:=by rw[g];simp
  simp only;refine⟨?_,?_,λl r b=>?_,λr b=>?_⟩
  ·show sJ a (K _)++(aQ _++ny (K _) _)=_
   rw[i,A,x,p,w,<-u];rw[DV,DV,List.append_assoc]
  ·refine iZ.2 ⟨λr b=>?_,y⟩;rw[i];exact k rfl r b
  ·rcases bH.1 b with rfl|b
   ·rw[i];exact j l
   ·exact Ai (j l) (k rfl r b)
  ·rcases bH.1 b with rfl|b
   ·rw[g];refine⟨?_,f.few,f.ents,by simp only;omega,by simp only;omega⟩;rw[Oh];exact⟨f.chk,by simp only;omega⟩
   ·exact z r b
structure Ar(t:List Row):Prop where
 ok:Ok t
 few:yJ t
 rows:Rows t
def Ar.tb{t:List Row}(h:Ar t):oz t=0:=(wO t).2 h.ok
def awz{s:Q0}(h:(nT s).2.2=0)(l:s.length<=100000000):pY (nT s).1=s.take (nT s).2.1/\Ar (nT s).1:=by obtain⟨d,m,c,e,f,n⟩:=aif h;obtain⟨o,p,q,t,g⟩:=lF d;obtain⟨u,i⟩:=acr _ _ _ _ c;obtain⟨j,k,_,b⟩:=ake _ _ _ _ c (λ_=>rfl) (by rw[fH];simp;omega);rw[e,f];refine⟨?_,⟨by omega,k,λr a=>(b r a).1⟩,λr a=>(b r a).2.1,by omega,λr a=>(b r a).2.2⟩;unfold pY;rw[i,g,j,DV]
def alZ:Ar []:=⟨⟨by simp,List.Pairwise.nil,by simp⟩,λr a=>by simp at a,by simp,by simp⟩
def aE6{s:Q0}(d:s.length<=100000000):Ar (sK s).1/\((sK s).2=0->pY (sK s).1=s)/\((sK s).2≠0->(sK s).1=[]):=by
 unfold sK;by_cases a:(nT s).2.2=0;rotate_left
 ·rw[aj a];exact⟨alZ,λh=>absurd h a,λ_=>rfl⟩
 rw[ah (λe=>e a)];by_cases b:(nT s).2.1<s.length
 ·rw[aj b];exact⟨alZ,λh=>absurd h (by decide),λ_=>rfl⟩
 rw[ah b];obtain⟨c,f⟩:=awz a d;rw[lG (by omega)]at c;exact⟨f,λ_=>c,λh=>absurd rfl h⟩
def Ar.len{t:List Row}(h:Ar t):t.length<=256:=h.ok.1
def Ar.good{t:List Row}(h:Ar t):dU t:=⟨Nat.le_trans h.len (by decide),h.few,h.rows⟩
def alV(a x:Q0)(c:a.length<=100000000):fF (aQ a.length++(a++x))=(a,(aQ a.length).length+a.length,0):=by
 have h:=FD a.length (a++x) (by omega);unfold fF;rw[h];simp only[ne_eq,not_true_eq_false,if_false];have b:(aQ a.length++(a++x)).length=(aQ a.length).length+(a.length+x.length):=by simp
 rw[b,dA,tu,Tc]
def asM(e:dK)(y:Q0)(h:uh e=0):dV (jc e++y)=(e,(jc e).length,0):=by
 obtain⟨i,j⟩:=ZR h;have a:jc e++y=aQ e.1.length++(e.1++(aQ e.2.length++(e.2++y))):=by unfold jc;simp
 have b:=alV e.1 (aQ e.2.length++(e.2++y)) (by omega);have c:=alV e.2 y (by omega);have d:(aQ e.1.length++(e.1++(aQ e.2.length++(e.2++y)))).drop ((aQ e.1.length).length+e.1.length)=aQ e.2.length++(e.2++y):=by rw[<-List.append_assoc,<-eP,tu]
 have f:(jc e).length=(aQ e.1.length).length+e.1.length+((aQ e.2.length).length+e.2.length):=by unfold jc;simp;omega
 unfold dV;rw[a,b];simp only[ne_eq,not_true_eq_false,if_false,d,c];have g:uh (e.1,e.2)=0:=h;rw[g,f];simp
def aoh{p:Option Q0}{x:dK}{xs:List dK}(h:tZ p (x::xs)=0):uh x=0/\(∀k,p=some k->zJ k x.1=0)/\tZ (some x.1) xs=0:=by
 unfold tZ at h;by_cases a:uh x=0;rotate_left
 ·rw[aj a]at h;exact absurd h a
 rw[ah (λe=>e a)]at h;cases p with
 |none=>exact⟨a,(λk b=>by cases b),h⟩
 |some k=>
  simp only at h;by_cases c:x.1=k
  ·rw[aj c]at h;exact absurd h (by decide)
  rw[ah c]at h;by_cases d:Op.bytesLess x.1 k=true
  ·rw[aj d]at h;exact absurd h (by decide)
  rw[ah d]at h;refine⟨a,λf b=>?_,h⟩;cases b;unfold zJ;rw[ah c,ah d]
def agj:∀(d:List dK)(p:Option dK)(y:Q0),tZ (p.map (·.1)) d=0->gJ d.length p (d.flatMap jc++y)=(d,(d.flatMap jc).length,0)
 |[],p,y,_=>by simp[gJ]
 |x::d,p,y,h=>by
  obtain⟨h1,a,b⟩:=aoh h;have c:=asM x (d.flatMap jc++y) h1;have e:(x::d).flatMap jc++y=jc x++(d.flatMap jc++y):=by simp
  have f:=agj d (some x) y b;have g:AA p x=0:=by
   cases p with
   |none=>rfl
   |some k=>exact a k.1 rfl
  rw[gV,U3,e,c];simp only[ne_eq,not_true_eq_false,if_false,tu,g,f];simp
def asz(d:List dK)(y:Q0)(h:xY d=0):oC (dG d++y)=(d,(dG d).length,0):=by
 unfold xY at h;by_cases a:d.length=0
 ·rw[aj a]at h;exact absurd h (by decide)
 rw[ah a]at h;by_cases b:16<d.length
 ·rw[aj b]at h;exact absurd h (by decide)
 rw[ah b]at h;have c:=FD d.length (d.flatMap jc++y) (by omega);have e:dG d++y=aQ d.length++(d.flatMap jc++y):=by unfold dG;simp
 have f:=agj d none y h;unfold oC;rw[e,c];simp only[ne_eq,not_true_eq_false,if_false,a,b,tu,f];unfold dG;simp
def agq(d:List dK)(h:xY d=0):rZ (dG d)=(d,0):=by have:=asz d [] h;rw[qp]at this;unfold rZ;rw[this];simp
def aoN(a s:Q0):a.take (common a s)++s.drop (common a s)=s:=by rw[afS,Iu]
def azA(a t y:Q0)(first:Bool)(b:first=true->a=[])(c:first=false->a<t)(n:t.length<=100000000):bM (sJ a t++y) a first=(t,(sJ a t).length,0):=by
 have d:(if first=true then[]else a)=a:=by
  cases first with
  |true=>rw[aj rfl,b rfl]
  |false=>rfl
 obtain⟨o,p⟩:=UY a t;have e:sJ a t++y=aQ (common a t)++(aQ (t.length-common a t)++(t.drop (common a t)++y)):=by unfold sJ;simp
 have f:=FD (common a t) (aQ (t.length-common a t)++(t.drop (common a t)++y)) (by omega);have g:=FD (t.length-common a t) (t.drop (common a t)++y) (by omega);have h:(sJ a t).length=(aQ (common a t)).length+(aQ (t.length-common a t)).length+(t.length-common a t):=by unfold sJ;simp;omega
 have i:(aQ (common a t)++(aQ (t.length-common a t)++(t.drop (common a t)++y))).drop ((aQ (common a t)).length+(aQ (t.length-common a t)).length)=t.drop (common a t)++y:=by rw[<-List.append_assoc,<-eP,tu]
 have j:(t.drop (common a t)++y).take (t.length-common a t)=t.drop (common a t):=by rw[<-fH,Tc]
 have k:¬(first=false/\Op.bytesLess a t=false):=by
  rintro⟨l,m⟩
  have:=(Me a t).2 (c l);rw[m]at this;cases this
 unfold bM;simp only[d];rw[e,f];simp only[ne_eq,not_true_eq_false,if_false,tu,g,i,j,aoN];rw[dA,ah (by simp;omega),ah k,dA,h]
def akd:∀(l:List Row)(a:Q0)(first:Bool)(y:Q0),(first=true->a=[])->(first=false->∀r∈l,a<K r)->jC l->(∀r∈l,yB r=0/\iL r.1=true/\0<=r.2/\r.2<18446744073709551616)->
 iE l.length a first (ny a l++y)=(l,(ny a l).length,0)
 |[],a,first,y,_,_,_,_=>by simp[iE,ny]
 |r::l,a,first,y,g,h,i,d=>by
  obtain⟨h1,j⟩:=iZ.1 i;obtain⟨f,k,t,u⟩:=d r (by simp);have v:(K r).length<=30000:=QH k;rw[Oh]at f;have m:ny a (r::l)++y=sJ a (K r)++(aQ r.2.toNat++(ny (K r) l++y)):=by simp[ny]
  have n:=azA a (K r) (aQ r.2.toNat++(ny (K r) l++y)) first g (λe=>h e r (by simp)) (by omega)
  have o:=FD r.2.toNat (ny (K r) l++y) (by omega);have p:=agq r.1 f.1;have s:=akd l (K r) false y (λe=>by cases e) (λ_=>h1) j λq b=>d q (by simp[b]);have c:(sJ a (K r)++(aQ r.2.toNat++(ny (K r) l++y))).drop ((sJ a (K r)).length+(aQ r.2.toNat).length)=ny (K r) l++y:=by rw[<-List.append_assoc,<-eP,tu]
  have b:iq (K r) (aQ r.2.toNat++(ny (K r) l++y))=(r,(aQ r.2.toNat).length,0):=by
   unfold iq;rw[o,p];simp only[ne_eq,not_true_eq_false,if_false];rw[dA];have:((r.2.toNat:Nat):Int)=r.2:=by omega
   rw[this]
  rw[gV,W9,m,n];simp only[ne_eq,not_true_eq_false,if_false,tu,b,c,s];simp[ny,jL]
def awy(t:List Row)(y:Q0)(h:Ar t):nT (pY t++y)=(t,(pY t).length,0):=by
 have f:=h.len;have b:=FD t.length (ny [] t++y) (by omega);have c:pY t++y=aQ t.length++(ny [] t++y):=by unfold pY;simp
 have d:=akd t [] true y (λ_=>rfl) (λe=>by cases e) h.ok.2.1 λr a=>⟨h.ok.2.2 r a,h.few r a,(h.rows.2 r a).2.1,(h.rows.2 r a).2.2⟩
 unfold nT;rw[c,b];simp only[ne_eq,not_true_eq_false,if_false,tu,d];rw[dA];unfold pY;simp
def aE5(t:List Row)(h:Ar t):sK (pY t)=(t,0):=by have:=awy t [] h;rw[qp]at this;unfold sK;rw[this];simp
structure One where
 deep:Int
 tag:Int
 typ:Int
 num:Int
 text:Q0
inductive aI where
 |mk (tag typ num:Int) (text:Q0) (l:List aI)
def one(x:One):GV:=.g [.i .u8 x.deep,.zu x.tag,.i .i8 x.typ,.zu x.num,.s x.text]
@[simp] theorem aIi(x:One):(one x).cells=[.i .u8 x.deep,.zu x.tag,.i .i8 x.typ,.zu x.num,.s x.text]:=rfl
mutual
def qC:aI->GV
 |.mk t y n s l=>.g [.zu t,.zq y,.zu n,.s s,.l (aG l)]
def aG:List aI->List GV
 |[]=>[]
 |f::l=>qC f::aG l
end
def pR:∀(a:List aI),(aG a).length=a.length
 |[]=>rfl
 |f::a=>by simp only[aG,gV,pR a]
structure aO where
 kind:Int
 id:Int
 min:Int
 max:Int
 chosen:Int
 flags:Int
 cost:Int
 priority:Int
 deadline:Int
 retry:Int
 epoch:Int
 base:Int
 digest:Int
 lag:Int
 code:Int
 want:Int
 remaining:Int
 allowed:Bool
 name:Q0
 region:Q0
 note:Q0
 d:List dK
 t:List Row
def iM(b:aO)(r:Q1):GV:=.g [.zq b.kind,.zu b.id,.zu b.min,.zu b.max,.zu b.chosen,.zu b.flags,.zu b.cost,.zu b.priority,.zu b.deadline,.zu b.retry,.zu b.epoch,.zu b.base,.zu b.digest,.zu b.lag,.zu b.code,.zu b.want,.zq b.remaining,.b b.allowed,.s b.name,.s b.region,.s b.note,.l (b.d.map ent),.l (b.t.map row),.l r]
def lC(b:aO)(r:Q1):GV.g [.zq b.kind,.zu b.id,.zu b.min,.zu b.max,.zu b.chosen,.zu b.flags,.zu b.cost,.zu b.priority,.zu b.deadline,.zu b.retry,.zu b.epoch,.zu b.base,.zu b.digest,.zu b.lag,.zu b.code,.zu b.want,.zq b.remaining,.b b.allowed,.s b.name,.s b.region,.s b.note,.l (b.d.map ent),.l (b.t.map row),.l r]=iM b r:=rfl
@[simp] theorem eY(b:aO)(r:Q1):(iM b r).cells=[.zq b.kind,.zu b.id,.zu b.min,.zu b.max,.zu b.chosen,.zu b.flags,.zu b.cost,.zu b.priority,.zu b.deadline,.zu b.retry,.zu b.epoch,.zu b.base,.zu b.digest,.zu b.lag,.zu b.code,.zu b.want,.zq b.remaining,.b b.allowed,.s b.name,.s b.region,.s b.note,.l (b.d.map ent),.l (b.t.map row),.l r]:=rfl
structure vk(b:aO):Prop where
 kind: -9223372036854775808<=b.kind/\b.kind<=9223372036854775807
 id:0<=b.id/\b.id<18446744073709551616
 min:0<=b.min/\b.min<18446744073709551616
 max:0<=b.max/\b.max<18446744073709551616
 chosen:0<=b.chosen/\b.chosen<18446744073709551616
 flags:0<=b.flags/\b.flags<18446744073709551616
 cost:0<=b.cost/\b.cost<18446744073709551616
 priority:0<=b.priority/\b.priority<18446744073709551616
 deadline:0<=b.deadline/\b.deadline<18446744073709551616
 retry:0<=b.retry/\b.retry<18446744073709551616
 epoch:0<=b.epoch/\b.epoch<18446744073709551616
 base:0<=b.base/\b.base<18446744073709551616
 digest:0<=b.digest/\b.digest<18446744073709551616
 lag:0<=b.lag/\b.lag<18446744073709551616
 code:0<=b.code/\b.code<18446744073709551616
 want:0<=b.want/\b.want<18446744073709551616
 remaining: -9223372036854775808<=b.remaining/\b.remaining<=9223372036854775807
 name:b.name.length<=140737488351232
 region:b.region.length<=140737488351232
 note:b.note.length<=140737488351232
 d:sU b.d
 t:Rows b.t
def avi{k:IntKind}{g:GV}(h:(bU.int k).has g):∃n,g=.i k n/\k.min<=n/\n<=k.max:=by simp only[bU.has]at h;exact h
def aau{g:GV}(h:(bU.int .i64).has g):∃n,g=.zq n/\-9223372036854775808<=n/\n<=9223372036854775807:=by obtain⟨n,rfl,a,b⟩:=avi h;exact⟨n,rfl,by simpa[IntKind.min,IntKind.signed,IntKind.bits]using a,by simpa[IntKind.max,IntKind.signed,IntKind.bits]using b⟩
def sF(a c:Int)(n:Q0):aO:=⟨1,0,a,c,0,0,0,0,0,0,0,0,0,0,0,0,0,false,n,[],[],[],[]⟩
structure dQ where
 tag:Int
 use:Int
 from_:Int
 name:Q0
def fU(s:dQ):GV:=.g [.zu s.tag,.zq s.use,.zq s.from_,.s s.name]
@[simp] theorem aIz(s:dQ):(fU s).cells=[.zu s.tag,.zq s.use,.zq s.from_,.s s.name]:=rfl
def aD2(s:dQ):GV.g [.zu s.tag,.zq s.use,.zq s.from_,.s s.name]=fU s:=rfl
def sp1:List dQ:=[⟨1,0,1,[109,105,110]⟩,⟨2,0,1,[109,97,120]⟩,⟨3,3,1,[110,97,109,101]⟩,⟨4,3,2,[114,101,103,105,111,110]⟩,⟨5,0,3,[102,108,97,103,115]⟩]
def sp2:List dQ:=[⟨1,0,1,[99,104,111,115,101,110]⟩,⟨2,3,1,[110,97,109,101]⟩,⟨3,3,2,[114,101,103,105,111,110]⟩]
def E5:List dQ:=[⟨1,0,1,[105,100]⟩,⟨2,4,1,[100,101,115,99,114]⟩,⟨3,0,1,[99,111,115,116]⟩,⟨4,0,2,[112,114,105,111,114,105,116,121]⟩,⟨5,0,3,[100,101,97,100,108,105,110,101]⟩]
def E8:List dQ:=[⟨1,0,1,[105,100]⟩,⟨2,1,1,[97,108,108,111,119,101,100]⟩,⟨3,2,1,[114,101,109,97,105,110,105,110,103]⟩,⟨4,0,2,[114,101,116,114,121]⟩,⟨5,3,3,[110,111,116,101]⟩]
def E9:List dQ:=[⟨1,0,1,[101,112,111,99,104]⟩,⟨2,5,1,[116,97,98,108,101]⟩,⟨3,3,2,[114,101,103,105,111,110]⟩,⟨4,0,3,[100,105,103,101,115,116]⟩]
def Fb:List dQ:=[⟨1,0,2,[98,97,115,101]⟩,⟨2,0,2,[101,112,111,99,104]⟩,⟨3,5,2,[116,97,98,108,101]⟩,⟨4,3,2,[114,101,103,105,111,110]⟩,⟨5,0,3,[100,105,103,101,115,116]⟩]
def Fe:List dQ:=[⟨1,0,1,[101,112,111,99,104]⟩,⟨2,0,3,[108,97,103]⟩]
def Fg:List dQ:=[⟨1,0,1,[101,112,111,99,104]⟩,⟨2,0,1,[99,111,100,101]⟩,⟨3,0,2,[119,97,110,116]⟩,⟨4,3,3,[110,111,116,101]⟩]
def zk(k:Int):List dQ:=if k=1 then sp1 else if k=2 then sp2 else if k=3 then E5 else if k=4 then E8 else if k=5 then E9 else if k=6 then Fb else if k=7 then Fe else if k=8 then Fg else[]
def pU(k:Int):Int:=if k=1 then 1 else if k=2 then 1 else if k=3 then 1 else if k=4 then 1 else if k=5 then 1 else if k=6 then 2 else if k=7 then 1 else if k=8 then 1 else 0
def aW(k v:Int):List dQ:=(zk k).filter λs=>decide (s.from_<=v)
def avv:TT.lim 69 []=some [.l (sp1.map fU)]:=by refine aT ?_;simp[sp1,fU]
def avr:TT.lim 71 []=some [.l (sp2.map fU)]:=by refine aT ?_;simp[sp2,fU]
def aoc:TT.lim 72 []=some [.l (E5.map fU)]:=by refine aT ?_;simp[E5,fU]
def aod:TT.lim 73 []=some [.l (E8.map fU)]:=by refine aT ?_;simp[E8,fU]
def at1:TT.lim 74 []=some [.l (E9.map fU)]:=by refine aT ?_;simp[E9,fU]
def asu:TT.lim 75 []=some [.l (Fb.map fU)]:=by refine aT ?_;simp[Fb,fU]
def amX:TT.lim 76 []=some [.l (Fe.map fU)]:=by refine aT ?_;simp[Fe,fU]
def aAM:TT.lim 77 []=some [.l (Fg.map fU)]:=by refine aT ?_;simp[Fg,fU]
def aaX(k:Int):TT.lim 67 [.zq k]=some [.zq (pU k)]:=by
 refine aT ?_;unfold pU;by_cases a:k=1
 ·simp[a]
 by_cases b:k=2
 ·simp[b]
 by_cases c:k=3
 ·simp[c]
 by_cases d:k=4
 ·simp[d]
 by_cases e:k=5
 ·simp[e]
 by_cases f:k=6
 ·simp[f]
 by_cases g:k=7
 ·simp[g]
 by_cases h:k=8
 ·simp[h]
 simp[a,b,c,d,e,f,g,h]
def aaZ(v:Int)(l:List dQ)(j:l.length<=8):∀(m i:Nat)(a:List dQ),i+m=l.length->a.length<=i->
 TT.lim 70 [.zq v,.l (a.map fU),.l (l.map fU),.zq l.length,.zq i]=some [.zq 0,.l ((a++(l.drop i).filter λs=>decide (s.from_<=v)).map fU)]
 |0,i,a,hi,p=>by
  have h0:l.drop i=[]:=ig;refine au ?_;have h:¬((i:Int)<l.length):=by omega
  simp[h,h0]
 |m+1,i,a,hi,p=>by
  have c:i<l.length:=by omega
  have k:=iC c;refine au ?_;have h:((i:Int)<l.length):=by omega
  have n:=bF ((i:Int)+1);have e:2*(a.length+1)*40<=281474976710656:=by omega
  have f:a.length<=281474976710655:=by omega
  have g:(fU l[i]).fP 4=true:=rfl;have b:((i:Int)+1)=((i+1:Nat):Int):=by omega
  by_cases o:l[i].from_<=v
  ·have d:=aaZ v l j m (i+1) (a++[l[i]]) (by omega) (by simp;omega);rw[<-b,nM]at d;simp only[iP,jI]at d;simp[-List.getElem_cons_drop,h,c,o,n,aD2,e,f,g,d,k]
  ·have d:=aaZ v l j m (i+1) a (by omega) (by omega);rw[<-b]at d;simp[-List.getElem_cons_drop,h,c,o,n,d,k]
def aD1(k:Int):(zk k).length<=8:=by
 unfold zk;repeat' split
 all_goals (first|(unfold sp1;decide)|(unfold sp2;decide)|(unfold E5;decide)|(unfold E8;decide)|(unfold E9;decide)|(unfold Fb;decide)|(unfold Fe;decide)|(unfold Fg;decide)|decide)
def GY(v:Int)(l:List dQ)(a:l.length<=8):TT.lim 70 [.zq v,.l [],.l (l.map fU),.zq l.length,.zq 0]=some [.zq 0,.l ((l.filter λs=>decide (s.from_<=v)).map fU)]:=by have:=aaZ v l a l.length 0 [] (by omega) (by simp);simpa using this
def Wi(k v:Int)(h1:1<=v)(E:v<=3)(d:pU k<=v):TT.lim 68 [.zq k,.zq v]=some [.l ((aW k v).map fU)]:=by
 have a:¬v<1:=by omega
 have b:¬3<v:=by omega
 unfold aW zk;unfold pU at d;have m:=GY v sp1 (by decide);have n:=GY v sp2 (by decide);have o:=GY v E5 (by decide);have p:=GY v E8 (by decide);have q:=GY v E9 (by decide);have r:=GY v Fb (by decide);have s:=GY v Fe (by decide);have g8:=GY v Fg (by decide);have t:=avv;have u:=avr;have w:=aoc;have x:=aod;have y:=at1;have z:=asu;have A:=amX;have B:=aAM;generalize sp1=F,sp2=G,E5=H,E8=I,E9=J,Fb=L,Fe=M,Fg=N at *;refine aT ?_;by_cases e:k=1
 ·simp[e,a,b,t,m]
 by_cases f:k=2
 ·simp[f,a,b,u,n]
 by_cases g:k=3
 ·simp[g,a,b,w,o]
 by_cases h:k=4
 ·simp[h,a,b,x,p]
 by_cases i:k=5
 ·simp[i,a,b,y,q]
 by_cases c:k=6
 ·have D:¬v<2:=by subst c;simpa using d
  simp[c,a,D,b,z,r]
 by_cases j:k=7
 ·simp[j,a,b,A,s]
 by_cases l:k=8
 ·simp[l,a,b,B,g8]
 simp[e,f,g,h,i,c,j,l]
def aip(k v:Int)(h1:1<=v)(j:v<=3):aW k v=[]↔pU k=0\/v<pU k:=by
 have a:v=1\/v=2\/v=3:=by omega
 unfold aW zk pU;by_cases b:k=1
 ·subst b;rcases a with rfl|rfl|rfl<;>decide
 by_cases c:k=2
 ·subst c;rcases a with rfl|rfl|rfl<;>decide
 by_cases d:k=3
 ·subst d;rcases a with rfl|rfl|rfl<;>decide
 by_cases e:k=4
 ·subst e;rcases a with rfl|rfl|rfl<;>decide
 by_cases f:k=5
 ·subst f;rcases a with rfl|rfl|rfl<;>decide
 by_cases g:k=6
 ·subst g;rcases a with rfl|rfl|rfl<;>decide
 by_cases h:k=7
 ·subst h;rcases a with rfl|rfl|rfl<;>decide
 by_cases i:k=8
 ·subst i;rcases a with rfl|rfl|rfl<;>decide
 simp[b,c,d,e,f,g,h,i]
def aI.tag:aI->Int
 |.mk t _ _ _ _=>t
def CU:∀(a:List aI),aG a=a.map qC
 |[]=>rfl
 |f::a=>by simp only[aG,iP,CU a]
mutual
def wB:aI->Nat
 |.mk _ _ _ _ l=>dH l+1
def dH:List aI->Nat
 |[]=>0
 |f::l=>wB f+dH l+1
end
mutual
def uj:aI->Prop
 |.mk t y n s k=>(0<=t/\t<18446744073709551616/\-128<=y/\y<=127/\0<=n/\n<18446744073709551616/\s.length<=100000000/\k.length<=1000000)/\eU k
def eU:List aI->Prop
 |[]=>True
 |f::r=>uj f/\eU r
end
def GI:∀{l:List aI},eU l->∀f∈l,uj f
 |f::l,h,g,a=>by
  simp only[eU]at h;rcases bH.1 a with rfl|a
  ·exact h.1
  ·exact GI h.2 g a
def XW:∀{l:List aI}{f:aI},f∈l->wB f<dH l
 |g::l,f,h=>by
  simp only[dH];rcases bH.1 h with rfl|h
  ·omega
  ·have:=XW h;omega
mutual
def zL(w:Nat):aI->Int
 |.mk _ y n s k=>if y=0 then(if s=[]/\k=[]then 0 else 8)else if y=1 then(if n=0/\k=[]then 0 else 8)else if y=2 then(if n=0/\s=[]then(if 8<=w then 9 else jy (w+1) 0 k)else 8)else 8
def jy(w:Nat)(ahead:Int):List aI->Int
 |[]=>0
 |f::r=>if f.tag=0 then 18 else if 4294967296<f.tag then 18 else if f.tag<=ahead then 7 else if zL w f≠0 then zL w f else jy w f.tag r
end
@[simp] theorem MZ(t y n:Int)(s:Q0)(k:List aI):(qC (.mk t y n s k)).cells=[.zu t,.zq y,.zu n,.s s,.l (aG k)]:=by simp only[qC];rfl
def atS(k:List aI):(aG k).length=0↔k=[]:=by rw[pR,aef]
def agR:∀(N:Nat)(l:List aI),dH l<N->eU l->l.length<=1000000->∀w:Nat,w<=8->TT.lim 106 [.l (aG l),.zq w]=some [.zq (jy w 0 l)]
 |0,l,h,_,_,_,_=>by omega
 |N+1,l,S,G,J,w,P=>by
  have loop:∀m i (ahead:Int),i+m=l.length->TT.lim 107 [.zq w,.zu ahead,.l (aG l),.zq l.length,.zq i]=some (if jy w ahead (l.drop i)=0 then[.zq 1]else[.zq 0,.zq (jy w ahead (l.drop i))]):=by
   intro m;induction m with
   |zero=>
    intro i ahead hi;have r:l.drop i=[]:=ig;refine au ?_;have h:¬((i:Int)<l.length):=by omega
    simp[h,r,jy]
   |succ m Q=>
    intro i ahead hi;have q:i<l.length:=by omega
    rw[iC q];have H:=GI G l[i] (gX q);have R:=XW (gX q);have b:(aG l)[i]? =some (qC l[i]):=by rw[CU,iY,bT q];rfl
    have u:((i:Int)+1)=((i+1:Nat):Int):=by omega
    have c:=λa=>Q (i+1) a (by omega);simp only[<-u]at c;generalize l[i]=f at *;obtain⟨t,y,n,s,k⟩:=f;simp only[uj]at H;simp only[wB]at R;have g:=bF ((i:Int)+1);have A:=bF ((w:Int)+1);refine au ?_;have h:((i:Int)<l.length):=by omega
    have z:=λh=>agR N k (by omega) H.2 H.1.2.2.2.2.2.2.2 (w+1) h;simp only[FP,Int.natCast_one]at z;have B:((aG k).length=0)=(k=[]):=propext (atS k);simp only[jy,aI.tag];by_cases d:t=0
    ·simp[h,b,d]
    by_cases e:4294967296<t
    ·simp[h,b,d,e]
    by_cases j:t<=ahead
    ·simp[h,b,d,e,j]
    simp only[zL];by_cases L:y=0
    ·subst L;by_cases o:s=[]
     ·by_cases p:k=[]
      ·simp[h,b,d,e,j,o,p,g,c,aG]
      ·simp[h,b,d,e,j,o,p,g,c,B]
     ·simp[h,b,d,e,j,o]
    by_cases M:y=1
    ·subst M;by_cases o:n=0
     ·by_cases p:k=[]
      ·simp[h,b,d,e,j,o,p,g,c,aG]
      ·simp[h,b,d,e,j,o,p,g,c,B]
     ·simp[h,b,d,e,j,o]
    by_cases O:y=2
    ·subst O;by_cases o:n=0
     ·by_cases p:s=[]
      ·by_cases I:8<=w
       ·have E:(8:Int)<=w:=by omega
        simp[h,b,d,e,j,o,p,I,E]
       ·have E:¬(8:Int)<=w:=by omega
        have z:=z (by omega);by_cases v:jy (w+1) 0 k=0
        ·rw[v]at z;simp[h,b,d,e,j,o,p,I,E,A,z,v,g,c,aI.tag]
        ·simp[h,b,d,e,j,o,p,I,E,A,z,v,g,c,aI.tag]
      ·simp[h,b,d,e,j,o,p]
     ·simp[h,b,d,e,j,o]
    simp[h,b,d,e,j,L,M,O]
  have r:=loop l.length 0 0 (by omega);rw[dN]at r;refine aT ?_;have D:=pR l;by_cases F:jy w 0 l=0
  ·rw[aj F]at r;have x:TT.lim 107 [.zq w,.zu 0,.l (aG l),.zq (aG l).length,.zq 0]=some [.zq 1]:=by rw[D];exact r
   simp[x,F]
  ·rw[ah F]at r;have x:TT.lim 107 [.zq w,.zu 0,.l (aG l),.zq (aG l).length,.zq 0]=some [.zq 0,.zq (jy w 0 l)]:=by rw[D];exact r
   simp[x,F]
def Vg(l:List aI)(b:eU l)(a:l.length<=1000000):TT.lim 105 [.l (aG l)]=some [.zq (jy 0 0 l)]:=by have h:=agR (dH l+1) l (by omega) b a 0 (by omega);have c:TT.lim 106 [.l (aG l),.zq 0]=_:=h;refine aT ?_;simp[c]
inductive Pl where
 |rem|allow|name|region|note|d|t
 |num (k:Nat)
def J6:Q0:=[114,101,109,97,105,110,105,110,103]
def JK:Q0:=[97,108,108,111,119,101,100]
def J3:Q0:=[110,97,109,101]
def J5:Q0:=[114,101,103,105,111,110]
def EI:Q0:=[110,111,116,101]
def JR:Q0:=[100,101,115,99,114]
def J8:Q0:=[116,97,98,108,101]
def JW:Q0:=[105,100]
def JZ:Q0:=[109,105,110]
def JY:Q0:=[109,97,120]
def JM:Q0:=[99,104,111,115,101,110]
def JV:Q0:=[102,108,97,103,115]
def JO:Q0:=[99,111,115,116]
def J4:Q0:=[112,114,105,111,114,105,116,121]
def JQ:Q0:=[100,101,97,100,108,105,110,101]
def J7:Q0:=[114,101,116,114,121]
def Bl:Q0:=[101,112,111,99,104]
def JL:Q0:=[98,97,115,101]
def JU:Q0:=[100,105,103,101,115,116]
def JX:Q0:=[108,97,103]
def Bj:Q0:=[99,111,100,101]
def Df:Q0:=[119,97,110,116]
def placeOf(n:Q0):Option Pl:=
 if n=J6 then some .rem else if n=JK then some .allow else if n=J3 then some .name else if n=J5 then some .region else if n=EI then some .note else if n=JR then some .d else if n=J8 then some .t else if n=JW then some (.num 0)else if n=JZ then some (.num 1)else if n=JY then some (.num 2)else if n=JM then some (.num 3)else if n=JV then some (.num 4)else if n=JO then some (.num 5)else if n=J4 then some (.num 6)else if n=JQ then some (.num 7)else if n=J7 then some (.num 8)else if n=Bl then some (.num 9)else if n=JL then some (.num 10)else if n=JU then some (.num 11)else if n=JX then some (.num 12)else if n=Bj then some (.num 13)else if n=Df then some (.num 14)else none
def aj6:placeOf J6=some .rem:=rfl
def ajM:placeOf JK=some .allow:=rfl
def aj0:placeOf J3=some .name:=rfl
def aj3:placeOf J5=some .region:=rfl
def aj1:placeOf EI=some .note:=rfl
def ajS:placeOf JR=some .d:=rfl
def aj8:placeOf J8=some .t:=rfl
def ajW:placeOf JW=some (.num 0):=rfl
def ajZ:placeOf JZ=some (.num 1):=rfl
def ajY:placeOf JY=some (.num 2):=rfl
def ajO:placeOf JM=some (.num 3):=rfl
def ajV:placeOf JV=some (.num 4):=rfl
def ajQ:placeOf JO=some (.num 5):=rfl
def aj2:placeOf J4=some (.num 6):=rfl
def ajR:placeOf JQ=some (.num 7):=rfl
def aj7:placeOf J7=some (.num 8):=rfl
def ajU:placeOf Bl=some (.num 9):=rfl
def ajN:placeOf JL=some (.num 10):=rfl
def ajT:placeOf JU=some (.num 11):=rfl
def ajX:placeOf JX=some (.num 12):=rfl
def ajP:placeOf Bj=some (.num 13):=rfl
def aj9:placeOf Df=some (.num 14):=rfl
def pW(b:aO)(k:Nat):Int:=match k with
 |0=>b.id
 |1=>b.min
 |2=>b.max
 |3=>b.chosen
 |4=>b.flags
 |5=>b.cost
 |6=>b.priority
 |7=>b.deadline
 |8=>b.retry
 |9=>b.epoch
 |10=>b.base
 |11=>b.digest
 |12=>b.lag
 |13=>b.code
 |_=>b.want
def iV(b:aO):Pl->Bool
 |.rem=>decide (b.remaining=0)
 |.allow=>!b.allowed
 |.name=>decide (b.name=[])
 |.region=>decide (b.region=[])
 |.note=>decide (b.note=[])
 |.d=>decide (b.d=[])
 |.t=>decide (b.t=[])
 |.num k=>decide (pW b k=0)
def qL(b:aO)(n:Q0):Bool:=match placeOf n with
 |some p=>iV b p
 |none=>true
def mZ(b:aO):Pl->Int
 |.name=>qP b.name 0 256
 |.region=>qP b.region 0 256
 |.note=>qP b.note 0 256
 |.d=>if b.d=[]then 0 else xY b.d
 |.t=>oz b.t
 |_=>0
def yu(b:aO)(n:Q0):Int:=match placeOf n with
 |some p=>mZ b p
 |none=>0
def zz(x:Int):Int:=if 0<=x then 2*x else -2*x-1
def aZ(b:aO):Pl->Int×Q0
 |.rem=>(zz b.remaining,[])
 |.allow=>(if b.allowed=true then 1 else 0,[])
 |.name=>(0,b.name)
 |.region=>(0,b.region)
 |.note=>(0,b.note)
 |.d=>(0,if b.d=[]then[]else dG b.d)
 |.t=>(0,if b.t=[]then[]else(EP b.t).1)
 |.num k=>(pW b k,[])
def dP:Pl->Int
 |.num _=>0
 |.rem=>0
 |.allow=>0
 |_=>1
def aFo:Pl->Int
 |.num _=>0
 |.allow=>1
 |.rem=>2
 |.d=>4
 |.t=>5
 |_=>3
def nameOf:Pl->List UInt8
 |.rem=>J6
 |.allow=>JK
 |.name=>J3
 |.region=>J5
 |.note=>EI
 |.d=>JR
 |.t=>J8
 |.num k=>match k with
  |0=>JW
  |1=>JZ
  |2=>JY
  |3=>JM
  |4=>JV
  |5=>JO
  |6=>J4
  |7=>JQ
  |8=>J7
  |9=>Bl
  |10=>JL
  |11=>JU
  |12=>JX
  |13=>Bj
  |_=>Df
def Hq:Pl->Prop
 |.num k=>k<15
 |_=>True
def awr{c:Prop}[Decidable c]{a b:Option Pl}{p:Pl}(h:(if c then a else b)=some p):(c/\a=some p)\/(¬c/\b=some p):=by
 by_cases e:c
 ·rw[aj e]at h;exact .inl ⟨e,h⟩
 ·rw[ah e]at h;exact .inr ⟨e,h⟩
def zX(n:Q0)(p:Pl)(h:placeOf n=some p):n=nameOf p/\Hq p/\n∈iH:=by
 unfold placeOf at h
 iterate 22
  replace h:=awr h
  rcases h with⟨e,h⟩|⟨-,h⟩
  ·cases h;subst e;exact⟨rfl,by first|exact trivial|exact(show _<15 by decide),by decide⟩
 cases h
def akb{a b:Q0}{p:Pl}(c:placeOf a=some p)(d:placeOf b=some p):a=b:=by rw[(zX a p c).1,(zX b p d).1]
def awn{n m:Q0}{p q:Pl}(b:placeOf n=some p)(a:placeOf m=some q):(n=m)=(p=q):=
 propext ⟨λe=>by subst e;rw[b]at a;cases a;rfl,λe=>by subst e;exact akb b a⟩
def VZ{n:Q0}{p:Pl}(a:placeOf n=some p):((n=[114,101,109,97,105,110,105,110,103])=(p=.rem))/\((n=[97,108,108,111,119,101,100])=(p=.allow))/\((n=[110,97,109,101])=(p=.name))/\((n=[114,101,103,105,111,110])=(p=.region))/\((n=[110,111,116,101])=(p=.note))/\((n=[100,101,115,99,114])=(p=.d))/\((n=[116,97,98,108,101])=(p=.t))/\((n=[105,100])=(p=.num 0))/\((n=[109,105,110])=(p=.num 1))/\((n=[109,97,120])=(p=.num 2))/\((n=[99,104,111,115,101,110])=(p=.num 3))/\((n=[102,108,97,103,115])=(p=.num 4))/\((n=[99,111,115,116])=(p=.num 5))/\((n=[112,114,105,111,114,105,116,121])=(p=.num 6))/\((n=[100,101,97,100,108,105,110,101])=(p=.num 7))/\((n=[114,101,116,114,121])=(p=.num 8))/\((n=[101,112,111,99,104])=(p=.num 9))/\((n=[98,97,115,101])=(p=.num 10))/\((n=[100,105,103,101,115,116])=(p=.num 11))/\((n=[108,97,103])=(p=.num 12))/\((n=[99,111,100,101])=(p=.num 13))/\((n=[119,97,110,116])=(p=.num 14)):=by and_intros<;>exact awn a rfl
def ah7{n:Q0}(h:placeOf n=none):((n=[114,101,109,97,105,110,105,110,103])=False)/\((n=[97,108,108,111,119,101,100])=False)/\((n=[110,97,109,101])=False)/\((n=[114,101,103,105,111,110])=False)/\((n=[110,111,116,101])=False)/\((n=[100,101,115,99,114])=False)/\((n=[116,97,98,108,101])=False)/\((n=[105,100])=False)/\((n=[109,105,110])=False)/\((n=[109,97,120])=False)/\((n=[99,104,111,115,101,110])=False)/\((n=[102,108,97,103,115])=False)/\((n=[99,111,115,116])=False)/\((n=[112,114,105,111,114,105,116,121])=False)/\((n=[100,101,97,100,108,105,110,101])=False)/\((n=[114,101,116,114,121])=False)/\((n=[101,112,111,99,104])=False)/\((n=[98,97,115,101])=False)/\((n=[100,105,103,101,115,116])=False)/\((n=[108,97,103])=False)/\((n=[99,111,100,101])=False)/\((n=[119,97,110,116])=False):=by and_intros<;>exact eq_false λe=>by subst e;exact absurd h (by decide)
def NV{Q:(p:Pl)->Hq p->Prop}(h0:Q (.rem) trivial)(h1:Q (.allow) trivial)(o:Q (.name) trivial)(q:Q (.region) trivial)(r:Q (.note) trivial)(h5:Q (.d) trivial)(h6:Q (.t) trivial)(s:Q (.num 0) (show 0<15 by decide))(t:Q (.num 1) (show 1<15 by decide))(u:Q (.num 2) (show 2<15 by decide))(b:Q (.num 3) (show 3<15 by decide))(c:Q (.num 4) (show 4<15 by decide))(d:Q (.num 5) (show 5<15 by decide))(e:Q (.num 6) (show 6<15 by decide))(f:Q (.num 7) (show 7<15 by decide))(g:Q (.num 8) (show 8<15 by decide))(h:Q (.num 9) (show 9<15 by decide))(i:Q (.num 10) (show 10<15 by decide))(j:Q (.num 11) (show 11<15 by decide))(l:Q (.num 12) (show 12<15 by decide))(m:Q (.num 13) (show 13<15 by decide))(n:Q (.num 14) (show 14<15 by decide))(p:Pl)(a:Hq p):Q p a:=by
 cases p with
 |num k=>simp only[Hq]at a;rcases(show k=0\/k=1\/k=2\/k=3\/k=4\/k=5\/k=6\/k=7\/k=8\/k=9\/k=10\/k=11\/k=12\/k=13\/k=14 by omega)with rfl|rfl|rfl|rfl|rfl|rfl|rfl|rfl|rfl|rfl|rfl|rfl|rfl|rfl|rfl<;>assumption
 |_=>assumption
def wR(a:Wc):Q1:=a.map λp=>.g [.s p,.b true]
def CX(a:Wc)(x:Q0):Wc:=if x∈a then a else a++[x]
def Y4(n:Q0):∀a:Wc,fZ (.s n) (wR a)=if n∈a then some (.b true)else none
 |[]=>rfl
 |p::a=>by
  have b:=Y4 n a;simp only[wR,iP,fZ,qI]at b⊢;by_cases e:n=p
  ·subst e;simp
  ·have c:¬p=n:=λh=>e h.symm;simp[e,b]
def akv(x:Q0):∀a:Wc,ku (.s x) (.b true) (wR a)=wR (CX a x)
 |[]=>rfl
 |p::a=>by
  have b:=akv x a;unfold CX at b⊢;simp only[wR,iP,ku,qI]at b⊢;by_cases e:x=p
  ·subst e;simp
  ·have d:(x==p)=false:=by simpa using e
   simp only[d,iw,if_false];rw[b];by_cases c:x∈a
   ·simp only[c,if_true,bH,or_true,iP]
   ·simp only[c,if_false,bH,e,or_false,bg,iP]
def Bc(a:Wc)(l:List dQ):Wc:=l.foldl (λa s=>CX a s.name) a
def axn(n x:Q0)(a:Wc):n∈CX a x↔n∈a\/x=n:=by
 unfold CX;split
 ·next h=>exact⟨.inl,λe=>e.elim id (λe=>e▸h)⟩
 ·simp[eq_comm]
def ai9(n:Q0):∀(l:List dQ)(a:Wc),n∈Bc a l↔n∈a\/∃s∈l,s.name=n
 |[],a=>by simp[Bc]
 |s::l,a=>by have:=ai9 n l (CX a s.name);unfold Bc at this⊢;rw[List.foldl_cons,this,axn];simp[or_assoc]
def uJ(l:List dQ)(n:Q0):Bool:=l.any λs=>decide (s.name=n)
def axm(n:Q0)(l:List dQ):decide (n∈Bc [] l)=uJ l n:=by rw[yI,decide_eq_true_iff,ai9];simp[uJ]
def ai3(b:aO)(r:Q1)(l:List dQ)(f:l.length<=1000):∀(m i:Nat)(a:Wc),i+m=l.length->
 TT.lim 78 [.l (l.map fU),.zq l.length,.zq i,.l (wR a),.zq b.kind,.zu b.id,.zu b.min,.zu b.max,.zu b.chosen,.zu b.flags,.zu b.cost,.zu b.priority,.zu b.deadline,.zu b.retry,.zu b.epoch,.zu b.base,.zu b.digest,.zu b.lag,.zu b.code,.zu b.want,.zq b.remaining,.b b.allowed,.s b.name,.s b.region,.s b.note,.l (b.d.map ent),.l (b.t.map row),.l r]=some [.zq 0,.l (wR (Bc a (l.drop i)))]
 |0,i,a,hi=>by
  have h0:l.drop i=[]:=ig;refine au ?_;have h:¬((i:Int)<l.length):=by omega
  simp[h,h0,Bc]
 |m+1,i,a,hi=>by
  have d:i<l.length:=by omega
  have e:=ai3 b r l f m (i+1) (CX a l[i].name) (by omega);have c:((i:Int)+1)=((i+1:Nat):Int):=by omega
  rw[<-c]at e;have g:=akv l[i].name a;have j:Bc a (l.drop i)=Bc (CX a l[i].name) (l.drop (i+1)):=by rw[iC d];rfl
  rw[j];generalize Bc (CX a l[i].name) (l.drop (i+1))=X,wR (CX a l[i].name)=Y at *;refine au ?_;have h:((i:Int)<l.length):=by omega
  have k:=bF ((i:Int)+1);simp[h,d,k,g,e]
def amN(b:aO)(r:Q1)(n:Q0)(c:Prop):Prop:=∀(f:GV)(a:Wc)(i:Nat)(e:Wc)(d:Q1)(h:i<a.length),((i:Int)<a.length)->IntKind.i64.wrap ((i:Int)+1)=(i:Int)+1->a[i]=n->fZ (.s n) (wR e)=none->
    TT.lim 80 [f,.l (a.map .s),.zq a.length,.zq ((i:Int)+1),.l (wR e),.zq b.kind,.zu b.id,.zu b.min,.zu b.max,.zu b.chosen,.zu b.flags,.zu b.cost,.zu b.priority,.zu b.deadline,.zu b.retry,.zu b.epoch,.zu b.base,.zu b.digest,.zu b.lag,.zu b.code,.zu b.want,.zq b.remaining,.b b.allowed,.s b.name,.s b.region,.s b.note,.l (b.d.map ent),.l (b.t.map row),.l r]=some d->
    (c->TT.lim 80 [f,.l (a.map .s),.zq a.length,.zq i,.l (wR e),.zq b.kind,.zu b.id,.zu b.min,.zu b.max,.zu b.chosen,.zu b.flags,.zu b.cost,.zu b.priority,.zu b.deadline,.zu b.retry,.zu b.epoch,.zu b.base,.zu b.digest,.zu b.lag,.zu b.code,.zu b.want,.zq b.remaining,.b b.allowed,.s b.name,.s b.region,.s b.note,.l (b.d.map ent),.l (b.t.map row),.l r]=some d)/\(¬c->TT.lim 80 [f,.l (a.map .s),.zq a.length,.zq i,.l (wR e),.zq b.kind,.zu b.id,.zu b.min,.zu b.max,.zu b.chosen,.zu b.flags,.zu b.cost,.zu b.priority,.zu b.deadline,.zu b.retry,.zu b.epoch,.zu b.base,.zu b.digest,.zu b.lag,.zu b.code,.zu b.want,.zq b.remaining,.b b.allowed,.s b.name,.s b.region,.s b.note,.l (b.d.map ent),.l (b.t.map row),.l r]=some [.zq 0])
def ajh:TT.lim 79 []=some [.l (iH.map .s)]:=Bz (Ds:=Ds) (k:=79) (f:=WJ) rfl rfl
def ayf(b:aO){n:Q0}{p:Pl}(h:placeOf n=some p):qL b n=iV b p:=by unfold qL;rw[h]
set_option maxHeartbeats 4000000 in
def aEp(b:aO)(r:Q1){n:Q0}{p:Pl}(c:placeOf n=some p):amN b r n (iV b p=true):=by
 intro o q i s l h d k e f g;have j:=VZ c;have m:=(zX n p c).2.1;clear c;induction p,m using NV<;>(refine⟨λa=>jm rfl rfl ?_,λa=>jm rfl rfl ?_⟩<;>simp only[iV,pW,decide_eq_true_iff,wC]at a)
 all_goals first
  |(have a:=eq_true a;simp[d,h,e,k,f,a,j,g];done)
  |(rw[a]at g;simp[d,h,e,k,f,a,j,g];done)
  |(simp[d,h,e,f,a,j];done)
def ai4(b:aO)(r:Q1)(l:GV)(a:Wc)(g:a.length<=1000)(j:∀n∈a,placeOf n≠none)(c:Wc):∀(m i:Nat),i+m=a.length->
 TT.lim 80 [l,.l (a.map .s),.zq a.length,.zq i,.l (wR c),.zq b.kind,.zu b.id,.zu b.min,.zu b.max,.zu b.chosen,.zu b.flags,.zu b.cost,.zu b.priority,.zu b.deadline,.zu b.retry,.zu b.epoch,.zu b.base,.zu b.digest,.zu b.lag,.zu b.code,.zu b.want,.zq b.remaining,.b b.allowed,.s b.name,.s b.region,.s b.note,.l (b.d.map ent),.l (b.t.map row),.l r]=some (if(a.drop i).all (λn=>decide (n∈c) ||qL b n)=true then[.zq 1]else[.zq 0])
 |0,i,hi=>by
  have h0:a.drop i=[]:=ig;refine au ?_;have h:¬((i:Int)<a.length):=by omega
  simp[h,h0]
 |m+1,i,hi=>by
  have d:i<a.length:=by omega
  have o:=ai4 b r l a g j c m (i+1) (by omega);have f:((i:Int)+1)=((i+1:Nat):Int):=by omega
  rw[<-f]at o;have u:(a.drop i).all (λn=>decide (n∈c) ||qL b n)=((decide (a[i]∈c) ||qL b a[i])&&(a.drop (i+1)).all (λn=>decide (n∈c) ||qL b n)):=by rw[iC d,rH]
  rw[u];generalize(a.drop (i+1)).all (λn=>decide (n∈c) ||qL b n)=X at *;by_cases e:a[i]∈c
  ·have k:=Y4 a[i] c;rw[aj e]at k;have v:((i:Int)<a.length):=by omega
   have w:=bF ((i:Int)+1);rw[Gq e,Bool.true_or,FK];refine au ?_;simp[v,d,w,k,o]
  ·have k:=Y4 a[i] c;rw[ah e]at k;obtain⟨p,q⟩:=amK.1 (j _ (gX d));have s:=ayf b q;obtain⟨x,y⟩:=aEp b r q l a i c _ d (by omega) (bF ((i:Int)+1)) rfl k o;rw[Ed e,Ag];cases t:qL b a[i]with
   |true=>rw[x (by rw[<-s];exact t),FK]
   |false=>rw[y (by rw[<-s,t];decide),Yo];rfl
def Iw(b:aO)(r:Q1)(k:Nat)(a:Q1):Prop:=TT.lim k [.zq b.kind,.zu b.id,.zu b.min,.zu b.max,.zu b.chosen,.zu b.flags,.zu b.cost,.zu b.priority,.zu b.deadline,.zu b.retry,.zu b.epoch,.zu b.base,.zu b.digest,.zu b.lag,.zu b.code,.zu b.want,.zq b.remaining,.b b.allowed,.s b.name,.s b.region,.s b.note,.l (b.d.map ent),.l (b.t.map row),.l r]=some a
def axi(b:aO){n:Q0}{p:Pl}(h:placeOf n=some p):yu b n=mZ b p:=by unfold yu;rw[h]
set_option maxHeartbeats 4000000 in
def axk(b:aO)(r:Q1)(a:vk b)(d:∀r∈b.t,iL r.1=true):(∀k∈[82,83,89,90,91,92,93,94,95,96,97,98,99,100,101,102,103],Iw b r k [.zq 0])/\Iw b r 84 [.zq 0,.zq (mZ b .name)]/\Iw b r 85 [.zq 0,.zq (mZ b .region)]/\Iw b r 86 [.zq 0,.zq (mZ b .note)]/\Iw b r 87 [.zq 0,.zq (mZ b .d)]/\Iw b r 88 [.zq 0,.zq (mZ b .t)]:=by
 have f:=Gl b.name 0 256 a.name;have g:=Gl b.region 0 256 a.region;have h:=Gl b.note 0 256 a.note;have i:=afC b.d a.d;have j:=UK b.t a.t d;refine⟨λk c=>?_,jm rfl rfl ?_,jm rfl rfl ?_,jm rfl rfl ?_,jm rfl rfl ?_,jm rfl rfl ?_⟩
 ·simp only[bH,List.not_mem_nil,or_false]at c;rcases c with rfl|rfl|rfl|rfl|rfl|rfl|rfl|rfl|rfl|rfl|rfl|rfl|rfl|rfl|rfl|rfl|rfl<;>(refine au ?_;simp)
 ·simp[mZ,f]
 ·simp[mZ,g]
 ·simp[mZ,h]
 ·by_cases e:b.d=[]
  ·simp[mZ,e]
  ·have l:¬(List.map ent b.d)=[]:=by simpa using e
   have m:0<b.d.length:=Ls.2 e;simp[mZ,e,i]
 ·simp[mZ,j]
def amO(b:aO)(r:Q1)(n:Q0)(c:Int):Prop:=∀(l:List dQ)(i:Nat)(a:Q1)(h:i<l.length),((i:Int)<l.length)->IntKind.i64.wrap ((i:Int)+1)=(i:Int)+1->l[i].name=n->
    TT.lim 81 [.l (l.map fU),.zq l.length,.zq ((i:Int)+1),.zq b.kind,.zu b.id,.zu b.min,.zu b.max,.zu b.chosen,.zu b.flags,.zu b.cost,.zu b.priority,.zu b.deadline,.zu b.retry,.zu b.epoch,.zu b.base,.zu b.digest,.zu b.lag,.zu b.code,.zu b.want,.zq b.remaining,.b b.allowed,.s b.name,.s b.region,.s b.note,.l (b.d.map ent),.l (b.t.map row),.l r]=some a->
    TT.lim 81 [.l (l.map fU),.zq l.length,.zq i,.zq b.kind,.zu b.id,.zu b.min,.zu b.max,.zu b.chosen,.zu b.flags,.zu b.cost,.zu b.priority,.zu b.deadline,.zu b.retry,.zu b.epoch,.zu b.base,.zu b.digest,.zu b.lag,.zu b.code,.zu b.want,.zq b.remaining,.b b.allowed,.s b.name,.s b.region,.s b.note,.l (b.d.map ent),.l (b.t.map row),.l r]=some (if c=0 then a else[.zq 0,.zq c])
set_option maxHeartbeats 4000000 in
def aEq(b:aO)(r:Q1)(w:vk b)(x:∀r∈b.t,iL r.1=true){n:Q0}{p:Pl}(k:placeOf n=some p):amO b r n (mZ b p):=by
 intro l i y h m o q s;obtain⟨v,d,e,f,g,j⟩:=axk b r w x;simp only[List.forall_mem_cons,Iw]at v d e f g j;have t:=VZ k;have z:=(zX n p k).2.1;clear k;generalize a:mZ b p=c at s⊢;induction p,z using NV
 all_goals first
  |(obtain rfl:0=c:=a
    rw[aj rfl];refine au ?_;simp[m,h,q,o,t,v,s];done)
  |(simp only[a]at d e f g j
    by_cases u:c=0
    ·subst u;rw[aj rfl];refine au ?_;simp[m,h,q,o,t,d,e,f,g,j,s]
    ·rw[ah u];refine au ?_;simp[m,h,q,o,t,d,e,f,g,j,u])
def oG(b:aO):List dQ->Int
 |[]=>0
 |s::l=>if yu b s.name=0 then oG b l else yu b s.name
def ai5(b:aO)(r:Q1)(j:vk b)(k:∀r∈b.t,iL r.1=true)(l:List dQ)(d:l.length<=1000)(e:∀s∈l,placeOf s.name≠none):∀(m i:Nat),i+m=l.length->
 TT.lim 81 [.l (l.map fU),.zq l.length,.zq i,.zq b.kind,.zu b.id,.zu b.min,.zu b.max,.zu b.chosen,.zu b.flags,.zu b.cost,.zu b.priority,.zu b.deadline,.zu b.retry,.zu b.epoch,.zu b.base,.zu b.digest,.zu b.lag,.zu b.code,.zu b.want,.zq b.remaining,.b b.allowed,.s b.name,.s b.region,.s b.note,.l (b.d.map ent),.l (b.t.map row),.l r]=some (if oG b (l.drop i)=0 then[.zq 1]else[.zq 0,.zq (oG b (l.drop i))])
 |0,i,hi=>by
  have h0:l.drop i=[]:=ig;refine au ?_;have h:¬((i:Int)<l.length):=by omega
  simp[h,h0,oG]
 |m+1,i,hi=>by
  have a:i<l.length:=by omega
  have n:=ai5 b r j k l d e m (i+1) (by omega);have c:((i:Int)+1)=((i+1:Nat):Int):=by omega
  rw[<-c]at n;obtain⟨p,o⟩:=amK.1 (e _ (gX a));have:=aEq b r j k o l i _ a (by omega) (bF ((i:Int)+1)) rfl n;rw[<-axi b o]at this;rw[this,iC a];by_cases f:yu b l[i].name=0
  ·have g:oG b (l[i]::l.drop (i+1))=oG b (l.drop (i+1)):=by simp only[oG,f,if_true]
   rw[aj f,g]
  ·have g:oG b (l[i]::l.drop (i+1))=yu b l[i].name:=by simp only[oG,f,if_false]
   rw[ah f,g,ah f]
def hasTag(l:List dQ)(t:Int):Bool:=l.any λs=>decide (t=s.tag)
def ai7(l:List dQ)(c:l.length<=1000)(e f g:GV)(t:Int)(j k n d:GV):∀(m i:Nat),i+m=l.length->
 TT.lim 109 [.l (l.map fU),e,f,g,.zq l.length,.zq i,.zu t,j,k,n,d]=some (if hasTag (l.drop i) t=true then[.zq 0]else[.zq 1])
 |0,i,hi=>by
  have h0:l.drop i=[]:=ig;refine au ?_;have h:¬((i:Int)<l.length):=by omega
  simp[h,h0,hasTag]
 |m+1,i,hi=>by
  have a:i<l.length:=by omega
  have o:=ai7 l c e f g t j k n d m (i+1) (by omega);have b:((i:Int)+1)=((i+1:Nat):Int):=by omega
  rw[<-b]at o;have p:((i:Int)<l.length):=by omega
  have r:=bF ((i:Int)+1);have s:hasTag (l.drop i) t=(decide (t=l[i].tag) ||hasTag (l.drop (i+1)) t):=by rw[iC a];rfl
  rw[s];generalize hasTag (l.drop (i+1)) t=X at *;refine au ?_;by_cases q:t=l[i].tag
  ·simp[p,a,q]
  ·simp[p,a,q,r,o]
def ai6(l:List dQ)(c:l.length<=1000)(a:List aI)(o:a.length<=1000000):∀(m i:Nat),i+m=a.length->
 TT.lim 108 [.l (l.map fU),.l (aG a),.zq a.length,.zq i]=some (if(a.drop i).any (λf=>hasTag l f.tag)=true then[.zq 0]else[.zq 1])
 |0,i,hi=>by
  have h0:a.drop i=[]:=ig;refine au ?_;have h:¬((i:Int)<a.length):=by omega
  simp[h,h0]
 |m+1,i,hi=>by
  have g:i<a.length:=by omega
  have q:=ai6 l c a o m (i+1) (by omega);have d:((i:Int)+1)=((i+1:Nat):Int):=by omega
  rw[<-d]at q;have r:((i:Int)<a.length):=by omega
  have v:=bF ((i:Int)+1);have u:(a.drop i).any (λf=>hasTag l f.tag)=(hasTag l a[i].tag ||(a.drop (i+1)).any (λf=>hasTag l f.tag)):=by rw[iC g,ad5]
  rw[u];have b:(aG a)[i]? =some (qC a[i]):=by rw[CU,iY,bT g];rfl
  clear u;obtain⟨t,y,n,s,k,p⟩:∃t y n s k,a[i]=aI.mk t y n s k:=by
   cases a[i]with
   |mk t y n s k=>exact⟨_,_,_,_,_,rfl⟩
  rw[p]at b⊢;rw[show(aI.mk t y n s k).tag=t from rfl];have j:TT.lim 109 [.l (l.map fU),.l (aG a),.zq a.length,.zq i,.zq l.length,.zq 0,.zu t,.zq y,.zu n,.s s,.l (aG k)]=_:=ai7 l c _ _ _ t _ _ _ _ l.length 0 (by omega);rw[dN]at j;refine au ?_;by_cases e:hasTag l t=true
  ·rw[aj e]at j;simp[-List.any_eq_true,r,b,j,e]
  ·rw[ah e]at j;have e:hasTag l t=false:=by simpa using e
   simp[-List.any_eq_true,r,b,j,v,q,e]
def I4(b:aO):Int:=
 if b.kind=1 then(if b.min<1 then 18 else if b.max<b.min then 18 else if 255<b.max then 18 else 0)
 else if b.kind=2 then(if b.chosen<1 then 18 else if 255<b.chosen then 18 else 0)
 else if b.kind=3 then(if b.d=[]then 12 else 0)
 else if b.kind=5 then(if b.epoch<1 then 18 else 0)
 else if b.kind=6 then(if b.base<1 then 18 else if b.epoch<=b.base then 20 else 0)
 else 0
def Oc(b:List dQ)(a:List aI):Int:=if jy 0 0 a≠0 then jy 0 0 a else if a.any (λf=>hasTag b f.tag)=true then 14 else 0
def gq(b:aO)(a:List aI)(v:Int):Int:=
 if v<1 then 16 else if 3<v then 16 else
 if aW b.kind v=[]then 15 else
 if iH.all (λn=>uJ (aW b.kind v) n ||qL b n)=false then 26 else
 if oG b (aW b.kind v)≠0 then oG b (aW b.kind v)else
 if I4 b≠0 then I4 b else Oc (aW b.kind v) a
def ax4:∀n∈iH,placeOf n≠none:=by decide
def aiq(k v:Int):∀s∈aW k v,placeOf s.name≠none:=by
 have a:∀s∈zk k,placeOf s.name≠none:=by
  unfold zk;repeat' split
  all_goals first|(unfold sp1;decide)|(unfold sp2;decide)|(unfold E5;decide)|(unfold E8;decide)|(unfold E9;decide)|(unfold Fb;decide)|(unfold Fe;decide)|(unfold Fg;decide)|(intro s b;cases b)
 intro s b;exact a s (BM.1 b).1
def G5(k v:Int):(aW k v).length<=8:=kF (Yy _ _) (aD1 k)
set_option maxHeartbeats 4000000 in
def abk(b:aO)(u:List aI)(v:Int)(Z:vk b)(hf:∀r∈b.t,iL r.1=true)(Q:eU u)(H:u.length<=1000000):TT.lim 66 [iM b (aG u),.zq v]=some [.zq (gq b u v)]:=by
 have q:=aaX b.kind;refine aT ?_;unfold gq;by_cases m:v<1
 ·simp[m]
 by_cases o:3<v
 ·simp[m,o]
 rw[ah m,ah o];have F:=aip b.kind v (by omega) (by omega);by_cases p:pU b.kind=0
 ·rw[aj (F.2 (.inl p))];rw[p]at q;simp[m,o,q]
 by_cases s:v<pU b.kind
 ·rw[aj (F.2 (.inr s))];simp[m,o,q,p,s]
 rw[ah (λe=>(F.1 e).elim p s)];have g:=Wi b.kind v (by omega) (by omega) (by omega);have S:=aiq b.kind v;have aa:=G5 b.kind v;clear F;generalize aW b.kind v=y at *;have h:=ajh;have T:=ai3 b (aG u) y (by omega) y.length 0 [] (by omega);have O:=ai4 b (aG u) (.l (y.map fU)) iH (by decide) ax4 (Bc [] y) iH.length 0 (by omega);have V:=ai5 b (aG u) Z hf y (by omega) S y.length 0 (by omega);have P:=ai6 y (by omega) u H u.length 0 (by omega);have z:=Vg u Q H;rw[dN]at T O V P;simp only[axm]at O;have ab:(iH.map GV.s).length=iH.length:=gG _;have X:=pR u;rw[<-X]at P;generalize hX:Bc [] y=Y at *;have i:TT.lim 78 [.l (y.map fU),.zq y.length,.zq 0,.l [],.zq b.kind,.zu b.id,.zu b.min,.zu b.max,.zu b.chosen,.zu b.flags,.zu b.cost,.zu b.priority,.zu b.deadline,.zu b.retry,.zu b.epoch,.zu b.base,.zu b.digest,.zu b.lag,.zu b.code,.zu b.want,.zq b.remaining,.b b.allowed,.s b.name,.s b.region,.s b.note,.l (b.d.map ent),.l (b.t.map row),.l (aG u)]=some [.zq 0,.l (wR Y)]:=T;clear T;have a:TT.lim 80 [.l (y.map fU),.l (iH.map .s),.zq iH.length,.zq 0,.l (wR Y),.zq b.kind,.zu b.id,.zu b.min,.zu b.max,.zu b.chosen,.zu b.flags,.zu b.cost,.zu b.priority,.zu b.deadline,.zu b.retry,.zu b.epoch,.zu b.base,.zu b.digest,.zu b.lag,.zu b.code,.zu b.want,.zq b.remaining,.b b.allowed,.s b.name,.s b.region,.s b.note,.l (b.d.map ent),.l (b.t.map row),.l (aG u)]=_:=O;clear O;have d:TT.lim 81 [.l (y.map fU),.zq y.length,.zq 0,.zq b.kind,.zu b.id,.zu b.min,.zu b.max,.zu b.chosen,.zu b.flags,.zu b.cost,.zu b.priority,.zu b.deadline,.zu b.retry,.zu b.epoch,.zu b.base,.zu b.digest,.zu b.lag,.zu b.code,.zu b.want,.zq b.remaining,.b b.allowed,.s b.name,.s b.region,.s b.note,.l (b.d.map ent),.l (b.t.map row),.l (aG u)]=_:=V;clear V;have j:TT.lim 108 [.l (y.map fU),.l (aG u),.zq (aG u).length,.zq 0]=_:=P;clear P;have I:Oc y u=if jy 0 0 u≠0 then jy 0 0 u else if u.any (λf=>hasTag y f.tag)=true then 14 else 0:=rfl
 generalize(iH.all λn=>uJ y n ||qL b n)=A,oG b y=M,jy 0 0 u=J,(u.any λf=>hasTag y f.tag)=W,Oc y u=R at *;generalize iH=NL at *;have ac:∀(x:GV),True:=λ_=>trivial;cases A with
 |false=>simp only[iw,if_false]at a;simp[m,o,q,p,s,g,h,i,a]
 |true=>
 simp only[if_true]at a;by_cases L:M=0;rotate_left
 ·rw[ah L]at d;simp[m,o,q,p,s,g,h,i,a,d,L]
 rw[aj L]at d;rw[ah (by simp),ah (by simp[L])];clear L;have ad:∀(c:Int),I4 b=c->c≠0->True:=λ_ _ _=>trivial;unfold I4;by_cases k:b.kind=1
 ·have k:=eq_true k;by_cases l:b.min<1
  ·simp[m,o,q,p,s,g,h,i,a,d,k,l]
  by_cases B:b.max<b.min
  ·simp[m,o,q,p,s,g,h,i,a,d,k,l,B]
  by_cases N:255<b.max
  ·simp[m,o,q,p,s,g,h,i,a,d,k,l,B,N]
  simp only[k,l,B,N,if_true,if_false,ne_eq,not_true_eq_false];rw[I];by_cases D:J=0
  ·subst D;cases W with
   |true=>simp only[if_true]at j;simp[m,o,q,p,s,g,h,i,a,d,k,l,B,N,z,j]
   |false=>simp only[iw,if_false]at j;simp[m,o,q,p,s,g,h,i,a,d,k,l,B,N,z,j]
  ·simp[m,o,q,p,s,g,h,i,a,d,k,l,B,N,z,D]
 by_cases t:b.kind=2
 ·have t:=eq_true t;by_cases l:b.chosen<1
  ·simp[m,o,q,p,s,g,h,i,a,d,k,t,l]
  by_cases B:255<b.chosen
  ·simp[m,o,q,p,s,g,h,i,a,d,k,t,l,B]
  simp only[k,t,l,B,if_true,if_false,ne_eq,not_true_eq_false];rw[I];by_cases D:J=0
  ·subst D;cases W with
   |true=>simp only[if_true]at j;simp[m,o,q,p,s,g,h,i,a,d,k,t,l,B,z,j]
   |false=>simp only[iw,if_false]at j;simp[m,o,q,p,s,g,h,i,a,d,k,t,l,B,z,j]
  ·simp[m,o,q,p,s,g,h,i,a,d,k,t,l,B,z,D]
 by_cases w:b.kind=3
 ·have w:=eq_true w;by_cases l:b.d=[]
  ·have l:=eq_true l;simp[m,o,q,p,s,g,h,i,a,d,k,t,w,l]
  simp only[k,t,w,l,if_true,if_false,ne_eq,not_true_eq_false];rw[I];by_cases D:J=0
  ·subst D;cases W with
   |true=>simp only[if_true]at j;simp[m,o,q,p,s,g,h,i,a,d,k,t,w,l,z,j]
   |false=>simp only[iw,if_false]at j;simp[m,o,q,p,s,g,h,i,a,d,k,t,w,l,z,j]
  ·simp[m,o,q,p,s,g,h,i,a,d,k,t,w,l,z,D]
 by_cases E:b.kind=5
 ·have E:=eq_true E;by_cases l:b.epoch<1
  ·simp[m,o,q,p,s,g,h,i,a,d,k,t,w,E,l]
  simp only[k,t,w,E,l,if_true,if_false,ne_eq,not_true_eq_false];rw[I];by_cases D:J=0
  ·subst D;cases W with
   |true=>simp only[if_true]at j;simp[m,o,q,p,s,g,h,i,a,d,k,t,w,E,l,z,j]
   |false=>simp only[iw,if_false]at j;simp[m,o,q,p,s,g,h,i,a,d,k,t,w,E,l,z,j]
  ·simp[m,o,q,p,s,g,h,i,a,d,k,t,w,E,l,z,D]
 by_cases G:b.kind=6
 ·have G:=eq_true G;by_cases l:b.base<1
  ·simp[m,o,q,p,s,g,h,i,a,d,k,t,w,E,G,l]
  by_cases B:b.epoch<=b.base
  ·simp[m,o,q,p,s,g,h,i,a,d,k,t,w,E,G,l,B]
  simp only[k,t,w,E,G,l,B,if_true,if_false,ne_eq,not_true_eq_false];rw[I];by_cases D:J=0
  ·subst D;cases W with
   |true=>simp only[if_true]at j;simp[m,o,q,p,s,g,h,i,a,d,k,t,w,E,G,l,B,z,j]
   |false=>simp only[iw,if_false]at j;simp[m,o,q,p,s,g,h,i,a,d,k,t,w,E,G,l,B,z,j]
  ·simp[m,o,q,p,s,g,h,i,a,d,k,t,w,E,G,l,B,z,D]
 simp only[k,t,w,E,G,if_false,ne_eq,not_true_eq_false];rw[I];by_cases D:J=0
 ·subst D;cases W with
  |true=>simp only[if_true]at j;simp[m,o,q,p,s,g,h,i,a,d,k,t,w,E,G,z,j]
  |false=>simp only[iw,if_false]at j;simp[m,o,q,p,s,g,h,i,a,d,k,t,w,E,G,z,j]
 ·simp[m,o,q,p,s,g,h,i,a,d,k,t,w,E,G,z,D]
def adw(n:Q0):Int:=match placeOf n with
 |some p=>aFo p
 |none=>-1
def awC(k v:Int):∀s∈aW k v,placeOf s.name≠none/\s.use=adw s.name:=by
 have a:∀s∈zk k,placeOf s.name≠none/\s.use=adw s.name:=by
  unfold zk;repeat' split
  all_goals first|(unfold sp1;decide)|(unfold sp2;decide)|(unfold E5;decide)|(unfold E8;decide)|(unfold E9;decide)|(unfold Fb;decide)|(unfold Fe;decide)|(unfold Fg;decide)|(intro s b;cases b)
 intro s b;exact a s (BM.1 b).1
def aF7(x:Int)(h0: -9223372036854775808<=x)(h1:x<=9223372036854775807):∃u w:Int,IntKind.u64.wrap x=u/\IntKind.u64.wrap (x.fdiv (2^63))=w/\bV .xor .u64 (IntKind.u64.wrap (u*2^1)) w=some (.zu (zz x)):=by
 have a:∀y:Int,IntKind.u64.wrap y=y%18446744073709551616:=λy=>by simp[IntKind.wrap,IntKind.signed,IntKind.bits]
 refine⟨_,_,rfl,rfl,?_⟩;rw[a,a,a];unfold zz;have e:IntKind.u64.bits=64:=rfl;by_cases h:0<=x
 ·have b:x.fdiv (2^63)=0:=by rw[FN _ (by decide)];exact Int.ediv_eq_zero_of_lt h (by omega)
  rw[b,aj h];have c:x%18446744073709551616*2^1%18446744073709551616=2*x:=by omega
  rw[c];simp only[bV,a,e];have d:(BitVec.ofInt 64 (2*x) ^^^ BitVec.ofInt 64 (0%18446744073709551616))=BitVec.ofInt 64 (2*x):=by have:BitVec.ofInt 64 (0%18446744073709551616)=0#64:=rfl;rw[this,BitVec.xor_zero]
  show some (GV.i IntKind.u64 (((BitVec.ofInt 64 (2*x) ^^^ BitVec.ofInt 64 (0%18446744073709551616)).toNat:Int)%18446744073709551616))=_
  rw[d,vw];congr 2;omega
 ·have b:x.fdiv (2^63) = -1:=by rw[FN _ (by decide)];omega
  rw[b,ah h];have c:x%18446744073709551616*2^1%18446744073709551616=2*x+18446744073709551616:=by omega
  rw[c];simp only[bV,a,e];have d:(BitVec.ofInt 64 (2*x+18446744073709551616) ^^^ BitVec.ofInt 64 (-1%18446744073709551616)) = ~~~ BitVec.ofInt 64 (2*x+18446744073709551616):=by
   have:BitVec.ofInt 64 (-1%18446744073709551616)=BitVec.allOnes 64:=by decide
   rw[this,adQ]
  show some (GV.i IntKind.u64 (((BitVec.ofInt 64 (2*x+18446744073709551616) ^^^ BitVec.ofInt 64 (-1%18446744073709551616)).toNat:Int)%18446744073709551616))=_
  rw[d,adO,vw];congr 2;omega
def aeD(b:aO)(r:Q1)(n:Q0)(p:Pl):Prop:=TT.lim 111 [iM b r,.s n]=some [.g [.zu 0,.zq (dP p),.zu (aZ b p).1,.s (aZ b p).2,.l []],.b true]
set_option maxHeartbeats 4000000 in
def axV(b:aO)(r:Q1)(d:vk b){n:Q0}{p:Pl}(j:p=.d->iL b.d=true)(k:p=.t->yJ b.t)(f:placeOf n=some p):aeD b r n p:=by
 have a:=VZ f;have c:=(zX n p f).2.1;unfold aeD;clear f;induction p,c using NV
 case h0=>obtain⟨u,w,h1,g,h⟩:=aF7 b.remaining d.remaining.1 d.remaining.2;have g:IntKind.u64.wrap (b.remaining.fdiv 9223372036854775808)=w:=g;have h:bV .xor .u64 (IntKind.u64.wrap (u*2)) w=some (.zu (zz b.remaining)):=h;refine aT ?_;simp[a,kD,h1,g,h,IntKind.bits,dP,aZ]
 case h1=>refine aT ?_;cases l:b.allowed<;>simp[a,dP,aZ,l]
 case h5=>
  have c:=CY b.d (j rfl);refine aT ?_;by_cases e:b.d=[]
  ·have i:=eq_true e;simp[a,dP,aZ,i]
  ·simp[a,dP,aZ,e,c]
 case h6=>
  have c:=awD b.t d.t (k rfl);refine aT ?_;by_cases e:b.t=[]
  ·have i:=eq_true e;simp[a,dP,aZ,i]
  ·simp[a,dP,aZ,e,c]
 all_goals
  refine aT ?_;simp[a,dP,aZ,pW]
def axY(b:aO)(r:Q1){n:Q0}(a:placeOf n=none):TT.lim 111 [iM b r,.s n]=some [.g [.zu 0,.zq 0,.zu 0,.s [],.l []],.b false]:=by have c:=ah7 a;refine aT ?_;simp[c]
