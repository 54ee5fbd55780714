/- What the trees compute: plain laws. -/
import Derived.Test.YtkoclengoeonnaaGreatDoorKQe1
set_option linter.all false
namespace Go.Proofs.YtkoclengoeonnaaGreatDoor
open Go Go.aP
set_option maxRecDepth 100000
namespace Q
def fE(s:Q0):Q0×Nat×Int:=
 if(aF s).2.2≠0 then([],0,(aF s).2.2)else
 if s.length-(aF s).2.1<(aF s).1 then([],0,1)else
 ((s.drop (aF s).2.1).take (aF s).1,(aF s).2.1+(aF s).1,0)
def WV{s:Q0}(h:(fE s).2.2=0):1<=(fE s).2.1/\(fE s).2.1<=s.length/\(fE s).1.length<=s.length:=by
 unfold fE at h⊢;by_cases a:(aF s).2.2=0;rotate_left
 ·rw[au a]at h;exact absurd h a
 rw[aj (λe=>e a)]at h⊢;obtain⟨c,d,f,g,i⟩:=kF a;by_cases b:s.length-(aF s).2.1<(aF s).1
 ·rw[au b]at h;cases h
 rw[aj b];simp only[kG,fF];omega
def aj7(t:Q0)(a:Nat)(h:a<=t.length)(v:t.length<=100000000):
 ∃at2:Nat,TT.lim 159 [.s t,.zq a]=some [.zq 0,.s (fE (t.drop a)).1,.zq (fE (t.drop a)).2.2,.s t,.zq at2]/\((fE (t.drop a)).2.2=0->at2=a+(fE (t.drop a)).2.1):=by
 have d:=CY t a h ah;unfold fE;by_cases b:(aF (t.drop a)).2.2=0;rotate_left
 ·obtain⟨j,k⟩:=JX b;rw[j,k]at d;rw[au b];generalize(aF (t.drop a)).2.2=e at *;refine⟨a,jd rfl rfl ?_,λh=>absurd h b⟩;simp[d,b]
 obtain⟨w,x,l,y,_⟩:=kF b;rw[aj (λe=>e b)];rw[b]at d;rw[fF]at l⊢;rw[uf];generalize(aF (t.drop a)).1=n,(aF (t.drop a)).2.1=i at *;have w1:=bD ((t.length:Int)-((a:Int)+(i:Int)));have f:=jD ((t.length:Int)-((a:Int)+(i:Int)));simp only[EX]at d;by_cases g:t.length-a-i<n
 ·have c:(t.length:Int)-((a:Int)+(i:Int))<(n:Int):=ah;rw[au g];refine⟨a+i,jd rfl rfl ?_,λh=>by cases h⟩;simp[d,w1,f,c]
 ·have c:¬(t.length:Int)-((a:Int)+(i:Int))<(n:Int):=ah;rw[aj g];have m:=bD ((n:Int));have o:=bD ((a:Int)+(i:Int)+(n:Int));have p:((t.take (a+i+n)).drop (a+i))=(t.drop (a+i)).take n:=by rw[Ku];congr 1;omega
  have q:(a:Int)+(i:Int)<=(a:Int)+(i:Int)+(n:Int)/\(a:Int)+(i:Int)+(n:Int)<=t.length:=ah;have r:(0:Int)<=(a:Int)+(i:Int):=ah;have s:((a:Int)+(i:Int)+(n:Int)).toNat=a+i+n:=ah;have u:((a:Int)+(i:Int)).toNat=a+i:=ah;generalize(t.drop (a+i)).take n=X at *;refine⟨a+i+n,jd rfl rfl ?_,λ_=>by simp only;omega⟩;simp[d,w1,f,m,o,c,q,r,s,u,p]
def dR(s:Q0):eP×Nat×Int:=
 if(fE s).2.2≠0 then(([],[]),0,(fE s).2.2)else
 if(fE (s.drop (fE s).2.1)).2.2≠0 then(([],[]),0,(fE (s.drop (fE s).2.1)).2.2)else
 if xk ((fE s).1,(fE (s.drop (fE s).2.1)).1)≠0 then(([],[]),0,xk ((fE s).1,(fE (s.drop (fE s).2.1)).1))else
 (((fE s).1,(fE (s.drop (fE s).2.1)).1),(fE s).2.1+(fE (s.drop (fE s).2.1)).2.1,0)
def TQ{s:Q0}(h:(dR s).2.2=0):2<=(dR s).2.1/\(dR s).2.1<=s.length/\xk (dR s).1=0/\(dR s).1.1.length<=s.length/\(dR s).1.2.length<=s.length/\
 (fE s).2.2=0/\(fE (s.drop (fE s).2.1)).2.2=0/\(dR s).1=((fE s).1,(fE (s.drop (fE s).2.1)).1)/\(dR s).2.1=(fE s).2.1+(fE (s.drop (fE s).2.1)).2.1:=by
 unfold dR at h⊢;by_cases a:(fE s).2.2=0;rotate_left
 ·rw[au a]at h;exact absurd h a
 rw[aj (λe=>e a)]at h⊢;by_cases b:(fE (s.drop (fE s).2.1)).2.2=0;rotate_left
 ·rw[au b]at h;exact absurd h b
 rw[aj (λe=>e b)]at h⊢;by_cases c:xk ((fE s).1,(fE (s.drop (fE s).2.1)).1)=0;rotate_left
 ·rw[au c]at h;exact absurd h c
 rw[aj (λe=>e c)];obtain⟨i,j,d⟩:=WV a;obtain⟨k,f,g⟩:=WV b;rw[fF]at f g;exact⟨by simp only;omega,by simp only;omega,c,d,by simp only;omega,a,b,rfl,rfl⟩
def ap0(t:Q0)(a:Nat)(h:a<=t.length)(l:t.length<=100000000):
 ∃at2:Nat,TT.lim 158 [.s t,.zq a]=some [.zq 0,.s (dR (t.drop a)).1.1,.s (dR (t.drop a)).1.2,.zq (dR (t.drop a)).2.2,.s t,.zq at2]/\((dR (t.drop a)).2.2=0->at2=a+(dR (t.drop a)).2.1):=by
 obtain⟨p,d,i⟩:=aj7 t a h l;unfold dR;by_cases b:(fE (t.drop a)).2.2=0;rotate_left
 ·rw[au b];generalize fE (t.drop a)=A at *;refine⟨p,jd rfl rfl ?_,λh=>absurd h b⟩;simp[d,b]
 have i:=i b;obtain⟨u,n,o⟩:=WV b;rw[fF]at n o;have j:(t.drop a).drop (fE (t.drop a)).2.1=t.drop p:=by rw[uf,i]
 obtain⟨q,g,m⟩:=aj7 t p ah l;rw[aj (λe=>e b),j];rw[b]at d;by_cases c:(fE (t.drop p)).2.2=0;rotate_left
 ·rw[au c];generalize fE (t.drop a)=A,fE (t.drop p)=B at *;refine⟨q,jd rfl rfl ?_,λh=>absurd h c⟩;simp[d,g,c]
 have m:=m c;obtain⟨v,r,s⟩:=WV c;rw[fF]at r s;rw[aj (λe=>e c)];rw[c]at g;have kc:=afs ((fE (t.drop a)).1,(fE (t.drop p)).1) (by simp only;omega) (by simp only;omega);have k:TT.lim 43 [.g [.s (fE (t.drop a)).1,.s (fE (t.drop p)).1]]=_:=kc;generalize fE (t.drop a)=A,fE (t.drop p)=B at *;by_cases f:xk (A.1,B.1)=0;rotate_left
 ·rw[au f];refine⟨q,jd rfl rfl ?_,λh=>absurd h f⟩;generalize xk (A.1,B.1)=E at *;simp[d,g,k,f]
 ·rw[aj (λe=>e f)];rw[f]at k;refine⟨q,jd rfl rfl ?_,λ_=>by simp only;omega⟩;simp[d,g,k]
def Bj(p:Option eP)(x:eP):Int:=match p with
 |none=>0
 |some k=>Bh k.1 x.1
def gB:Nat->Option eP->List UInt8->List eP×Nat×Int
 |0,_,_=>([],0,0)
 |m+1,p,s=>if(dR s).2.2≠0 then([],0,(dR s).2.2)else
  if Bj p (dR s).1≠0 then([],0,Bj p (dR s).1)else
  if(gB m (some (dR s).1) (s.drop (dR s).2.1)).2.2≠0 then([],0,(gB m (some (dR s).1) (s.drop (dR s).2.1)).2.2)else
  ((dR s).1::(gB m (some (dR s).1) (s.drop (dR s).2.1)).1,(dR s).2.1+(gB m (some (dR s).1) (s.drop (dR s).2.1)).2.1,0)
def YK(m:Nat)(p:Option eP)(s:Q0):gB (m+1) p s=if(dR s).2.2≠0 then([],0,(dR s).2.2)else
 if Bj p (dR s).1≠0 then([],0,Bj p (dR s).1)else
 if(gB m (some (dR s).1) (s.drop (dR s).2.1)).2.2≠0 then([],0,(gB m (some (dR s).1) (s.drop (dR s).2.1)).2.2)else
 ((dR s).1::(gB m (some (dR s).1) (s.drop (dR s).2.1)).1,(dR s).2.1+(gB m (some (dR s).1) (s.drop (dR s).2.1)).2.1,0):=rfl
def Ci(a:List eP)(t:Q0)(at2:Nat)(r:List eP×Nat×Int):Q1:=if r.2.2≠0 then[.zq 0,.zq r.2.2,.s t,.zq at2]else[.zq 1,.l ((a++r.1).map ent),.s t,.zq at2]
def apU(L:Q1)(n i a at2:Int)(t:Q0)(x:eP)(e:Int)(h:i<n)(b:¬e=0)
 (k:TT.lim 158 [.s t,.zq a]=some [.zq 0,.s x.1,.s x.2,.zq e,.s t,.zq at2]):
 TT.lim 157 [.l L,.zq n,.zq i,.s t,.zq a]=some [.zq 0,.zq e,.s t,.zq at2]:=by
 refine aB ?_;simp[h,k,b]
def apS(L:Q1)(n a at2:Int)(t:Q0)(x:eP)(R:Q1)(h:0<n)(b:2*(L.length+1)*32<=281474976710656/\L.length+1<=281474976710656)
 (k:TT.lim 158 [.s t,.zq a]=some [.zq 0,.s x.1,.s x.2,.zq 0,.s t,.zq at2])
 (c:TT.lim 157 [.l (L++[ent x]),.zq n,.zq 1,.s t,.zq at2]=some R):
 TT.lim 157 [.l L,.zq n,.zq 0,.s t,.zq a]=some R:=by
 have d:GV.g [.s x.1,.s x.2]=ent x:=rfl;have w1:=bD 1;refine aB ?_;simp[h,k,d,GV.fQ,b,w1,c]
def apT(L:Q1)(n:Int)(i:Nat)(a at2:Int)(t:Q0)(p x:eP)(h:(i:Int)+1<n)(hi:i+1<=100000000)(g:L.length=i+1)(e:L[i]? =some (ent p))(j:¬Bh p.1 x.1=0)
 (k:TT.lim 158 [.s t,.zq a]=some [.zq 0,.s x.1,.s x.2,.zq 0,.s t,.zq at2]):
 TT.lim 157 [.l L,.zq n,.zq ((i:Int)+1),.s t,.zq a]=some [.zq 0,.zq (Bh p.1 x.1),.s t,.zq at2]:=by
 have l:(0:Int)<(i:Int)+1:=ah;have b:(i:Int)<(i:Int)+1:=ah;have w:=bD ((i:Int));have c:L[i]'(by omega)=ent p:=by have:=e;rw[bT ah]at this;exact Hu this
 unfold Bh at j⊢;by_cases d:x.1=p.1
 ·have f:(x.1=p.1)=True:=eq_true d;clear d;refine aB ?_;simp[h,k,l,b,w,g,e,c,f]
 ·by_cases m:Op.bytesLess x.1 p.1=true
  ·refine aB ?_;simp[h,k,l,b,w,g,e,c,d,m]
  ·simp[d,m]at j
def apV(L:Q1)(n:Int)(i:Nat)(b at2:Int)(t:Q0)(p x:eP)(R:Q1)(h:(i:Int)+1<n)(hi:i+1<=100000000)(o:(i:Int)<L.length)(q:L.length<=100000000)(l:L[i]? =some (ent p))(a:Bh p.1 x.1=0)
 (k:TT.lim 158 [.s t,.zq b]=some [.zq 0,.s x.1,.s x.2,.zq 0,.s t,.zq at2])
 (r:TT.lim 157 [.l (L++[ent x]),.zq n,.zq ((i:Int)+1+1),.s t,.zq at2]=some R):
 TT.lim 157 [.l L,.zq n,.zq ((i:Int)+1),.s t,.zq b]=some R:=by
 have s:(0:Int)<(i:Int)+1:=ah;have d:(i:Int)<(i:Int)+1:=ah;have w:=bD ((i:Int));have u:=bD ((i:Int)+1+1);have c:i<L.length:=ah;have f:L[i]=ent p:=by have:=l;rw[bT c]at this;exact Hu this
 have v:GV.g [.s x.1,.s x.2]=ent x:=rfl;have g:2*(L.length+1)*32<=281474976710656/\L.length+1<=281474976710656:=ah;unfold Bh at a;have m:¬x.1=p.1:=by intro e;rw[au e]at a;exact absurd a aX
 rw[aj m]at a;have j:¬Op.bytesLess x.1 p.1=true:=by intro e;rw[au e]at a;exact absurd a aX
 have j:Op.bytesLess x.1 p.1=false:=by simpa using j
 refine aB ?_;simp[h,k,s,d,w,u,o,c,l,f,m,j,v,GV.fQ,g,r]
def atx(b:List eP)(p:Option eP):Prop:=(b=[]/\p=none)\/∃a x,b=a++[x]/\p=some x
def ae9(t:Q0)(B:t.length<=100000000)(n:Nat)(E:n<=1000):∀(m:Nat)(c:List eP)(p:Option eP)(b:Nat),c.length+m=n->atx c p->b<=t.length->
 ∃at2:Nat,TT.lim 157 [.l (c.map ent),.zq n,.zq c.length,.s t,.zq b]=some (Ci c t at2 (gB m p (t.drop b)))/\((gB m p (t.drop b)).2.2=0->at2=b+(gB m p (t.drop b)).2.1)
 |0,c,p,b,hi,D,h=>by have s:¬((c.length:Int)<(n:Int)):=ah;refine⟨b,?_,λ_=>by simp[gB]⟩;have q:(c.map ent).length=c.length:=aA;unfold gB Ci;simp only[ne_eq,not_true_eq_false,if_false,qZ];generalize c.map ent=L at *;refine aB ?_;simp[s]
 |m+1,c,p,b,hi,D,h=>by
  obtain⟨at2,k,u⟩:=ap0 t b h B;rw[YK];by_cases g:(dR (t.drop b)).2.2=0;rotate_left
  ·rw[au g];refine⟨at2,?_,λh=>absurd h g⟩;have:Ci c t at2 ([],0,(dR (t.drop b)).2.2)=[.zq 0,.zq (dR (t.drop b)).2.2,.s t,.zq at2]:=by unfold Ci;rw[au g]
   rw[this];exact apU _ _ _ _ _ _ _ _ ah g k
  rw[aj (λe=>e g)];rw[g]at k;have u:=u g;obtain⟨H,F,_⟩:=TQ g;rw[fF]at F;have v:(t.drop b).drop (dR (t.drop b)).2.1=t.drop at2:=by rw[uf,u]
  rw[v];have w:at2<=t.length:=ah;generalize I:(dR (t.drop b)).1=x at *;obtain⟨d,r,G⟩:=ae9 t B n E m (c++[x]) (some x) at2 (by rw[gu,E5];omega) (.inr ⟨c,x,rfl,rfl⟩) w;have i:Ci c t d (if(gB m (some x) (t.drop at2)).2.2≠0 then([],0,(gB m (some x) (t.drop at2)).2.2)else(x::(gB m (some x) (t.drop at2)).1,(dR (t.drop b)).2.1+(gB m (some x) (t.drop at2)).2.1,0))=Ci (c++[x]) t d (gB m (some x) (t.drop at2)):=by
   unfold Ci;by_cases l:(gB m (some x) (t.drop at2)).2.2=0
   ·simp[l]
   ·simp[l]
  have j:((if(gB m (some x) (t.drop at2)).2.2≠0 then(([]:List eP),0,(gB m (some x) (t.drop at2)).2.2)else(x::(gB m (some x) (t.drop at2)).1,(dR (t.drop b)).2.1+(gB m (some x) (t.drop at2)).2.1,0)).2.2=0->d=b+(if(gB m (some x) (t.drop at2)).2.2≠0 then(([]:List eP),0,(gB m (some x) (t.drop at2)).2.2)else(x::(gB m (some x) (t.drop at2)).1,(dR (t.drop b)).2.1+(gB m (some x) (t.drop at2)).2.1,0)).2.1):=by
   by_cases l:(gB m (some x) (t.drop at2)).2.2=0
   ·rw[aj (λe=>e l)];intro _;have:=G l;simp only;omega
   ·rw[au l];intro h;exact absurd h l
  rw[ng]at r;rcases D with⟨rfl,rfl⟩|⟨a,y,rfl,rfl⟩
  ·have z:Bj none x=0:=rfl;rw[z,aj aA];refine⟨d,?_,j⟩;rw[i];exact apS [] n b at2 t x _ (by simp at hi;omega) aA k r
  ·by_cases o:Bh y.1 x.1=0;rotate_left
   ·have f:Bj (some y) x≠0:=o;rw[au f];refine⟨at2,?_,λh=>absurd h o⟩;have:Ci (a++[y]) t at2 ([],0,Bj (some y) x)=[.zq 0,.zq (Bh y.1 x.1),.s t,.zq at2]:=by unfold Ci;rw[au f];rfl
    rw[this];have q:((a++[y]).length:Int)=(a.length:Int)+1:=aA;rw[q];rw[gu,E5]at hi;exact apT _ n a.length b at2 t y x ah ah aA aA o k
   ·have f:¬Bj (some y) x≠0:=λe=>e o;rw[aj f];refine⟨d,?_,j⟩;rw[i];have q:((a++[y]).length:Int)=(a.length:Int)+1:=aA;have A:((a++[y]++[x]).length:Int)=(a.length:Int)+1+1:=by simp;omega
    rw[q];rw[A]at r;rw[gu,E5]at hi;exact apV _ n a.length b at2 t y x _ ah ah (by simp;omega) (by simp;omega) aA o k r
def BH(e:Int):List eP×Nat×Int:=([],0,e)
def oJ(s:Q0):List eP×Nat×Int:=
 if(aF s).2.2≠0 then BH (aF s).2.2 else
 if(aF s).1=0 then BH 12 else
 if 16<(aF s).1 then BH 13 else
 if(gB (aF s).1 none (s.drop (aF s).2.1)).2.2≠0 then BH (gB (aF s).1 none (s.drop (aF s).2.1)).2.2 else
 ((gB (aF s).1 none (s.drop (aF s).2.1)).1,(aF s).2.1+(gB (aF s).1 none (s.drop (aF s).2.1)).2.1,0)
def apO(t:Q0)(a:Nat)(h:a<=t.length)(p:t.length<=100000000):
 ∃at2:Nat,TT.lim 156 [.s t,.zq a]=some [.zq 0,.l ((oJ (t.drop a)).1.map ent),.zq (oJ (t.drop a)).2.2,.s t,.zq at2]/\((oJ (t.drop a)).2.2=0->at2=a+(oJ (t.drop a)).2.1):=by
 have d:=CY t a h ah;unfold oJ;by_cases g:(aF (t.drop a)).2.2=0;rotate_left
 ·obtain⟨q,l⟩:=JX g;rw[q,l]at d;rw[au g];generalize(aF (t.drop a)).2.2=e at *;refine⟨a,jd rfl rfl ?_,λh=>absurd h g⟩;simp[d,g,BH]
 obtain⟨x,y,s,z,_⟩:=kF g;rw[aj (λe=>e g)];rw[g]at d;rw[fF]at s;rw[uf];by_cases b:16<(aF (t.drop a)).1
 ·have f:¬(aF (t.drop a)).1=0:=ah;have k:(16:Int)<((aF (t.drop a)).1:Nat):=ah;rw[aj f,au b];generalize(aF (t.drop a)).1=n,(aF (t.drop a)).2.1=i at *;refine⟨a+i,jd rfl rfl ?_,λh=>by cases h⟩;simp only[EX]at d;simp[d,f,b,k,BH]
 obtain⟨at2,u,l⟩:=ae9 t p (aF (t.drop a)).1 ah (aF (t.drop a)).1 [] none (a+(aF (t.drop a)).2.1) aA (.inl ⟨rfl,rfl⟩) ah;generalize(aF (t.drop a)).1=n,(aF (t.drop a)).2.1=i at *;by_cases f:n=0
 ·rw[au f];have m:((n:Int)=0)=True:=eq_true ah;refine⟨a+i,jd rfl rfl ?_,λh=>by cases h⟩;simp only[EX]at d;simp[d,f,m,BH]
 rw[aj f,aj b];have k:¬(16:Int)<(n:Int):=ah;have w:=bD ((n:Int));have o:(0:Int)<=(n:Int)/\32*(n:Int)<=281474976710656/\(n:Int)<=1152921504606846976:=ah;have c:TT.lim 157 [.l [],.zq n,.zq 0,.s t,.zq ((a:Int)+(i:Int))]=_:=u;generalize v:gB n none (t.drop (a+i))=r at *;refine⟨at2,jd rfl rfl ?_,λh=>?_⟩
 ·simp only[EX]at d;unfold Ci at c;by_cases j:r.2.2=0
  ·simp only[j,ne_eq,not_true_eq_false,if_false,bf]at c⊢;simp[d,f,b,k,w,o,c,GV.fQ]
  ·simp only[j,ne_eq,not_false_eq_true,if_true]at c⊢;simp[d,f,b,k,w,o,c,GV.fQ,BH]
 ·by_cases j:r.2.2=0
  ·rw[aj (λe=>e j)];have:=l j;simp only;omega
  ·rw[au j]at h;exact absurd h j
def sG(s:Q0):List eP×Int:=
 if(oJ s).2.2≠0 then([],(oJ s).2.2)else if(oJ s).2.1<s.length then([],10)else((oJ s).1,0)
def YJ:∀(m:Nat)(p:Option eP)(s:Q0),(gB m p s).2.2=0->(gB m p s).2.1<=s.length/\(gB m p s).1.length=m/\∀x∈(gB m p s).1,xk x=0/\x.1.length<=s.length/\x.2.length<=s.length
 |0,p,s,_=>by simp[gB]
 |m+1,p,s,h=>by
  rw[YK]at h⊢;by_cases h1:(dR s).2.2=0;rotate_left
  ·rw[au h1]at h;exact absurd h h1
  rw[aj (λe=>e h1)]at h⊢;by_cases b:Bj p (dR s).1=0;rotate_left
  ·rw[au b]at h;exact absurd h b
  rw[aj (λe=>e b)]at h⊢;by_cases a:(gB m (some (dR s).1) (s.drop (dR s).2.1)).2.2=0;rotate_left
  ·rw[au a]at h;exact absurd h a
  rw[aj (λe=>e a)];obtain⟨q,r,d,f,g,_⟩:=TQ h1;obtain⟨i,j,k⟩:=YJ m (some (dR s).1) _ a;rw[fF]at i;refine⟨by simp only;omega,by simp[j],λx c=>?_⟩;rcases bJ.1 c with rfl|c
  ·exact⟨d,f,g⟩
  ·obtain⟨l,n,o⟩:=k x c;rw[fF]at n o;exact⟨l,ah,ah⟩
def afb{s:Q0}(h:(oJ s).2.2=0):(aF s).2.2=0/\0<(aF s).1/\(aF s).1<=16/\(gB (aF s).1 none (s.drop (aF s).2.1)).2.2=0/\(oJ s).1=(gB (aF s).1 none (s.drop (aF s).2.1)).1/\
 (oJ s).2.1=(aF s).2.1+(gB (aF s).1 none (s.drop (aF s).2.1)).2.1/\(oJ s).2.1<=s.length:=by
 unfold oJ at h⊢;by_cases a:(aF s).2.2=0;rotate_left
 ·rw[au a]at h;exact absurd h a
 rw[aj (λe=>e a)]at h⊢;by_cases c:(aF s).1=0
 ·rw[au c]at h;exact absurd h (by simp[BH])
 rw[aj c]at h⊢;by_cases d:16<(aF s).1
 ·rw[au d]at h;exact absurd h (by simp[BH])
 rw[aj d]at h⊢;by_cases b:(gB (aF s).1 none (s.drop (aF s).2.1)).2.2=0;rotate_left
 ·rw[au b]at h;exact absurd h b
 rw[aj (λe=>e b)];obtain⟨f,g,i,_,_⟩:=kF a;obtain⟨d1,_,_⟩:=YJ _ _ _ b;rw[fF]at d1;exact⟨a,ah,ah,b,rfl,rfl,by simp only;omega⟩
def aff(s:Q0)(d:s.length<=100000000):TT.lim 155 [.s s]=some [.l ((sG s).1.map ent),.zq (sG s).2]:=by
 obtain⟨at2,k,b⟩:=apO s 0 ah d;rw[dD,show((0:Nat):Int)=0 from rfl]at k;rw[dD]at b;unfold sG;by_cases a:(oJ s).2.2=0;rotate_left
 ·rw[au a];generalize oJ s=r at *;refine Uj rfl rfl ?_ (by rfl);simp[k,a]
 have b:=b a;obtain⟨_,_,_,_,_,_,f⟩:=afb a;rw[aj (λe=>e a)];rw[a]at k;rw[kX]at b;have w:=bD ((s.length:Int)-(at2:Int));rw[<-b]at f⊢;generalize oJ s=r at *;by_cases c:at2<s.length
 ·rw[au c];refine aQ ?_;simp[k,w,c]
 ·rw[aj c];refine aQ ?_;simp[k,w,c]
def JE(e:Int):Row×Nat×Int:=(([],0),0,e)
def iE(a s:Q0):Row×Nat×Int:=
 if(sG a).2≠0 then JE (sG a).2 else
 if(aF s).2.2≠0 then JE (aF s).2.2 else
 if(aF s).1=0 then JE 17 else(((sG a).1,((aF s).1:Nat)),(aF s).2.1,0)
def abz{a s:Q0}(h:(iE a s).2.2=0):(sG a).2=0/\(aF s).2.2=0/\(aF s).1≠0/\(iE a s).1=((sG a).1,(((aF s).1:Nat):Int))/\(iE a s).2.1=(aF s).2.1:=by
 unfold iE at h⊢;by_cases b:(sG a).2=0;rotate_left
 ·rw[au b]at h;exact absurd h b
 rw[aj (λe=>e b)]at h⊢;by_cases c:(aF s).2.2=0;rotate_left
 ·rw[au c]at h;exact absurd h c
 rw[aj (λe=>e c)]at h⊢;by_cases d:(aF s).1=0
 ·rw[au d]at h;exact absurd h (by simp[JE])
 rw[aj d];exact⟨b,c,d,rfl,rfl⟩
def rowP(b t:Q0)(a:Nat)(h:a<=t.length)(m:t.length<=100000000)(j:b.length<=100000000):
 ∃at2:Nat,TT.lim 164 [.s b,.s t,.zq a]=some [.zq 0,.l ((iE b (t.drop a)).1.1.map ent),.zu (iE b (t.drop a)).1.2,.zq (iE b (t.drop a)).2.2,.s t,.zq at2]/\
  ((iE b (t.drop a)).2.2=0->at2=a+(iE b (t.drop a)).2.1):=by
 have g:=aff b j;have c:=CY t a h ah;unfold iE;generalize sG b=D at *;by_cases d:D.2=0;rotate_left
 ·rw[au d];refine⟨a,jd rfl rfl ?_,λh=>absurd h d⟩;simp[g,d,JE]
 rw[aj (λe=>e d)];by_cases f:(aF (t.drop a)).2.2=0;rotate_left
 ·obtain⟨k,l⟩:=JX f;rw[k,l]at c;rw[au f];generalize aF (t.drop a)=V at *;refine⟨a,jd rfl rfl ?_,λh=>absurd h f⟩;simp[g,c,d,f,JE]
 rw[aj (λe=>e f)];rw[f]at c;simp only[EX]at c;generalize aF (t.drop a)=V at *;by_cases i:V.1=0
 ·rw[au i];rw[i]at c;refine⟨a+V.2.1,jd rfl rfl ?_,λh=>by cases h⟩;simp[g,c,d,JE]
 ·rw[aj i];refine⟨a+V.2.1,jd rfl rfl ?_,λ_=>rfl⟩;simp[g,c,d,i]
def iI:Nat->List UInt8->Bool->List UInt8->List Row×Nat×Int
 |0,_,_,_=>([],0,0)
 |m+1,a,first,s=>if(bK s a first).2.2≠0 then([],0,(bK s a first).2.2)else
  if(iE (bK s a first).1 (s.drop (bK s a first).2.1)).2.2≠0 then([],0,(iE (bK s a first).1 (s.drop (bK s a first).2.1)).2.2)else
  if(iI m (bK s a first).1 false (s.drop ((bK s a first).2.1+(iE (bK s a first).1 (s.drop (bK s a first).2.1)).2.1))).2.2≠0 then([],0,(iI m (bK s a first).1 false (s.drop ((bK s a first).2.1+(iE (bK s a first).1 (s.drop (bK s a first).2.1)).2.1))).2.2)else
  ((iE (bK s a first).1 (s.drop (bK s a first).2.1)).1::(iI m (bK s a first).1 false (s.drop ((bK s a first).2.1+(iE (bK s a first).1 (s.drop (bK s a first).2.1)).2.1))).1,
   (bK s a first).2.1+(iE (bK s a first).1 (s.drop (bK s a first).2.1)).2.1+(iI m (bK s a first).1 false (s.drop ((bK s a first).2.1+(iE (bK s a first).1 (s.drop (bK s a first).2.1)).2.1))).2.1,0)
def abm(m:Nat)(a:Q0)(first:Bool)(s:Q0):iI (m+1) a first s=if(bK s a first).2.2≠0 then([],0,(bK s a first).2.2)else
 if(iE (bK s a first).1 (s.drop (bK s a first).2.1)).2.2≠0 then([],0,(iE (bK s a first).1 (s.drop (bK s a first).2.1)).2.2)else
 if(iI m (bK s a first).1 false (s.drop ((bK s a first).2.1+(iE (bK s a first).1 (s.drop (bK s a first).2.1)).2.1))).2.2≠0 then([],0,(iI m (bK s a first).1 false (s.drop ((bK s a first).2.1+(iE (bK s a first).1 (s.drop (bK s a first).2.1)).2.1))).2.2)else
 ((iE (bK s a first).1 (s.drop (bK s a first).2.1)).1::(iI m (bK s a first).1 false (s.drop ((bK s a first).2.1+(iE (bK s a first).1 (s.drop (bK s a first).2.1)).2.1))).1,
  (bK s a first).2.1+(iE (bK s a first).1 (s.drop (bK s a first).2.1)).2.1+(iI m (bK s a first).1 false (s.drop ((bK s a first).2.1+(iE (bK s a first).1 (s.drop (bK s a first).2.1)).2.1))).2.1,0):=rfl
def Cm(a:List Row)(t:Q0)(at2:Nat)(r:List Row×Nat×Int):Q1:=if r.2.2≠0 then[.zq 0,.zq r.2.2,.s t,.zq at2]else[.zq 1,.l ((a++r.1).map row),.s t,.zq at2]
def awP(L:Q1)(a t X:Q0)(n i b at2:Int)(first:Bool)(e:Int)(h:i<n)(c:decide (i=0)=first)(d:¬e=0)
 (k:TT.lim 163 [.s t,.zq b,.s a,.b first]=some [.zq 0,.s X,.zq e,.s t,.zq at2]):
 TT.lim 162 [.l L,.s a,.zq n,.zq i,.s t,.zq b]=some [.zq 0,.zq e,.s t,.zq at2]:=by
 refine aB ?_;simp[h,c,k,d]
def awR(L:Q1)(a t X:Q0)(D:Q1)(N:Int)(n i b at2 c:Int)(first:Bool)(e:Int)(h:i<n)(d:decide (i=0)=first)(f:¬e=0)
 (k:TT.lim 163 [.s t,.zq b,.s a,.b first]=some [.zq 0,.s X,.zq 0,.s t,.zq at2])
 (g:TT.lim 164 [.s X,.s t,.zq at2]=some [.zq 0,.l D,.zu N,.zq e,.s t,.zq c]):
 TT.lim 162 [.l L,.s a,.zq n,.zq i,.s t,.zq b]=some [.zq 0,.zq e,.s t,.zq c]:=by
 refine aB ?_;simp[h,d,k,g,f]
def awQ(L:Q1)(a t X:Q0)(D:Q1)(N:Int)(n i b at2 c:Int)(first:Bool)(R:Q1)(h:i<n)(e:decide (i=0)=first)(f:IntKind.i64.wrap (i+1)=i+1)(l:L.length<=100000000)
 (k:TT.lim 163 [.s t,.zq b,.s a,.b first]=some [.zq 0,.s X,.zq 0,.s t,.zq at2])
 (g:TT.lim 164 [.s X,.s t,.zq at2]=some [.zq 0,.l D,.zu N,.zq 0,.s t,.zq c])
 (j:TT.lim 162 [.l (L++[.g [.l D,.zu N]]),.s X,.zq n,.zq (i+1),.s t,.zq c]=some R):
 TT.lim 162 [.l L,.s a,.zq n,.zq i,.s t,.zq b]=some R:=by
 have d:2*(L.length+1)*32<=281474976710656/\L.length+1<=281474976710656:=ah;refine aB ?_;simp[h,e,k,g,f,GV.fQ,d,j]
def aiH(t:Q0)(s:t.length<=100000000)(n:Nat)(E:n<=1000):∀(m:Nat)(b:List Row)(a:Q0)(c:Nat),b.length+m=n->c<=t.length->a.length<=c->
 ∃at2:Nat,TT.lim 162 [.l (b.map row),.s a,.zq n,.zq b.length,.s t,.zq c]=some (Cm b t at2 (iI m a (decide ((b.length:Int)=0)) (t.drop c)))/\
  ((iI m a (decide ((b.length:Int)=0)) (t.drop c)).2.2=0->at2=c+(iI m a (decide ((b.length:Int)=0)) (t.drop c)).2.1)
 |0,b,a,c,hi,h,F=>by have u:¬((b.length:Int)<(n:Int)):=ah;refine⟨c,?_,λ_=>by simp[iI]⟩;unfold iI Cm;simp only[ne_eq,not_true_eq_false,if_false,qZ];generalize b.map row=L at *;refine aB ?_;simp[u]
 |m+1,b,a,c,hi,h,F=>by
  obtain⟨at2,k,r⟩:=awH t a (decide ((b.length:Int)=0)) c h s ah;rw[abm];generalize v:decide ((b.length:Int)=0)=first at *
  by_cases g:(bK (t.drop c) a first).2.2=0;rotate_left
  ·rw[au g];refine⟨at2,?_,λh=>absurd h g⟩;have:Cm b t at2 ([],0,(bK (t.drop c) a first).2.2)=[.zq 0,.zq (bK (t.drop c) a first).2.2,.s t,.zq at2]:=by unfold Cm;rw[au g]
   rw[this];exact awP _ _ _ _ _ _ _ _ _ _ ah v g k
  rw[aj (λe=>e g)];rw[g]at k;have r:=r g;obtain⟨R,G,H⟩:=abn g;rw[fF]at G;have w:∀j,(t.drop c).drop ((bK (t.drop c) a first).2.1+j)=t.drop (at2+j):=by intro j;rw[uf,r,jY]
  have x:(t.drop c).drop (bK (t.drop c) a first).2.1=t.drop at2:=by rw[uf,r]
  have I:(bK (t.drop c) a first).1.length<=at2:=by split at H<;>omega
  rw[w,x];generalize(bK (t.drop c) a first).1=X,(bK (t.drop c) a first).2.1=J at *;obtain⟨d,y,z⟩:=rowP X t at2 ah s ah;by_cases i:(iE X (t.drop at2)).2.2=0;rotate_left
  ·rw[au i];refine⟨d,?_,λh=>absurd h i⟩;have:Cm b t d ([],0,(iE X (t.drop at2)).2.2)=[.zq 0,.zq (iE X (t.drop at2)).2.2,.s t,.zq d]:=by unfold Cm;rw[au i]
   rw[this];exact awR _ _ _ _ _ _ _ _ _ _ _ _ _ ah v i k y
  rw[aj (λe=>e i)];rw[i]at y;have z:=z i;obtain⟨_,M,_,_,S⟩:=abz i;obtain⟨T,U,N,_,_⟩:=kF M;rw[fF]at N;have A:at2+(iE X (t.drop at2)).2.1=d:=z.symm;rw[A];have p:GV.g [.l ((iE X (t.drop at2)).1.1.map ent),.zu (iE X (t.drop at2)).1.2]=row (iE X (t.drop at2)).1:=rfl;obtain⟨l,B,D⟩:=aiH t s n E m (b++[(iE X (t.drop at2)).1]) X d (by rw[gu,E5];omega) ah ah;have f:decide (((b++[(iE X (t.drop at2)).1]).length:Int)=0)=false:=by simp;omega
  have O:((b++[(iE X (t.drop at2)).1]).length:Int)=(b.length:Int)+1:=aA;rw[f]at B D;rw[O,ng]at B;generalize(iE X (t.drop at2)).1=Q,(iE X (t.drop at2)).2.1=P at *;have q:Cm b t l (if(iI m X false (t.drop d)).2.2≠0 then([],0,(iI m X false (t.drop d)).2.2)else(Q::(iI m X false (t.drop d)).1,J+P+(iI m X false (t.drop d)).2.1,0))=Cm (b++[Q]) t l (iI m X false (t.drop d)):=by
   unfold Cm;by_cases o:(iI m X false (t.drop d)).2.2=0
   ·simp[o]
   ·simp[o]
  refine⟨l,?_,?_⟩
  ·rw[q];exact awQ _ _ _ _ _ _ _ _ _ _ _ _ _ ah v (wrap64 ah ah) (by simp;omega) k y (by rw[p];exact B)
  ·by_cases o:(iI m X false (t.drop d)).2.2=0
   ·rw[aj (λe=>e o)];intro _;have:=D o;simp only;omega
   ·rw[au o];intro h;exact absurd h o
def IZ(e:Int):List Row×Nat×Int:=([],0,e)
def nV(s:Q0):List Row×Nat×Int:=
 if(aF s).2.2≠0 then IZ (aF s).2.2 else
 if 256<(aF s).1 then IZ 13 else
 if(iI (aF s).1 [] true (s.drop (aF s).2.1)).2.2≠0 then IZ (iI (aF s).1 [] true (s.drop (aF s).2.1)).2.2 else
 ((iI (aF s).1 [] true (s.drop (aF s).2.1)).1,(aF s).2.1+(iI (aF s).1 [] true (s.drop (aF s).2.1)).2.1,0)
def ato(t:Q0)(a:Nat)(h:a<=t.length)(o:t.length<=100000000):
 ∃at2:Nat,TT.lim 161 [.s t,.zq a]=some [.zq 0,.l ((nV (t.drop a)).1.map row),.zq (nV (t.drop a)).2.2,.s t,.zq at2]/\((nV (t.drop a)).2.2=0->at2=a+(nV (t.drop a)).2.1):=by
 have d:=CY t a h ah;unfold nV;by_cases f:(aF (t.drop a)).2.2=0;rotate_left
 ·obtain⟨p,j⟩:=JX f;rw[p,j]at d;rw[au f];generalize(aF (t.drop a)).2.2=e at *;refine⟨a,jd rfl rfl ?_,λh=>absurd h f⟩;simp[d,f,IZ]
 obtain⟨s,u,q,v,_⟩:=kF f;rw[aj (λe=>e f)];rw[f]at d;rw[fF]at q;rw[uf];by_cases b:256<(aF (t.drop a)).1
 ·have k:(256:Int)<((aF (t.drop a)).1:Nat):=ah;rw[au b];generalize(aF (t.drop a)).1=n,(aF (t.drop a)).2.1=i at *;refine⟨a+i,jd rfl rfl ?_,λh=>by cases h⟩;simp only[EX]at d;simp[d,b,k,IZ]
 obtain⟨at2,l,j⟩:=aiH t o (aF (t.drop a)).1 ah (aF (t.drop a)).1 [] [] (a+(aF (t.drop a)).2.1) aA ah aA;generalize(aF (t.drop a)).1=n,(aF (t.drop a)).2.1=i at *;rw[aj b];have k:¬(256:Int)<(n:Int):=ah;have w:=bD ((n:Int));have m:(0:Int)<=(n:Int)/\32*(n:Int)<=281474976710656/\(n:Int)<=1152921504606846976:=ah;rw[show decide ((([]:List Row).length:Int)=0)=true from rfl]at l j;have c:TT.lim 162 [.l [],.s [],.zq n,.zq 0,.s t,.zq ((a:Int)+(i:Int))]=_:=l;generalize iI n [] true (t.drop (a+i))=r at *;refine⟨at2,jd rfl rfl ?_,λh=>?_⟩
 ·simp only[EX]at d;unfold Cm at c;by_cases g:r.2.2=0
  ·simp only[g,ne_eq,not_true_eq_false,if_false,bf]at c⊢;simp[d,b,k,w,m,c,GV.fQ]
  ·simp only[g,ne_eq,not_false_eq_true,if_true]at c⊢;simp[d,b,k,w,m,c,GV.fQ,IZ]
 ·by_cases g:r.2.2=0
  ·rw[aj (λe=>e g)];have:=j g;simp only;omega
  ·rw[au g]at h;exact absurd h g
def tN(s:Q0):List Row×Int:=
 if(nV s).2.2≠0 then([],(nV s).2.2)else if(nV s).2.1<s.length then([],10)else((nV s).1,0)
def abl:∀(m:Nat)(a:Q0)(first:Bool)(s:Q0),(iI m a first s).2.2=0->(iI m a first s).2.1<=s.length/\(iI m a first s).1.length=m
 |0,a,first,s,_=>by simp[iI]
 |m+1,a,first,s,h=>by
  rw[abm]at h⊢;by_cases h1:(bK s a first).2.2=0;rotate_left
  ·rw[au h1]at h;exact absurd h h1
  rw[aj (λe=>e h1)]at h⊢;by_cases b:(iE (bK s a first).1 (s.drop (bK s a first).2.1)).2.2=0;rotate_left
  ·rw[au b]at h;exact absurd h b
  rw[aj (λe=>e b)]at h⊢;by_cases c:(iI m (bK s a first).1 false (s.drop ((bK s a first).2.1+(iE (bK s a first).1 (s.drop (bK s a first).2.1)).2.1))).2.2=0;rotate_left
  ·rw[au c]at h;exact absurd h c
  rw[aj (λe=>e c)];obtain⟨j,k,_⟩:=abn h1;obtain⟨_,d,_,_,l⟩:=abz b;obtain⟨n,o,f,_,_⟩:=kF d;rw[fF]at f;obtain⟨g,i⟩:=abl m _ _ _ c;rw[fF]at g;exact⟨by simp only;omega,by simp[i]⟩
def agX{s:Q0}(h:(nV s).2.2=0):(aF s).2.2=0/\(aF s).1<=256/\(iI (aF s).1 [] true (s.drop (aF s).2.1)).2.2=0/\(nV s).1=(iI (aF s).1 [] true (s.drop (aF s).2.1)).1/\
 (nV s).2.1=(aF s).2.1+(iI (aF s).1 [] true (s.drop (aF s).2.1)).2.1/\(nV s).2.1<=s.length:=by
 unfold nV at h⊢;by_cases a:(aF s).2.2=0;rotate_left
 ·rw[au a]at h;exact absurd h a
 rw[aj (λe=>e a)]at h⊢;by_cases c:256<(aF s).1
 ·rw[au c]at h;exact absurd h (by simp[IZ])
 rw[aj c]at h⊢;by_cases b:(iI (aF s).1 [] true (s.drop (aF s).2.1)).2.2=0;rotate_left
 ·rw[au b]at h;exact absurd h b
 rw[aj (λe=>e b)];obtain⟨d,f,g,_,_⟩:=kF a;obtain⟨d1,_⟩:=abl _ _ _ _ b;rw[fF]at d1;exact⟨a,ah,b,rfl,rfl,by simp only;omega⟩
def aBr(s:Q0)(d:s.length<=100000000):TT.lim 160 [.s s]=some [.l ((tN s).1.map row),.zq (tN s).2]:=by
 obtain⟨at2,k,b⟩:=ato s 0 ah d;rw[dD,show((0:Nat):Int)=0 from rfl]at k;rw[dD]at b;unfold tN;by_cases a:(nV s).2.2=0;rotate_left
 ·rw[au a];generalize nV s=r at *;refine Uj rfl rfl ?_ (by rfl);simp[k,a]
 have b:=b a;obtain⟨_,_,_,_,_,f⟩:=agX a;rw[aj (λe=>e a)];rw[a]at k;rw[kX]at b;have w:=bD ((s.length:Int)-(at2:Int));rw[<-b]at f⊢;generalize nV s=r at *;by_cases c:at2<s.length
 ·rw[au c];refine aQ ?_;simp[k,w,c]
 ·rw[aj c];refine aQ ?_;simp[k,w,c]
def yC:Q0->List Row->List UInt8
 |_,[]=>[]
 |a,r::t=>Ce a (dV r.1)++(bg r.2.toNat++yC (dV r.1) t)
def zi(t:List Row):Q0:=bg t.length++yC [] t
def Qu(t:List Row):Q0×Int:=if qh t≠0 then([],qh t)else(zi t,0)
def abH:∀(t:List Row)(a:Q0),(∀r∈t,iL r.1=true/\0<=r.2/\r.2<18446744073709551616)->(yC a t).length<=40000*t.length
 |[],a,_=>by simp[yC]
 |r::t,a,h=>by obtain⟨h1,c,d⟩:=h r aA;have e:=ZQ h1;have f:=ah1 a (dV r.1) ah;have g:=nN (n:=r.2.toNat) ah;have i:=abH t (dV r.1) λq b=>h q (by simp[b]);simp only[yC,gu,iF];omega
def atu(L:Q1)(n i:Int)(D:List eP)(N:Int)(a k O V b:Q0)(R:Q1)(j:Nat)(hi:i=j)(h:i<n)(g:L[j]? =some (row (D,N)))(l:IntKind.i64.wrap (i+1)=i+1)(m:TT.lim 14 [.l (D.map ent)]=some [.s k])(o:TT.lim 101 [.s a,.s k]=some [.s O])
 (p:TT.lim 15 [.zu N]=some [.s V]) (c:2*(b.length+O.length)<=281474976710656/\b.length+O.length<=281474976710656) (d:2*(b.length+(O.length+V.length))<=281474976710656/\b.length+(O.length+V.length)<=281474976710656)
 (q:TT.lim 100 [.s k,.l L,.zq n,.zq (i+1),.l (bQ b++(bQ O++bQ V))]=some R):
 TT.lim 100 [.s a,.l L,.zq n,.zq i,.l (bQ b)]=some R:=by
 subst hi;have e:=OC O;have f:=OC V;refine aB ?_;simp[-List.all_eq_true,h,g,l,m,o,p,e,f,c,d,jY,q]
def ag5(l:List Row)(k:l.length<=1000)(f:∀r∈l,iL r.1=true/\0<=r.2/\r.2<18446744073709551616):∀(m i:Nat)(a b:Q0),i+m=l.length->a.length<=100000->b.length<=10+40000*i->
 TT.lim 100 [.s a,.l (l.map row),.zq l.length,.zq i,.l (bQ b)]=some [.zq 0,.l (bQ (b++yC a (l.drop i)))]
 |0,i,a,b,hi,o,d=>by have p:l.drop i=[]:=gJ;have h:¬((i:Int)<l.length):=ah;rw[p];refine aB ?_;simp[h,yC]
 |m+1,i,a,b,hi,o,d=>by
  have c:i<l.length:=ah;obtain⟨g,u,v⟩:=f l[i] (iq c);have w:=ZQ g;have q:=BQ l[i].1 g;have s:=avs a (dV l[i].1) ah ah;have x:=ah1 a (dV l[i].1) ah;have j:=yA l[i].2.toNat ah;rw[(ah:((l[i].2.toNat:Nat):Int)=l[i].2)]at j;have y:=nN (n:=l[i].2.toNat) ah;have e:=ag5 l k f m (i+1) (dV l[i].1) (b++(Ce a (dV l[i].1)++bg l[i].2.toNat)) ah ah (by simp only[gu];omega);have t:b++yC a (l.drop i)=b++(Ce a (dV l[i].1)++bg l[i].2.toNat)++yC (dV l[i].1) (l.drop (i+1)):=by rw[gW c];simp[yC]
  rw[t];rw[Ya b,Ya]at e;rw[(ah:((i+1:Nat):Int)=(i:Int)+1)]at e;exact atu _ _ _ l[i].1 l[i].2 a _ _ _ b _ i rfl ah (by simp[c]) (wrap64 ah ah) q s j ah ah e
def att(t:List Row)(c:Rows t)(l:xM t):TT.lim 99 [.l (t.map row)]=some [.s (Qu t).1,.zq (Qu t).2]:=by
 have d:=Ti t c l;unfold Qu;by_cases a:qh t=0;rotate_left
 ·rw[au a];refine Uj rfl rfl ?_ (by rfl);simp[d,a]
 rw[aj (λe=>e a)];rw[a]at d;have m:=((yR t).1 a).1;have o:∀r∈t,iL r.1=true/\0<=r.2/\r.2<18446744073709551616:=λr f=>⟨l r f,(c.2 r f).2.1,(c.2 r f).2.2⟩
 have u:=yA t.length ah;have x:=nN (n:=t.length) ah;have p:=ag5 t ah o t.length 0 [] (bg t.length) ah aA ah;rw[dD,show((0:Nat):Int)=0 from rfl]at p;have q:=abH t [] o;have w:=jD ((t.length:Int));have ok:=OC (bg t.length);have s:2*(bg t.length).length<=281474976710656/\(bg t.length).length<=281474976710656:=ah;have g:=Yc (zi t);have h:(bQ (zi t)).length<=281474976710656:=by rw[aee];unfold zi;rw[gu];omega
 have i:TT.lim 100 [.s [],.l (t.map row),.zq t.length,.zq 0,.l (bQ (bg t.length))]=some [.zq 0,.l (bQ (zi t))]:=p;generalize bQ (zi t)=y at *;generalize zi t=P at *;generalize b:bQ (bg t.length)=v at *;have j:v.length=(bg t.length).length:=by rw[<-b,aee]
 rw[<-j]at s;have k:(t.map row).length=t.length:=aA;generalize t.map row=L at *;refine aQ ?_;simp[-List.all_eq_true,d,k,w,u,b,ok,s,i,g,h]
def afp{x:eP}(h:xk x=0):x.1.length<=64/\x.2.length<=256:=by
 have d:∀(s:Q0)(lo hi:Int),pX s lo hi=0->(s.length:Int)<=hi:=by
  intro s lo hi h;unfold pX at h;split at h
  ·cases h
  ·split at h
   ·cases h
   ·omega
 unfold xk at h;by_cases c:pX x.1 1 64=0
 ·rw[aj (λe=>e c)]at h;have a:=d _ _ _ c;have b:=d _ _ _ h;omega
 ·rw[au c]at h;exact absurd h c
def aj8{s:Q0}(h:(fE s).2.2=0):bg (fE s).1.length++(fE s).1=s.take (fE s).2.1:=by
 unfold fE at h⊢;by_cases a:(aF s).2.2=0;rotate_left
 ·rw[au a]at h;exact absurd h a
 rw[aj (λe=>e a)]at h⊢;obtain⟨d,f,g,i,c⟩:=kF a;by_cases b:s.length-(aF s).2.1<(aF s).1
 ·rw[au b]at h;cases h
 rw[aj b];simp only[kG,fF];rw[KE ah,c,Dk]
def apZ{s:Q0}(h:(dR s).2.2=0):lU (dR s).1=s.take (dR s).2.1:=by obtain⟨_,_,_,_,_,a,b,c,d⟩:=TQ h;rw[c,d];unfold lU;simp only;have e:=aj8 a;have f:=aj8 b;rw[e,List.append_assoc,f,Dk]
def afa:∀(m:Nat)(p:Option eP)(s:Q0),(gB m p s).2.2=0->(gB m p s).1.flatMap lU=s.take (gB m p s).2.1/\wY (p.map (·.1)) (gB m p s).1=0
 |0,p,s,_=>by simp[gB,wY]
 |m+1,p,s,h=>by
  rw[YK]at h⊢;by_cases h1:(dR s).2.2=0;rotate_left
  ·rw[au h1]at h;exact absurd h h1
  rw[aj (λe=>e h1)]at h⊢;by_cases b:Bj p (dR s).1=0;rotate_left
  ·rw[au b]at h;exact absurd h b
  rw[aj (λe=>e b)]at h⊢;by_cases c:(gB m (some (dR s).1) (s.drop (dR s).2.1)).2.2=0;rotate_left
  ·rw[au c]at h;exact absurd h c
  rw[aj (λe=>e c)];obtain⟨i,d⟩:=afa m (some (dR s).1) _ c;obtain⟨_,_,j,_⟩:=TQ h1;have l:=apZ h1;refine⟨by simp only[jS,i,l,Dk],?_⟩;unfold wY;rw[aj (λe=>e j)];cases p with
  |none=>exact d
  |some k=>
   have a:Bh k.1 (dR s).1.1=0:=b;unfold Bh at a;simp only[gU];by_cases f:(dR s).1.1=k.1
   ·rw[au f]at a;exact absurd a aX
   rw[aj f]at a⊢;by_cases g:Op.bytesLess (dR s).1.1 k.1=true
   ·rw[au g]at a;exact absurd a aX
   rw[aj g];exact d
structure DOk(d:List eP)(key:Q0):Prop where
 chk:zX d=0
 few:iL d=true
 ents:tZ d
 put:dV d=key
def apP{s:Q0}(h:(oJ s).2.2=0)(n:s.length<=100000000):DOk (oJ s).1 (s.take (oJ s).2.1):=by
 obtain⟨d,o,p,b,e,f,q⟩:=afb h;obtain⟨r,g,c⟩:=YJ _ _ _ b;obtain⟨i,j⟩:=afa _ _ _ b;obtain⟨t,u,v,w,k⟩:=kF d;rw[e,f];refine⟨?_,?_,⟨ah,λx a=>?_⟩,?_⟩
 ·unfold zX;rw[eX,eX];exact j
 ·unfold iL;rw[aO,decide_eq_true_iff,List.all_eq_true];refine⟨λx a=>?_,ah⟩;obtain⟨l,m⟩:=afp (c x a).1;unfold uJ;rw[decide_eq_true_iff];omega
 ·obtain⟨l,m⟩:=afp (c x a).1;omega
 ·unfold dV;rw[g,k,i,Dk]
def afg{s:Q0}(h:(sG s).2=0)(c:s.length<=100000000):DOk (sG s).1 s:=by
 unfold sG at h⊢;by_cases a:(oJ s).2.2=0;rotate_left
 ·rw[au a]at h;exact absurd h a
 rw[aj (λe=>e a)]at h⊢;by_cases b:(oJ s).2.1<s.length
 ·rw[au b]at h;exact absurd h aA
 rw[aj b];have:=apP a c;rw[kQ ah]at this;exact this
def awI{s a:Q0}{first:Bool}(h:(bK s a first).2.2=0)(f:first=true->a=[]):Ce a (bK s a first).1=s.take (bK s a first).2.1/\(first=false->a<(bK s a first).1):=by
 have k:(if first=true then[]else a)=a:=by
  cases first with
  |true=>rw[au rfl,f rfl]
  |false=>rfl
 unfold bK at h⊢;simp only[k]at h⊢;by_cases b:(aF s).2.2=0;rotate_left
 ·rw[au b]at h;exact absurd h b
 rw[aj (λe=>e b)]at h⊢;by_cases g:a.length<(aF s).1
 ·rw[au g]at h;exact absurd h (by simp[mQ])
 rw[aj g]at h⊢;by_cases c:(aF (s.drop (aF s).2.1)).2.2=0;rotate_left
 ·rw[au c]at h;exact absurd h c
 rw[aj (λe=>e c)]at h⊢;by_cases i:s.length-((aF s).2.1+(aF (s.drop (aF s).2.1)).2.1)<(aF (s.drop (aF s).2.1)).1
 ·rw[au i]at h;exact absurd h (by simp[mQ])
 rw[aj i]at h⊢;obtain⟨u,v,w,x,l⟩:=kF b;obtain⟨y,z,A,B,m⟩:=kF c;have n:((s.drop ((aF s).2.1+(aF (s.drop (aF s).2.1)).2.1)).take (aF (s.drop (aF s).2.1)).1).length=(aF (s.drop (aF s).2.1)).1:=by rw[kG,fF];omega
 generalize o:(s.drop ((aF s).2.1+(aF (s.drop (aF s).2.1)).2.1)).take (aF (s.drop (aF s).2.1)).1=X at *;by_cases d:first=false/\Op.bytesLess a (a.take (aF s).1++X)=false
 ·rw[au d]at h;exact absurd h (by simp[mQ])
 rw[aj d]at h⊢;by_cases j:(aF s).1<common a (a.take (aF s).1++X)
 ·rw[au j]at h;exact absurd h (by simp[mQ])
 rw[aj j];have p:=aeO (aF s).1 a X ah;have q:common a (a.take (aF s).1++X)=(aF s).1:=ah;refine⟨?_,λf=>?_⟩
 ·unfold Ce;simp only[q];have r:(a.take (aF s).1++X).length-(aF s).1=(aF (s.drop (aF s).2.1)).1:=by rw[gu,kG,n];omega
  have t:(a.take (aF s).1++X).drop (aF s).1=X:=by rw[Xv (by rw[kG];omega)];rw[Hg (by rw[kG];omega)];rfl
  rw[r,t,l,m,<-o];rw[Dk,Dk,<-uf]
 ·simp only[f,true_and]at d;rw[<-Oz];simpa using d
def aiI:∀(m:Nat)(a:Q0)(first:Bool)(s:Q0),(iI m a first s).2.2=0->(first=true->a=[])->a.length+s.length<=100000000->
 yC a (iI m a first s).1=s.take (iI m a first s).2.1/\kS (iI m a first s).1/\(first=false->∀r∈(iI m a first s).1,a<K r)/\(∀r∈(iI m a first s).1,yB r=0/\iL r.1=true/\tZ r.1/\0<=r.2/\r.2<18446744073709551616)
 |0,a,first,s,_,_,_=>by simp[iI,yC,kS]
 |m+1,a,first,s,h,n,B=>by
  rw[abm]at h⊢;by_cases h1:(bK s a first).2.2=0;rotate_left
  ·rw[au h1]at h;exact absurd h h1
  rw[aj (λe=>e h1)]at h⊢;by_cases c:(iE (bK s a first).1 (s.drop (bK s a first).2.1)).2.2=0;rotate_left
  ·rw[au c]at h;exact absurd h c
  rw[aj (λe=>e c)]at h⊢;by_cases d:(iI m (bK s a first).1 false (s.drop ((bK s a first).2.1+(iE (bK s a first).1 (s.drop (bK s a first).2.1)).2.1))).2.2=0;rotate_left
  ·rw[au d]at h;exact absurd h d
  rw[aj (λe=>e d)];obtain⟨D,E,o⟩:=abn h1;obtain⟨p,j⟩:=awI h1 n;obtain⟨q,t,F,g,u⟩:=abz c;have v:(bK s a first).1.length<=a.length+(bK s a first).2.1:=by cases first<;>simp at o<;>omega
  obtain⟨G,H,I,J,w⟩:=kF t;have f:=afg q ah;obtain⟨x,y,k,z⟩:=aiI m _ false _ d (λe=>by cases e) (by rw[fF];omega);have i:K (iE (bK s a first).1 (s.drop (bK s a first).2.1)).1=(bK s a first).1:=by rw[g];exact f.put
  have A:(iE (bK s a first).1 (s.drop (bK s a first).2.1)).1.2.toNat=(aF (s.drop (bK s a first).2.1)).1:=by rw[g];simp
  simp only;refine⟨?_,?_,λl r b=>?_,λr b=>?_⟩
  ·show Ce a (K _)++(bg _++yC (K _) _)=_
   rw[i,A,x,p,w,<-u];rw[Dk,Dk,List.append_assoc]
  ·refine jm.2 ⟨λr b=>?_,y⟩;rw[i];exact k rfl r b
  ·rcases bJ.1 b with rfl|b
   ·rw[i];exact j l
   ·exact zJ (j l) (k rfl r b)
  ·rcases bJ.1 b with rfl|b
   ·rw[g];refine⟨?_,f.few,f.ents,by simp only;omega,by simp only;omega⟩;rw[Qz];exact⟨f.chk,by simp only;omega⟩
   ·exact z r b
structure Du(t:List Row):Prop where
 ok:Ok t
 few:xM t
 rows:Rows t
def Du.tb{t:List Row}(h:Du t):qh t=0:=(yR t).2 h.ok
def atp{s:Q0}(h:(nV s).2.2=0)(l:s.length<=100000000):zi (nV s).1=s.take (nV s).2.1/\Du (nV s).1:=by obtain⟨d,m,c,e,f,n⟩:=agX h;obtain⟨o,p,q,t,g⟩:=kF d;obtain⟨u,i⟩:=abl _ _ _ _ c;obtain⟨j,k,_,b⟩:=aiI _ _ _ _ c (λ_=>rfl) (by rw[fF];simp;omega);rw[e,f];refine⟨?_,⟨ah,k,λr a=>(b r a).1⟩,λr a=>(b r a).2.1,ah,λr a=>(b r a).2.2⟩;unfold zi;rw[i,g,j,Dk]
def akc:Du []:=⟨⟨aA,List.Pairwise.nil,aA⟩,λr a=>by simp at a,aA,aA⟩
def aBs{s:Q0}(d:s.length<=100000000):Du (tN s).1/\((tN s).2=0->zi (tN s).1=s)/\((tN s).2≠0->(tN s).1=[]):=by
 unfold tN;by_cases a:(nV s).2.2=0;rotate_left
 ·rw[au a];exact⟨akc,λh=>absurd h a,λ_=>rfl⟩
 rw[aj (λe=>e a)];by_cases b:(nV s).2.1<s.length
 ·rw[au b];exact⟨akc,λh=>absurd h aX,λ_=>rfl⟩
 rw[aj b];obtain⟨c,f⟩:=atp a d;rw[kQ ah]at c;exact⟨f,λ_=>c,λh=>absurd rfl h⟩
def Du.len{t:List Row}(h:Du t):t.length<=256:=h.ok.1
def Du.good{t:List Row}(h:Du t):gV t:=⟨Nat.le_trans h.len aX,h.few,h.rows⟩
structure One where
 deep:Int
 tag:Int
 typ:Int
 num:Int
 text:Q0
inductive aK where
 |mk (tag typ num:Int) (text:Q0) (l:List aK)
def one(x:One):GV:=.g [.i .u8 x.deep,.zu x.tag,.i .i8 x.typ,.zu x.num,.s x.text]
@[simp] theorem aEz(x:One):(one x).cells=[.i .u8 x.deep,.zu x.tag,.i .i8 x.typ,.zu x.num,.s x.text]:=rfl
mutual
def pq:aK->GV
 |.mk t y n s l=>.g [.zu t,.zq y,.zu n,.s s,.l (aI l)]
def aI:List aK->List GV
 |[]=>[]
 |f::l=>pq f::aI l
end
def oK:∀(a:List aK),(aI a).length=a.length
 |[]=>rfl
 |f::a=>by simp only[aI,iF,oK a]
structure aW where
 kind:Int
 id:Int
 min:Int
 max:Int
 chosen:Int
 flags:Int
 cost:Int
 priority:Int
 deadline:Int
 retry:Int
 epoch:Int
 base:Int
 digest:Int
 lag:Int
 code:Int
 want:Int
 remaining:Int
 allowed:Bool
 name:Q0
 region:Q0
 note:Q0
 d:List eP
 t:List Row
def iH(b:aW)(r:Q1):GV:=.g [.zq b.kind,.zu b.id,.zu b.min,.zu b.max,.zu b.chosen,.zu b.flags,.zu b.cost,.zu b.priority,.zu b.deadline,.zu b.retry,.zu b.epoch,.zu b.base,.zu b.digest,.zu b.lag,.zu b.code,.zu b.want,.zq b.remaining,.b b.allowed,.s b.name,.s b.region,.s b.note,.l (b.d.map ent),.l (b.t.map row),.l r]
def kM(b:aW)(r:Q1):GV.g [.zq b.kind,.zu b.id,.zu b.min,.zu b.max,.zu b.chosen,.zu b.flags,.zu b.cost,.zu b.priority,.zu b.deadline,.zu b.retry,.zu b.epoch,.zu b.base,.zu b.digest,.zu b.lag,.zu b.code,.zu b.want,.zq b.remaining,.b b.allowed,.s b.name,.s b.region,.s b.note,.l (b.d.map ent),.l (b.t.map row),.l r]=iH b r:=rfl
@[simp] theorem dS(b:aW)(r:Q1):(iH b r).cells=[.zq b.kind,.zu b.id,.zu b.min,.zu b.max,.zu b.chosen,.zu b.flags,.zu b.cost,.zu b.priority,.zu b.deadline,.zu b.retry,.zu b.epoch,.zu b.base,.zu b.digest,.zu b.lag,.zu b.code,.zu b.want,.zq b.remaining,.b b.allowed,.s b.name,.s b.region,.s b.note,.l (b.d.map ent),.l (b.t.map row),.l r]:=rfl
structure tX(b:aW):Prop where
 kind: -9223372036854775808<=b.kind/\b.kind<=9223372036854775807
 id:0<=b.id/\b.id<18446744073709551616
 min:0<=b.min/\b.min<18446744073709551616
 max:0<=b.max/\b.max<18446744073709551616
 chosen:0<=b.chosen/\b.chosen<18446744073709551616
 flags:0<=b.flags/\b.flags<18446744073709551616
 cost:0<=b.cost/\b.cost<18446744073709551616
 priority:0<=b.priority/\b.priority<18446744073709551616
 deadline:0<=b.deadline/\b.deadline<18446744073709551616
 retry:0<=b.retry/\b.retry<18446744073709551616
 epoch:0<=b.epoch/\b.epoch<18446744073709551616
 base:0<=b.base/\b.base<18446744073709551616
 digest:0<=b.digest/\b.digest<18446744073709551616
 lag:0<=b.lag/\b.lag<18446744073709551616
 code:0<=b.code/\b.code<18446744073709551616
 want:0<=b.want/\b.want<18446744073709551616
 remaining: -9223372036854775808<=b.remaining/\b.remaining<=9223372036854775807
 name:b.name.length<=140737488351232
 region:b.region.length<=140737488351232
 note:b.note.length<=140737488351232
 d:tZ b.d
 t:Rows b.t
def ar6{k:IntKind}{g:GV}(h:(bW.int k).has g):∃n,g=.i k n/\k.min<=n/\n<=k.max:=by simp only[bW.has]at h;exact h
def agt{g:GV}(h:(bW.int .i64).has g):∃n,g=.zq n/\-9223372036854775808<=n/\n<=9223372036854775807:=by obtain⟨n,rfl,a,b⟩:=ar6 h;exact⟨n,rfl,by simpa[IntKind.min,IntKind.signed,IntKind.bits]using a,by simpa[IntKind.max,IntKind.signed,IntKind.bits]using b⟩
def sK(a c:Int)(n:Q0):aW:=⟨1,0,a,c,0,0,0,0,0,0,0,0,0,0,0,0,0,false,n,[],[],[],[]⟩
structure fP where
 tag:Int
 use:Int
 from_:Int
 name:Q0
def fM(s:fP):GV:=.g [.zu s.tag,.zq s.use,.zq s.from_,.s s.name]
@[simp] theorem aER(s:fP):(fM s).cells=[.zu s.tag,.zq s.use,.zq s.from_,.s s.name]:=rfl
def aAl(s:fP):GV.g [.zu s.tag,.zq s.use,.zq s.from_,.s s.name]=fM s:=rfl
def sp1:List fP:=[⟨1,0,1,[109,105,110]⟩,⟨2,0,1,[109,97,120]⟩,⟨3,3,1,[110,97,109,101]⟩,⟨4,3,2,[114,101,103,105,111,110]⟩,⟨5,0,3,[102,108,97,103,115]⟩]
def sp2:List fP:=[⟨1,0,1,[99,104,111,115,101,110]⟩,⟨2,3,1,[110,97,109,101]⟩,⟨3,3,2,[114,101,103,105,111,110]⟩]
def EF:List fP:=[⟨1,0,1,[105,100]⟩,⟨2,4,1,[100,101,115,99,114]⟩,⟨3,0,1,[99,111,115,116]⟩,⟨4,0,2,[112,114,105,111,114,105,116,121]⟩,⟨5,0,3,[100,101,97,100,108,105,110,101]⟩]
def EG:List fP:=[⟨1,0,1,[105,100]⟩,⟨2,1,1,[97,108,108,111,119,101,100]⟩,⟨3,2,1,[114,101,109,97,105,110,105,110,103]⟩,⟨4,0,2,[114,101,116,114,121]⟩,⟨5,3,3,[110,111,116,101]⟩]
def EH:List fP:=[⟨1,0,1,[101,112,111,99,104]⟩,⟨2,5,1,[116,97,98,108,101]⟩,⟨3,3,2,[114,101,103,105,111,110]⟩,⟨4,0,3,[100,105,103,101,115,116]⟩]
def EI:List fP:=[⟨1,0,2,[98,97,115,101]⟩,⟨2,0,2,[101,112,111,99,104]⟩,⟨3,5,2,[116,97,98,108,101]⟩,⟨4,3,2,[114,101,103,105,111,110]⟩,⟨5,0,3,[100,105,103,101,115,116]⟩]
def EJ:List fP:=[⟨1,0,1,[101,112,111,99,104]⟩,⟨2,0,3,[108,97,103]⟩]
def EK:List fP:=[⟨1,0,1,[101,112,111,99,104]⟩,⟨2,0,1,[99,111,100,101]⟩,⟨3,0,2,[119,97,110,116]⟩,⟨4,3,3,[110,111,116,101]⟩]
def yD(k:Int):List fP:=if k=1 then sp1 else if k=2 then sp2 else if k=3 then EF else if k=4 then EG else if k=5 then EH else if k=6 then EI else if k=7 then EJ else if k=8 then EK else[]
def rJ(k:Int):Int:=if k=1 then 1 else if k=2 then 1 else if k=3 then 1 else if k=4 then 1 else if k=5 then 1 else if k=6 then 2 else if k=7 then 1 else if k=8 then 1 else 0
def bU(k v:Int):List fP:=(yD k).filter λs=>decide (s.from_<=v)
def asj:TT.lim 56 []=some [.l (sp1.map fM)]:=by refine aQ ?_;simp[sp1,fM]
def asf:TT.lim 58 []=some [.l (sp2.map fM)]:=by refine aQ ?_;simp[sp2,fM]
def al9:TT.lim 59 []=some [.l (EF.map fM)]:=by refine aQ ?_;simp[EF,fM]
def ama:TT.lim 60 []=some [.l (EG.map fM)]:=by refine aQ ?_;simp[EG,fM]
def aq1:TT.lim 61 []=some [.l (EH.map fM)]:=by refine aQ ?_;simp[EH,fM]
def apK:TT.lim 62 []=some [.l (EI.map fM)]:=by refine aQ ?_;simp[EI,fM]
def ak7:TT.lim 63 []=some [.l (EJ.map fM)]:=by refine aQ ?_;simp[EJ,fM]
def axE:TT.lim 64 []=some [.l (EK.map fM)]:=by refine aQ ?_;simp[EK,fM]
def ZR(k:Int):TT.lim 54 [.zq k]=some [.zq (rJ k)]:=by
 refine aQ ?_;unfold rJ;by_cases a:k=1
 ·simp[a]
 by_cases b:k=2
 ·simp[b]
 by_cases c:k=3
 ·simp[c]
 by_cases d:k=4
 ·simp[d]
 by_cases e:k=5
 ·simp[e]
 by_cases f:k=6
 ·simp[f]
 by_cases g:k=7
 ·simp[g]
 by_cases h:k=8
 ·simp[h]
 simp[a,b,c,d,e,f,g,h]
def ZU(v:Int)(l:List fP)(j:l.length<=8):∀(m i:Nat)(a:List fP),i+m=l.length->a.length<=i->
 TT.lim 57 [.zq v,.l (a.map fM),.l (l.map fM),.zq l.length,.zq i]=some [.zq 0,.l ((a++(l.drop i).filter λs=>decide (s.from_<=v)).map fM)]
 |0,i,a,hi,p=>by have h0:l.drop i=[]:=gJ;refine aB ?_;have h:¬((i:Int)<l.length):=ah;simp[h,h0]
 |m+1,i,a,hi,p=>by
  have c:i<l.length:=ah;have k:=gW c;refine aB ?_;have h:((i:Int)<l.length):=ah;have n:=bD ((i:Int)+1);have e:2*(a.length+1)*40<=281474976710656:=ah;have f:a.length<=281474976710655:=ah;have g:(fM l[i]).fQ 4=true:=rfl;have b:((i:Int)+1)=((i+1:Nat):Int):=ah;by_cases o:l[i].from_<=v
  ·have d:=ZU v l j m (i+1) (a++[l[i]]) ah (by simp;omega);rw[<-b,ng]at d;simp only[iC,jg]at d;simp[-List.getElem_cons_drop,h,c,o,n,aAl,e,f,g,d,k]
  ·have d:=ZU v l j m (i+1) a ah ah;rw[<-b]at d;simp[-List.getElem_cons_drop,h,c,o,n,d,k]
def aAk(k:Int):(yD k).length<=8:=by
 unfold yD;repeat' split
 all_goals (first|(unfold sp1;decide)|(unfold sp2;decide)|(unfold EF;decide)|(unfold EG;decide)|(unfold EH;decide)|(unfold EI;decide)|(unfold EJ;decide)|(unfold EK;decide)|decide)
def Gf(v:Int)(l:List fP)(a:l.length<=8):TT.lim 57 [.zq v,.l [],.l (l.map fM),.zq l.length,.zq 0]=some [.zq 0,.l ((l.filter λs=>decide (s.from_<=v)).map fM)]:=by have:=ZU v l a l.length 0 [] ah aA;simpa using this
def U4(k v:Int)(h1:1<=v)(D:v<=3)(d:rJ k<=v):TT.lim 55 [.zq k,.zq v]=some [.l ((bU k v).map fM)]:=by
 have a:¬v<1:=ah;have b:¬3<v:=ah;unfold bU yD;unfold rJ at d;have m:=Gf v sp1 aX;have n:=Gf v sp2 aX;have g3:=Gf v EF aX;have g4:=Gf v EG aX;have o:=Gf v EH aX;have p:=Gf v EI aX;have q:=Gf v EJ aX;have r:=Gf v EK aX;have s:=asj;have t:=asf;have u:=al9;have w:=ama;have x:=aq1;have y:=apK;have z:=ak7;have A:=axE;generalize sp1=E,sp2=F,EF=G,EG=H,EH=I,EI=J,EJ=L,EK=M at *;refine aQ ?_;by_cases e:k=1
 ·simp[e,a,b,s,m]
 by_cases f:k=2
 ·simp[f,a,b,t,n]
 by_cases g:k=3
 ·simp[g,a,b,u,g3]
 by_cases h:k=4
 ·simp[h,a,b,w,g4]
 by_cases i:k=5
 ·simp[i,a,b,x,o]
 by_cases c:k=6
 ·have B:¬v<2:=by subst c;simpa using d
  simp[c,a,B,b,y,p]
 by_cases j:k=7
 ·simp[j,a,b,z,q]
 by_cases l:k=8
 ·simp[l,a,b,A,r]
 simp[e,f,g,h,i,c,j,l]
def ag3(k v:Int)(h1:1<=v)(j:v<=3):bU k v=[]↔rJ k=0\/v<rJ k:=by
 have a:v=1\/v=2\/v=3:=ah;unfold bU yD rJ;by_cases b:k=1
 ·subst b;rcases a with rfl|rfl|rfl<;>decide
 by_cases c:k=2
 ·subst c;rcases a with rfl|rfl|rfl<;>decide
 by_cases d:k=3
 ·subst d;rcases a with rfl|rfl|rfl<;>decide
 by_cases e:k=4
 ·subst e;rcases a with rfl|rfl|rfl<;>decide
 by_cases f:k=5
 ·subst f;rcases a with rfl|rfl|rfl<;>decide
 by_cases g:k=6
 ·subst g;rcases a with rfl|rfl|rfl<;>decide
 by_cases h:k=7
 ·subst h;rcases a with rfl|rfl|rfl<;>decide
 by_cases i:k=8
 ·subst i;rcases a with rfl|rfl|rfl<;>decide
 simp[b,c,d,e,f,g,h,i]
def aK.tag:aK->Int
 |.mk t _ _ _ _=>t
def BK:∀(a:List aK),aI a=a.map pq
 |[]=>rfl
 |f::a=>by simp only[aI,iC,BK a]
mutual
def uZ:aK->Nat
 |.mk _ _ _ _ l=>dA l+1
def dA:List aK->Nat
 |[]=>0
 |f::l=>uZ f+dA l+1
end
mutual
def uK:aK->Prop
 |.mk t y n s k=>(0<=t/\t<18446744073709551616/\-128<=y/\y<=127/\0<=n/\n<18446744073709551616/\s.length<=100000000/\k.length<=1000000)/\dX k
def dX:List aK->Prop
 |[]=>True
 |f::r=>uK f/\dX r
end
def FZ:∀{l:List aK},dX l->∀f∈l,uK f
 |f::l,h,g,a=>by
  simp only[dX]at h;rcases bJ.1 a with rfl|a
  ·exact h.1
  ·exact FZ h.2 g a
def WQ:∀{l:List aK}{f:aK},f∈l->uZ f<dA l
 |g::l,f,h=>by
  simp only[dA];rcases bJ.1 h with rfl|h
  ·omega
  ·have:=WQ h;omega
mutual
def Bz(w:Nat):aK->Int
 |.mk _ y n s k=>if y=0 then(if s=[]/\k=[]then 0 else 8)else if y=1 then(if n=0/\k=[]then 0 else 8)else if y=2 then(if n=0/\s=[]then(if 8<=w then 9 else jT (w+1) 0 k)else 8)else 8
def jT(w:Nat)(ahead:Int):List aK->Int
 |[]=>0
 |f::r=>if f.tag=0 then 18 else if 4294967296<f.tag then 18 else if f.tag<=ahead then 7 else if Bz w f≠0 then Bz w f else jT w f.tag r
end
@[simp] theorem LJ(t y n:Int)(s:Q0)(k:List aK):(pq (.mk t y n s k)).cells=[.zu t,.zq y,.zu n,.s s,.l (aI k)]:=by simp only[pq];rfl
def aqV(k:List aK):(aI k).length=0↔k=[]:=by rw[oK,adb]
def afH:∀(N:Nat)(l:List aK),dA l<N->dX l->l.length<=1000000->∀w:Nat,w<=8->TT.lim 93 [.l (aI l),.zq w]=some [.zq (jT w 0 l)]
 |0,l,h,_,_,_,_=>ah
 |N+1,l,T,G,J,w,P=>by
  have loop:∀m i (ahead:Int),i+m=l.length->TT.lim 94 [.zq w,.zu ahead,.l (aI l),.zq l.length,.zq i]=some (if jT w ahead (l.drop i)=0 then[.zq 1]else[.zq 0,.zq (jT w ahead (l.drop i))]):=by
   intro m;induction m with
   |zero=>intro i ahead hi;have r:l.drop i=[]:=gJ;refine aB ?_;have h:¬((i:Int)<l.length):=ah;simp[h,r,jT]
   |succ m R=>
    intro i ahead hi;have q:i<l.length:=ah;rw[gW q];have H:=FZ G l[i] (iq q);have S:=WQ (iq q);have b:(aI l)[i]? =some (pq l[i]):=by rw[BK,jf,bT q];rfl
    have u:((i:Int)+1)=((i+1:Nat):Int):=ah;have c:=λa=>R (i+1) a ah;simp only[<-u]at c;generalize l[i]=f at *;obtain⟨t,y,n,s,k⟩:=f;simp only[uK]at H;simp only[uZ]at S;have g:=bD ((i:Int)+1);have A:=bD ((w:Int)+1);refine aB ?_;have h:((i:Int)<l.length):=ah;have z:=λh=>afH N k ah H.2 H.1.2.2.2.2.2.2.2 (w+1) h;simp only[EX,Int.natCast_one]at z;have B:((aI k).length=0)=(k=[]):=propext (aqV k);simp only[jT,aK.tag];by_cases d:t=0
    ·simp[h,b,d]
    by_cases e:4294967296<t
    ·simp[h,b,d,e]
    by_cases j:t<=ahead
    ·simp[h,b,d,e,j]
    simp only[Bz];by_cases L:y=0
    ·subst L;by_cases o:s=[]
     ·by_cases p:k=[]
      ·simp[h,b,d,e,j,o,p,g,c,aI]
      ·simp[h,b,d,e,j,o,p,g,c,B]
     ·simp[h,b,d,e,j,o]
    by_cases M:y=1
    ·subst M;by_cases o:n=0
     ·by_cases p:k=[]
      ·simp[h,b,d,e,j,o,p,g,c,aI]
      ·simp[h,b,d,e,j,o,p,g,c,B]
     ·simp[h,b,d,e,j,o]
    by_cases O:y=2
    ·subst O;by_cases o:n=0
     ·by_cases p:s=[]
      ·by_cases I:8<=w
       ·have E:(8:Int)<=w:=ah;simp[h,b,d,e,j,o,p,I,E]
       ·have E:¬(8:Int)<=w:=ah;have z:=z ah;by_cases v:jT (w+1) 0 k=0
        ·rw[v]at z;simp[h,b,d,e,j,o,p,I,E,A,z,v,g,c,aK.tag]
        ·simp[h,b,d,e,j,o,p,I,E,A,z,v,g,c,aK.tag]
      ·simp[h,b,d,e,j,o,p]
     ·simp[h,b,d,e,j,o]
    simp[h,b,d,e,j,L,M,O]
  have r:=loop l.length 0 0 ah;rw[dD]at r;refine aQ ?_;have D:=oK l;by_cases F:jT w 0 l=0
  ·rw[au F]at r;have x:TT.lim 94 [.zq w,.zu 0,.l (aI l),.zq (aI l).length,.zq 0]=some [.zq 1]:=by rw[D];exact r
   simp[x,F]
  ·rw[aj F]at r;have x:TT.lim 94 [.zq w,.zu 0,.l (aI l),.zq (aI l).length,.zq 0]=some [.zq 0,.zq (jT w 0 l)]:=by rw[D];exact r
   simp[x,F]
def Ua(l:List aK)(b:dX l)(a:l.length<=1000000):TT.lim 92 [.l (aI l)]=some [.zq (jT 0 0 l)]:=by have h:=afH (dA l+1) l ah b a 0 ah;have c:TT.lim 93 [.l (aI l),.zq 0]=_:=h;refine aQ ?_;simp[c]
inductive Pl where
 |rem|allow|name|region|note|d|t
 |num (k:Nat)
def Jq:Q0:=[114,101,109,97,105,110,105,110,103]
def Ja:Q0:=[97,108,108,111,119,101,100]
def Jm:Q0:=[110,97,109,101]
def Jp:Q0:=[114,101,103,105,111,110]
def Eh:Q0:=[110,111,116,101]
def Jf:Q0:=[100,101,115,99,114]
def Js:Q0:=[116,97,98,108,101]
def Ji:Q0:=[105,100]
def Jl:Q0:=[109,105,110]
def Jk:Q0:=[109,97,120]
def Jc:Q0:=[99,104,111,115,101,110]
def Jh:Q0:=[102,108,97,103,115]
def Jd:Q0:=[99,111,115,116]
def Jo:Q0:=[112,114,105,111,114,105,116,121]
def Je:Q0:=[100,101,97,100,108,105,110,101]
def Jr:Q0:=[114,101,116,114,121]
def Ar:Q0:=[101,112,111,99,104]
def Jb:Q0:=[98,97,115,101]
def Jg:Q0:=[100,105,103,101,115,116]
def Jj:Q0:=[108,97,103]
def Aq:Q0:=[99,111,100,101]
def Cc:Q0:=[119,97,110,116]
def placeOf(n:Q0):Option Pl:=
 if n=Jq then some .rem else if n=Ja then some .allow else if n=Jm then some .name else if n=Jp then some .region else if n=Eh then some .note else if n=Jf then some .d else if n=Js then some .t else if n=Ji then some (.num 0)else if n=Jl then some (.num 1)else if n=Jk then some (.num 2)else if n=Jc then some (.num 3)else if n=Jh then some (.num 4)else if n=Jd then some (.num 5)else if n=Jo then some (.num 6)else if n=Je then some (.num 7)else if n=Jr then some (.num 8)else if n=Ar then some (.num 9)else if n=Jb then some (.num 10)else if n=Jg then some (.num 11)else if n=Jj then some (.num 12)else if n=Aq then some (.num 13)else if n=Cc then some (.num 14)else none
def aiD:placeOf Jq=some .rem:=rfl
def aik:placeOf Ja=some .allow:=rfl
def aiz:placeOf Jm=some .name:=rfl
def aiC:placeOf Jp=some .region:=rfl
def aiA:placeOf Eh=some .note:=rfl
def air:placeOf Jf=some .d:=rfl
def aiF:placeOf Js=some .t:=rfl
def aiv:placeOf Ji=some (.num 0):=rfl
def aiy:placeOf Jl=some (.num 1):=rfl
def aix:placeOf Jk=some (.num 2):=rfl
def ain:placeOf Jc=some (.num 3):=rfl
def aiu:placeOf Jh=some (.num 4):=rfl
def aip:placeOf Jd=some (.num 5):=rfl
def aiB:placeOf Jo=some (.num 6):=rfl
def aiq:placeOf Je=some (.num 7):=rfl
def aiE:placeOf Jr=some (.num 8):=rfl
def ait:placeOf Ar=some (.num 9):=rfl
def ail:placeOf Jb=some (.num 10):=rfl
def ais:placeOf Jg=some (.num 11):=rfl
def aiw:placeOf Jj=some (.num 12):=rfl
def aio:placeOf Aq=some (.num 13):=rfl
def aiG:placeOf Cc=some (.num 14):=rfl
def Gu(b:aW)(k:Nat):Int:=match k with
 |0=>b.id
 |1=>b.min
 |2=>b.max
 |3=>b.chosen
 |4=>b.flags
 |5=>b.cost
 |6=>b.priority
 |7=>b.deadline
 |8=>b.retry
 |9=>b.epoch
 |10=>b.base
 |11=>b.digest
 |12=>b.lag
 |13=>b.code
 |_=>b.want
def Vw(b:aW):Pl->Bool
 |.rem=>decide (b.remaining=0)
 |.allow=>!b.allowed
 |.name=>decide (b.name=[])
 |.region=>decide (b.region=[])
 |.note=>decide (b.note=[])
 |.d=>decide (b.d=[])
 |.t=>decide (b.t=[])
 |.num k=>decide (Gu b k=0)
def uQ(b:aW)(n:Q0):Bool:=match placeOf n with
 |some p=>Vw b p
 |none=>true
def vS(b:aW):Pl->Int
 |.name=>pX b.name 0 256
 |.region=>pX b.region 0 256
 |.note=>pX b.note 0 256
 |.d=>if b.d=[]then 0 else zX b.d
 |.t=>qh b.t
 |_=>0
def BZ(b:aW)(n:Q0):Int:=match placeOf n with
 |some p=>vS b p
 |none=>0
def zz(x:Int):Int:=if 0<=x then 2*x else -2*x-1
def dH(b:aW):Pl->Int×Q0
 |.rem=>(zz b.remaining,[])
 |.allow=>(if b.allowed=true then 1 else 0,[])
 |.name=>(0,b.name)
 |.region=>(0,b.region)
 |.note=>(0,b.note)
 |.d=>(0,if b.d=[]then[]else dV b.d)
 |.t=>(0,if b.t=[]then[]else(Qu b.t).1)
 |.num k=>(Gu b k,[])
def fO:Pl->Int
 |.num _=>0
 |.rem=>0
 |.allow=>0
 |_=>1
def aBJ:Pl->Int
 |.num _=>0
 |.allow=>1
 |.rem=>2
 |.d=>4
 |.t=>5
 |_=>3
def nameOf:Pl->List UInt8
 |.rem=>Jq
 |.allow=>Ja
 |.name=>Jm
 |.region=>Jp
 |.note=>Eh
 |.d=>Jf
 |.t=>Js
 |.num k=>match k with
  |0=>Ji
  |1=>Jl
  |2=>Jk
  |3=>Jc
  |4=>Jh
  |5=>Jd
  |6=>Jo
  |7=>Je
  |8=>Jr
  |9=>Ar
  |10=>Jb
  |11=>Jg
  |12=>Jj
  |13=>Aq
  |_=>Cc
def Vx:Pl->Prop
 |.num k=>k<15
 |_=>True
def atg{c:Prop}[Decidable c]{a b:Option Pl}{p:Pl}(h:(if c then a else b)=some p):(c/\a=some p)\/(¬c/\b=some p):=by
 by_cases e:c
 ·rw[au e]at h;exact .inl ⟨e,h⟩
 ·rw[aj e]at h;exact .inr ⟨e,h⟩
def MR(n:Q0)(p:Pl)(h:placeOf n=some p):n=nameOf p/\Vx p/\n∈iM:=by
 unfold placeOf at h
 iterate 22
  replace h:=atg h
  rcases h with⟨e,h⟩|⟨-,h⟩
  ·cases h;subst e;exact⟨rfl,by first|exact trivial|exact(show _<15 by decide),aX⟩
 cases h
def awF{a b:Q0}{p:Pl}(c:placeOf a=some p)(d:placeOf b=some p):a=b:=by rw[(MR a p c).1,(MR b p d).1]
def atd{n m:Q0}{p q:Pl}(b:placeOf n=some p)(a:placeOf m=some q):(n=m)=(p=q):=
 propext ⟨λe=>by subst e;rw[b]at a;cases a;rfl,λe=>by subst e;exact awF b a⟩
def UQ{n:Q0}{p:Pl}(a:placeOf n=some p):((n=[114,101,109,97,105,110,105,110,103])=(p=.rem))/\((n=[97,108,108,111,119,101,100])=(p=.allow))/\((n=[110,97,109,101])=(p=.name))/\((n=[114,101,103,105,111,110])=(p=.region))/\((n=[110,111,116,101])=(p=.note))/\((n=[100,101,115,99,114])=(p=.d))/\((n=[116,97,98,108,101])=(p=.t))/\((n=[105,100])=(p=.num 0))/\((n=[109,105,110])=(p=.num 1))/\((n=[109,97,120])=(p=.num 2))/\((n=[99,104,111,115,101,110])=(p=.num 3))/\((n=[102,108,97,103,115])=(p=.num 4))/\((n=[99,111,115,116])=(p=.num 5))/\((n=[112,114,105,111,114,105,116,121])=(p=.num 6))/\((n=[100,101,97,100,108,105,110,101])=(p=.num 7))/\((n=[114,101,116,114,121])=(p=.num 8))/\((n=[101,112,111,99,104])=(p=.num 9))/\((n=[98,97,115,101])=(p=.num 10))/\((n=[100,105,103,101,115,116])=(p=.num 11))/\((n=[108,97,103])=(p=.num 12))/\((n=[99,111,100,101])=(p=.num 13))/\((n=[119,97,110,116])=(p=.num 14)):=by and_intros<;>exact atd a rfl
def agP{n:Q0}(h:placeOf n=none):((n=[114,101,109,97,105,110,105,110,103])=False)/\((n=[97,108,108,111,119,101,100])=False)/\((n=[110,97,109,101])=False)/\((n=[114,101,103,105,111,110])=False)/\((n=[110,111,116,101])=False)/\((n=[100,101,115,99,114])=False)/\((n=[116,97,98,108,101])=False)/\((n=[105,100])=False)/\((n=[109,105,110])=False)/\((n=[109,97,120])=False)/\((n=[99,104,111,115,101,110])=False)/\((n=[102,108,97,103,115])=False)/\((n=[99,111,115,116])=False)/\((n=[112,114,105,111,114,105,116,121])=False)/\((n=[100,101,97,100,108,105,110,101])=False)/\((n=[114,101,116,114,121])=False)/\((n=[101,112,111,99,104])=False)/\((n=[98,97,115,101])=False)/\((n=[100,105,103,101,115,116])=False)/\((n=[108,97,103])=False)/\((n=[99,111,100,101])=False)/\((n=[119,97,110,116])=False):=by and_intros<;>exact eq_false λe=>by subst e;exact absurd h aX
def MO{Q:(p:Pl)->Vx p->Prop}(h0:Q (.rem) trivial)(h1:Q (.allow) trivial)(o:Q (.name) trivial)(q:Q (.region) trivial)(r:Q (.note) trivial)(h5:Q (.d) trivial)(h6:Q (.t) trivial)(s:Q (.num 0) (show 0<15 by decide))(t:Q (.num 1) (show 1<15 by decide))(u:Q (.num 2) (show 2<15 by decide))(b:Q (.num 3) (show 3<15 by decide))(c:Q (.num 4) (show 4<15 by decide))(d:Q (.num 5) (show 5<15 by decide))(e:Q (.num 6) (show 6<15 by decide))(f:Q (.num 7) (show 7<15 by decide))(g:Q (.num 8) (show 8<15 by decide))(h:Q (.num 9) (show 9<15 by decide))(i:Q (.num 10) (show 10<15 by decide))(j:Q (.num 11) (show 11<15 by decide))(l:Q (.num 12) (show 12<15 by decide))(m:Q (.num 13) (show 13<15 by decide))(n:Q (.num 14) (show 14<15 by decide))(p:Pl)(a:Vx p):Q p a:=by
 cases p with
 |num k=>simp only[Vx]at a;rcases(ah:k=0\/k=1\/k=2\/k=3\/k=4\/k=5\/k=6\/k=7\/k=8\/k=9\/k=10\/k=11\/k=12\/k=13\/k=14)with rfl|rfl|rfl|rfl|rfl|rfl|rfl|rfl|rfl|rfl|rfl|rfl|rfl|rfl|rfl<;>assumption
 |_=>assumption
def vK(a:We):Q1:=a.map λp=>.g [.s p,.b true]
def BP(a:We)(x:Q0):We:=if x∈a then a else a++[x]
def X6(n:Q0):∀a:We,iK (.s n) (vK a)=if n∈a then some (.b true)else none
 |[]=>rfl
 |p::a=>by
  have b:=X6 n a;simp only[vK,iC,iK,pJ]at b⊢;by_cases e:n=p
  ·subst e;simp
  ·have c:¬p=n:=λh=>e h.symm;simp[e,b]
def aiS(x:Q0):∀a:We,lQ (.s x) (.b true) (vK a)=vK (BP a x)
 |[]=>rfl
 |p::a=>by
  have b:=aiS x a;unfold BP at b⊢;simp only[vK,iC,lQ,pJ]at b⊢;by_cases e:x=p
  ·subst e;simp
  ·have d:(x==p)=false:=by simpa using e
   simp only[d,ig,if_false];rw[b];by_cases c:x∈a
   ·simp only[c,if_true,bJ,or_true,iC]
   ·simp only[c,if_false,bJ,e,or_false,bI,iC]
def Ag(a:We)(l:List fP):We:=l.foldl (λa s=>BP a s.name) a
def aul(n x:Q0)(a:We):n∈BP a x↔n∈a\/x=n:=by
 unfold BP;split
 ·next h=>exact⟨.inl,λe=>e.elim id (λe=>e▸h)⟩
 ·simp[eq_comm]
def ahI(n:Q0):∀(l:List fP)(a:We),n∈Ag a l↔n∈a\/∃s∈l,s.name=n
 |[],a=>by simp[Ag]
 |s::l,a=>by have:=ahI n l (BP a s.name);unfold Ag at this⊢;rw[List.foldl_cons,this,aul];simp[or_assoc]
def BN(l:List fP)(n:Q0):Bool:=l.any λs=>decide (s.name=n)
def auk(n:Q0)(l:List fP):decide (n∈Ag [] l)=BN l n:=by rw[xK,decide_eq_true_iff,ahI];simp[BN]
def ahC(b:aW)(r:Q1)(l:List fP)(f:l.length<=1000):∀(m i:Nat)(a:We),i+m=l.length->
 TT.lim 65 [.l (l.map fM),.zq l.length,.zq i,.l (vK a),.zq b.kind,.zu b.id,.zu b.min,.zu b.max,.zu b.chosen,.zu b.flags,.zu b.cost,.zu b.priority,.zu b.deadline,.zu b.retry,.zu b.epoch,.zu b.base,.zu b.digest,.zu b.lag,.zu b.code,.zu b.want,.zq b.remaining,.b b.allowed,.s b.name,.s b.region,.s b.note,.l (b.d.map ent),.l (b.t.map row),.l r]=some [.zq 0,.l (vK (Ag a (l.drop i)))]
 |0,i,a,hi=>by have h0:l.drop i=[]:=gJ;refine aB ?_;have h:¬((i:Int)<l.length):=ah;simp[h,h0,Ag]
 |m+1,i,a,hi=>by
  have d:i<l.length:=ah;have e:=ahC b r l f m (i+1) (BP a l[i].name) ah;have c:((i:Int)+1)=((i+1:Nat):Int):=ah;rw[<-c]at e;have g:=aiS l[i].name a;have j:Ag a (l.drop i)=Ag (BP a l[i].name) (l.drop (i+1)):=by rw[gW d];rfl
  rw[j];generalize Ag (BP a l[i].name) (l.drop (i+1))=X,vK (BP a l[i].name)=Y at *;refine aB ?_;have h:((i:Int)<l.length):=ah;have k:=bD ((i:Int)+1);simp[h,d,k,g,e]
def akY(b:aW)(r:Q1)(n:Q0)(c:Prop):Prop:=∀(f:GV)(a:We)(i:Nat)(e:We)(d:Q1)(h:i<a.length),((i:Int)<a.length)->IntKind.i64.wrap ((i:Int)+1)=(i:Int)+1->a[i]=n->iK (.s n) (vK e)=none->
    TT.lim 67 [f,.l (a.map .s),.zq a.length,.zq ((i:Int)+1),.l (vK e),.zq b.kind,.zu b.id,.zu b.min,.zu b.max,.zu b.chosen,.zu b.flags,.zu b.cost,.zu b.priority,.zu b.deadline,.zu b.retry,.zu b.epoch,.zu b.base,.zu b.digest,.zu b.lag,.zu b.code,.zu b.want,.zq b.remaining,.b b.allowed,.s b.name,.s b.region,.s b.note,.l (b.d.map ent),.l (b.t.map row),.l r]=some d->
    (c->TT.lim 67 [f,.l (a.map .s),.zq a.length,.zq i,.l (vK e),.zq b.kind,.zu b.id,.zu b.min,.zu b.max,.zu b.chosen,.zu b.flags,.zu b.cost,.zu b.priority,.zu b.deadline,.zu b.retry,.zu b.epoch,.zu b.base,.zu b.digest,.zu b.lag,.zu b.code,.zu b.want,.zq b.remaining,.b b.allowed,.s b.name,.s b.region,.s b.note,.l (b.d.map ent),.l (b.t.map row),.l r]=some d)/\(¬c->TT.lim 67 [f,.l (a.map .s),.zq a.length,.zq i,.l (vK e),.zq b.kind,.zu b.id,.zu b.min,.zu b.max,.zu b.chosen,.zu b.flags,.zu b.cost,.zu b.priority,.zu b.deadline,.zu b.retry,.zu b.epoch,.zu b.base,.zu b.digest,.zu b.lag,.zu b.code,.zu b.want,.zq b.remaining,.b b.allowed,.s b.name,.s b.region,.s b.note,.l (b.d.map ent),.l (b.t.map row),.l r]=some [.zq 0])
def ahP:TT.lim 66 []=some [.l (iM.map .s)]:=CG (Ds:=Ds) (k:=66) (f:=Vp) rfl rfl
def avh(b:aW){n:Q0}{p:Pl}(h:placeOf n=some p):uQ b n=Vw b p:=by unfold uQ;rw[h]
set_option maxHeartbeats 4000000 in
def aAI(b:aW)(r:Q1){n:Q0}{p:Pl}(c:placeOf n=some p):akY b r n (Vw b p=true):=by
 intro o q i s l h d k e f g;have j:=UQ c;have m:=(MR n p c).2.1;clear c;induction p,m using MO<;>(refine⟨λa=>jd rfl rfl ?_,λa=>jd rfl rfl ?_⟩<;>simp only[Vw,Gu,decide_eq_true_iff,zG]at a)
 all_goals first
  |(have a:=eq_true a;simp[d,h,e,k,f,a,j,g];done)
  |(rw[a]at g;simp[d,h,e,k,f,a,j,g];done)
  |(simp[d,h,e,f,a,j];done)
def ahD(b:aW)(r:Q1)(l:GV)(a:We)(g:a.length<=1000)(j:∀n∈a,placeOf n≠none)(c:We):∀(m i:Nat),i+m=a.length->
 TT.lim 67 [l,.l (a.map .s),.zq a.length,.zq i,.l (vK c),.zq b.kind,.zu b.id,.zu b.min,.zu b.max,.zu b.chosen,.zu b.flags,.zu b.cost,.zu b.priority,.zu b.deadline,.zu b.retry,.zu b.epoch,.zu b.base,.zu b.digest,.zu b.lag,.zu b.code,.zu b.want,.zq b.remaining,.b b.allowed,.s b.name,.s b.region,.s b.note,.l (b.d.map ent),.l (b.t.map row),.l r]=some (if(a.drop i).all (λn=>decide (n∈c) ||uQ b n)=true then[.zq 1]else[.zq 0])
 |0,i,hi=>by have h0:a.drop i=[]:=gJ;refine aB ?_;have h:¬((i:Int)<a.length):=ah;simp[h,h0]
 |m+1,i,hi=>by
  have d:i<a.length:=ah;have o:=ahD b r l a g j c m (i+1) ah;have f:((i:Int)+1)=((i+1:Nat):Int):=ah;rw[<-f]at o;have u:(a.drop i).all (λn=>decide (n∈c) ||uQ b n)=((decide (a[i]∈c) ||uQ b a[i])&&(a.drop (i+1)).all (λn=>decide (n∈c) ||uQ b n)):=by rw[gW d,qJ]
  rw[u];generalize(a.drop (i+1)).all (λn=>decide (n∈c) ||uQ b n)=X at *;by_cases e:a[i]∈c
  ·have k:=X6 a[i] c;rw[au e]at k;have v:((i:Int)<a.length):=ah;have w:=bD ((i:Int)+1);rw[DN e,Bool.true_or,ET];refine aB ?_;simp[v,d,w,k,o]
  ·have k:=X6 a[i] c;rw[aj e]at k;obtain⟨p,q⟩:=akV.1 (j _ (iq d));have s:=avh b q;obtain⟨x,y⟩:=aAI b r q l a i c _ d ah (bD ((i:Int)+1)) rfl k o;rw[Iy e,AL];cases t:uQ b a[i]with
   |true=>rw[x (by rw[<-s];exact t),ET]
   |false=>rw[y (by rw[<-s,t];decide),Xr];rfl
def Ho(b:aW)(r:Q1)(k:Nat)(a:Q1):Prop:=TT.lim k [.zq b.kind,.zu b.id,.zu b.min,.zu b.max,.zu b.chosen,.zu b.flags,.zu b.cost,.zu b.priority,.zu b.deadline,.zu b.retry,.zu b.epoch,.zu b.base,.zu b.digest,.zu b.lag,.zu b.code,.zu b.want,.zq b.remaining,.b b.allowed,.s b.name,.s b.region,.s b.note,.l (b.d.map ent),.l (b.t.map row),.l r]=some a
def aug(b:aW){n:Q0}{p:Pl}(h:placeOf n=some p):BZ b n=vS b p:=by unfold BZ;rw[h]
set_option maxHeartbeats 4000000 in
def aui(b:aW)(r:Q1)(a:tX b)(d:∀r∈b.t,iL r.1=true):(∀k∈[69,70,76,77,78,79,80,81,82,83,84,85,86,87,88,89,90],Ho b r k [.zq 0])/\Ho b r 71 [.zq 0,.zq (vS b .name)]/\Ho b r 72 [.zq 0,.zq (vS b .region)]/\Ho b r 73 [.zq 0,.zq (vS b .note)]/\Ho b r 74 [.zq 0,.zq (vS b .d)]/\Ho b r 75 [.zq 0,.zq (vS b .t)]:=by
 have f:=FI b.name 0 256 a.name;have g:=FI b.region 0 256 a.region;have h:=FI b.note 0 256 a.note;have i:=aez b.d a.d;have j:=Ti b.t a.t d;refine⟨λk c=>?_,jd rfl rfl ?_,jd rfl rfl ?_,jd rfl rfl ?_,jd rfl rfl ?_,jd rfl rfl ?_⟩
 ·simp only[bJ,List.not_mem_nil,or_false]at c;rcases c with rfl|rfl|rfl|rfl|rfl|rfl|rfl|rfl|rfl|rfl|rfl|rfl|rfl|rfl|rfl|rfl|rfl<;>(refine aB ?_;simp)
 ·simp[vS,f]
 ·simp[vS,g]
 ·simp[vS,h]
 ·by_cases e:b.d=[]
  ·simp[vS,e]
  ·have l:¬(List.map ent b.d)=[]:=by simpa using e
   have m:0<b.d.length:=Kw.2 e;simp[vS,e,i]
 ·simp[vS,j]
def akZ(b:aW)(r:Q1)(n:Q0)(c:Int):Prop:=∀(l:List fP)(i:Nat)(a:Q1)(h:i<l.length),((i:Int)<l.length)->IntKind.i64.wrap ((i:Int)+1)=(i:Int)+1->l[i].name=n->
    TT.lim 68 [.l (l.map fM),.zq l.length,.zq ((i:Int)+1),.zq b.kind,.zu b.id,.zu b.min,.zu b.max,.zu b.chosen,.zu b.flags,.zu b.cost,.zu b.priority,.zu b.deadline,.zu b.retry,.zu b.epoch,.zu b.base,.zu b.digest,.zu b.lag,.zu b.code,.zu b.want,.zq b.remaining,.b b.allowed,.s b.name,.s b.region,.s b.note,.l (b.d.map ent),.l (b.t.map row),.l r]=some a->
    TT.lim 68 [.l (l.map fM),.zq l.length,.zq i,.zq b.kind,.zu b.id,.zu b.min,.zu b.max,.zu b.chosen,.zu b.flags,.zu b.cost,.zu b.priority,.zu b.deadline,.zu b.retry,.zu b.epoch,.zu b.base,.zu b.digest,.zu b.lag,.zu b.code,.zu b.want,.zq b.remaining,.b b.allowed,.s b.name,.s b.region,.s b.note,.l (b.d.map ent),.l (b.t.map row),.l r]=some (if c=0 then a else[.zq 0,.zq c])
set_option maxHeartbeats 4000000 in
def aAJ(b:aW)(r:Q1)(w:tX b)(x:∀r∈b.t,iL r.1=true){n:Q0}{p:Pl}(k:placeOf n=some p):akZ b r n (vS b p):=by
 intro l i y h m o q s;obtain⟨v,d,e,f,g,j⟩:=aui b r w x;simp only[List.forall_mem_cons,Ho]at v d e f g j;have t:=UQ k;have z:=(MR n p k).2.1;clear k;generalize a:vS b p=c at s⊢;induction p,z using MO
 all_goals first
  |(obtain rfl:0=c:=a
    rw[au rfl];refine aB ?_;simp[m,h,q,o,t,v,s];done)
  |(simp only[a]at d e f g j
    by_cases u:c=0
    ·subst u;rw[au rfl];refine aB ?_;simp[m,h,q,o,t,d,e,f,g,j,s]
    ·rw[aj u];refine aB ?_;simp[m,h,q,o,t,d,e,f,g,j,u])
def qC(b:aW):List fP->Int
 |[]=>0
 |s::l=>if BZ b s.name=0 then qC b l else BZ b s.name
def ahE(b:aW)(r:Q1)(j:tX b)(k:∀r∈b.t,iL r.1=true)(l:List fP)(d:l.length<=1000)(e:∀s∈l,placeOf s.name≠none):∀(m i:Nat),i+m=l.length->
 TT.lim 68 [.l (l.map fM),.zq l.length,.zq i,.zq b.kind,.zu b.id,.zu b.min,.zu b.max,.zu b.chosen,.zu b.flags,.zu b.cost,.zu b.priority,.zu b.deadline,.zu b.retry,.zu b.epoch,.zu b.base,.zu b.digest,.zu b.lag,.zu b.code,.zu b.want,.zq b.remaining,.b b.allowed,.s b.name,.s b.region,.s b.note,.l (b.d.map ent),.l (b.t.map row),.l r]=some (if qC b (l.drop i)=0 then[.zq 1]else[.zq 0,.zq (qC b (l.drop i))])
 |0,i,hi=>by have h0:l.drop i=[]:=gJ;refine aB ?_;have h:¬((i:Int)<l.length):=ah;simp[h,h0,qC]
 |m+1,i,hi=>by
  have a:i<l.length:=ah;have n:=ahE b r j k l d e m (i+1) ah;have c:((i:Int)+1)=((i+1:Nat):Int):=ah;rw[<-c]at n;obtain⟨p,o⟩:=akV.1 (e _ (iq a));have:=aAJ b r j k o l i _ a ah (bD ((i:Int)+1)) rfl n;rw[<-aug b o]at this;rw[this,gW a];by_cases f:BZ b l[i].name=0
  ·have g:qC b (l[i]::l.drop (i+1))=qC b (l.drop (i+1)):=by simp only[qC,f,if_true]
   rw[au f,g]
  ·have g:qC b (l[i]::l.drop (i+1))=BZ b l[i].name:=by simp only[qC,f,if_false]
   rw[aj f,g,aj f]
def hasTag(l:List fP)(t:Int):Bool:=l.any λs=>decide (t=s.tag)
def ahG(l:List fP)(c:l.length<=1000)(e f g:GV)(t:Int)(j k n d:GV):∀(m i:Nat),i+m=l.length->
 TT.lim 96 [.l (l.map fM),e,f,g,.zq l.length,.zq i,.zu t,j,k,n,d]=some (if hasTag (l.drop i) t=true then[.zq 0]else[.zq 1])
 |0,i,hi=>by have h0:l.drop i=[]:=gJ;refine aB ?_;have h:¬((i:Int)<l.length):=ah;simp[h,h0,hasTag]
 |m+1,i,hi=>by
  have a:i<l.length:=ah;have o:=ahG l c e f g t j k n d m (i+1) ah;have b:((i:Int)+1)=((i+1:Nat):Int):=ah;rw[<-b]at o;have p:((i:Int)<l.length):=ah;have r:=bD ((i:Int)+1);have s:hasTag (l.drop i) t=(decide (t=l[i].tag) ||hasTag (l.drop (i+1)) t):=by rw[gW a];rfl
  rw[s];generalize hasTag (l.drop (i+1)) t=X at *;refine aB ?_;by_cases q:t=l[i].tag
  ·simp[p,a,q]
  ·simp[p,a,q,r,o]
def ahF(l:List fP)(c:l.length<=1000)(a:List aK)(o:a.length<=1000000):∀(m i:Nat),i+m=a.length->
 TT.lim 95 [.l (l.map fM),.l (aI a),.zq a.length,.zq i]=some (if(a.drop i).any (λf=>hasTag l f.tag)=true then[.zq 0]else[.zq 1])
 |0,i,hi=>by have h0:a.drop i=[]:=gJ;refine aB ?_;have h:¬((i:Int)<a.length):=ah;simp[h,h0]
 |m+1,i,hi=>by
  have g:i<a.length:=ah;have q:=ahF l c a o m (i+1) ah;have d:((i:Int)+1)=((i+1:Nat):Int):=ah;rw[<-d]at q;have r:((i:Int)<a.length):=ah;have v:=bD ((i:Int)+1);have u:(a.drop i).any (λf=>hasTag l f.tag)=(hasTag l a[i].tag ||(a.drop (i+1)).any (λf=>hasTag l f.tag)):=by rw[gW g,ac4]
  rw[u];have b:(aI a)[i]? =some (pq a[i]):=by rw[BK,jf,bT g];rfl
  clear u;obtain⟨t,y,n,s,k,p⟩:∃t y n s k,a[i]=aK.mk t y n s k:=by
   cases a[i]with
   |mk t y n s k=>exact⟨_,_,_,_,_,rfl⟩
  rw[p]at b⊢;rw[show(aK.mk t y n s k).tag=t from rfl];have j:TT.lim 96 [.l (l.map fM),.l (aI a),.zq a.length,.zq i,.zq l.length,.zq 0,.zu t,.zq y,.zu n,.s s,.l (aI k)]=_:=ahG l c _ _ _ t _ _ _ _ l.length 0 ah;rw[dD]at j;refine aB ?_;by_cases e:hasTag l t=true
  ·rw[au e]at j;simp[-List.any_eq_true,r,b,j,e]
  ·rw[aj e]at j;have e:hasTag l t=false:=by simpa using e
   simp[-List.any_eq_true,r,b,j,v,q,e]
def Ie(b:aW):Int:=
 if b.kind=1 then(if b.min<1 then 18 else if b.max<b.min then 18 else if 255<b.max then 18 else 0)
 else if b.kind=2 then(if b.chosen<1 then 18 else if 255<b.chosen then 18 else 0)
 else if b.kind=3 then(if b.d=[]then 12 else 0)
 else if b.kind=5 then(if b.epoch<1 then 18 else 0)
 else if b.kind=6 then(if b.base<1 then 18 else if b.epoch<=b.base then 20 else 0)
 else 0
def Na(b:List fP)(a:List aK):Int:=if jT 0 0 a≠0 then jT 0 0 a else if a.any (λf=>hasTag b f.tag)=true then 14 else 0
def je(b:aW)(a:List aK)(v:Int):Int:=
 if v<1 then 16 else if 3<v then 16 else
 if bU b.kind v=[]then 15 else
 if iM.all (λn=>BN (bU b.kind v) n ||uQ b n)=false then 26 else
 if qC b (bU b.kind v)≠0 then qC b (bU b.kind v)else
 if Ie b≠0 then Ie b else Na (bU b.kind v) a
def au4:∀n∈iM,placeOf n≠none:=aX
def ag4(k v:Int):∀s∈bU k v,placeOf s.name≠none:=by
 have a:∀s∈yD k,placeOf s.name≠none:=by
  unfold yD;repeat' split
  all_goals first|(unfold sp1;decide)|(unfold sp2;decide)|(unfold EF;decide)|(unfold EG;decide)|(unfold EH;decide)|(unfold EI;decide)|(unfold EJ;decide)|(unfold EK;decide)|(intro s b;cases b)
 intro s b;exact a s (Ky.1 b).1
def Gg(k v:Int):(bU k v).length<=8:=kR (XA _ _) (aAk k)
set_option maxHeartbeats 4000000 in
def aak(b:aW)(u:List aK)(v:Int)(Z:tX b)(hf:∀r∈b.t,iL r.1=true)(S:dX u)(H:u.length<=1000000):TT.lim 53 [iH b (aI u),.zq v]=some [.zq (je b u v)]:=by
 have q:=ZR b.kind;refine aQ ?_;unfold je;by_cases m:v<1
 ·simp[m]
 by_cases o:3<v
 ·simp[m,o]
 rw[aj m,aj o];have F:=ag3 b.kind v ah ah;by_cases p:rJ b.kind=0
 ·rw[au (F.2 (.inl p))];rw[p]at q;simp[m,o,q]
 by_cases s:v<rJ b.kind
 ·rw[au (F.2 (.inr s))];simp[m,o,q,p,s]
 rw[aj (λe=>(F.1 e).elim p s)];have g:=U4 b.kind v ah ah ah;have T:=ag4 b.kind v;have aa:=Gg b.kind v;clear F;generalize bU b.kind v=y at *;have h:=ahP;have U:=ahC b (aI u) y ah y.length 0 [] ah;have O:=ahD b (aI u) (.l (y.map fM)) iM aX au4 (Ag [] y) iM.length 0 ah;have V:=ahE b (aI u) Z hf y ah T y.length 0 ah;have P:=ahF y ah u H u.length 0 ah;have z:=Ua u S H;rw[dD]at U O V P;simp only[auk]at O;have ab:(iM.map GV.s).length=iM.length:=iw _;have X:=oK u;rw[<-X]at P;generalize hX:Ag [] y=Y at *;have i:TT.lim 65 [.l (y.map fM),.zq y.length,.zq 0,.l [],.zq b.kind,.zu b.id,.zu b.min,.zu b.max,.zu b.chosen,.zu b.flags,.zu b.cost,.zu b.priority,.zu b.deadline,.zu b.retry,.zu b.epoch,.zu b.base,.zu b.digest,.zu b.lag,.zu b.code,.zu b.want,.zq b.remaining,.b b.allowed,.s b.name,.s b.region,.s b.note,.l (b.d.map ent),.l (b.t.map row),.l (aI u)]=some [.zq 0,.l (vK Y)]:=U;clear U;have a:TT.lim 67 [.l (y.map fM),.l (iM.map .s),.zq iM.length,.zq 0,.l (vK Y),.zq b.kind,.zu b.id,.zu b.min,.zu b.max,.zu b.chosen,.zu b.flags,.zu b.cost,.zu b.priority,.zu b.deadline,.zu b.retry,.zu b.epoch,.zu b.base,.zu b.digest,.zu b.lag,.zu b.code,.zu b.want,.zq b.remaining,.b b.allowed,.s b.name,.s b.region,.s b.note,.l (b.d.map ent),.l (b.t.map row),.l (aI u)]=_:=O;clear O;have d:TT.lim 68 [.l (y.map fM),.zq y.length,.zq 0,.zq b.kind,.zu b.id,.zu b.min,.zu b.max,.zu b.chosen,.zu b.flags,.zu b.cost,.zu b.priority,.zu b.deadline,.zu b.retry,.zu b.epoch,.zu b.base,.zu b.digest,.zu b.lag,.zu b.code,.zu b.want,.zq b.remaining,.b b.allowed,.s b.name,.s b.region,.s b.note,.l (b.d.map ent),.l (b.t.map row),.l (aI u)]=_:=V;clear V;have j:TT.lim 95 [.l (y.map fM),.l (aI u),.zq (aI u).length,.zq 0]=_:=P;clear P;have I:Na y u=if jT 0 0 u≠0 then jT 0 0 u else if u.any (λf=>hasTag y f.tag)=true then 14 else 0:=rfl
 generalize(iM.all λn=>BN y n ||uQ b n)=A,qC b y=M,jT 0 0 u=J,(u.any λf=>hasTag y f.tag)=W,Na y u=R at *;generalize iM=NL at *;have ac:∀(x:GV),True:=λ_=>trivial;cases A with
 |false=>simp only[ig,if_false]at a;simp[m,o,q,p,s,g,h,i,a]
 |true=>
 simp only[if_true]at a;by_cases L:M=0;rotate_left
 ·rw[aj L]at d;simp[m,o,q,p,s,g,h,i,a,d,L]
 rw[au L]at d;rw[aj aA,aj (by simp[L])];clear L;have ad:∀(c:Int),Ie b=c->c≠0->True:=λ_ _ _=>trivial;unfold Ie;by_cases k:b.kind=1
 ·have k:=eq_true k;by_cases l:b.min<1
  ·simp[m,o,q,p,s,g,h,i,a,d,k,l]
  by_cases B:b.max<b.min
  ·simp[m,o,q,p,s,g,h,i,a,d,k,l,B]
  by_cases N:255<b.max
  ·simp[m,o,q,p,s,g,h,i,a,d,k,l,B,N]
  simp only[k,l,B,N,if_true,if_false,ne_eq,not_true_eq_false];rw[I];by_cases D:J=0
  ·subst D;cases W with
   |true=>simp only[if_true]at j;simp[m,o,q,p,s,g,h,i,a,d,k,l,B,N,z,j]
   |false=>simp only[ig,if_false]at j;simp[m,o,q,p,s,g,h,i,a,d,k,l,B,N,z,j]
  ·simp[m,o,q,p,s,g,h,i,a,d,k,l,B,N,z,D]
 by_cases t:b.kind=2
 ·have t:=eq_true t;by_cases l:b.chosen<1
  ·simp[m,o,q,p,s,g,h,i,a,d,k,t,l]
  by_cases B:255<b.chosen
  ·simp[m,o,q,p,s,g,h,i,a,d,k,t,l,B]
  simp only[k,t,l,B,if_true,if_false,ne_eq,not_true_eq_false];rw[I];by_cases D:J=0
  ·subst D;cases W with
   |true=>simp only[if_true]at j;simp[m,o,q,p,s,g,h,i,a,d,k,t,l,B,z,j]
   |false=>simp only[ig,if_false]at j;simp[m,o,q,p,s,g,h,i,a,d,k,t,l,B,z,j]
  ·simp[m,o,q,p,s,g,h,i,a,d,k,t,l,B,z,D]
 by_cases w:b.kind=3
 ·have w:=eq_true w;by_cases l:b.d=[]
  ·have l:=eq_true l;simp[m,o,q,p,s,g,h,i,a,d,k,t,w,l]
  simp only[k,t,w,l,if_true,if_false,ne_eq,not_true_eq_false];rw[I];by_cases D:J=0
  ·subst D;cases W with
   |true=>simp only[if_true]at j;simp[m,o,q,p,s,g,h,i,a,d,k,t,w,l,z,j]
   |false=>simp only[ig,if_false]at j;simp[m,o,q,p,s,g,h,i,a,d,k,t,w,l,z,j]
  ·simp[m,o,q,p,s,g,h,i,a,d,k,t,w,l,z,D]
 by_cases E:b.kind=5
 ·have E:=eq_true E;by_cases l:b.epoch<1
  ·simp[m,o,q,p,s,g,h,i,a,d,k,t,w,E,l]
  simp only[k,t,w,E,l,if_true,if_false,ne_eq,not_true_eq_false];rw[I];by_cases D:J=0
  ·subst D;cases W with
   |true=>simp only[if_true]at j;simp[m,o,q,p,s,g,h,i,a,d,k,t,w,E,l,z,j]
   |false=>simp only[ig,if_false]at j;simp[m,o,q,p,s,g,h,i,a,d,k,t,w,E,l,z,j]
  ·simp[m,o,q,p,s,g,h,i,a,d,k,t,w,E,l,z,D]
 by_cases G:b.kind=6
 ·have G:=eq_true G;by_cases l:b.base<1
  ·simp[m,o,q,p,s,g,h,i,a,d,k,t,w,E,G,l]
  by_cases B:b.epoch<=b.base
  ·simp[m,o,q,p,s,g,h,i,a,d,k,t,w,E,G,l,B]
  simp only[k,t,w,E,G,l,B,if_true,if_false,ne_eq,not_true_eq_false];rw[I];by_cases D:J=0
  ·subst D;cases W with
   |true=>simp only[if_true]at j;simp[m,o,q,p,s,g,h,i,a,d,k,t,w,E,G,l,B,z,j]
   |false=>simp only[ig,if_false]at j;simp[m,o,q,p,s,g,h,i,a,d,k,t,w,E,G,l,B,z,j]
  ·simp[m,o,q,p,s,g,h,i,a,d,k,t,w,E,G,l,B,z,D]
 simp only[k,t,w,E,G,if_false,ne_eq,not_true_eq_false];rw[I];by_cases D:J=0
 ·subst D;cases W with
  |true=>simp only[if_true]at j;simp[m,o,q,p,s,g,h,i,a,d,k,t,w,E,G,z,j]
  |false=>simp only[ig,if_false]at j;simp[m,o,q,p,s,g,h,i,a,d,k,t,w,E,G,z,j]
 ·simp[m,o,q,p,s,g,h,i,a,d,k,t,w,E,G,z,D]
def acw(n:Q0):Int:=match placeOf n with
 |some p=>aBJ p
 |none=>-1
def atq(k v:Int):∀s∈bU k v,placeOf s.name≠none/\s.use=acw s.name:=by
 have a:∀s∈yD k,placeOf s.name≠none/\s.use=acw s.name:=by
  unfold yD;repeat' split
  all_goals first|(unfold sp1;decide)|(unfold sp2;decide)|(unfold EF;decide)|(unfold EG;decide)|(unfold EH;decide)|(unfold EI;decide)|(unfold EJ;decide)|(unfold EK;decide)|(intro s b;cases b)
 intro s b;exact a s (Ky.1 b).1
def aCp(x:Int)(h0: -9223372036854775808<=x)(h1:x<=9223372036854775807):∃u w:Int,IntKind.u64.wrap x=u/\IntKind.u64.wrap (x.fdiv (2^63))=w/\bV .xor .u64 (IntKind.u64.wrap (u*2^1)) w=some (.zu (zz x)):=by
 have a:∀y:Int,IntKind.u64.wrap y=y%18446744073709551616:=λy=>by simp[IntKind.wrap,IntKind.signed,IntKind.bits]
 refine⟨_,_,rfl,rfl,?_⟩;rw[a,a,a];unfold zz;have e:IntKind.u64.bits=64:=rfl;by_cases h:0<=x
 ·have b:x.fdiv (2^63)=0:=by rw[EW _ aX];exact Int.ediv_eq_zero_of_lt h ah
  rw[b,au h];have c:x%18446744073709551616*2^1%18446744073709551616=2*x:=ah;rw[c];simp only[bV,a,e];have d:(BitVec.ofInt 64 (2*x) ^^^ BitVec.ofInt 64 (0%18446744073709551616))=BitVec.ofInt 64 (2*x):=by have:BitVec.ofInt 64 (0%18446744073709551616)=0#64:=rfl;rw[this,BitVec.xor_zero]
  show some (GV.i IntKind.u64 (((BitVec.ofInt 64 (2*x) ^^^ BitVec.ofInt 64 (0%18446744073709551616)).toNat:Int)%18446744073709551616))=_
  rw[d,tY];congr 2;omega
 ·have b:x.fdiv (2^63) = -1:=by rw[EW _ aX];omega
  rw[b,aj h];have c:x%18446744073709551616*2^1%18446744073709551616=2*x+18446744073709551616:=ah;rw[c];simp only[bV,a,e];have d:(BitVec.ofInt 64 (2*x+18446744073709551616) ^^^ BitVec.ofInt 64 (-1%18446744073709551616)) = ~~~ BitVec.ofInt 64 (2*x+18446744073709551616):=by have:BitVec.ofInt 64 (-1%18446744073709551616)=BitVec.allOnes 64:=aX;rw[this,acS]
  show some (GV.i IntKind.u64 (((BitVec.ofInt 64 (2*x+18446744073709551616) ^^^ BitVec.ofInt 64 (-1%18446744073709551616)).toNat:Int)%18446744073709551616))=_
  rw[d,acQ,tY];congr 2;omega
def adD(b:aW)(r:Q1)(n:Q0)(p:Pl):Prop:=TT.lim 98 [iH b r,.s n]=some [.g [.zu 0,.zq (fO p),.zu (dH b p).1,.s (dH b p).2,.l []],.b true]
set_option maxHeartbeats 4000000 in
def auV(b:aW)(r:Q1)(d:tX b){n:Q0}{p:Pl}(j:p=.d->iL b.d=true)(k:p=.t->xM b.t)(f:placeOf n=some p):adD b r n p:=by
 have a:=UQ f;have c:=(MR n p f).2.1;unfold adD;clear f;induction p,c using MO
 case h0=>obtain⟨u,w,h1,g,h⟩:=aCp b.remaining d.remaining.1 d.remaining.2;have g:IntKind.u64.wrap (b.remaining.fdiv 9223372036854775808)=w:=g;have h:bV .xor .u64 (IntKind.u64.wrap (u*2)) w=some (.zu (zz b.remaining)):=h;refine aQ ?_;simp[a,jQ,h1,g,h,IntKind.bits,fO,dH]
 case h1=>refine aQ ?_;cases l:b.allowed<;>simp[a,fO,dH,l]
 case h5=>
  have c:=BQ b.d (j rfl);refine aQ ?_;by_cases e:b.d=[]
  ·have i:=eq_true e;simp[a,fO,dH,i]
  ·simp[a,fO,dH,e,c]
 case h6=>
  have c:=att b.t d.t (k rfl);refine aQ ?_;by_cases e:b.t=[]
  ·have i:=eq_true e;simp[a,fO,dH,i]
  ·simp[a,fO,dH,e,c]
 all_goals
  refine aQ ?_;simp[a,fO,dH,Gu]
def auY(b:aW)(r:Q1){n:Q0}(a:placeOf n=none):TT.lim 98 [iH b r,.s n]=some [.g [.zu 0,.zq 0,.zu 0,.s [],.l []],.b false]:=by have c:=agP a;refine aQ ?_;simp[c]
