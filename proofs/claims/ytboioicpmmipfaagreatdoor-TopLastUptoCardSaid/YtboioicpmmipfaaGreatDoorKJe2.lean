/- What the trees compute: plain laws. -/
import Derived.Test.YtboioicpmmipfaaGreatDoorKJe1
set_option linter.all false
namespace Go.Proofs.YtboioicpmmipfaaGreatDoor
open Go Go.aP
set_option maxRecDepth 100000
namespace J
def fU(s:Q0):Q0×Nat×Int:=
 if(aF s).2.2≠0 then([],0,(aF s).2.2)else
 if s.length-(aF s).2.1<(aF s).1 then([],0,1)else
 ((s.drop (aF s).2.1).take (aF s).1,(aF s).2.1+(aF s).1,0)
def YM{s:Q0}(h:(fU s).2.2=0):1<=(fU s).2.1/\(fU s).2.1<=s.length/\(fU s).1.length<=s.length:=by
 unfold fU at h⊢;by_cases a:(aF s).2.2=0;rotate_left
 ·rw[au a]at h;exact absurd h a
 rw[aj (λe=>e a)]at h⊢;obtain⟨c,d,f,g,i⟩:=mg a;by_cases b:s.length-(aF s).2.1<(aF s).1
 ·rw[au b]at h;cases h
 rw[aj b];simp only[mQ,fZ];omega
def amT(t:Q0)(a:Nat)(h:a<=t.length)(v:t.length<=100000000):
 ∃at2:Nat,TT.lim 255 [.s t,.zq a]=some [.zq 0,.s (fU (t.drop a)).1,.zq (fU (t.drop a)).2.2,.s t,.zq at2]/\((fU (t.drop a)).2.2=0->at2=a+(fU (t.drop a)).2.1):=by
 have d:=Ei t a h ah;unfold fU;by_cases b:(aF (t.drop a)).2.2=0;rotate_left
 ·obtain⟨j,k⟩:=L8 b;rw[j,k]at d;rw[au b];generalize(aF (t.drop a)).2.2=e at *;refine⟨a,jI rfl rfl ?_,λh=>absurd h b⟩;simp[d,b]
 obtain⟨w,x,l,y,_⟩:=mg b;rw[aj (λe=>e b)];rw[b]at d;rw[fZ]at l⊢;rw[tK];generalize(aF (t.drop a)).1=n,(aF (t.drop a)).2.1=i at *;have w1:=bK ((t.length:Int)-((a:Int)+(i:Int)));have f:=jW ((t.length:Int)-((a:Int)+(i:Int)));simp only[Gy]at d;by_cases g:t.length-a-i<n
 ·have c:(t.length:Int)-((a:Int)+(i:Int))<(n:Int):=ah;rw[au g];refine⟨a+i,jI rfl rfl ?_,λh=>by cases h⟩;simp[d,w1,f,c]
 ·have c:¬(t.length:Int)-((a:Int)+(i:Int))<(n:Int):=ah;rw[aj g];have m:=bK ((n:Int));have o:=bK ((a:Int)+(i:Int)+(n:Int));have p:((t.take (a+i+n)).drop (a+i))=(t.drop (a+i)).take n:=by rw[ML];congr 1;omega
  have q:(a:Int)+(i:Int)<=(a:Int)+(i:Int)+(n:Int)/\(a:Int)+(i:Int)+(n:Int)<=t.length:=ah;have r:(0:Int)<=(a:Int)+(i:Int):=ah;have s:((a:Int)+(i:Int)+(n:Int)).toNat=a+i+n:=ah;have u:((a:Int)+(i:Int)).toNat=a+i:=ah;generalize(t.drop (a+i)).take n=X at *;refine⟨a+i+n,jI rfl rfl ?_,λ_=>by simp only;omega⟩;simp[d,w1,f,m,o,c,q,r,s,u,p]
def eY(s:Q0):dS×Nat×Int:=
 if(fU s).2.2≠0 then(([],[]),0,(fU s).2.2)else
 if(fU (s.drop (fU s).2.1)).2.2≠0 then(([],[]),0,(fU (s.drop (fU s).2.1)).2.2)else
 if uU ((fU s).1,(fU (s.drop (fU s).2.1)).1)≠0 then(([],[]),0,uU ((fU s).1,(fU (s.drop (fU s).2.1)).1))else
 (((fU s).1,(fU (s.drop (fU s).2.1)).1),(fU s).2.1+(fU (s.drop (fU s).2.1)).2.1,0)
def VQ{s:Q0}(h:(eY s).2.2=0):2<=(eY s).2.1/\(eY s).2.1<=s.length/\uU (eY s).1=0/\(eY s).1.1.length<=s.length/\(eY s).1.2.length<=s.length/\
 (fU s).2.2=0/\(fU (s.drop (fU s).2.1)).2.2=0/\(eY s).1=((fU s).1,(fU (s.drop (fU s).2.1)).1)/\(eY s).2.1=(fU s).2.1+(fU (s.drop (fU s).2.1)).2.1:=by
 unfold eY at h⊢;by_cases a:(fU s).2.2=0;rotate_left
 ·rw[au a]at h;exact absurd h a
 rw[aj (λe=>e a)]at h⊢;by_cases b:(fU (s.drop (fU s).2.1)).2.2=0;rotate_left
 ·rw[au b]at h;exact absurd h b
 rw[aj (λe=>e b)]at h⊢;by_cases c:uU ((fU s).1,(fU (s.drop (fU s).2.1)).1)=0;rotate_left
 ·rw[au c]at h;exact absurd h c
 rw[aj (λe=>e c)];obtain⟨i,j,d⟩:=YM a;obtain⟨k,f,g⟩:=YM b;rw[fZ]at f g;exact⟨by simp only;omega,by simp only;omega,c,d,by simp only;omega,a,b,rfl,rfl⟩
def atQ(t:Q0)(a:Nat)(h:a<=t.length)(l:t.length<=100000000):
 ∃at2:Nat,TT.lim 254 [.s t,.zq a]=some [.zq 0,.s (eY (t.drop a)).1.1,.s (eY (t.drop a)).1.2,.zq (eY (t.drop a)).2.2,.s t,.zq at2]/\((eY (t.drop a)).2.2=0->at2=a+(eY (t.drop a)).2.1):=by
 obtain⟨p,f,j⟩:=amT t a h l;unfold eY;by_cases b:(fU (t.drop a)).2.2=0;rotate_left
 ·rw[au b];generalize fU (t.drop a)=A at *;refine⟨p,jI rfl rfl ?_,λh=>absurd h b⟩;simp[f,b]
 have j:=j b;obtain⟨u,n,o⟩:=YM b;rw[fZ]at n o;have k:(t.drop a).drop (fU (t.drop a)).2.1=t.drop p:=by rw[tK,j]
 obtain⟨q,i,m⟩:=amT t p ah l;rw[aj (λe=>e b),k];rw[b]at f;by_cases c:(fU (t.drop p)).2.2=0;rotate_left
 ·rw[au c];generalize fU (t.drop a)=A,fU (t.drop p)=B at *;refine⟨q,jI rfl rfl ?_,λh=>absurd h c⟩;simp[f,i,c]
 have m:=m c;obtain⟨v,r,s⟩:=YM c;rw[fZ]at r s;rw[aj (λe=>e c)];rw[c]at i;have kc:=ahs ((fU (t.drop a)).1,(fU (t.drop p)).1) (by simp only;omega) (by simp only;omega);have d:TT.lim 41 [.g [.s (fU (t.drop a)).1,.s (fU (t.drop p)).1]]=_:=kc;generalize fU (t.drop a)=A,fU (t.drop p)=B at *;by_cases g:uU (A.1,B.1)=0;rotate_left
 ·rw[au g];refine⟨q,jI rfl rfl ?_,λh=>absurd h g⟩;generalize uU (A.1,B.1)=E at *;simp[f,i,d,g]
 ·rw[aj (λe=>e g)];rw[g]at d;refine⟨q,jI rfl rfl ?_,λ_=>by simp only;omega⟩;simp[f,i,d]
def BK(p:Option dS)(x:dS):Int:=match p with
 |none=>0
 |some k=>Au k.1 x.1
def ig:Nat->Option dS->List UInt8->List dS×Nat×Int
 |0,_,_=>([],0,0)
 |m+1,p,s=>if(eY s).2.2≠0 then([],0,(eY s).2.2)else
  if BK p (eY s).1≠0 then([],0,BK p (eY s).1)else
  if(ig m (some (eY s).1) (s.drop (eY s).2.1)).2.2≠0 then([],0,(ig m (some (eY s).1) (s.drop (eY s).2.1)).2.2)else
  ((eY s).1::(ig m (some (eY s).1) (s.drop (eY s).2.1)).1,(eY s).2.1+(ig m (some (eY s).1) (s.drop (eY s).2.1)).2.1,0)
def VI(m:Nat)(p:Option dS)(s:Q0):ig (m+1) p s=if(eY s).2.2≠0 then([],0,(eY s).2.2)else
 if BK p (eY s).1≠0 then([],0,BK p (eY s).1)else
 if(ig m (some (eY s).1) (s.drop (eY s).2.1)).2.2≠0 then([],0,(ig m (some (eY s).1) (s.drop (eY s).2.1)).2.2)else
 ((eY s).1::(ig m (some (eY s).1) (s.drop (eY s).2.1)).1,(eY s).2.1+(ig m (some (eY s).1) (s.drop (eY s).2.1)).2.1,0):=rfl
def DX(a:List dS)(t:Q0)(at2:Nat)(r:List dS×Nat×Int):Q1:=if r.2.2≠0 then[.zq 0,.zq r.2.2,.s t,.zq at2]else[.zq 1,.l ((a++r.1).map ent),.s t,.zq at2]
def atI(L:Q1)(n i a at2:Int)(t:Q0)(x:dS)(e:Int)(h:i<n)(b:¬e=0)
 (k:TT.lim 254 [.s t,.zq a]=some [.zq 0,.s x.1,.s x.2,.zq e,.s t,.zq at2]):
 TT.lim 253 [.l L,.zq n,.zq i,.s t,.zq a]=some [.zq 0,.zq e,.s t,.zq at2]:=by
 refine aB ?_;simp[h,k,b]
def atG(L:Q1)(n a at2:Int)(t:Q0)(x:dS)(R:Q1)(h:0<n)(b:2*(L.length+1)*32<=281474976710656/\L.length+1<=281474976710656)
 (k:TT.lim 254 [.s t,.zq a]=some [.zq 0,.s x.1,.s x.2,.zq 0,.s t,.zq at2])
 (c:TT.lim 253 [.l (L++[ent x]),.zq n,.zq 1,.s t,.zq at2]=some R):
 TT.lim 253 [.l L,.zq n,.zq 0,.s t,.zq a]=some R:=by
 have d:GV.g [.s x.1,.s x.2]=ent x:=rfl;have w1:=bK 1;refine aB ?_;simp[h,k,d,GV.gV,b,w1,c]
def atH(L:Q1)(n:Int)(i:Nat)(a at2:Int)(t:Q0)(p x:dS)(h:(i:Int)+1<n)(hi:i+1<=100000000)(g:L.length=i+1)(e:L[i]? =some (ent p))(j:¬Au p.1 x.1=0)
 (k:TT.lim 254 [.s t,.zq a]=some [.zq 0,.s x.1,.s x.2,.zq 0,.s t,.zq at2]):
 TT.lim 253 [.l L,.zq n,.zq ((i:Int)+1),.s t,.zq a]=some [.zq 0,.zq (Au p.1 x.1),.s t,.zq at2]:=by
 have l:(0:Int)<(i:Int)+1:=ah;have b:(i:Int)<(i:Int)+1:=ah;have w:=bK ((i:Int));have c:L[i]'(by omega)=ent p:=by have:=e;rw[cO ah]at this;exact Jq this
 unfold Au at j⊢;by_cases d:x.1=p.1
 ·have f:(x.1=p.1)=True:=eq_true d;clear d;refine aB ?_;simp[h,k,l,b,w,g,e,c,f]
 ·by_cases m:Op.bytesLess x.1 p.1=true
  ·refine aB ?_;simp[h,k,l,b,w,g,e,c,d,m]
  ·simp[d,m]at j
def atJ(L:Q1)(n:Int)(i:Nat)(b at2:Int)(t:Q0)(p x:dS)(R:Q1)(h:(i:Int)+1<n)(hi:i+1<=100000000)(o:(i:Int)<L.length)(q:L.length<=100000000)(l:L[i]? =some (ent p))(a:Au p.1 x.1=0)
 (k:TT.lim 254 [.s t,.zq b]=some [.zq 0,.s x.1,.s x.2,.zq 0,.s t,.zq at2])
 (r:TT.lim 253 [.l (L++[ent x]),.zq n,.zq ((i:Int)+1+1),.s t,.zq at2]=some R):
 TT.lim 253 [.l L,.zq n,.zq ((i:Int)+1),.s t,.zq b]=some R:=by
 have s:(0:Int)<(i:Int)+1:=ah;have d:(i:Int)<(i:Int)+1:=ah;have w:=bK ((i:Int));have u:=bK ((i:Int)+1+1);have c:i<L.length:=ah;have f:L[i]=ent p:=by have:=l;rw[cO c]at this;exact Jq this
 have v:GV.g [.s x.1,.s x.2]=ent x:=rfl;have g:2*(L.length+1)*32<=281474976710656/\L.length+1<=281474976710656:=ah;unfold Au at a;have m:¬x.1=p.1:=by intro e;rw[au e]at a;exact absurd a aU
 rw[aj m]at a;have j:¬Op.bytesLess x.1 p.1=true:=by intro e;rw[au e]at a;exact absurd a aU
 have j:Op.bytesLess x.1 p.1=false:=by simpa using j
 refine aB ?_;simp[h,k,s,d,w,u,o,c,l,f,m,j,v,GV.gV,g,r]
def axD(b:List dS)(p:Option dS):Prop:=(b=[]/\p=none)\/∃a x,b=a++[x]/\p=some x
def ag5(t:Q0)(B:t.length<=100000000)(n:Nat)(E:n<=1000):∀(m:Nat)(c:List dS)(p:Option dS)(b:Nat),c.length+m=n->axD c p->b<=t.length->
 ∃at2:Nat,TT.lim 253 [.l (c.map ent),.zq n,.zq c.length,.s t,.zq b]=some (DX c t at2 (ig m p (t.drop b)))/\((ig m p (t.drop b)).2.2=0->at2=b+(ig m p (t.drop b)).2.1)
 |0,c,p,b,hi,D,h=>by have s:¬((c.length:Int)<(n:Int)):=ah;refine⟨b,?_,λ_=>by simp[ig]⟩;have q:(c.map ent).length=c.length:=aA;unfold ig DX;simp only[ne_eq,not_true_eq_false,if_false,pY];generalize c.map ent=L at *;refine aB ?_;simp[s]
 |m+1,c,p,b,hi,D,h=>by
  obtain⟨at2,k,u⟩:=atQ t b h B;rw[VI];by_cases g:(eY (t.drop b)).2.2=0;rotate_left
  ·rw[au g];refine⟨at2,?_,λh=>absurd h g⟩;have:DX c t at2 ([],0,(eY (t.drop b)).2.2)=[.zq 0,.zq (eY (t.drop b)).2.2,.s t,.zq at2]:=by unfold DX;rw[au g]
   rw[this];exact atI _ _ _ _ _ _ _ _ ah g k
  rw[aj (λe=>e g)];rw[g]at k;have u:=u g;obtain⟨H,F,_⟩:=VQ g;rw[fZ]at F;have v:(t.drop b).drop (eY (t.drop b)).2.1=t.drop at2:=by rw[tK,u]
  rw[v];have w:at2<=t.length:=ah;generalize I:(eY (t.drop b)).1=x at *;obtain⟨d,r,G⟩:=ag5 t B n E m (c++[x]) (some x) at2 (by rw[eP,GH];omega) (.inr ⟨c,x,rfl,rfl⟩) w;have i:DX c t d (if(ig m (some x) (t.drop at2)).2.2≠0 then([],0,(ig m (some x) (t.drop at2)).2.2)else(x::(ig m (some x) (t.drop at2)).1,(eY (t.drop b)).2.1+(ig m (some x) (t.drop at2)).2.1,0))=DX (c++[x]) t d (ig m (some x) (t.drop at2)):=by
   unfold DX;by_cases l:(ig m (some x) (t.drop at2)).2.2=0
   ·simp[l]
   ·simp[l]
  have j:((if(ig m (some x) (t.drop at2)).2.2≠0 then(([]:List dS),0,(ig m (some x) (t.drop at2)).2.2)else(x::(ig m (some x) (t.drop at2)).1,(eY (t.drop b)).2.1+(ig m (some x) (t.drop at2)).2.1,0)).2.2=0->d=b+(if(ig m (some x) (t.drop at2)).2.2≠0 then(([]:List dS),0,(ig m (some x) (t.drop at2)).2.2)else(x::(ig m (some x) (t.drop at2)).1,(eY (t.drop b)).2.1+(ig m (some x) (t.drop at2)).2.1,0)).2.1):=by
   by_cases l:(ig m (some x) (t.drop at2)).2.2=0
   ·rw[aj (λe=>e l)];intro _;have:=G l;simp only;omega
   ·rw[au l];intro h;exact absurd h l
  rw[oJ]at r;rcases D with⟨rfl,rfl⟩|⟨a,y,rfl,rfl⟩
  ·have z:BK none x=0:=rfl;rw[z,aj aA];refine⟨d,?_,j⟩;rw[i];exact atG [] n b at2 t x _ (by simp at hi;omega) aA k r
  ·by_cases o:Au y.1 x.1=0;rotate_left
   ·have f:BK (some y) x≠0:=o;rw[au f];refine⟨at2,?_,λh=>absurd h o⟩;have:DX (a++[y]) t at2 ([],0,BK (some y) x)=[.zq 0,.zq (Au y.1 x.1),.s t,.zq at2]:=by unfold DX;rw[au f];rfl
    rw[this];have q:((a++[y]).length:Int)=(a.length:Int)+1:=aA;rw[q];rw[eP,GH]at hi;exact atH _ n a.length b at2 t y x ah ah aA aA o k
   ·have f:¬BK (some y) x≠0:=λe=>e o;rw[aj f];refine⟨d,?_,j⟩;rw[i];have q:((a++[y]).length:Int)=(a.length:Int)+1:=aA;have A:((a++[y]++[x]).length:Int)=(a.length:Int)+1+1:=by simp;omega
    rw[q];rw[A]at r;rw[eP,GH]at hi;exact atJ _ n a.length b at2 t y x _ ah ah (by simp;omega) (by simp;omega) aA o k r
def Dy(e:Int):List dS×Nat×Int:=([],0,e)
def pR(s:Q0):List dS×Nat×Int:=
 if(aF s).2.2≠0 then Dy (aF s).2.2 else
 if(aF s).1=0 then Dy 12 else
 if 16<(aF s).1 then Dy 13 else
 if(ig (aF s).1 none (s.drop (aF s).2.1)).2.2≠0 then Dy (ig (aF s).1 none (s.drop (aF s).2.1)).2.2 else
 ((ig (aF s).1 none (s.drop (aF s).2.1)).1,(aF s).2.1+(ig (aF s).1 none (s.drop (aF s).2.1)).2.1,0)
def aty(t:Q0)(a:Nat)(h:a<=t.length)(p:t.length<=100000000):
 ∃at2:Nat,TT.lim 252 [.s t,.zq a]=some [.zq 0,.l ((pR (t.drop a)).1.map ent),.zq (pR (t.drop a)).2.2,.s t,.zq at2]/\((pR (t.drop a)).2.2=0->at2=a+(pR (t.drop a)).2.1):=by
 have d:=Ei t a h ah;unfold pR;by_cases g:(aF (t.drop a)).2.2=0;rotate_left
 ·obtain⟨q,l⟩:=L8 g;rw[q,l]at d;rw[au g];generalize(aF (t.drop a)).2.2=e at *;refine⟨a,jI rfl rfl ?_,λh=>absurd h g⟩;simp[d,g,Dy]
 obtain⟨x,y,s,z,_⟩:=mg g;rw[aj (λe=>e g)];rw[g]at d;rw[fZ]at s;rw[tK];by_cases b:16<(aF (t.drop a)).1
 ·have f:¬(aF (t.drop a)).1=0:=ah;have k:(16:Int)<((aF (t.drop a)).1:Nat):=ah;rw[aj f,au b];generalize(aF (t.drop a)).1=n,(aF (t.drop a)).2.1=i at *;refine⟨a+i,jI rfl rfl ?_,λh=>by cases h⟩;simp only[Gy]at d;simp[d,f,b,k,Dy]
 obtain⟨at2,u,l⟩:=ag5 t p (aF (t.drop a)).1 ah (aF (t.drop a)).1 [] none (a+(aF (t.drop a)).2.1) aA (.inl ⟨rfl,rfl⟩) ah;generalize(aF (t.drop a)).1=n,(aF (t.drop a)).2.1=i at *;by_cases f:n=0
 ·rw[au f];have m:((n:Int)=0)=True:=eq_true ah;refine⟨a+i,jI rfl rfl ?_,λh=>by cases h⟩;simp only[Gy]at d;simp[d,f,m,Dy]
 rw[aj f,aj b];have k:¬(16:Int)<(n:Int):=ah;have w:=bK ((n:Int));have o:(0:Int)<=(n:Int)/\32*(n:Int)<=281474976710656/\(n:Int)<=1152921504606846976:=ah;have c:TT.lim 253 [.l [],.zq n,.zq 0,.s t,.zq ((a:Int)+(i:Int))]=_:=u;generalize v:ig n none (t.drop (a+i))=r at *;refine⟨at2,jI rfl rfl ?_,λh=>?_⟩
 ·simp only[Gy]at d;unfold DX at c;by_cases j:r.2.2=0
  ·simp only[j,ne_eq,not_true_eq_false,if_false,aZ]at c⊢;simp[d,f,b,k,w,o,c,GV.gV]
  ·simp only[j,ne_eq,not_false_eq_true,if_true]at c⊢;simp[d,f,b,k,w,o,c,GV.gV,Dy]
 ·by_cases j:r.2.2=0
  ·rw[aj (λe=>e j)];have:=l j;simp only;omega
  ·rw[au j]at h;exact absurd h j
def uf(s:Q0):List dS×Int:=
 if(pR s).2.2≠0 then([],(pR s).2.2)else if(pR s).2.1<s.length then([],10)else((pR s).1,0)
def aaz:∀(m:Nat)(p:Option dS)(s:Q0),(ig m p s).2.2=0->(ig m p s).2.1<=s.length/\(ig m p s).1.length=m/\∀x∈(ig m p s).1,uU x=0/\x.1.length<=s.length/\x.2.length<=s.length
 |0,p,s,_=>by simp[ig]
 |m+1,p,s,h=>by
  rw[VI]at h⊢;by_cases h1:(eY s).2.2=0;rotate_left
  ·rw[au h1]at h;exact absurd h h1
  rw[aj (λe=>e h1)]at h⊢;by_cases b:BK p (eY s).1=0;rotate_left
  ·rw[au b]at h;exact absurd h b
  rw[aj (λe=>e b)]at h⊢;by_cases a:(ig m (some (eY s).1) (s.drop (eY s).2.1)).2.2=0;rotate_left
  ·rw[au a]at h;exact absurd h a
  rw[aj (λe=>e a)];obtain⟨q,r,d,f,g,_⟩:=VQ h1;obtain⟨i,j,k⟩:=aaz m (some (eY s).1) _ a;rw[fZ]at i;refine⟨by simp only;omega,by simp[j],λx c=>?_⟩;rcases bH.1 c with rfl|c
  ·exact⟨d,f,g⟩
  ·obtain⟨l,n,o⟩:=k x c;rw[fZ]at n o;exact⟨l,ah,ah⟩
def ahb{s:Q0}(h:(pR s).2.2=0):(aF s).2.2=0/\0<(aF s).1/\(aF s).1<=16/\(ig (aF s).1 none (s.drop (aF s).2.1)).2.2=0/\(pR s).1=(ig (aF s).1 none (s.drop (aF s).2.1)).1/\
 (pR s).2.1=(aF s).2.1+(ig (aF s).1 none (s.drop (aF s).2.1)).2.1/\(pR s).2.1<=s.length:=by
 unfold pR at h⊢;by_cases a:(aF s).2.2=0;rotate_left
 ·rw[au a]at h;exact absurd h a
 rw[aj (λe=>e a)]at h⊢;by_cases c:(aF s).1=0
 ·rw[au c]at h;exact absurd h (by simp[Dy])
 rw[aj c]at h⊢;by_cases d:16<(aF s).1
 ·rw[au d]at h;exact absurd h (by simp[Dy])
 rw[aj d]at h⊢;by_cases b:(ig (aF s).1 none (s.drop (aF s).2.1)).2.2=0;rotate_left
 ·rw[au b]at h;exact absurd h b
 rw[aj (λe=>e b)];obtain⟨f,g,i,_,_⟩:=mg a;obtain⟨d1,_,_⟩:=aaz _ _ _ b;rw[fZ]at d1;exact⟨a,ah,ah,b,rfl,rfl,by simp only;omega⟩
def ahe(s:Q0)(d:s.length<=100000000):TT.lim 251 [.s s]=some [.l ((uf s).1.map ent),.zq (uf s).2]:=by
 obtain⟨at2,k,b⟩:=aty s 0 ah d;rw[dY,show((0:Nat):Int)=0 from rfl]at k;rw[dY]at b;unfold uf;by_cases a:(pR s).2.2=0;rotate_left
 ·rw[au a];generalize pR s=r at *;refine Wi rfl rfl ?_ (by rfl);simp[k,a]
 have b:=b a;obtain⟨_,_,_,_,_,_,f⟩:=ahb a;rw[aj (λe=>e a)];rw[a]at k;rw[mW]at b;have w:=bK ((s.length:Int)-(at2:Int));rw[<-b]at f⊢;generalize pR s=r at *;by_cases c:at2<s.length
 ·rw[au c];refine aW ?_;simp[k,w,c]
 ·rw[aj c];refine aW ?_;simp[k,w,c]
def Lu(e:Int):Row×Nat×Int:=(([],0),0,e)
def iQ(a s:Q0):Row×Nat×Int:=
 if(uf a).2≠0 then Lu (uf a).2 else
 if(aF s).2.2≠0 then Lu (aF s).2.2 else
 if(aF s).1=0 then Lu 17 else(((uf a).1,((aF s).1:Nat)),(aF s).2.1,0)
def adr{a s:Q0}(h:(iQ a s).2.2=0):(uf a).2=0/\(aF s).2.2=0/\(aF s).1≠0/\(iQ a s).1=((uf a).1,(((aF s).1:Nat):Int))/\(iQ a s).2.1=(aF s).2.1:=by
 unfold iQ at h⊢;by_cases b:(uf a).2=0;rotate_left
 ·rw[au b]at h;exact absurd h b
 rw[aj (λe=>e b)]at h⊢;by_cases c:(aF s).2.2=0;rotate_left
 ·rw[au c]at h;exact absurd h c
 rw[aj (λe=>e c)]at h⊢;by_cases d:(aF s).1=0
 ·rw[au d]at h;exact absurd h (by simp[Lu])
 rw[aj d];exact⟨b,c,d,rfl,rfl⟩
def rowP(b t:Q0)(a:Nat)(h:a<=t.length)(m:t.length<=100000000)(j:b.length<=100000000):
 ∃at2:Nat,TT.lim 260 [.s b,.s t,.zq a]=some [.zq 0,.l ((iQ b (t.drop a)).1.1.map ent),.zu (iQ b (t.drop a)).1.2,.zq (iQ b (t.drop a)).2.2,.s t,.zq at2]/\
  ((iQ b (t.drop a)).2.2=0->at2=a+(iQ b (t.drop a)).2.1):=by
 have g:=ahe b j;have c:=Ei t a h ah;unfold iQ;generalize uf b=D at *;by_cases d:D.2=0;rotate_left
 ·rw[au d];refine⟨a,jI rfl rfl ?_,λh=>absurd h d⟩;simp[g,d,Lu]
 rw[aj (λe=>e d)];by_cases f:(aF (t.drop a)).2.2=0;rotate_left
 ·obtain⟨k,l⟩:=L8 f;rw[k,l]at c;rw[au f];generalize aF (t.drop a)=V at *;refine⟨a,jI rfl rfl ?_,λh=>absurd h f⟩;simp[g,c,d,f,Lu]
 rw[aj (λe=>e f)];rw[f]at c;simp only[Gy]at c;generalize aF (t.drop a)=V at *;by_cases i:V.1=0
 ·rw[au i];rw[i]at c;refine⟨a+V.2.1,jI rfl rfl ?_,λh=>by cases h⟩;simp[g,c,d,Lu]
 ·rw[aj i];refine⟨a+V.2.1,jI rfl rfl ?_,λ_=>rfl⟩;simp[g,c,d,i]
def iT:Nat->List UInt8->Bool->List UInt8->List Row×Nat×Int
 |0,_,_,_=>([],0,0)
 |m+1,a,first,s=>if(bT s a first).2.2≠0 then([],0,(bT s a first).2.2)else
  if(iQ (bT s a first).1 (s.drop (bT s a first).2.1)).2.2≠0 then([],0,(iQ (bT s a first).1 (s.drop (bT s a first).2.1)).2.2)else
  if(iT m (bT s a first).1 false (s.drop ((bT s a first).2.1+(iQ (bT s a first).1 (s.drop (bT s a first).2.1)).2.1))).2.2≠0 then([],0,(iT m (bT s a first).1 false (s.drop ((bT s a first).2.1+(iQ (bT s a first).1 (s.drop (bT s a first).2.1)).2.1))).2.2)else
  ((iQ (bT s a first).1 (s.drop (bT s a first).2.1)).1::(iT m (bT s a first).1 false (s.drop ((bT s a first).2.1+(iQ (bT s a first).1 (s.drop (bT s a first).2.1)).2.1))).1,
   (bT s a first).2.1+(iQ (bT s a first).1 (s.drop (bT s a first).2.1)).2.1+(iT m (bT s a first).1 false (s.drop ((bT s a first).2.1+(iQ (bT s a first).1 (s.drop (bT s a first).2.1)).2.1))).2.1,0)
def XM(m:Nat)(a:Q0)(first:Bool)(s:Q0):iT (m+1) a first s=if(bT s a first).2.2≠0 then([],0,(bT s a first).2.2)else
 if(iQ (bT s a first).1 (s.drop (bT s a first).2.1)).2.2≠0 then([],0,(iQ (bT s a first).1 (s.drop (bT s a first).2.1)).2.2)else
 if(iT m (bT s a first).1 false (s.drop ((bT s a first).2.1+(iQ (bT s a first).1 (s.drop (bT s a first).2.1)).2.1))).2.2≠0 then([],0,(iT m (bT s a first).1 false (s.drop ((bT s a first).2.1+(iQ (bT s a first).1 (s.drop (bT s a first).2.1)).2.1))).2.2)else
 ((iQ (bT s a first).1 (s.drop (bT s a first).2.1)).1::(iT m (bT s a first).1 false (s.drop ((bT s a first).2.1+(iQ (bT s a first).1 (s.drop (bT s a first).2.1)).2.1))).1,
  (bT s a first).2.1+(iQ (bT s a first).1 (s.drop (bT s a first).2.1)).2.1+(iT m (bT s a first).1 false (s.drop ((bT s a first).2.1+(iQ (bT s a first).1 (s.drop (bT s a first).2.1)).2.1))).2.1,0):=rfl
def DZ(a:List Row)(t:Q0)(at2:Nat)(r:List Row×Nat×Int):Q1:=if r.2.2≠0 then[.zq 0,.zq r.2.2,.s t,.zq at2]else[.zq 1,.l ((a++r.1).map row),.s t,.zq at2]
def aAG(L:Q1)(a t X:Q0)(n i b at2:Int)(first:Bool)(e:Int)(h:i<n)(c:decide (i=0)=first)(d:¬e=0)
 (k:TT.lim 259 [.s t,.zq b,.s a,.b first]=some [.zq 0,.s X,.zq e,.s t,.zq at2]):
 TT.lim 258 [.l L,.s a,.zq n,.zq i,.s t,.zq b]=some [.zq 0,.zq e,.s t,.zq at2]:=by
 refine aB ?_;simp[h,c,k,d]
def aAI(L:Q1)(a t X:Q0)(D:Q1)(N:Int)(n i b at2 c:Int)(first:Bool)(e:Int)(h:i<n)(d:decide (i=0)=first)(f:¬e=0)
 (k:TT.lim 259 [.s t,.zq b,.s a,.b first]=some [.zq 0,.s X,.zq 0,.s t,.zq at2])
 (g:TT.lim 260 [.s X,.s t,.zq at2]=some [.zq 0,.l D,.zu N,.zq e,.s t,.zq c]):
 TT.lim 258 [.l L,.s a,.zq n,.zq i,.s t,.zq b]=some [.zq 0,.zq e,.s t,.zq c]:=by
 refine aB ?_;simp[h,d,k,g,f]
def aAH(L:Q1)(a t X:Q0)(D:Q1)(N:Int)(n i b at2 c:Int)(first:Bool)(R:Q1)(h:i<n)(e:decide (i=0)=first)(f:IntKind.i64.wrap (i+1)=i+1)(l:L.length<=100000000)
 (k:TT.lim 259 [.s t,.zq b,.s a,.b first]=some [.zq 0,.s X,.zq 0,.s t,.zq at2])
 (g:TT.lim 260 [.s X,.s t,.zq at2]=some [.zq 0,.l D,.zu N,.zq 0,.s t,.zq c])
 (j:TT.lim 258 [.l (L++[.g [.l D,.zu N]]),.s X,.zq n,.zq (i+1),.s t,.zq c]=some R):
 TT.lim 258 [.l L,.s a,.zq n,.zq i,.s t,.zq b]=some R:=by
 have d:2*(L.length+1)*32<=281474976710656/\L.length+1<=281474976710656:=ah;refine aB ?_;simp[h,e,k,g,f,GV.gV,d,j]
def ak8(t:Q0)(s:t.length<=100000000)(n:Nat)(E:n<=1000):∀(m:Nat)(b:List Row)(a:Q0)(c:Nat),b.length+m=n->c<=t.length->a.length<=c->
 ∃at2:Nat,TT.lim 258 [.l (b.map row),.s a,.zq n,.zq b.length,.s t,.zq c]=some (DZ b t at2 (iT m a (decide ((b.length:Int)=0)) (t.drop c)))/\
  ((iT m a (decide ((b.length:Int)=0)) (t.drop c)).2.2=0->at2=c+(iT m a (decide ((b.length:Int)=0)) (t.drop c)).2.1)
 |0,b,a,c,hi,h,F=>by have u:¬((b.length:Int)<(n:Int)):=ah;refine⟨c,?_,λ_=>by simp[iT]⟩;unfold iT DZ;simp only[ne_eq,not_true_eq_false,if_false,pY];generalize b.map row=L at *;refine aB ?_;simp[u]
 |m+1,b,a,c,hi,h,F=>by
  obtain⟨at2,k,r⟩:=aAx t a (decide ((b.length:Int)=0)) c h s ah;rw[XM];generalize v:decide ((b.length:Int)=0)=first at *
  by_cases g:(bT (t.drop c) a first).2.2=0;rotate_left
  ·rw[au g];refine⟨at2,?_,λh=>absurd h g⟩;have:DZ b t at2 ([],0,(bT (t.drop c) a first).2.2)=[.zq 0,.zq (bT (t.drop c) a first).2.2,.s t,.zq at2]:=by unfold DZ;rw[au g]
   rw[this];exact aAG _ _ _ _ _ _ _ _ _ _ ah v g k
  rw[aj (λe=>e g)];rw[g]at k;have r:=r g;obtain⟨S,G,H⟩:=ade g;rw[fZ]at G;have w:∀j,(t.drop c).drop ((bT (t.drop c) a first).2.1+j)=t.drop (at2+j):=by intro j;rw[tK,r,kE]
  have x:(t.drop c).drop (bT (t.drop c) a first).2.1=t.drop at2:=by rw[tK,r]
  have I:(bT (t.drop c) a first).1.length<=at2:=by split at H<;>omega
  rw[w,x];generalize(bT (t.drop c) a first).1=X,(bT (t.drop c) a first).2.1=M at *;obtain⟨d,y,z⟩:=rowP X t at2 ah s ah;by_cases i:(iQ X (t.drop at2)).2.2=0;rotate_left
  ·rw[au i];refine⟨d,?_,λh=>absurd h i⟩;have:DZ b t d ([],0,(iQ X (t.drop at2)).2.2)=[.zq 0,.zq (iQ X (t.drop at2)).2.2,.s t,.zq d]:=by unfold DZ;rw[au i]
   rw[this];exact aAI _ _ _ _ _ _ _ _ _ _ _ _ _ ah v i k y
  rw[aj (λe=>e i)];rw[i]at y;have z:=z i;obtain⟨_,N,_,_,T⟩:=adr i;obtain⟨U,V,O,_,_⟩:=mg N;rw[fZ]at O;have A:at2+(iQ X (t.drop at2)).2.1=d:=z.symm;rw[A];have p:GV.g [.l ((iQ X (t.drop at2)).1.1.map ent),.zu (iQ X (t.drop at2)).1.2]=row (iQ X (t.drop at2)).1:=rfl;obtain⟨l,B,D⟩:=ak8 t s n E m (b++[(iQ X (t.drop at2)).1]) X d (by rw[eP,GH];omega) ah ah;have f:decide (((b++[(iQ X (t.drop at2)).1]).length:Int)=0)=false:=by simp;omega
  have P:((b++[(iQ X (t.drop at2)).1]).length:Int)=(b.length:Int)+1:=aA;rw[f]at B D;rw[P,oJ]at B;generalize(iQ X (t.drop at2)).1=Q,(iQ X (t.drop at2)).2.1=R at *;have q:DZ b t l (if(iT m X false (t.drop d)).2.2≠0 then([],0,(iT m X false (t.drop d)).2.2)else(Q::(iT m X false (t.drop d)).1,M+R+(iT m X false (t.drop d)).2.1,0))=DZ (b++[Q]) t l (iT m X false (t.drop d)):=by
   unfold DZ;by_cases o:(iT m X false (t.drop d)).2.2=0
   ·simp[o]
   ·simp[o]
  refine⟨l,?_,?_⟩
  ·rw[q];exact aAH _ _ _ _ _ _ _ _ _ _ _ _ _ ah v (wrap64 ah ah) (by simp;omega) k y (by rw[p];exact B)
  ·by_cases o:(iT m X false (t.drop d)).2.2=0
   ·rw[aj (λe=>e o)];intro _;have:=D o;simp only;omega
   ·rw[au o];intro h;exact absurd h o
def Kw(e:Int):List Row×Nat×Int:=([],0,e)
def oO(s:Q0):List Row×Nat×Int:=
 if(aF s).2.2≠0 then Kw (aF s).2.2 else
 if 256<(aF s).1 then Kw 13 else
 if(iT (aF s).1 [] true (s.drop (aF s).2.1)).2.2≠0 then Kw (iT (aF s).1 [] true (s.drop (aF s).2.1)).2.2 else
 ((iT (aF s).1 [] true (s.drop (aF s).2.1)).1,(aF s).2.1+(iT (aF s).1 [] true (s.drop (aF s).2.1)).2.1,0)
def axv(t:Q0)(a:Nat)(h:a<=t.length)(o:t.length<=100000000):
 ∃at2:Nat,TT.lim 257 [.s t,.zq a]=some [.zq 0,.l ((oO (t.drop a)).1.map row),.zq (oO (t.drop a)).2.2,.s t,.zq at2]/\((oO (t.drop a)).2.2=0->at2=a+(oO (t.drop a)).2.1):=by
 have d:=Ei t a h ah;unfold oO;by_cases f:(aF (t.drop a)).2.2=0;rotate_left
 ·obtain⟨p,j⟩:=L8 f;rw[p,j]at d;rw[au f];generalize(aF (t.drop a)).2.2=e at *;refine⟨a,jI rfl rfl ?_,λh=>absurd h f⟩;simp[d,f,Kw]
 obtain⟨s,u,q,v,_⟩:=mg f;rw[aj (λe=>e f)];rw[f]at d;rw[fZ]at q;rw[tK];by_cases b:256<(aF (t.drop a)).1
 ·have k:(256:Int)<((aF (t.drop a)).1:Nat):=ah;rw[au b];generalize(aF (t.drop a)).1=n,(aF (t.drop a)).2.1=i at *;refine⟨a+i,jI rfl rfl ?_,λh=>by cases h⟩;simp only[Gy]at d;simp[d,b,k,Kw]
 obtain⟨at2,l,j⟩:=ak8 t o (aF (t.drop a)).1 ah (aF (t.drop a)).1 [] [] (a+(aF (t.drop a)).2.1) aA ah aA;generalize(aF (t.drop a)).1=n,(aF (t.drop a)).2.1=i at *;rw[aj b];have k:¬(256:Int)<(n:Int):=ah;have w:=bK ((n:Int));have m:(0:Int)<=(n:Int)/\32*(n:Int)<=281474976710656/\(n:Int)<=1152921504606846976:=ah;rw[show decide ((([]:List Row).length:Int)=0)=true from rfl]at l j;have c:TT.lim 258 [.l [],.s [],.zq n,.zq 0,.s t,.zq ((a:Int)+(i:Int))]=_:=l;generalize iT n [] true (t.drop (a+i))=r at *;refine⟨at2,jI rfl rfl ?_,λh=>?_⟩
 ·simp only[Gy]at d;unfold DZ at c;by_cases g:r.2.2=0
  ·simp only[g,ne_eq,not_true_eq_false,if_false,aZ]at c⊢;simp[d,b,k,w,m,c,GV.gV]
  ·simp only[g,ne_eq,not_false_eq_true,if_true]at c⊢;simp[d,b,k,w,m,c,GV.gV,Kw]
 ·by_cases g:r.2.2=0
  ·rw[aj (λe=>e g)];have:=j g;simp only;omega
  ·rw[au g]at h;exact absurd h g
def uz(s:Q0):List Row×Int:=
 if(oO s).2.2≠0 then([],(oO s).2.2)else if(oO s).2.1<s.length then([],10)else((oO s).1,0)
def adb:∀(m:Nat)(a:Q0)(first:Bool)(s:Q0),(iT m a first s).2.2=0->(iT m a first s).2.1<=s.length/\(iT m a first s).1.length=m
 |0,a,first,s,_=>by simp[iT]
 |m+1,a,first,s,h=>by
  rw[XM]at h⊢;by_cases h1:(bT s a first).2.2=0;rotate_left
  ·rw[au h1]at h;exact absurd h h1
  rw[aj (λe=>e h1)]at h⊢;by_cases b:(iQ (bT s a first).1 (s.drop (bT s a first).2.1)).2.2=0;rotate_left
  ·rw[au b]at h;exact absurd h b
  rw[aj (λe=>e b)]at h⊢;by_cases c:(iT m (bT s a first).1 false (s.drop ((bT s a first).2.1+(iQ (bT s a first).1 (s.drop (bT s a first).2.1)).2.1))).2.2=0;rotate_left
  ·rw[au c]at h;exact absurd h c
  rw[aj (λe=>e c)];obtain⟨j,k,_⟩:=ade h1;obtain⟨_,d,_,_,l⟩:=adr b;obtain⟨n,o,f,_,_⟩:=mg d;rw[fZ]at f;obtain⟨g,i⟩:=adb m _ _ _ c;rw[fZ]at g;exact⟨by simp only;omega,by simp[i]⟩
def ajd{s:Q0}(h:(oO s).2.2=0):(aF s).2.2=0/\(aF s).1<=256/\(iT (aF s).1 [] true (s.drop (aF s).2.1)).2.2=0/\(oO s).1=(iT (aF s).1 [] true (s.drop (aF s).2.1)).1/\
 (oO s).2.1=(aF s).2.1+(iT (aF s).1 [] true (s.drop (aF s).2.1)).2.1/\(oO s).2.1<=s.length:=by
 unfold oO at h⊢;by_cases a:(aF s).2.2=0;rotate_left
 ·rw[au a]at h;exact absurd h a
 rw[aj (λe=>e a)]at h⊢;by_cases c:256<(aF s).1
 ·rw[au c]at h;exact absurd h (by simp[Kw])
 rw[aj c]at h⊢;by_cases b:(iT (aF s).1 [] true (s.drop (aF s).2.1)).2.2=0;rotate_left
 ·rw[au b]at h;exact absurd h b
 rw[aj (λe=>e b)];obtain⟨d,f,g,_,_⟩:=mg a;obtain⟨d1,_⟩:=adb _ _ _ _ b;rw[fZ]at d1;exact⟨a,ah,b,rfl,rfl,by simp only;omega⟩
def aF3(s:Q0)(d:s.length<=100000000):TT.lim 256 [.s s]=some [.l ((uz s).1.map row),.zq (uz s).2]:=by
 obtain⟨at2,k,b⟩:=axv s 0 ah d;rw[dY,show((0:Nat):Int)=0 from rfl]at k;rw[dY]at b;unfold uz;by_cases a:(oO s).2.2=0;rotate_left
 ·rw[au a];generalize oO s=r at *;refine Wi rfl rfl ?_ (by rfl);simp[k,a]
 have b:=b a;obtain⟨_,_,_,_,_,f⟩:=ajd a;rw[aj (λe=>e a)];rw[a]at k;rw[mW]at b;have w:=bK ((s.length:Int)-(at2:Int));rw[<-b]at f⊢;generalize oO s=r at *;by_cases c:at2<s.length
 ·rw[au c];refine aW ?_;simp[k,w,c]
 ·rw[aj c];refine aW ?_;simp[k,w,c]
def lZ:Q0->List Row->List UInt8
 |_,[]=>[]
 |a,r::t=>uy a (dN r.1)++(aS r.2.toNat++lZ (dN r.1) t)
def qC(t:List Row):Q0:=aS t.length++lZ [] t
def AY(t:List Row):Q0×Int:=if nO t≠0 then([],nO t)else(qC t,0)
def adz:∀(t:List Row)(a:Q0),(∀r∈t,ji r.1=true/\0<=r.2/\r.2<18446744073709551616)->(lZ a t).length<=40000*t.length
 |[],a,_=>by simp[lZ]
 |r::t,a,h=>by obtain⟨h1,c,d⟩:=h r aA;have e:=Rz h1;have f:=acn a (dN r.1) ah;have g:=nY (n:=r.2.toNat) ah;have i:=adz t (dN r.1) λq b=>h q (by simp[b]);simp only[lZ,eP,iE];omega
def axA(L:Q1)(n i:Int)(D:List dS)(N:Int)(a k O V b:Q0)(R:Q1)(j:Nat)(hi:i=j)(h:i<n)(g:L[j]? =some (row (D,N)))(l:IntKind.i64.wrap (i+1)=i+1)(m:TT.lim 14 [.l (D.map ent)]=some [.s k])(o:TT.lim 114 [.s a,.s k]=some [.s O])
 (p:TT.lim 15 [.zu N]=some [.s V]) (c:2*(b.length+O.length)<=281474976710656/\b.length+O.length<=281474976710656) (d:2*(b.length+(O.length+V.length))<=281474976710656/\b.length+(O.length+V.length)<=281474976710656)
 (q:TT.lim 113 [.s k,.l L,.zq n,.zq (i+1),.l (dJ b++(dJ O++dJ V))]=some R):
 TT.lim 113 [.s a,.l L,.zq n,.zq i,.l (dJ b)]=some R:=by
 subst hi;have e:=Qr O;have f:=Qr V;refine aB ?_;simp[-List.all_eq_true,h,g,l,m,o,p,e,f,c,d,kE,q]
def ajm(l:List Row)(k:l.length<=1000)(f:∀r∈l,ji r.1=true/\0<=r.2/\r.2<18446744073709551616):∀(m i:Nat)(a b:Q0),i+m=l.length->a.length<=100000->b.length<=10+40000*i->
 TT.lim 113 [.s a,.l (l.map row),.zq l.length,.zq i,.l (dJ b)]=some [.zq 0,.l (dJ (b++lZ a (l.drop i)))]
 |0,i,a,b,hi,o,d=>by have p:l.drop i=[]:=iP;have h:¬((i:Int)<l.length):=ah;rw[p];refine aB ?_;simp[h,lZ]
 |m+1,i,a,b,hi,o,d=>by
  have c:i<l.length:=ah;obtain⟨g,u,v⟩:=f l[i] (iZ c);have w:=Rz g;have q:=DL l[i].1 g;have s:=azs a (dN l[i].1) ah ah;have x:=acn a (dN l[i].1) ah;have j:=zY l[i].2.toNat ah;rw[(ah:((l[i].2.toNat:Nat):Int)=l[i].2)]at j;have y:=nY (n:=l[i].2.toNat) ah;have e:=ajm l k f m (i+1) (dN l[i].1) (b++(uy a (dN l[i].1)++aS l[i].2.toNat)) ah ah (by simp only[eP];omega);have t:b++lZ a (l.drop i)=b++(uy a (dN l[i].1)++aS l[i].2.toNat)++lZ (dN l[i].1) (l.drop (i+1)):=by rw[iY c];simp[lZ]
  rw[t];rw[ZQ b,ZQ]at e;rw[(ah:((i+1:Nat):Int)=(i:Int)+1)]at e;exact axA _ _ _ l[i].1 l[i].2 a _ _ _ b _ i rfl ah (by simp[c]) (wrap64 ah ah) q s j ah ah e
def axz(t:List Row)(c:Rows t)(l:zB t):TT.lim 112 [.l (t.map row)]=some [.s (AY t).1,.zq (AY t).2]:=by
 have d:=Vr t c l;unfold AY;by_cases a:nO t=0;rotate_left
 ·rw[au a];refine Wi rfl rfl ?_ (by rfl);simp[d,a]
 rw[aj (λe=>e a)];rw[a]at d;have m:=((vI t).1 a).1;have o:∀r∈t,ji r.1=true/\0<=r.2/\r.2<18446744073709551616:=λr f=>⟨l r f,(c.2 r f).2.1,(c.2 r f).2.2⟩
 have u:=zY t.length ah;have x:=nY (n:=t.length) ah;have p:=ajm t ah o t.length 0 [] (aS t.length) ah aA ah;rw[dY,show((0:Nat):Int)=0 from rfl]at p;have q:=adz t [] o;have w:=jW ((t.length:Int));have ok:=Qr (aS t.length);have s:2*(aS t.length).length<=281474976710656/\(aS t.length).length<=281474976710656:=ah;have g:=ZU (qC t);have h:(dJ (qC t)).length<=281474976710656:=by rw[af5];unfold qC;rw[eP];omega
 have i:TT.lim 113 [.s [],.l (t.map row),.zq t.length,.zq 0,.l (dJ (aS t.length))]=some [.zq 0,.l (dJ (qC t))]:=p;generalize dJ (qC t)=y at *;generalize qC t=P at *;generalize b:dJ (aS t.length)=v at *;have j:v.length=(aS t.length).length:=by rw[<-b,af5]
 rw[<-j]at s;have k:(t.map row).length=t.length:=aA;generalize t.map row=L at *;refine aW ?_;simp[-List.all_eq_true,d,k,w,u,b,ok,s,i,g,h]
def aaF{x:dS}(h:uU x=0):x.1.length<=64/\x.2.length<=256:=by
 have d:∀(s:Q0)(lo hi:Int),pq s lo hi=0->(s.length:Int)<=hi:=by
  intro s lo hi h;unfold pq at h;split at h
  ·cases h
  ·split at h
   ·cases h
   ·omega
 unfold uU at h;by_cases c:pq x.1 1 64=0
 ·rw[aj (λe=>e c)]at h;have a:=d _ _ _ c;have b:=d _ _ _ h;omega
 ·rw[au c]at h;exact absurd h c
def amY{s:Q0}(h:(fU s).2.2=0):aS (fU s).1.length++(fU s).1=s.take (fU s).2.1:=by
 unfold fU at h⊢;by_cases a:(aF s).2.2=0;rotate_left
 ·rw[au a]at h;exact absurd h a
 rw[aj (λe=>e a)]at h⊢;obtain⟨d,f,g,i,c⟩:=mg a;by_cases b:s.length-(aF s).2.1<(aF s).1
 ·rw[au b]at h;cases h
 rw[aj b];simp only[mQ,fZ];rw[MW ah,c,Et]
def atP{s:Q0}(h:(eY s).2.2=0):jy (eY s).1=s.take (eY s).2.1:=by obtain⟨_,_,_,_,_,a,b,c,d⟩:=VQ h;rw[c,d];unfold jy;simp only;have e:=amY a;have f:=amY b;rw[e,List.append_assoc,f,Et]
def ag7:∀(m:Nat)(p:Option dS)(s:Q0),(ig m p s).2.2=0->(ig m p s).1.flatMap jy=s.take (ig m p s).2.1/\uS (p.map (·.1)) (ig m p s).1=0
 |0,p,s,_=>by simp[ig,uS]
 |m+1,p,s,h=>by
  rw[VI]at h⊢;by_cases h1:(eY s).2.2=0;rotate_left
  ·rw[au h1]at h;exact absurd h h1
  rw[aj (λe=>e h1)]at h⊢;by_cases b:BK p (eY s).1=0;rotate_left
  ·rw[au b]at h;exact absurd h b
  rw[aj (λe=>e b)]at h⊢;by_cases c:(ig m (some (eY s).1) (s.drop (eY s).2.1)).2.2=0;rotate_left
  ·rw[au c]at h;exact absurd h c
  rw[aj (λe=>e c)];obtain⟨i,d⟩:=ag7 m (some (eY s).1) _ c;obtain⟨_,_,j,_⟩:=VQ h1;have l:=atP h1;refine⟨by simp only[kY,i,l,Et],?_⟩;unfold uS;rw[aj (λe=>e j)];cases p with
  |none=>exact d
  |some k=>
   have a:Au k.1 (eY s).1.1=0:=b;unfold Au at a;simp only[iO];by_cases f:(eY s).1.1=k.1
   ·rw[au f]at a;exact absurd a aU
   rw[aj f]at a⊢;by_cases g:Op.bytesLess (eY s).1.1 k.1=true
   ·rw[au g]at a;exact absurd a aU
   rw[aj g];exact d
structure DOk(d:List dS)(key:Q0):Prop where
 chk:yP d=0
 few:ji d=true
 ents:uG d
 put:dN d=key
def atA{s:Q0}(h:(pR s).2.2=0)(n:s.length<=100000000):DOk (pR s).1 (s.take (pR s).2.1):=by
 obtain⟨d,o,p,b,e,f,q⟩:=ahb h;obtain⟨r,g,c⟩:=aaz _ _ _ b;obtain⟨i,j⟩:=ag7 _ _ _ b;obtain⟨t,u,v,w,k⟩:=mg d;rw[e,f];refine⟨?_,?_,⟨ah,λx a=>?_⟩,?_⟩
 ·unfold yP;rw[bW,bW];exact j
 ·unfold ji;rw[aO,decide_eq_true_iff,List.all_eq_true];refine⟨λx a=>?_,ah⟩;obtain⟨l,m⟩:=aaF (c x a).1;unfold wU;rw[decide_eq_true_iff];omega
 ·obtain⟨l,m⟩:=aaF (c x a).1;omega
 ·unfold dN;rw[g,k,i,Et]
def ahg{s:Q0}(h:(uf s).2=0)(c:s.length<=100000000):DOk (uf s).1 s:=by
 unfold uf at h⊢;by_cases a:(pR s).2.2=0;rotate_left
 ·rw[au a]at h;exact absurd h a
 rw[aj (λe=>e a)]at h⊢;by_cases b:(pR s).2.1<s.length
 ·rw[au b]at h;exact absurd h aA
 rw[aj b];have:=atA a c;rw[mF ah]at this;exact this
def aAz{s a:Q0}{first:Bool}(h:(bT s a first).2.2=0)(f:first=true->a=[]):uy a (bT s a first).1=s.take (bT s a first).2.1/\(first=false->a<(bT s a first).1):=by
 have k:(if first=true then[]else a)=a:=by
  cases first with
  |true=>rw[au rfl,f rfl]
  |false=>rfl
 unfold bT at h⊢;simp only[k]at h⊢;by_cases b:(aF s).2.2=0;rotate_left
 ·rw[au b]at h;exact absurd h b
 rw[aj (λe=>e b)]at h⊢;by_cases g:a.length<(aF s).1
 ·rw[au g]at h;exact absurd h (by simp[oW])
 rw[aj g]at h⊢;by_cases c:(aF (s.drop (aF s).2.1)).2.2=0;rotate_left
 ·rw[au c]at h;exact absurd h c
 rw[aj (λe=>e c)]at h⊢;by_cases i:s.length-((aF s).2.1+(aF (s.drop (aF s).2.1)).2.1)<(aF (s.drop (aF s).2.1)).1
 ·rw[au i]at h;exact absurd h (by simp[oW])
 rw[aj i]at h⊢;obtain⟨u,v,w,x,l⟩:=mg b;obtain⟨y,z,A,B,m⟩:=mg c;have n:((s.drop ((aF s).2.1+(aF (s.drop (aF s).2.1)).2.1)).take (aF (s.drop (aF s).2.1)).1).length=(aF (s.drop (aF s).2.1)).1:=by rw[mQ,fZ];omega
 generalize o:(s.drop ((aF s).2.1+(aF (s.drop (aF s).2.1)).2.1)).take (aF (s.drop (aF s).2.1)).1=X at *;by_cases d:first=false/\Op.bytesLess a (a.take (aF s).1++X)=false
 ·rw[au d]at h;exact absurd h (by simp[oW])
 rw[aj d]at h⊢;by_cases j:(aF s).1<common a (a.take (aF s).1++X)
 ·rw[au j]at h;exact absurd h (by simp[oW])
 rw[aj j];have p:=agH (aF s).1 a X ah;have q:common a (a.take (aF s).1++X)=(aF s).1:=ah;refine⟨?_,λf=>?_⟩
 ·unfold uy;simp only[q];have r:(a.take (aF s).1++X).length-(aF s).1=(aF (s.drop (aF s).2.1)).1:=by rw[eP,mQ,n];omega
  have t:(a.take (aF s).1++X).drop (aF s).1=X:=by rw[Zb (by rw[mQ];omega)];rw[Jg (by rw[mQ];omega)];rfl
  rw[r,t,l,m,<-o];rw[Et,Et,<-tK]
 ·simp only[f,true_and]at d;rw[<-Nv];simpa using d
def ala:∀(m:Nat)(a:Q0)(first:Bool)(s:Q0),(iT m a first s).2.2=0->(first=true->a=[])->a.length+s.length<=100000000->
 lZ a (iT m a first s).1=s.take (iT m a first s).2.1/\kQ (iT m a first s).1/\(first=false->∀r∈(iT m a first s).1,a<K r)/\(∀r∈(iT m a first s).1,zh r=0/\ji r.1=true/\uG r.1/\0<=r.2/\r.2<18446744073709551616)
 |0,a,first,s,_,_,_=>by simp[iT,lZ,kQ]
 |m+1,a,first,s,h,n,B=>by
  rw[XM]at h⊢;by_cases h1:(bT s a first).2.2=0;rotate_left
  ·rw[au h1]at h;exact absurd h h1
  rw[aj (λe=>e h1)]at h⊢;by_cases c:(iQ (bT s a first).1 (s.drop (bT s a first).2.1)).2.2=0;rotate_left
  ·rw[au c]at h;exact absurd h c
  rw[aj (λe=>e c)]at h⊢;by_cases d:(iT m (bT s a first).1 false (s.drop ((bT s a first).2.1+(iQ (bT s a first).1 (s.drop (bT s a first).2.1)).2.1))).2.2=0;rotate_left
  ·rw[au d]at h;exact absurd h d
  rw[aj (λe=>e d)];obtain⟨D,E,o⟩:=ade h1;obtain⟨p,j⟩:=aAz h1 n;obtain⟨q,t,F,g,u⟩:=adr c;have v:(bT s a first).1.length<=a.length+(bT s a first).2.1:=by cases first<;>simp at o<;>omega
  obtain⟨G,H,I,L,w⟩:=mg t;have f:=ahg q ah;obtain⟨x,y,k,z⟩:=ala m _ false _ d (λe=>by cases e) (by rw[fZ];omega);have i:K (iQ (bT s a first).1 (s.drop (bT s a first).2.1)).1=(bT s a first).1:=by rw[g];exact f.put
  have A:(iQ (bT s a first).1 (s.drop (bT s a first).2.1)).1.2.toNat=(aF (s.drop (bT s a first).2.1)).1:=by rw[g];simp
  simp only;refine⟨?_,?_,λl r b=>?_,λr b=>?_⟩
  ·show uy a (K _)++(aS _++lZ (K _) _)=_
   rw[i,A,x,p,w,<-u];rw[Et,Et,List.append_assoc]
  ·refine jB.2 ⟨λr b=>?_,y⟩;rw[i];exact k rfl r b
  ·rcases bH.1 b with rfl|b
   ·rw[i];exact j l
   ·exact Bo (j l) (k rfl r b)
  ·rcases bH.1 b with rfl|b
   ·rw[g];refine⟨?_,f.few,f.ents,by simp only;omega,by simp only;omega⟩;rw[O4];exact⟨f.chk,by simp only;omega⟩
   ·exact z r b
structure BD(t:List Row):Prop where
 ok:Ok t
 few:zB t
 rows:Rows t
def BD.tb{t:List Row}(h:BD t):nO t=0:=(vI t).2 h.ok
def axx{s:Q0}(h:(oO s).2.2=0)(l:s.length<=100000000):qC (oO s).1=s.take (oO s).2.1/\BD (oO s).1:=by obtain⟨d,m,c,e,f,n⟩:=ajd h;obtain⟨o,p,q,t,g⟩:=mg d;obtain⟨u,i⟩:=adb _ _ _ _ c;obtain⟨j,k,_,b⟩:=ala _ _ _ _ c (λ_=>rfl) (by rw[fZ];simp;omega);rw[e,f];refine⟨?_,⟨ah,k,λr a=>(b r a).1⟩,λr a=>(b r a).2.1,ah,λr a=>(b r a).2.2⟩;unfold qC;rw[i,g,j,Et]
def am1:BD []:=⟨⟨aA,List.Pairwise.nil,aA⟩,λr a=>by simp at a,aA,aA⟩
def aF5{s:Q0}(d:s.length<=100000000):BD (uz s).1/\((uz s).2=0->qC (uz s).1=s)/\((uz s).2≠0->(uz s).1=[]):=by
 unfold uz;by_cases a:(oO s).2.2=0;rotate_left
 ·rw[au a];exact⟨am1,λh=>absurd h a,λ_=>rfl⟩
 rw[aj (λe=>e a)];by_cases b:(oO s).2.1<s.length
 ·rw[au b];exact⟨am1,λh=>absurd h aU,λ_=>rfl⟩
 rw[aj b];obtain⟨c,f⟩:=axx a d;rw[mF ah]at c;exact⟨f,λ_=>c,λh=>absurd rfl h⟩
def BD.len{t:List Row}(h:BD t):t.length<=256:=h.ok.1
def BD.good{t:List Row}(h:BD t):dX t:=⟨Nat.le_trans h.len aU,h.few,h.rows⟩
def amX(a x:Q0)(c:a.length<=100000000):fU (aS a.length++(a++x))=(a,(aS a.length).length+a.length,0):=by have h:=Gs a.length (a++x) ah;unfold fU;rw[h];simp only[ne_eq,not_true_eq_false,if_false];have b:(aS a.length++(a++x)).length=(aS a.length).length+(a.length+x.length):=aA;rw[b,bW,uI,Us]
def atO(e:dS)(y:Q0)(h:uU e=0):eY (jy e++y)=(e,(jy e).length,0):=by
 obtain⟨i,j⟩:=aaF h;have a:jy e++y=aS e.1.length++(e.1++(aS e.2.length++(e.2++y))):=by unfold jy;simp
 have b:=amX e.1 (aS e.2.length++(e.2++y)) ah;have c:=amX e.2 y ah;have d:(aS e.1.length++(e.1++(aS e.2.length++(e.2++y)))).drop ((aS e.1.length).length+e.1.length)=aS e.2.length++(e.2++y):=by rw[<-List.append_assoc,<-eP,uI]
 have f:(jy e).length=(aS e.1.length).length+e.1.length+((aS e.2.length).length+e.2.length):=by unfold jy;simp;omega
 unfold eY;rw[a,b];simp only[ne_eq,not_true_eq_false,if_false,d,c];have g:uU (e.1,e.2)=0:=h;rw[g,f];simp
def apl{p:Option Q0}{x:dS}{xs:List dS}(h:uS p (x::xs)=0):uU x=0/\(∀k,p=some k->Au k x.1=0)/\uS (some x.1) xs=0:=by
 unfold uS at h;by_cases a:uU x=0;rotate_left
 ·rw[au a]at h;exact absurd h a
 rw[aj (λe=>e a)]at h;cases p with
 |none=>exact⟨a,(λk b=>by cases b),h⟩
 |some k=>
  simp only at h;by_cases c:x.1=k
  ·rw[au c]at h;exact absurd h aU
  rw[aj c]at h;by_cases d:Op.bytesLess x.1 k=true
  ·rw[au d]at h;exact absurd h aU
  rw[aj d]at h;refine⟨a,λf b=>?_,h⟩;cases b;unfold Au;rw[aj c,aj d]
def ag6:∀(d:List dS)(p:Option dS)(y:Q0),uS (p.map (·.1)) d=0->ig d.length p (d.flatMap jy++y)=(d,(d.flatMap jy).length,0)
 |[],p,y,_=>by simp[ig]
 |x::d,p,y,h=>by
  obtain⟨h1,a,b⟩:=apl h;have c:=atO x (d.flatMap jy++y) h1;have e:(x::d).flatMap jy++y=jy x++(d.flatMap jy++y):=aA;have f:=ag6 d (some x) y b;have g:BK p x=0:=by
   cases p with
   |none=>rfl
   |some k=>exact a k.1 rfl
  rw[iE,VI,e,c];simp only[ne_eq,not_true_eq_false,if_false,uI,g,f];simp
def atz(d:List dS)(y:Q0)(h:yP d=0):pR (dN d++y)=(d,(dN d).length,0):=by
 unfold yP at h;by_cases a:d.length=0
 ·rw[au a]at h;exact absurd h aU
 rw[aj a]at h;by_cases b:16<d.length
 ·rw[au b]at h;exact absurd h aU
 rw[aj b]at h;have c:=Gs d.length (d.flatMap jy++y) ah;have e:dN d++y=aS d.length++(d.flatMap jy++y):=by unfold dN;simp
 have f:=ag6 d none y h;unfold pR;rw[e,c];simp only[ne_eq,not_true_eq_false,if_false,a,b,uI,f];unfold dN;simp
def ahf(d:List dS)(h:yP d=0):uf (dN d)=(d,0):=by have:=atz d [] h;rw[pY]at this;unfold uf;rw[this];simp
def apR(a s:Q0):a.take (common a s)++s.drop (common a s)=s:=by rw[agJ,Jk]
def aAy(a t y:Q0)(first:Bool)(b:first=true->a=[])(c:first=false->a<t)(n:t.length<=100000000):bT (uy a t++y) a first=(t,(uy a t).length,0):=by
 have d:(if first=true then[]else a)=a:=by
  cases first with
  |true=>rw[au rfl,b rfl]
  |false=>rfl
 obtain⟨o,p⟩:=VB a t;have e:uy a t++y=aS (common a t)++(aS (t.length-common a t)++(t.drop (common a t)++y)):=by unfold uy;simp
 have f:=Gs (common a t) (aS (t.length-common a t)++(t.drop (common a t)++y)) ah;have g:=Gs (t.length-common a t) (t.drop (common a t)++y) ah;have h:(uy a t).length=(aS (common a t)).length+(aS (t.length-common a t)).length+(t.length-common a t):=by unfold uy;simp;omega
 have i:(aS (common a t)++(aS (t.length-common a t)++(t.drop (common a t)++y))).drop ((aS (common a t)).length+(aS (t.length-common a t)).length)=t.drop (common a t)++y:=by rw[<-List.append_assoc,<-eP,uI]
 have j:(t.drop (common a t)++y).take (t.length-common a t)=t.drop (common a t):=by rw[<-fZ,Us]
 have k:¬(first=false/\Op.bytesLess a t=false):=by
  rintro⟨l,m⟩
  have:=(Nv a t).2 (c l);rw[m]at this;cases this
 unfold bT;simp only[d];rw[e,f];simp only[ne_eq,not_true_eq_false,if_false,uI,g,i,j,apR];rw[bW,aj (by simp;omega),aj k,bW,h]
def ak9:∀(l:List Row)(a:Q0)(first:Bool)(y:Q0),(first=true->a=[])->(first=false->∀r∈l,a<K r)->kQ l->(∀r∈l,zh r=0/\ji r.1=true/\0<=r.2/\r.2<18446744073709551616)->
 iT l.length a first (lZ a l++y)=(l,(lZ a l).length,0)
 |[],a,first,y,_,_,_,_=>by simp[iT,lZ]
 |r::l,a,first,y,g,h,i,d=>by
  obtain⟨h1,j⟩:=jB.1 i;obtain⟨f,k,t,u⟩:=d r aA;have v:(K r).length<=30000:=Rz k;rw[O4]at f;have m:lZ a (r::l)++y=uy a (K r)++(aS r.2.toNat++(lZ (K r) l++y)):=by simp[lZ]
  have n:=aAy a (K r) (aS r.2.toNat++(lZ (K r) l++y)) first g (λe=>h e r aA) ah
  have o:=Gs r.2.toNat (lZ (K r) l++y) ah;have p:=ahf r.1 f.1;have s:=ak9 l (K r) false y (λe=>by cases e) (λ_=>h1) j λq b=>d q (by simp[b]);have c:(uy a (K r)++(aS r.2.toNat++(lZ (K r) l++y))).drop ((uy a (K r)).length+(aS r.2.toNat).length)=lZ (K r) l++y:=by rw[<-List.append_assoc,<-eP,uI]
  have b:iQ (K r) (aS r.2.toNat++(lZ (K r) l++y))=(r,(aS r.2.toNat).length,0):=by unfold iQ;rw[o,p];simp only[ne_eq,not_true_eq_false,if_false];rw[bW];have:((r.2.toNat:Nat):Int)=r.2:=ah;rw[this]
  rw[iE,XM,m,n];simp only[ne_eq,not_true_eq_false,if_false,uI,b,c,s];simp[lZ,kE]
def axw(t:List Row)(y:Q0)(h:BD t):oO (qC t++y)=(t,(qC t).length,0):=by
 have f:=h.len;have b:=Gs t.length (lZ [] t++y) ah;have c:qC t++y=aS t.length++(lZ [] t++y):=by unfold qC;simp
 have d:=ak9 t [] true y (λ_=>rfl) (λe=>by cases e) h.ok.2.1 λr a=>⟨h.ok.2.2 r a,h.few r a,(h.rows.2 r a).2.1,(h.rows.2 r a).2.2⟩
 unfold oO;rw[c,b];simp only[ne_eq,not_true_eq_false,if_false,uI,d];rw[bW];unfold qC;simp
def aF4(t:List Row)(h:BD t):uz (qC t)=(t,0):=by have:=axw t [] h;rw[pY]at this;unfold uz;rw[this];simp
structure One where
 deep:Int
 tag:Int
 typ:Int
 num:Int
 text:Q0
inductive aK where
 |mk (tag typ num:Int) (text:Q0) (l:List aK)
def one(x:One):GV:=.g [.i .u8 x.deep,.zu x.tag,.i .i8 x.typ,.zu x.num,.s x.text]
@[simp] theorem aJf(x:One):(one x).cells=[.i .u8 x.deep,.zu x.tag,.i .i8 x.typ,.zu x.num,.s x.text]:=rfl
mutual
def rC:aK->GV
 |.mk t y n s l=>.g [.zu t,.zq y,.zu n,.s s,.l (aI l)]
def aI:List aK->List GV
 |[]=>[]
 |f::l=>rC f::aI l
end
def qP:∀(a:List aK),(aI a).length=a.length
 |[]=>rfl
 |f::a=>by simp only[aI,iE,qP a]
structure aQ where
 kind:Int
 id:Int
 min:Int
 max:Int
 chosen:Int
 flags:Int
 cost:Int
 priority:Int
 deadline:Int
 retry:Int
 epoch:Int
 base:Int
 digest:Int
 lag:Int
 code:Int
 want:Int
 remaining:Int
 allowed:Bool
 name:Q0
 region:Q0
 note:Q0
 d:List dS
 t:List Row
def jk(b:aQ)(r:Q1):GV:=.g [.zq b.kind,.zu b.id,.zu b.min,.zu b.max,.zu b.chosen,.zu b.flags,.zu b.cost,.zu b.priority,.zu b.deadline,.zu b.retry,.zu b.epoch,.zu b.base,.zu b.digest,.zu b.lag,.zu b.code,.zu b.want,.zq b.remaining,.b b.allowed,.s b.name,.s b.region,.s b.note,.l (b.d.map ent),.l (b.t.map row),.l r]
def lW(b:aQ)(r:Q1):GV.g [.zq b.kind,.zu b.id,.zu b.min,.zu b.max,.zu b.chosen,.zu b.flags,.zu b.cost,.zu b.priority,.zu b.deadline,.zu b.retry,.zu b.epoch,.zu b.base,.zu b.digest,.zu b.lag,.zu b.code,.zu b.want,.zq b.remaining,.b b.allowed,.s b.name,.s b.region,.s b.note,.l (b.d.map ent),.l (b.t.map row),.l r]=jk b r:=rfl
@[simp] theorem fG(b:aQ)(r:Q1):(jk b r).cells=[.zq b.kind,.zu b.id,.zu b.min,.zu b.max,.zu b.chosen,.zu b.flags,.zu b.cost,.zu b.priority,.zu b.deadline,.zu b.retry,.zu b.epoch,.zu b.base,.zu b.digest,.zu b.lag,.zu b.code,.zu b.want,.zq b.remaining,.b b.allowed,.s b.name,.s b.region,.s b.note,.l (b.d.map ent),.l (b.t.map row),.l r]:=rfl
structure vZ(b:aQ):Prop where
 kind: -9223372036854775808<=b.kind/\b.kind<=9223372036854775807
 id:0<=b.id/\b.id<18446744073709551616
 min:0<=b.min/\b.min<18446744073709551616
 max:0<=b.max/\b.max<18446744073709551616
 chosen:0<=b.chosen/\b.chosen<18446744073709551616
 flags:0<=b.flags/\b.flags<18446744073709551616
 cost:0<=b.cost/\b.cost<18446744073709551616
 priority:0<=b.priority/\b.priority<18446744073709551616
 deadline:0<=b.deadline/\b.deadline<18446744073709551616
 retry:0<=b.retry/\b.retry<18446744073709551616
 epoch:0<=b.epoch/\b.epoch<18446744073709551616
 base:0<=b.base/\b.base<18446744073709551616
 digest:0<=b.digest/\b.digest<18446744073709551616
 lag:0<=b.lag/\b.lag<18446744073709551616
 code:0<=b.code/\b.code<18446744073709551616
 want:0<=b.want/\b.want<18446744073709551616
 remaining: -9223372036854775808<=b.remaining/\b.remaining<=9223372036854775807
 name:b.name.length<=140737488351232
 region:b.region.length<=140737488351232
 note:b.note.length<=140737488351232
 d:uG b.d
 t:Rows b.t
def awh{k:IntKind}{g:GV}(h:(dh.int k).has g):∃n,g=.i k n/\k.min<=n/\n<=k.max:=by simp only[dh.has]at h;exact h
def aa9{g:GV}(h:(dh.int .i64).has g):∃n,g=.zq n/\-9223372036854775808<=n/\n<=9223372036854775807:=by obtain⟨n,rfl,a,b⟩:=awh h;exact⟨n,rfl,by simpa[IntKind.min,IntKind.signed,IntKind.bits]using a,by simpa[IntKind.max,IntKind.signed,IntKind.bits]using b⟩
def um(a c:Int)(n:Q0):aQ:=⟨1,0,a,c,0,0,0,0,0,0,0,0,0,0,0,0,0,false,n,[],[],[],[]⟩
structure dU where
 tag:Int
 use:Int
 from_:Int
 name:Q0
def gJ(s:dU):GV:=.g [.zu s.tag,.zq s.use,.zq s.from_,.s s.name]
@[simp] theorem aJx(s:dU):(gJ s).cells=[.zu s.tag,.zq s.use,.zq s.from_,.s s.name]:=rfl
def aEZ(s:dU):GV.g [.zu s.tag,.zq s.use,.zq s.from_,.s s.name]=gJ s:=rfl
def sp1:List dU:=[⟨1,0,1,[109,105,110]⟩,⟨2,0,1,[109,97,120]⟩,⟨3,3,1,[110,97,109,101]⟩,⟨4,3,2,[114,101,103,105,111,110]⟩,⟨5,0,3,[102,108,97,103,115]⟩]
def sp2:List dU:=[⟨1,0,1,[99,104,111,115,101,110]⟩,⟨2,3,1,[110,97,109,101]⟩,⟨3,3,2,[114,101,103,105,111,110]⟩]
def F8:List dU:=[⟨1,0,1,[105,100]⟩,⟨2,4,1,[100,101,115,99,114]⟩,⟨3,0,1,[99,111,115,116]⟩,⟨4,0,2,[112,114,105,111,114,105,116,121]⟩,⟨5,0,3,[100,101,97,100,108,105,110,101]⟩]
def F9:List dU:=[⟨1,0,1,[105,100]⟩,⟨2,1,1,[97,108,108,111,119,101,100]⟩,⟨3,2,1,[114,101,109,97,105,110,105,110,103]⟩,⟨4,0,2,[114,101,116,114,121]⟩,⟨5,3,3,[110,111,116,101]⟩]
def Gf:List dU:=[⟨1,0,1,[101,112,111,99,104]⟩,⟨2,5,1,[116,97,98,108,101]⟩,⟨3,3,2,[114,101,103,105,111,110]⟩,⟨4,0,3,[100,105,103,101,115,116]⟩]
def Gg:List dU:=[⟨1,0,2,[98,97,115,101]⟩,⟨2,0,2,[101,112,111,99,104]⟩,⟨3,5,2,[116,97,98,108,101]⟩,⟨4,3,2,[114,101,103,105,111,110]⟩,⟨5,0,3,[100,105,103,101,115,116]⟩]
def Gh:List dU:=[⟨1,0,1,[101,112,111,99,104]⟩,⟨2,0,3,[108,97,103]⟩]
def Gi:List dU:=[⟨1,0,1,[101,112,111,99,104]⟩,⟨2,0,1,[99,111,100,101]⟩,⟨3,0,2,[119,97,110,116]⟩,⟨4,3,3,[110,111,116,101]⟩]
def Aa(k:Int):List dU:=if k=1 then sp1 else if k=2 then sp2 else if k=3 then F8 else if k=4 then F9 else if k=5 then Gf else if k=6 then Gg else if k=7 then Gh else if k=8 then Gi else[]
def qQ(k:Int):Int:=if k=1 then 1 else if k=2 then 1 else if k=3 then 1 else if k=4 then 1 else if k=5 then 1 else if k=6 then 2 else if k=7 then 1 else if k=8 then 1 else 0
def aT(k v:Int):List dU:=(Aa k).filter λs=>decide (s.from_<=v)
def awt:TT.lim 69 []=some [.l (sp1.map gJ)]:=by refine aW ?_;simp[sp1,gJ]
def awq:TT.lim 71 []=some [.l (sp2.map gJ)]:=by refine aW ?_;simp[sp2,gJ]
def apg:TT.lim 72 []=some [.l (F8.map gJ)]:=by refine aW ?_;simp[F8,gJ]
def aph:TT.lim 73 []=some [.l (F9.map gJ)]:=by refine aW ?_;simp[F9,gJ]
def au6:TT.lim 74 []=some [.l (Gf.map gJ)]:=by refine aW ?_;simp[Gf,gJ]
def atr:TT.lim 75 []=some [.l (Gg.map gJ)]:=by refine aW ?_;simp[Gg,gJ]
def an6:TT.lim 76 []=some [.l (Gh.map gJ)]:=by refine aW ?_;simp[Gh,gJ]
def aBL:TT.lim 77 []=some [.l (Gi.map gJ)]:=by refine aW ?_;simp[Gi,gJ]
def abG(k:Int):TT.lim 67 [.zq k]=some [.zq (qQ k)]:=by
 refine aW ?_;unfold qQ;by_cases a:k=1
 ·simp[a]
 by_cases b:k=2
 ·simp[b]
 by_cases c:k=3
 ·simp[c]
 by_cases d:k=4
 ·simp[d]
 by_cases e:k=5
 ·simp[e]
 by_cases f:k=6
 ·simp[f]
 by_cases g:k=7
 ·simp[g]
 by_cases h:k=8
 ·simp[h]
 simp[a,b,c,d,e,f,g,h]
def abI(v:Int)(l:List dU)(j:l.length<=8):∀(m i:Nat)(a:List dU),i+m=l.length->a.length<=i->
 TT.lim 70 [.zq v,.l (a.map gJ),.l (l.map gJ),.zq l.length,.zq i]=some [.zq 0,.l ((a++(l.drop i).filter λs=>decide (s.from_<=v)).map gJ)]
 |0,i,a,hi,p=>by have h0:l.drop i=[]:=iP;refine aB ?_;have h:¬((i:Int)<l.length):=ah;simp[h,h0]
 |m+1,i,a,hi,p=>by
  have c:i<l.length:=ah;have k:=iY c;refine aB ?_;have h:((i:Int)<l.length):=ah;have n:=bK ((i:Int)+1);have e:2*(a.length+1)*40<=281474976710656:=ah;have f:a.length<=281474976710655:=ah;have g:(gJ l[i]).gV 4=true:=rfl;have b:((i:Int)+1)=((i+1:Nat):Int):=ah;by_cases o:l[i].from_<=v
  ·have d:=abI v l j m (i+1) (a++[l[i]]) ah (by simp;omega);rw[<-b,oJ]at d;simp only[jc,jJ]at d;simp[-List.getElem_cons_drop,h,c,o,n,aEZ,e,f,g,d,k]
  ·have d:=abI v l j m (i+1) a ah ah;rw[<-b]at d;simp[-List.getElem_cons_drop,h,c,o,n,d,k]
def aEY(k:Int):(Aa k).length<=8:=by
 unfold Aa;repeat' split
 all_goals (first|(unfold sp1;decide)|(unfold sp2;decide)|(unfold F8;decide)|(unfold F9;decide)|(unfold Gf;decide)|(unfold Gg;decide)|(unfold Gh;decide)|(unfold Gi;decide)|decide)
def Il(v:Int)(l:List dU)(a:l.length<=8):TT.lim 70 [.zq v,.l [],.l (l.map gJ),.zq l.length,.zq 0]=some [.zq 0,.l ((l.filter λs=>decide (s.from_<=v)).map gJ)]:=by have:=abI v l a l.length 0 [] ah aA;simpa using this
def Xe(k v:Int)(h1:1<=v)(D:v<=3)(d:qQ k<=v):TT.lim 68 [.zq k,.zq v]=some [.l ((aT k v).map gJ)]:=by
 have a:¬v<1:=ah;have b:¬3<v:=ah;unfold aT Aa;unfold qQ at d;have m:=Il v sp1 aU;have n:=Il v sp2 aU;have g3:=Il v F8 aU;have g4:=Il v F9 aU;have o:=Il v Gf aU;have p:=Il v Gg aU;have q:=Il v Gh aU;have r:=Il v Gi aU;have s:=awt;have t:=awq;have u:=apg;have w:=aph;have x:=au6;have y:=atr;have z:=an6;have A:=aBL;generalize sp1=E,sp2=F,F8=G,F9=H,Gf=I,Gg=L,Gh=M,Gi=N at *;refine aW ?_;by_cases e:k=1
 ·simp[e,a,b,s,m]
 by_cases f:k=2
 ·simp[f,a,b,t,n]
 by_cases g:k=3
 ·simp[g,a,b,u,g3]
 by_cases h:k=4
 ·simp[h,a,b,w,g4]
 by_cases i:k=5
 ·simp[i,a,b,x,o]
 by_cases c:k=6
 ·have B:¬v<2:=by subst c;simpa using d
  simp[c,a,B,b,y,p]
 by_cases j:k=7
 ·simp[j,a,b,z,q]
 by_cases l:k=8
 ·simp[l,a,b,A,r]
 simp[e,f,g,h,i,c,j,l]
def ajk(k v:Int)(h1:1<=v)(j:v<=3):aT k v=[]↔qQ k=0\/v<qQ k:=by
 have a:v=1\/v=2\/v=3:=ah;unfold aT Aa qQ;by_cases b:k=1
 ·subst b;rcases a with rfl|rfl|rfl<;>decide
 by_cases c:k=2
 ·subst c;rcases a with rfl|rfl|rfl<;>decide
 by_cases d:k=3
 ·subst d;rcases a with rfl|rfl|rfl<;>decide
 by_cases e:k=4
 ·subst e;rcases a with rfl|rfl|rfl<;>decide
 by_cases f:k=5
 ·subst f;rcases a with rfl|rfl|rfl<;>decide
 by_cases g:k=6
 ·subst g;rcases a with rfl|rfl|rfl<;>decide
 by_cases h:k=7
 ·subst h;rcases a with rfl|rfl|rfl<;>decide
 by_cases i:k=8
 ·subst i;rcases a with rfl|rfl|rfl<;>decide
 simp[b,c,d,e,f,g,h,i]
def aK.tag:aK->Int
 |.mk t _ _ _ _=>t
def DF:∀(a:List aK),aI a=a.map rC
 |[]=>rfl
 |f::a=>by simp only[aI,jc,DF a]
mutual
def xw:aK->Nat
 |.mk _ _ _ _ l=>dO l+1
def dO:List aK->Nat
 |[]=>0
 |f::l=>xw f+dO l+1
end
mutual
def uX:aK->Prop
 |.mk t y n s k=>(0<=t/\t<18446744073709551616/\-128<=y/\y<=127/\0<=n/\n<18446744073709551616/\s.length<=100000000/\k.length<=1000000)/\fF k
def fF:List aK->Prop
 |[]=>True
 |f::r=>uX f/\fF r
end
def Ic:∀{l:List aK},fF l->∀f∈l,uX f
 |f::l,h,g,a=>by
  simp only[fF]at h;rcases bH.1 a with rfl|a
  ·exact h.1
  ·exact Ic h.2 g a
def YH:∀{l:List aK}{f:aK},f∈l->xw f<dO l
 |g::l,f,h=>by
  simp only[dO];rcases bH.1 h with rfl|h
  ·omega
  ·have:=YH h;omega
mutual
def Az(w:Nat):aK->Int
 |.mk _ y n s k=>if y=0 then(if s=[]/\k=[]then 0 else 8)else if y=1 then(if n=0/\k=[]then 0 else 8)else if y=2 then(if n=0/\s=[]then(if 8<=w then 9 else jS (w+1) 0 k)else 8)else 8
def jS(w:Nat)(ahead:Int):List aK->Int
 |[]=>0
 |f::r=>if f.tag=0 then 18 else if 4294967296<f.tag then 18 else if f.tag<=ahead then 7 else if Az w f≠0 then Az w f else jS w f.tag r
end
@[simp] theorem NW(t y n:Int)(s:Q0)(k:List aK):(rC (.mk t y n s k)).cells=[.zu t,.zq y,.zu n,.s s,.l (aI k)]:=by simp only[rC];rfl
def auZ(k:List aK):(aI k).length=0↔k=[]:=by rw[qP,PX]
def ahH:∀(N:Nat)(l:List aK),dO l<N->fF l->l.length<=1000000->∀w:Nat,w<=8->TT.lim 106 [.l (aI l),.zq w]=some [.zq (jS w 0 l)]
 |0,l,h,_,_,_,_=>ah
 |N+1,l,T,G,L,w,Q=>by
  have loop:∀m i (ahead:Int),i+m=l.length->TT.lim 107 [.zq w,.zu ahead,.l (aI l),.zq l.length,.zq i]=some (if jS w ahead (l.drop i)=0 then[.zq 1]else[.zq 0,.zq (jS w ahead (l.drop i))]):=by
   intro m;induction m with
   |zero=>intro i ahead hi;have r:l.drop i=[]:=iP;refine aB ?_;have h:¬((i:Int)<l.length):=ah;simp[h,r,jS]
   |succ m R=>
    intro i ahead hi;have q:i<l.length:=ah;rw[iY q];have H:=Ic G l[i] (iZ q);have S:=YH (iZ q);have b:(aI l)[i]? =some (rC l[i]):=by rw[DF,jA,cO q];rfl
    have u:((i:Int)+1)=((i+1:Nat):Int):=ah;have c:=λa=>R (i+1) a ah;simp only[<-u]at c;generalize l[i]=f at *;obtain⟨t,y,n,s,k⟩:=f;simp only[uX]at H;simp only[xw]at S;have g:=bK ((i:Int)+1);have A:=bK ((w:Int)+1);refine aB ?_;have h:((i:Int)<l.length):=ah;have z:=λh=>ahH N k ah H.2 H.1.2.2.2.2.2.2.2 (w+1) h;simp only[Gy,Int.natCast_one]at z;have B:((aI k).length=0)=(k=[]):=propext (auZ k);simp only[jS,aK.tag];by_cases d:t=0
    ·simp[h,b,d]
    by_cases e:4294967296<t
    ·simp[h,b,d,e]
    by_cases j:t<=ahead
    ·simp[h,b,d,e,j]
    simp only[Az];by_cases M:y=0
    ·subst M;by_cases o:s=[]
     ·by_cases p:k=[]
      ·simp[h,b,d,e,j,o,p,g,c,aI]
      ·simp[h,b,d,e,j,o,p,g,c,B]
     ·simp[h,b,d,e,j,o]
    by_cases O:y=1
    ·subst O;by_cases o:n=0
     ·by_cases p:k=[]
      ·simp[h,b,d,e,j,o,p,g,c,aI]
      ·simp[h,b,d,e,j,o,p,g,c,B]
     ·simp[h,b,d,e,j,o]
    by_cases P:y=2
    ·subst P;by_cases o:n=0
     ·by_cases p:s=[]
      ·by_cases I:8<=w
       ·have E:(8:Int)<=w:=ah;simp[h,b,d,e,j,o,p,I,E]
       ·have E:¬(8:Int)<=w:=ah;have z:=z ah;by_cases v:jS (w+1) 0 k=0
        ·rw[v]at z;simp[h,b,d,e,j,o,p,I,E,A,z,v,g,c,aK.tag]
        ·simp[h,b,d,e,j,o,p,I,E,A,z,v,g,c,aK.tag]
      ·simp[h,b,d,e,j,o,p]
     ·simp[h,b,d,e,j,o]
    simp[h,b,d,e,j,M,O,P]
  have r:=loop l.length 0 0 ah;rw[dY]at r;refine aW ?_;have D:=qP l;by_cases F:jS w 0 l=0
  ·rw[au F]at r;have x:TT.lim 107 [.zq w,.zu 0,.l (aI l),.zq (aI l).length,.zq 0]=some [.zq 1]:=by rw[D];exact r
   simp[x,F]
  ·rw[aj F]at r;have x:TT.lim 107 [.zq w,.zu 0,.l (aI l),.zq (aI l).length,.zq 0]=some [.zq 0,.zq (jS w 0 l)]:=by rw[D];exact r
   simp[x,F]
def VZ(l:List aK)(b:fF l)(a:l.length<=1000000):TT.lim 105 [.l (aI l)]=some [.zq (jS 0 0 l)]:=by have h:=ahH (dO l+1) l ah b a 0 ah;have c:TT.lim 106 [.l (aI l),.zq 0]=_:=h;refine aW ?_;simp[c]
inductive Pl where
 |rem|allow|name|region|note|d|t
 |num (k:Nat)
def KX:Q0:=[114,101,109,97,105,110,105,110,103]
def KH:Q0:=[97,108,108,111,119,101,100]
def KU:Q0:=[110,97,109,101]
def zW:Q0:=[114,101,103,105,111,110]
def FD:Q0:=[110,111,116,101]
def KN:Q0:=[100,101,115,99,114]
def yV:Q0:=[116,97,98,108,101]
def KP:Q0:=[105,100]
def KT:Q0:=[109,105,110]
def KR:Q0:=[109,97,120]
def KI:Q0:=[99,104,111,115,101,110]
def KO:Q0:=[102,108,97,103,115]
def KJ:Q0:=[99,111,115,116]
def KW:Q0:=[112,114,105,111,114,105,116,121]
def KL:Q0:=[100,101,97,100,108,105,110,101]
def KY:Q0:=[114,101,116,114,121]
def uY:Q0:=[101,112,111,99,104]
def DU:Q0:=[98,97,115,101]
def Cm:Q0:=[100,105,103,101,115,116]
def KQ:Q0:=[108,97,103]
def Cj:Q0:=[99,111,100,101]
def DV:Q0:=[119,97,110,116]
def placeOf(n:Q0):Option Pl:=
 if n=KX then some .rem else if n=KH then some .allow else if n=KU then some .name else if n=zW then some .region else if n=FD then some .note else if n=KN then some .d else if n=yV then some .t else if n=KP then some (.num 0)else if n=KT then some (.num 1)else if n=KR then some (.num 2)else if n=KI then some (.num 3)else if n=KO then some (.num 4)else if n=KJ then some (.num 5)else if n=KW then some (.num 6)else if n=KL then some (.num 7)else if n=KY then some (.num 8)else if n=uY then some (.num 9)else if n=DU then some (.num 10)else if n=Cm then some (.num 11)else if n=KQ then some (.num 12)else if n=Cj then some (.num 13)else if n=DV then some (.num 14)else none
def ak3:placeOf KX=some .rem:=rfl
def akL:placeOf KH=some .allow:=rfl
def akZ:placeOf KU=some .name:=rfl
def ak2:placeOf zW=some .region:=rfl
def ak0:placeOf FD=some .note:=rfl
def akR:placeOf KN=some .d:=rfl
def ak5:placeOf yV=some .t:=rfl
def akV:placeOf KP=some (.num 0):=rfl
def akY:placeOf KT=some (.num 1):=rfl
def akX:placeOf KR=some (.num 2):=rfl
def akN:placeOf KI=some (.num 3):=rfl
def akU:placeOf KO=some (.num 4):=rfl
def akP:placeOf KJ=some (.num 5):=rfl
def ak1:placeOf KW=some (.num 6):=rfl
def akQ:placeOf KL=some (.num 7):=rfl
def ak4:placeOf KY=some (.num 8):=rfl
def akT:placeOf uY=some (.num 9):=rfl
def akM:placeOf DU=some (.num 10):=rfl
def akS:placeOf Cm=some (.num 11):=rfl
def akW:placeOf KQ=some (.num 12):=rfl
def akO:placeOf Cj=some (.num 13):=rfl
def ak6:placeOf DV=some (.num 14):=rfl
def qV(b:aQ)(k:Nat):Int:=match k with
 |0=>b.id
 |1=>b.min
 |2=>b.max
 |3=>b.chosen
 |4=>b.flags
 |5=>b.cost
 |6=>b.priority
 |7=>b.deadline
 |8=>b.retry
 |9=>b.epoch
 |10=>b.base
 |11=>b.digest
 |12=>b.lag
 |13=>b.code
 |_=>b.want
def jv(b:aQ):Pl->Bool
 |.rem=>decide (b.remaining=0)
 |.allow=>!b.allowed
 |.name=>decide (b.name=[])
 |.region=>decide (b.region=[])
 |.note=>decide (b.note=[])
 |.d=>decide (b.d=[])
 |.t=>decide (b.t=[])
 |.num k=>decide (qV b k=0)
def oU(b:aQ)(n:Q0):Bool:=match placeOf n with
 |some p=>jv b p
 |none=>true
def nU(b:aQ):Pl->Int
 |.name=>pq b.name 0 256
 |.region=>pq b.region 0 256
 |.note=>pq b.note 0 256
 |.d=>if b.d=[]then 0 else yP b.d
 |.t=>nO b.t
 |_=>0
def qA(b:aQ)(n:Q0):Int:=match placeOf n with
 |some p=>nU b p
 |none=>0
def zz(x:Int):Int:=if 0<=x then 2*x else -2*x-1
def bC(b:aQ):Pl->Int×Q0
 |.rem=>(zz b.remaining,[])
 |.allow=>(if b.allowed=true then 1 else 0,[])
 |.name=>(0,b.name)
 |.region=>(0,b.region)
 |.note=>(0,b.note)
 |.d=>(0,if b.d=[]then[]else dN b.d)
 |.t=>(0,if b.t=[]then[]else(AY b.t).1)
 |.num k=>(qV b k,[])
def eF:Pl->Int
 |.num _=>0
 |.rem=>0
 |.allow=>0
 |_=>1
def aGm:Pl->Int
 |.num _=>0
 |.allow=>1
 |.rem=>2
 |.d=>4
 |.t=>5
 |_=>3
def nameOf:Pl->List UInt8
 |.rem=>KX
 |.allow=>KH
 |.name=>KU
 |.region=>zW
 |.note=>FD
 |.d=>KN
 |.t=>yV
 |.num k=>match k with
  |0=>KP
  |1=>KT
  |2=>KR
  |3=>KI
  |4=>KO
  |5=>KJ
  |6=>KW
  |7=>KL
  |8=>KY
  |9=>uY
  |10=>DU
  |11=>Cm
  |12=>KQ
  |13=>Cj
  |_=>DV
def IC:Pl->Prop
 |.num k=>k<15
 |_=>True
def axo{c:Prop}[Decidable c]{a b:Option Pl}{p:Pl}(h:(if c then a else b)=some p):(c/\a=some p)\/(¬c/\b=some p):=by
 by_cases e:c
 ·rw[au e]at h;exact .inl ⟨e,h⟩
 ·rw[aj e]at h;exact .inr ⟨e,h⟩
def AX(n:Q0)(p:Pl)(h:placeOf n=some p):n=nameOf p/\IC p/\n∈iH:=by
 unfold placeOf at h
 iterate 22
  replace h:=axo h
  rcases h with⟨e,h⟩|⟨-,h⟩
  ·cases h;subst e;exact⟨rfl,by first|exact trivial|exact(show _<15 by decide),aU⟩
 cases h
def ak7{a b:Q0}{p:Pl}(c:placeOf a=some p)(d:placeOf b=some p):a=b:=by rw[(AX a p c).1,(AX b p d).1]
def axl{n m:Q0}{p q:Pl}(b:placeOf n=some p)(a:placeOf m=some q):(n=m)=(p=q):=
 propext ⟨λe=>by subst e;rw[b]at a;cases a;rfl,λe=>by subst e;exact ak7 b a⟩
def WW{n:Q0}{p:Pl}(a:placeOf n=some p):((n=[114,101,109,97,105,110,105,110,103])=(p=.rem))/\((n=[97,108,108,111,119,101,100])=(p=.allow))/\((n=[110,97,109,101])=(p=.name))/\((n=[114,101,103,105,111,110])=(p=.region))/\((n=[110,111,116,101])=(p=.note))/\((n=[100,101,115,99,114])=(p=.d))/\((n=[116,97,98,108,101])=(p=.t))/\((n=[105,100])=(p=.num 0))/\((n=[109,105,110])=(p=.num 1))/\((n=[109,97,120])=(p=.num 2))/\((n=[99,104,111,115,101,110])=(p=.num 3))/\((n=[102,108,97,103,115])=(p=.num 4))/\((n=[99,111,115,116])=(p=.num 5))/\((n=[112,114,105,111,114,105,116,121])=(p=.num 6))/\((n=[100,101,97,100,108,105,110,101])=(p=.num 7))/\((n=[114,101,116,114,121])=(p=.num 8))/\((n=[101,112,111,99,104])=(p=.num 9))/\((n=[98,97,115,101])=(p=.num 10))/\((n=[100,105,103,101,115,116])=(p=.num 11))/\((n=[108,97,103])=(p=.num 12))/\((n=[99,111,100,101])=(p=.num 13))/\((n=[119,97,110,116])=(p=.num 14)):=by and_intros<;>exact axl a rfl
def ai6{n:Q0}(h:placeOf n=none):((n=[114,101,109,97,105,110,105,110,103])=False)/\((n=[97,108,108,111,119,101,100])=False)/\((n=[110,97,109,101])=False)/\((n=[114,101,103,105,111,110])=False)/\((n=[110,111,116,101])=False)/\((n=[100,101,115,99,114])=False)/\((n=[116,97,98,108,101])=False)/\((n=[105,100])=False)/\((n=[109,105,110])=False)/\((n=[109,97,120])=False)/\((n=[99,104,111,115,101,110])=False)/\((n=[102,108,97,103,115])=False)/\((n=[99,111,115,116])=False)/\((n=[112,114,105,111,114,105,116,121])=False)/\((n=[100,101,97,100,108,105,110,101])=False)/\((n=[114,101,116,114,121])=False)/\((n=[101,112,111,99,104])=False)/\((n=[98,97,115,101])=False)/\((n=[100,105,103,101,115,116])=False)/\((n=[108,97,103])=False)/\((n=[99,111,100,101])=False)/\((n=[119,97,110,116])=False):=by and_intros<;>exact eq_false λe=>by subst e;exact absurd h aU
def OM{Q:(p:Pl)->IC p->Prop}(h0:Q (.rem) trivial)(h1:Q (.allow) trivial)(o:Q (.name) trivial)(q:Q (.region) trivial)(r:Q (.note) trivial)(h5:Q (.d) trivial)(h6:Q (.t) trivial)(s:Q (.num 0) (show 0<15 by decide))(t:Q (.num 1) (show 1<15 by decide))(u:Q (.num 2) (show 2<15 by decide))(b:Q (.num 3) (show 3<15 by decide))(c:Q (.num 4) (show 4<15 by decide))(d:Q (.num 5) (show 5<15 by decide))(e:Q (.num 6) (show 6<15 by decide))(f:Q (.num 7) (show 7<15 by decide))(g:Q (.num 8) (show 8<15 by decide))(h:Q (.num 9) (show 9<15 by decide))(i:Q (.num 10) (show 10<15 by decide))(j:Q (.num 11) (show 11<15 by decide))(l:Q (.num 12) (show 12<15 by decide))(m:Q (.num 13) (show 13<15 by decide))(n:Q (.num 14) (show 14<15 by decide))(p:Pl)(a:IC p):Q p a:=by
 cases p with
 |num k=>simp only[IC]at a;rcases(ah:k=0\/k=1\/k=2\/k=3\/k=4\/k=5\/k=6\/k=7\/k=8\/k=9\/k=10\/k=11\/k=12\/k=13\/k=14)with rfl|rfl|rfl|rfl|rfl|rfl|rfl|rfl|rfl|rfl|rfl|rfl|rfl|rfl|rfl<;>assumption
 |_=>assumption
def xK(a:Wa):Q1:=a.map λp=>.g [.s p,.b true]
def DK(a:Wa)(x:Q0):Wa:=if x∈a then a else a++[x]
def ZM(n:Q0):∀a:Wa,iC (.s n) (xK a)=if n∈a then some (.b true)else none
 |[]=>rfl
 |p::a=>by
  have b:=ZM n a;simp only[xK,jc,iC,rJ]at b⊢;by_cases e:n=p
  ·subst e;simp
  ·have c:¬p=n:=λh=>e h.symm;simp[e,b]
def als(x:Q0):∀a:Wa,kV (.s x) (.b true) (xK a)=xK (DK a x)
 |[]=>rfl
 |p::a=>by
  have b:=als x a;unfold DK at b⊢;simp only[xK,jc,kV,rJ]at b⊢;by_cases e:x=p
  ·subst e;simp
  ·have d:(x==p)=false:=by simpa using e
   simp only[d,iI,if_false];rw[b];by_cases c:x∈a
   ·simp only[c,if_true,bH,or_true,jc]
   ·simp only[c,if_false,bH,e,or_false,bG,jc]
def BZ(a:Wa)(l:List dU):Wa:=l.foldl (λa s=>DK a s.name) a
def ayn(n x:Q0)(a:Wa):n∈DK a x↔n∈a\/x=n:=by
 unfold DK;split
 ·next h=>exact⟨.inl,λe=>e.elim id (λe=>e▸h)⟩
 ·simp[eq_comm]
def aj3(n:Q0):∀(l:List dU)(a:Wa),n∈BZ a l↔n∈a\/∃s∈l,s.name=n
 |[],a=>by simp[BZ]
 |s::l,a=>by have:=aj3 n l (DK a s.name);unfold BZ at this⊢;rw[List.foldl_cons,this,ayn];simp[or_assoc]
def rF(l:List dU)(n:Q0):Bool:=l.any λs=>decide (s.name=n)
def aym(n:Q0)(l:List dU):decide (n∈BZ [] l)=rF l n:=by rw[zA,decide_eq_true_iff,aj3];simp[rF]
def ajX(b:aQ)(r:Q1)(l:List dU)(f:l.length<=1000):∀(m i:Nat)(a:Wa),i+m=l.length->
 TT.lim 78 [.l (l.map gJ),.zq l.length,.zq i,.l (xK a),.zq b.kind,.zu b.id,.zu b.min,.zu b.max,.zu b.chosen,.zu b.flags,.zu b.cost,.zu b.priority,.zu b.deadline,.zu b.retry,.zu b.epoch,.zu b.base,.zu b.digest,.zu b.lag,.zu b.code,.zu b.want,.zq b.remaining,.b b.allowed,.s b.name,.s b.region,.s b.note,.l (b.d.map ent),.l (b.t.map row),.l r]=some [.zq 0,.l (xK (BZ a (l.drop i)))]
 |0,i,a,hi=>by have h0:l.drop i=[]:=iP;refine aB ?_;have h:¬((i:Int)<l.length):=ah;simp[h,h0,BZ]
 |m+1,i,a,hi=>by
  have d:i<l.length:=ah;have e:=ajX b r l f m (i+1) (DK a l[i].name) ah;have c:((i:Int)+1)=((i+1:Nat):Int):=ah;rw[<-c]at e;have g:=als l[i].name a;have j:BZ a (l.drop i)=BZ (DK a l[i].name) (l.drop (i+1)):=by rw[iY d];rfl
  rw[j];generalize BZ (DK a l[i].name) (l.drop (i+1))=X,xK (DK a l[i].name)=Y at *;refine aB ?_;have h:((i:Int)<l.length):=ah;have k:=bK ((i:Int)+1);simp[h,d,k,g,e]
def anW(b:aQ)(r:Q1)(n:Q0)(c:Prop):Prop:=∀(f:GV)(a:Wa)(i:Nat)(e:Wa)(d:Q1)(h:i<a.length),((i:Int)<a.length)->IntKind.i64.wrap ((i:Int)+1)=(i:Int)+1->a[i]=n->iC (.s n) (xK e)=none->
    TT.lim 80 [f,.l (a.map .s),.zq a.length,.zq ((i:Int)+1),.l (xK e),.zq b.kind,.zu b.id,.zu b.min,.zu b.max,.zu b.chosen,.zu b.flags,.zu b.cost,.zu b.priority,.zu b.deadline,.zu b.retry,.zu b.epoch,.zu b.base,.zu b.digest,.zu b.lag,.zu b.code,.zu b.want,.zq b.remaining,.b b.allowed,.s b.name,.s b.region,.s b.note,.l (b.d.map ent),.l (b.t.map row),.l r]=some d->
    (c->TT.lim 80 [f,.l (a.map .s),.zq a.length,.zq i,.l (xK e),.zq b.kind,.zu b.id,.zu b.min,.zu b.max,.zu b.chosen,.zu b.flags,.zu b.cost,.zu b.priority,.zu b.deadline,.zu b.retry,.zu b.epoch,.zu b.base,.zu b.digest,.zu b.lag,.zu b.code,.zu b.want,.zq b.remaining,.b b.allowed,.s b.name,.s b.region,.s b.note,.l (b.d.map ent),.l (b.t.map row),.l r]=some d)/\(¬c->TT.lim 80 [f,.l (a.map .s),.zq a.length,.zq i,.l (xK e),.zq b.kind,.zu b.id,.zu b.min,.zu b.max,.zu b.chosen,.zu b.flags,.zu b.cost,.zu b.priority,.zu b.deadline,.zu b.retry,.zu b.epoch,.zu b.base,.zu b.digest,.zu b.lag,.zu b.code,.zu b.want,.zq b.remaining,.b b.allowed,.s b.name,.s b.region,.s b.note,.l (b.d.map ent),.l (b.t.map row),.l r]=some [.zq 0])
def ake:TT.lim 79 []=some [.l (iH.map .s)]:=D5 (Ds:=Ds) (k:=79) (f:=Xy) rfl rfl
def azf(b:aQ){n:Q0}{p:Pl}(h:placeOf n=some p):oU b n=jv b p:=by unfold oU;rw[h]
set_option maxHeartbeats 4000000 in
def aFm(b:aQ)(r:Q1){n:Q0}{p:Pl}(c:placeOf n=some p):anW b r n (jv b p=true):=by
 intro o q i s l h d k e f g;have j:=WW c;have m:=(AX n p c).2.1;clear c;induction p,m using OM<;>(refine⟨λa=>jI rfl rfl ?_,λa=>jI rfl rfl ?_⟩<;>simp only[jv,qV,decide_eq_true_iff,yB]at a)
 all_goals first
  |(have a:=eq_true a;simp[d,h,e,k,f,a,j,g];done)
  |(rw[a]at g;simp[d,h,e,k,f,a,j,g];done)
  |(simp[d,h,e,f,a,j];done)
def ajY(b:aQ)(r:Q1)(l:GV)(a:Wa)(g:a.length<=1000)(j:∀n∈a,placeOf n≠none)(c:Wa):∀(m i:Nat),i+m=a.length->
 TT.lim 80 [l,.l (a.map .s),.zq a.length,.zq i,.l (xK c),.zq b.kind,.zu b.id,.zu b.min,.zu b.max,.zu b.chosen,.zu b.flags,.zu b.cost,.zu b.priority,.zu b.deadline,.zu b.retry,.zu b.epoch,.zu b.base,.zu b.digest,.zu b.lag,.zu b.code,.zu b.want,.zq b.remaining,.b b.allowed,.s b.name,.s b.region,.s b.note,.l (b.d.map ent),.l (b.t.map row),.l r]=some (if(a.drop i).all (λn=>decide (n∈c) ||oU b n)=true then[.zq 1]else[.zq 0])
 |0,i,hi=>by have h0:a.drop i=[]:=iP;refine aB ?_;have h:¬((i:Int)<a.length):=ah;simp[h,h0]
 |m+1,i,hi=>by
  have d:i<a.length:=ah;have o:=ajY b r l a g j c m (i+1) ah;have f:((i:Int)+1)=((i+1:Nat):Int):=ah;rw[<-f]at o;have u:(a.drop i).all (λn=>decide (n∈c) ||oU b n)=((decide (a[i]∈c) ||oU b a[i])&&(a.drop (i+1)).all (λn=>decide (n∈c) ||oU b n)):=by rw[iY d,uH]
  rw[u];generalize(a.drop (i+1)).all (λn=>decide (n∈c) ||oU b n)=X at *;by_cases e:a[i]∈c
  ·have k:=ZM a[i] c;rw[au e]at k;have v:((i:Int)<a.length):=ah;have w:=bK ((i:Int)+1);rw[EN e,Bool.true_or,Gv];refine aB ?_;simp[v,d,w,k,o]
  ·have k:=ZM a[i] c;rw[aj e]at k;obtain⟨p,q⟩:=anT.1 (j _ (iZ d));have s:=azf b q;obtain⟨x,y⟩:=aFm b r q l a i c _ d ah (bK ((i:Int)+1)) rfl k o;rw[Dx e,Bj];cases t:oU b a[i]with
   |true=>rw[x (by rw[<-s];exact t),Gv]
   |false=>rw[y (by rw[<-s,t];decide),Y8];rfl
def Jl(b:aQ)(r:Q1)(k:Nat)(a:Q1):Prop:=TT.lim k [.zq b.kind,.zu b.id,.zu b.min,.zu b.max,.zu b.chosen,.zu b.flags,.zu b.cost,.zu b.priority,.zu b.deadline,.zu b.retry,.zu b.epoch,.zu b.base,.zu b.digest,.zu b.lag,.zu b.code,.zu b.want,.zq b.remaining,.b b.allowed,.s b.name,.s b.region,.s b.note,.l (b.d.map ent),.l (b.t.map row),.l r]=some a
def ayi(b:aQ){n:Q0}{p:Pl}(h:placeOf n=some p):qA b n=nU b p:=by unfold qA;rw[h]
set_option maxHeartbeats 4000000 in
def ayk(b:aQ)(r:Q1)(a:vZ b)(d:∀r∈b.t,ji r.1=true):(∀k∈[82,83,89,90,91,92,93,94,95,96,97,98,99,100,101,102,103],Jl b r k [.zq 0])/\Jl b r 84 [.zq 0,.zq (nU b .name)]/\Jl b r 85 [.zq 0,.zq (nU b .region)]/\Jl b r 86 [.zq 0,.zq (nU b .note)]/\Jl b r 87 [.zq 0,.zq (nU b .d)]/\Jl b r 88 [.zq 0,.zq (nU b .t)]:=by
 have f:=Hq b.name 0 256 a.name;have g:=Hq b.region 0 256 a.region;have h:=Hq b.note 0 256 a.note;have i:=agr b.d a.d;have j:=Vr b.t a.t d;refine⟨λk c=>?_,jI rfl rfl ?_,jI rfl rfl ?_,jI rfl rfl ?_,jI rfl rfl ?_,jI rfl rfl ?_⟩
 ·simp only[bH,List.not_mem_nil,or_false]at c;rcases c with rfl|rfl|rfl|rfl|rfl|rfl|rfl|rfl|rfl|rfl|rfl|rfl|rfl|rfl|rfl|rfl|rfl<;>(refine aB ?_;simp)
 ·simp[nU,f]
 ·simp[nU,g]
 ·simp[nU,h]
 ·by_cases e:b.d=[]
  ·simp[nU,e]
  ·have l:¬(List.map ent b.d)=[]:=by simpa using e
   have m:0<b.d.length:=MN.2 e;simp[nU,e,i]
 ·simp[nU,j]
def anX(b:aQ)(r:Q1)(n:Q0)(c:Int):Prop:=∀(l:List dU)(i:Nat)(a:Q1)(h:i<l.length),((i:Int)<l.length)->IntKind.i64.wrap ((i:Int)+1)=(i:Int)+1->l[i].name=n->
    TT.lim 81 [.l (l.map gJ),.zq l.length,.zq ((i:Int)+1),.zq b.kind,.zu b.id,.zu b.min,.zu b.max,.zu b.chosen,.zu b.flags,.zu b.cost,.zu b.priority,.zu b.deadline,.zu b.retry,.zu b.epoch,.zu b.base,.zu b.digest,.zu b.lag,.zu b.code,.zu b.want,.zq b.remaining,.b b.allowed,.s b.name,.s b.region,.s b.note,.l (b.d.map ent),.l (b.t.map row),.l r]=some a->
    TT.lim 81 [.l (l.map gJ),.zq l.length,.zq i,.zq b.kind,.zu b.id,.zu b.min,.zu b.max,.zu b.chosen,.zu b.flags,.zu b.cost,.zu b.priority,.zu b.deadline,.zu b.retry,.zu b.epoch,.zu b.base,.zu b.digest,.zu b.lag,.zu b.code,.zu b.want,.zq b.remaining,.b b.allowed,.s b.name,.s b.region,.s b.note,.l (b.d.map ent),.l (b.t.map row),.l r]=some (if c=0 then a else[.zq 0,.zq c])
set_option maxHeartbeats 4000000 in
def aFo(b:aQ)(r:Q1)(w:vZ b)(x:∀r∈b.t,ji r.1=true){n:Q0}{p:Pl}(k:placeOf n=some p):anX b r n (nU b p):=by
 intro l i y h m o q s;obtain⟨v,d,e,f,g,j⟩:=ayk b r w x;simp only[List.forall_mem_cons,Jl]at v d e f g j;have t:=WW k;have z:=(AX n p k).2.1;clear k;generalize a:nU b p=c at s⊢;induction p,z using OM
 all_goals first
  |(obtain rfl:0=c:=a
    rw[au rfl];refine aB ?_;simp[m,h,q,o,t,v,s];done)
  |(simp only[a]at d e f g j
    by_cases u:c=0
    ·subst u;rw[au rfl];refine aB ?_;simp[m,h,q,o,t,d,e,f,g,j,s]
    ·rw[aj u];refine aB ?_;simp[m,h,q,o,t,d,e,f,g,j,u])
def kT(b:aQ):List dU->Int
 |[]=>0
 |s::l=>if qA b s.name=0 then kT b l else qA b s.name
def ajZ(b:aQ)(r:Q1)(j:vZ b)(k:∀r∈b.t,ji r.1=true)(l:List dU)(d:l.length<=1000)(e:∀s∈l,placeOf s.name≠none):∀(m i:Nat),i+m=l.length->
 TT.lim 81 [.l (l.map gJ),.zq l.length,.zq i,.zq b.kind,.zu b.id,.zu b.min,.zu b.max,.zu b.chosen,.zu b.flags,.zu b.cost,.zu b.priority,.zu b.deadline,.zu b.retry,.zu b.epoch,.zu b.base,.zu b.digest,.zu b.lag,.zu b.code,.zu b.want,.zq b.remaining,.b b.allowed,.s b.name,.s b.region,.s b.note,.l (b.d.map ent),.l (b.t.map row),.l r]=some (if kT b (l.drop i)=0 then[.zq 1]else[.zq 0,.zq (kT b (l.drop i))])
 |0,i,hi=>by have h0:l.drop i=[]:=iP;refine aB ?_;have h:¬((i:Int)<l.length):=ah;simp[h,h0,kT]
 |m+1,i,hi=>by
  have a:i<l.length:=ah;have n:=ajZ b r j k l d e m (i+1) ah;have c:((i:Int)+1)=((i+1:Nat):Int):=ah;rw[<-c]at n;obtain⟨p,o⟩:=anT.1 (e _ (iZ a));have:=aFo b r j k o l i _ a ah (bK ((i:Int)+1)) rfl n;rw[<-ayi b o]at this;rw[this,iY a];by_cases f:qA b l[i].name=0
  ·have g:kT b (l[i]::l.drop (i+1))=kT b (l.drop (i+1)):=by simp only[kT,f,if_true]
   rw[au f,g]
  ·have g:kT b (l[i]::l.drop (i+1))=qA b l[i].name:=by simp only[kT,f,if_false]
   rw[aj f,g,aj f]
def hasTag(l:List dU)(t:Int):Bool:=l.any λs=>decide (t=s.tag)
def aj1(l:List dU)(c:l.length<=1000)(e f g:GV)(t:Int)(j k n d:GV):∀(m i:Nat),i+m=l.length->
 TT.lim 109 [.l (l.map gJ),e,f,g,.zq l.length,.zq i,.zu t,j,k,n,d]=some (if hasTag (l.drop i) t=true then[.zq 0]else[.zq 1])
 |0,i,hi=>by have h0:l.drop i=[]:=iP;refine aB ?_;have h:¬((i:Int)<l.length):=ah;simp[h,h0,hasTag]
 |m+1,i,hi=>by
  have a:i<l.length:=ah;have o:=aj1 l c e f g t j k n d m (i+1) ah;have b:((i:Int)+1)=((i+1:Nat):Int):=ah;rw[<-b]at o;have p:((i:Int)<l.length):=ah;have r:=bK ((i:Int)+1);have s:hasTag (l.drop i) t=(decide (t=l[i].tag) ||hasTag (l.drop (i+1)) t):=by rw[iY a];rfl
  rw[s];generalize hasTag (l.drop (i+1)) t=X at *;refine aB ?_;by_cases q:t=l[i].tag
  ·simp[p,a,q]
  ·simp[p,a,q,r,o]
def aj0(l:List dU)(c:l.length<=1000)(a:List aK)(o:a.length<=1000000):∀(m i:Nat),i+m=a.length->
 TT.lim 108 [.l (l.map gJ),.l (aI a),.zq a.length,.zq i]=some (if(a.drop i).any (λf=>hasTag l f.tag)=true then[.zq 0]else[.zq 1])
 |0,i,hi=>by have h0:a.drop i=[]:=iP;refine aB ?_;have h:¬((i:Int)<a.length):=ah;simp[h,h0]
 |m+1,i,hi=>by
  have g:i<a.length:=ah;have q:=aj0 l c a o m (i+1) ah;have d:((i:Int)+1)=((i+1:Nat):Int):=ah;rw[<-d]at q;have r:((i:Int)<a.length):=ah;have v:=bK ((i:Int)+1);have u:(a.drop i).any (λf=>hasTag l f.tag)=(hasTag l a[i].tag ||(a.drop (i+1)).any (λf=>hasTag l f.tag)):=by rw[iY g,aeU]
  rw[u];have b:(aI a)[i]? =some (rC a[i]):=by rw[DF,jA,cO g];rfl
  clear u;obtain⟨t,y,n,s,k,p⟩:∃t y n s k,a[i]=aK.mk t y n s k:=by
   cases a[i]with
   |mk t y n s k=>exact⟨_,_,_,_,_,rfl⟩
  rw[p]at b⊢;rw[show(aK.mk t y n s k).tag=t from rfl];have j:TT.lim 109 [.l (l.map gJ),.l (aI a),.zq a.length,.zq i,.zq l.length,.zq 0,.zu t,.zq y,.zu n,.s s,.l (aI k)]=_:=aj1 l c _ _ _ t _ _ _ _ l.length 0 ah;rw[dY]at j;refine aB ?_;by_cases e:hasTag l t=true
  ·rw[au e]at j;simp[-List.any_eq_true,r,b,j,e]
  ·rw[aj e]at j;have e:hasTag l t=false:=by simpa using e
   simp[-List.any_eq_true,r,b,j,v,q,e]
def EI(b:aQ):Int:=
 if b.kind=1 then(if b.min<1 then 18 else if b.max<b.min then 18 else if 255<b.max then 18 else 0)
 else if b.kind=2 then(if b.chosen<1 then 18 else if 255<b.chosen then 18 else 0)
 else if b.kind=3 then(if b.d=[]then 12 else 0)
 else if b.kind=5 then(if b.epoch<1 then 18 else 0)
 else if b.kind=6 then(if b.base<1 then 18 else if b.epoch<=b.base then 20 else 0)
 else 0
def OZ(b:List dU)(a:List aK):Int:=if jS 0 0 a≠0 then jS 0 0 a else if a.any (λf=>hasTag b f.tag)=true then 14 else 0
def fE(b:aQ)(a:List aK)(v:Int):Int:=
 if v<1 then 16 else if 3<v then 16 else
 if aT b.kind v=[]then 15 else
 if iH.all (λn=>rF (aT b.kind v) n ||oU b n)=false then 26 else
 if kT b (aT b.kind v)≠0 then kT b (aT b.kind v)else
 if EI b≠0 then EI b else OZ (aT b.kind v) a
def ay4:∀n∈iH,placeOf n≠none:=aU
def ajl(k v:Int):∀s∈aT k v,placeOf s.name≠none:=by
 have a:∀s∈Aa k,placeOf s.name≠none:=by
  unfold Aa;repeat' split
  all_goals first|(unfold sp1;decide)|(unfold sp2;decide)|(unfold F8;decide)|(unfold F9;decide)|(unfold Gf;decide)|(unfold Gg;decide)|(unfold Gh;decide)|(unfold Gi;decide)|(intro s b;cases b)
 intro s b;exact a s (CX.1 b).1
def Fq(k v:Int):(aT k v).length<=8:=kZ (Zg _ _) (aEY k)
set_option maxHeartbeats 4000000 in
def abZ(b:aQ)(u:List aK)(v:Int)(Z:vZ b)(hf:∀r∈b.t,ji r.1=true)(S:fF u)(H:u.length<=1000000):TT.lim 66 [jk b (aI u),.zq v]=some [.zq (fE b u v)]:=by
 have q:=abG b.kind;refine aW ?_;unfold fE;by_cases m:v<1
 ·simp[m]
 by_cases o:3<v
 ·simp[m,o]
 rw[aj m,aj o];have F:=ajk b.kind v ah ah;by_cases p:qQ b.kind=0
 ·rw[au (F.2 (.inl p))];rw[p]at q;simp[m,o,q]
 by_cases s:v<qQ b.kind
 ·rw[au (F.2 (.inr s))];simp[m,o,q,p,s]
 rw[aj (λe=>(F.1 e).elim p s)];have g:=Xe b.kind v ah ah ah;have T:=ajl b.kind v;have aa:=Fq b.kind v;clear F;generalize aT b.kind v=y at *;have h:=ake;have U:=ajX b (aI u) y ah y.length 0 [] ah;have P:=ajY b (aI u) (.l (y.map gJ)) iH aU ay4 (BZ [] y) iH.length 0 ah;have V:=ajZ b (aI u) Z hf y ah T y.length 0 ah;have Q:=aj0 y ah u H u.length 0 ah;have z:=VZ u S H;rw[dY]at U P V Q;simp only[aym]at P;have ab:(iH.map GV.s).length=iH.length:=gU _;have X:=qP u;rw[<-X]at Q;generalize hX:BZ [] y=Y at *;have i:TT.lim 78 [.l (y.map gJ),.zq y.length,.zq 0,.l [],.zq b.kind,.zu b.id,.zu b.min,.zu b.max,.zu b.chosen,.zu b.flags,.zu b.cost,.zu b.priority,.zu b.deadline,.zu b.retry,.zu b.epoch,.zu b.base,.zu b.digest,.zu b.lag,.zu b.code,.zu b.want,.zq b.remaining,.b b.allowed,.s b.name,.s b.region,.s b.note,.l (b.d.map ent),.l (b.t.map row),.l (aI u)]=some [.zq 0,.l (xK Y)]:=U;clear U;have a:TT.lim 80 [.l (y.map gJ),.l (iH.map .s),.zq iH.length,.zq 0,.l (xK Y),.zq b.kind,.zu b.id,.zu b.min,.zu b.max,.zu b.chosen,.zu b.flags,.zu b.cost,.zu b.priority,.zu b.deadline,.zu b.retry,.zu b.epoch,.zu b.base,.zu b.digest,.zu b.lag,.zu b.code,.zu b.want,.zq b.remaining,.b b.allowed,.s b.name,.s b.region,.s b.note,.l (b.d.map ent),.l (b.t.map row),.l (aI u)]=_:=P;clear P;have d:TT.lim 81 [.l (y.map gJ),.zq y.length,.zq 0,.zq b.kind,.zu b.id,.zu b.min,.zu b.max,.zu b.chosen,.zu b.flags,.zu b.cost,.zu b.priority,.zu b.deadline,.zu b.retry,.zu b.epoch,.zu b.base,.zu b.digest,.zu b.lag,.zu b.code,.zu b.want,.zq b.remaining,.b b.allowed,.s b.name,.s b.region,.s b.note,.l (b.d.map ent),.l (b.t.map row),.l (aI u)]=_:=V;clear V;have j:TT.lim 108 [.l (y.map gJ),.l (aI u),.zq (aI u).length,.zq 0]=_:=Q;clear Q;have I:OZ y u=if jS 0 0 u≠0 then jS 0 0 u else if u.any (λf=>hasTag y f.tag)=true then 14 else 0:=rfl
 generalize(iH.all λn=>rF y n ||oU b n)=A,kT b y=M,jS 0 0 u=L,(u.any λf=>hasTag y f.tag)=W,OZ y u=R at *;generalize iH=NL at *;have ac:∀(x:GV),True:=λ_=>trivial;cases A with
 |false=>simp only[iI,if_false]at a;simp[m,o,q,p,s,g,h,i,a]
 |true=>
 simp only[if_true]at a;by_cases N:M=0;rotate_left
 ·rw[aj N]at d;simp[m,o,q,p,s,g,h,i,a,d,N]
 rw[au N]at d;rw[aj aA,aj (by simp[N])];clear N;have ad:∀(c:Int),EI b=c->c≠0->True:=λ_ _ _=>trivial;unfold EI;by_cases k:b.kind=1
 ·have k:=eq_true k;by_cases l:b.min<1
  ·simp[m,o,q,p,s,g,h,i,a,d,k,l]
  by_cases B:b.max<b.min
  ·simp[m,o,q,p,s,g,h,i,a,d,k,l,B]
  by_cases O:255<b.max
  ·simp[m,o,q,p,s,g,h,i,a,d,k,l,B,O]
  simp only[k,l,B,O,if_true,if_false,ne_eq,not_true_eq_false];rw[I];by_cases D:L=0
  ·subst D;cases W with
   |true=>simp only[if_true]at j;simp[m,o,q,p,s,g,h,i,a,d,k,l,B,O,z,j]
   |false=>simp only[iI,if_false]at j;simp[m,o,q,p,s,g,h,i,a,d,k,l,B,O,z,j]
  ·simp[m,o,q,p,s,g,h,i,a,d,k,l,B,O,z,D]
 by_cases t:b.kind=2
 ·have t:=eq_true t;by_cases l:b.chosen<1
  ·simp[m,o,q,p,s,g,h,i,a,d,k,t,l]
  by_cases B:255<b.chosen
  ·simp[m,o,q,p,s,g,h,i,a,d,k,t,l,B]
  simp only[k,t,l,B,if_true,if_false,ne_eq,not_true_eq_false];rw[I];by_cases D:L=0
  ·subst D;cases W with
   |true=>simp only[if_true]at j;simp[m,o,q,p,s,g,h,i,a,d,k,t,l,B,z,j]
   |false=>simp only[iI,if_false]at j;simp[m,o,q,p,s,g,h,i,a,d,k,t,l,B,z,j]
  ·simp[m,o,q,p,s,g,h,i,a,d,k,t,l,B,z,D]
 by_cases w:b.kind=3
 ·have w:=eq_true w;by_cases l:b.d=[]
  ·have l:=eq_true l;simp[m,o,q,p,s,g,h,i,a,d,k,t,w,l]
  simp only[k,t,w,l,if_true,if_false,ne_eq,not_true_eq_false];rw[I];by_cases D:L=0
  ·subst D;cases W with
   |true=>simp only[if_true]at j;simp[m,o,q,p,s,g,h,i,a,d,k,t,w,l,z,j]
   |false=>simp only[iI,if_false]at j;simp[m,o,q,p,s,g,h,i,a,d,k,t,w,l,z,j]
  ·simp[m,o,q,p,s,g,h,i,a,d,k,t,w,l,z,D]
 by_cases E:b.kind=5
 ·have E:=eq_true E;by_cases l:b.epoch<1
  ·simp[m,o,q,p,s,g,h,i,a,d,k,t,w,E,l]
  simp only[k,t,w,E,l,if_true,if_false,ne_eq,not_true_eq_false];rw[I];by_cases D:L=0
  ·subst D;cases W with
   |true=>simp only[if_true]at j;simp[m,o,q,p,s,g,h,i,a,d,k,t,w,E,l,z,j]
   |false=>simp only[iI,if_false]at j;simp[m,o,q,p,s,g,h,i,a,d,k,t,w,E,l,z,j]
  ·simp[m,o,q,p,s,g,h,i,a,d,k,t,w,E,l,z,D]
 by_cases G:b.kind=6
 ·have G:=eq_true G;by_cases l:b.base<1
  ·simp[m,o,q,p,s,g,h,i,a,d,k,t,w,E,G,l]
  by_cases B:b.epoch<=b.base
  ·simp[m,o,q,p,s,g,h,i,a,d,k,t,w,E,G,l,B]
  simp only[k,t,w,E,G,l,B,if_true,if_false,ne_eq,not_true_eq_false];rw[I];by_cases D:L=0
  ·subst D;cases W with
   |true=>simp only[if_true]at j;simp[m,o,q,p,s,g,h,i,a,d,k,t,w,E,G,l,B,z,j]
   |false=>simp only[iI,if_false]at j;simp[m,o,q,p,s,g,h,i,a,d,k,t,w,E,G,l,B,z,j]
  ·simp[m,o,q,p,s,g,h,i,a,d,k,t,w,E,G,l,B,z,D]
 simp only[k,t,w,E,G,if_false,ne_eq,not_true_eq_false];rw[I];by_cases D:L=0
 ·subst D;cases W with
  |true=>simp only[if_true]at j;simp[m,o,q,p,s,g,h,i,a,d,k,t,w,E,G,z,j]
  |false=>simp only[iI,if_false]at j;simp[m,o,q,p,s,g,h,i,a,d,k,t,w,E,G,z,j]
 ·simp[m,o,q,p,s,g,h,i,a,d,k,t,w,E,G,z,D]
def ael(n:Q0):Int:=match placeOf n with
 |some p=>aGm p
 |none=>-1
def axy(k v:Int):∀s∈aT k v,placeOf s.name≠none/\s.use=ael s.name:=by
 have a:∀s∈Aa k,placeOf s.name≠none/\s.use=ael s.name:=by
  unfold Aa;repeat' split
  all_goals first|(unfold sp1;decide)|(unfold sp2;decide)|(unfold F8;decide)|(unfold F9;decide)|(unfold Gf;decide)|(unfold Gg;decide)|(unfold Gh;decide)|(unfold Gi;decide)|(intro s b;cases b)
 intro s b;exact a s (CX.1 b).1
def aG4(x:Int)(h0: -9223372036854775808<=x)(h1:x<=9223372036854775807):∃u w:Int,IntKind.u64.wrap x=u/\IntKind.u64.wrap (x.fdiv (2^63))=w/\dA .xor .u64 (IntKind.u64.wrap (u*2^1)) w=some (.zu (zz x)):=by
 have a:∀y:Int,IntKind.u64.wrap y=y%18446744073709551616:=λy=>by simp[IntKind.wrap,IntKind.signed,IntKind.bits]
 refine⟨_,_,rfl,rfl,?_⟩;rw[a,a,a];unfold zz;have e:IntKind.u64.bits=64:=rfl;by_cases h:0<=x
 ·have b:x.fdiv (2^63)=0:=by rw[Gx _ aU];exact Int.ediv_eq_zero_of_lt h ah
  rw[b,au h];have c:x%18446744073709551616*2^1%18446744073709551616=2*x:=ah;rw[c];simp only[dA,a,e];have d:(BitVec.ofInt 64 (2*x) ^^^ BitVec.ofInt 64 (0%18446744073709551616))=BitVec.ofInt 64 (2*x):=by have:BitVec.ofInt 64 (0%18446744073709551616)=0#64:=rfl;rw[this,BitVec.xor_zero]
  show some (GV.i IntKind.u64 (((BitVec.ofInt 64 (2*x) ^^^ BitVec.ofInt 64 (0%18446744073709551616)).toNat:Int)%18446744073709551616))=_
  rw[d,wo];congr 2;omega
 ·have b:x.fdiv (2^63) = -1:=by rw[Gx _ aU];omega
  rw[b,aj h];have c:x%18446744073709551616*2^1%18446744073709551616=2*x+18446744073709551616:=ah;rw[c];simp only[dA,a,e];have d:(BitVec.ofInt 64 (2*x+18446744073709551616) ^^^ BitVec.ofInt 64 (-1%18446744073709551616)) = ~~~ BitVec.ofInt 64 (2*x+18446744073709551616):=by have:BitVec.ofInt 64 (-1%18446744073709551616)=BitVec.allOnes 64:=aU;rw[this,aeG]
  show some (GV.i IntKind.u64 (((BitVec.ofInt 64 (2*x+18446744073709551616) ^^^ BitVec.ofInt 64 (-1%18446744073709551616)).toNat:Int)%18446744073709551616))=_
  rw[d,aeE,wo];congr 2;omega
def afp(b:aQ)(r:Q1)(n:Q0)(p:Pl):Prop:=TT.lim 111 [jk b r,.s n]=some [.g [.zu 0,.zq (eF p),.zu (bC b p).1,.s (bC b p).2,.l []],.b true]
set_option maxHeartbeats 4000000 in
def ayT(b:aQ)(r:Q1)(d:vZ b){n:Q0}{p:Pl}(j:p=.d->ji b.d=true)(k:p=.t->zB b.t)(f:placeOf n=some p):afp b r n p:=by
 have a:=WW f;have c:=(AX n p f).2.1;unfold afp;clear f;induction p,c using OM
 case h0=>obtain⟨u,w,h1,g,h⟩:=aG4 b.remaining d.remaining.1 d.remaining.2;have g:IntKind.u64.wrap (b.remaining.fdiv 9223372036854775808)=w:=g;have h:dA .xor .u64 (IntKind.u64.wrap (u*2)) w=some (.zu (zz b.remaining)):=h;refine aW ?_;simp[a,kX,h1,g,h,IntKind.bits,eF,bC]
 case h1=>refine aW ?_;cases l:b.allowed<;>simp[a,eF,bC,l]
 case h5=>
  have c:=DL b.d (j rfl);refine aW ?_;by_cases e:b.d=[]
  ·have i:=eq_true e;simp[a,eF,bC,i]
  ·simp[a,eF,bC,e,c]
 case h6=>
  have c:=axz b.t d.t (k rfl);refine aW ?_;by_cases e:b.t=[]
  ·have i:=eq_true e;simp[a,eF,bC,i]
  ·simp[a,eF,bC,e,c]
 all_goals
  refine aW ?_;simp[a,eF,bC,qV]
def ayW(b:aQ)(r:Q1){n:Q0}(a:placeOf n=none):TT.lim 111 [jk b r,.s n]=some [.g [.zu 0,.zq 0,.zu 0,.s [],.l []],.b false]:=by have c:=ai6 a;refine aW ?_;simp[c]
