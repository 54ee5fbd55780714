/- What the trees compute: plain laws. -/
import Derived.Test.YtogfeeabnklegaaGreatDoorKBe1
set_option linter.all false
namespace Go.Proofs.YtogfeeabnklegaaGreatDoor
open Go Go.aP
set_option maxRecDepth 100000
namespace B
def fP(s:Q0):Q0×Nat×Int:=
 if(aF s).2.2≠0 then([],0,(aF s).2.2)else
 if s.length-(aF s).2.1<(aF s).1 then([],0,1)else
 ((s.drop (aF s).2.1).take (aF s).1,(aF s).2.1+(aF s).1,0)
def YR{s:Q0}(h:(fP s).2.2=0):1<=(fP s).2.1/\(fP s).2.1<=s.length/\(fP s).1.length<=s.length:=by
 unfold fP at h⊢;by_cases a:(aF s).2.2=0;rotate_left
 ·rw[au a]at h;exact absurd h a
 rw[aj (λe=>e a)]at h⊢;obtain⟨c,d,f,g,i⟩:=lZ a;by_cases b:s.length-(aF s).2.1<(aF s).1
 ·rw[au b]at h;cases h
 rw[aj b];simp only[mP,fU];omega
def amC(t:Q0)(a:Nat)(h:a<=t.length)(v:t.length<=100000000):
 ∃at2:Nat,TT.lim 213 [.s t,.zq a]=some [.zq 0,.s (fP (t.drop a)).1,.zq (fP (t.drop a)).2.2,.s t,.zq at2]/\((fP (t.drop a)).2.2=0->at2=a+(fP (t.drop a)).2.1):=by
 have d:=Ej t a h ah;unfold fP;by_cases b:(aF (t.drop a)).2.2=0;rotate_left
 ·obtain⟨j,k⟩:=L9 b;rw[j,k]at d;rw[au b];generalize(aF (t.drop a)).2.2=e at *;refine⟨a,jG rfl rfl ?_,λh=>absurd h b⟩;simp[d,b]
 obtain⟨w,x,l,y,_⟩:=lZ b;rw[aj (λe=>e b)];rw[b]at d;rw[fU]at l⊢;rw[tK];generalize(aF (t.drop a)).1=n,(aF (t.drop a)).2.1=i at *;have w1:=bH ((t.length:Int)-((a:Int)+(i:Int)));have f:=jV ((t.length:Int)-((a:Int)+(i:Int)));simp only[Gz]at d;by_cases g:t.length-a-i<n
 ·have c:(t.length:Int)-((a:Int)+(i:Int))<(n:Int):=ah;rw[au g];refine⟨a+i,jG rfl rfl ?_,λh=>by cases h⟩;simp[d,w1,f,c]
 ·have c:¬(t.length:Int)-((a:Int)+(i:Int))<(n:Int):=ah;rw[aj g];have m:=bH ((n:Int));have o:=bH ((a:Int)+(i:Int)+(n:Int));have p:((t.take (a+i+n)).drop (a+i))=(t.drop (a+i)).take n:=by rw[MN];congr 1;omega
  have q:(a:Int)+(i:Int)<=(a:Int)+(i:Int)+(n:Int)/\(a:Int)+(i:Int)+(n:Int)<=t.length:=ah;have r:(0:Int)<=(a:Int)+(i:Int):=ah;have s:((a:Int)+(i:Int)+(n:Int)).toNat=a+i+n:=ah;have u:((a:Int)+(i:Int)).toNat=a+i:=ah;generalize(t.drop (a+i)).take n=X at *;refine⟨a+i+n,jG rfl rfl ?_,λ_=>by simp only;omega⟩;simp[d,w1,f,m,o,c,q,r,s,u,p]
def eU(s:Q0):dS×Nat×Int:=
 if(fP s).2.2≠0 then(([],[]),0,(fP s).2.2)else
 if(fP (s.drop (fP s).2.1)).2.2≠0 then(([],[]),0,(fP (s.drop (fP s).2.1)).2.2)else
 if uT ((fP s).1,(fP (s.drop (fP s).2.1)).1)≠0 then(([],[]),0,uT ((fP s).1,(fP (s.drop (fP s).2.1)).1))else
 (((fP s).1,(fP (s.drop (fP s).2.1)).1),(fP s).2.1+(fP (s.drop (fP s).2.1)).2.1,0)
def VT{s:Q0}(h:(eU s).2.2=0):2<=(eU s).2.1/\(eU s).2.1<=s.length/\uT (eU s).1=0/\(eU s).1.1.length<=s.length/\(eU s).1.2.length<=s.length/\
 (fP s).2.2=0/\(fP (s.drop (fP s).2.1)).2.2=0/\(eU s).1=((fP s).1,(fP (s.drop (fP s).2.1)).1)/\(eU s).2.1=(fP s).2.1+(fP (s.drop (fP s).2.1)).2.1:=by
 unfold eU at h⊢;by_cases a:(fP s).2.2=0;rotate_left
 ·rw[au a]at h;exact absurd h a
 rw[aj (λe=>e a)]at h⊢;by_cases b:(fP (s.drop (fP s).2.1)).2.2=0;rotate_left
 ·rw[au b]at h;exact absurd h b
 rw[aj (λe=>e b)]at h⊢;by_cases c:uT ((fP s).1,(fP (s.drop (fP s).2.1)).1)=0;rotate_left
 ·rw[au c]at h;exact absurd h c
 rw[aj (λe=>e c)];obtain⟨i,j,d⟩:=YR a;obtain⟨k,f,g⟩:=YR b;rw[fU]at f g;exact⟨by simp only;omega,by simp only;omega,c,d,by simp only;omega,a,b,rfl,rfl⟩
def ate(t:Q0)(a:Nat)(h:a<=t.length)(l:t.length<=100000000):
 ∃at2:Nat,TT.lim 212 [.s t,.zq a]=some [.zq 0,.s (eU (t.drop a)).1.1,.s (eU (t.drop a)).1.2,.zq (eU (t.drop a)).2.2,.s t,.zq at2]/\((eU (t.drop a)).2.2=0->at2=a+(eU (t.drop a)).2.1):=by
 obtain⟨p,f,j⟩:=amC t a h l;unfold eU;by_cases b:(fP (t.drop a)).2.2=0;rotate_left
 ·rw[au b];generalize fP (t.drop a)=A at *;refine⟨p,jG rfl rfl ?_,λh=>absurd h b⟩;simp[f,b]
 have j:=j b;obtain⟨u,n,o⟩:=YR b;rw[fU]at n o;have k:(t.drop a).drop (fP (t.drop a)).2.1=t.drop p:=by rw[tK,j]
 obtain⟨q,i,m⟩:=amC t p ah l;rw[aj (λe=>e b),k];rw[b]at f;by_cases c:(fP (t.drop p)).2.2=0;rotate_left
 ·rw[au c];generalize fP (t.drop a)=A,fP (t.drop p)=B at *;refine⟨q,jG rfl rfl ?_,λh=>absurd h c⟩;simp[f,i,c]
 have m:=m c;obtain⟨v,r,s⟩:=YR c;rw[fU]at r s;rw[aj (λe=>e c)];rw[c]at i;have kc:=ahc ((fP (t.drop a)).1,(fP (t.drop p)).1) (by simp only;omega) (by simp only;omega);have d:TT.lim 53 [.g [.s (fP (t.drop a)).1,.s (fP (t.drop p)).1]]=_:=kc;generalize fP (t.drop a)=A,fP (t.drop p)=B at *;by_cases g:uT (A.1,B.1)=0;rotate_left
 ·rw[au g];refine⟨q,jG rfl rfl ?_,λh=>absurd h g⟩;generalize uT (A.1,B.1)=E at *;simp[f,i,d,g]
 ·rw[aj (λe=>e g)];rw[g]at d;refine⟨q,jG rfl rfl ?_,λ_=>by simp only;omega⟩;simp[f,i,d]
def BL(p:Option dS)(x:dS):Int:=match p with
 |none=>0
 |some k=>Aw k.1 x.1
def ig:Nat->Option dS->List UInt8->List dS×Nat×Int
 |0,_,_=>([],0,0)
 |m+1,p,s=>if(eU s).2.2≠0 then([],0,(eU s).2.2)else
  if BL p (eU s).1≠0 then([],0,BL p (eU s).1)else
  if(ig m (some (eU s).1) (s.drop (eU s).2.1)).2.2≠0 then([],0,(ig m (some (eU s).1) (s.drop (eU s).2.1)).2.2)else
  ((eU s).1::(ig m (some (eU s).1) (s.drop (eU s).2.1)).1,(eU s).2.1+(ig m (some (eU s).1) (s.drop (eU s).2.1)).2.1,0)
def VJ(m:Nat)(p:Option dS)(s:Q0):ig (m+1) p s=if(eU s).2.2≠0 then([],0,(eU s).2.2)else
 if BL p (eU s).1≠0 then([],0,BL p (eU s).1)else
 if(ig m (some (eU s).1) (s.drop (eU s).2.1)).2.2≠0 then([],0,(ig m (some (eU s).1) (s.drop (eU s).2.1)).2.2)else
 ((eU s).1::(ig m (some (eU s).1) (s.drop (eU s).2.1)).1,(eU s).2.1+(ig m (some (eU s).1) (s.drop (eU s).2.1)).2.1,0):=rfl
def DY(a:List dS)(t:Q0)(at2:Nat)(r:List dS×Nat×Int):Q1:=if r.2.2≠0 then[.zq 0,.zq r.2.2,.s t,.zq at2]else[.zq 1,.l ((a++r.1).map ent),.s t,.zq at2]
def as8(L:Q1)(n i a at2:Int)(t:Q0)(x:dS)(e:Int)(h:i<n)(b:¬e=0)
 (k:TT.lim 212 [.s t,.zq a]=some [.zq 0,.s x.1,.s x.2,.zq e,.s t,.zq at2]):
 TT.lim 211 [.l L,.zq n,.zq i,.s t,.zq a]=some [.zq 0,.zq e,.s t,.zq at2]:=by
 refine aB ?_;simp[h,k,b]
def as6(L:Q1)(n a at2:Int)(t:Q0)(x:dS)(R:Q1)(h:0<n)(b:2*(L.length+1)*32<=281474976710656/\L.length+1<=281474976710656)
 (k:TT.lim 212 [.s t,.zq a]=some [.zq 0,.s x.1,.s x.2,.zq 0,.s t,.zq at2])
 (c:TT.lim 211 [.l (L++[ent x]),.zq n,.zq 1,.s t,.zq at2]=some R):
 TT.lim 211 [.l L,.zq n,.zq 0,.s t,.zq a]=some R:=by
 have d:GV.g [.s x.1,.s x.2]=ent x:=rfl;have w1:=bH 1;refine aB ?_;simp[h,k,d,GV.gQ,b,w1,c]
def as7(L:Q1)(n:Int)(i:Nat)(a at2:Int)(t:Q0)(p x:dS)(h:(i:Int)+1<n)(hi:i+1<=100000000)(g:L.length=i+1)(e:L[i]? =some (ent p))(j:¬Aw p.1 x.1=0)
 (k:TT.lim 212 [.s t,.zq a]=some [.zq 0,.s x.1,.s x.2,.zq 0,.s t,.zq at2]):
 TT.lim 211 [.l L,.zq n,.zq ((i:Int)+1),.s t,.zq a]=some [.zq 0,.zq (Aw p.1 x.1),.s t,.zq at2]:=by
 have l:(0:Int)<(i:Int)+1:=ah;have b:(i:Int)<(i:Int)+1:=ah;have w:=bH ((i:Int));have c:L[i]'(by omega)=ent p:=by have:=e;rw[bZ ah]at this;exact Jo this
 unfold Aw at j⊢;by_cases d:x.1=p.1
 ·have f:(x.1=p.1)=True:=eq_true d;clear d;refine aB ?_;simp[h,k,l,b,w,g,e,c,f]
 ·by_cases m:Op.bytesLess x.1 p.1=true
  ·refine aB ?_;simp[h,k,l,b,w,g,e,c,d,m]
  ·simp[d,m]at j
def as9(L:Q1)(n:Int)(i:Nat)(b at2:Int)(t:Q0)(p x:dS)(R:Q1)(h:(i:Int)+1<n)(hi:i+1<=100000000)(o:(i:Int)<L.length)(q:L.length<=100000000)(l:L[i]? =some (ent p))(a:Aw p.1 x.1=0)
 (k:TT.lim 212 [.s t,.zq b]=some [.zq 0,.s x.1,.s x.2,.zq 0,.s t,.zq at2])
 (r:TT.lim 211 [.l (L++[ent x]),.zq n,.zq ((i:Int)+1+1),.s t,.zq at2]=some R):
 TT.lim 211 [.l L,.zq n,.zq ((i:Int)+1),.s t,.zq b]=some R:=by
 have s:(0:Int)<(i:Int)+1:=ah;have d:(i:Int)<(i:Int)+1:=ah;have w:=bH ((i:Int));have u:=bH ((i:Int)+1+1);have c:i<L.length:=ah;have f:L[i]=ent p:=by have:=l;rw[bZ c]at this;exact Jo this
 have v:GV.g [.s x.1,.s x.2]=ent x:=rfl;have g:2*(L.length+1)*32<=281474976710656/\L.length+1<=281474976710656:=ah;unfold Aw at a;have m:¬x.1=p.1:=by intro e;rw[au e]at a;exact absurd a aV
 rw[aj m]at a;have j:¬Op.bytesLess x.1 p.1=true:=by intro e;rw[au e]at a;exact absurd a aV
 have j:Op.bytesLess x.1 p.1=false:=by simpa using j
 refine aB ?_;simp[h,k,s,d,w,u,o,c,l,f,m,j,v,GV.gQ,g,r]
def awX(b:List dS)(p:Option dS):Prop:=(b=[]/\p=none)\/∃a x,b=a++[x]/\p=some x
def agM(t:Q0)(D:t.length<=100000000)(n:Nat)(F:n<=1000):∀(m:Nat)(c:List dS)(p:Option dS)(b:Nat),c.length+m=n->awX c p->b<=t.length->
 ∃at2:Nat,TT.lim 211 [.l (c.map ent),.zq n,.zq c.length,.s t,.zq b]=some (DY c t at2 (ig m p (t.drop b)))/\((ig m p (t.drop b)).2.2=0->at2=b+(ig m p (t.drop b)).2.1)
 |0,c,p,b,hi,E,h=>by have s:¬((c.length:Int)<(n:Int)):=ah;refine⟨b,?_,λ_=>by simp[ig]⟩;have q:(c.map ent).length=c.length:=aA;unfold ig DY;simp only[ne_eq,not_true_eq_false,if_false,pX];generalize c.map ent=L at *;refine aB ?_;simp[s]
 |m+1,c,p,b,hi,E,h=>by
  obtain⟨at2,k,u⟩:=ate t b h D;rw[VJ];by_cases g:(eU (t.drop b)).2.2=0;rotate_left
  ·rw[au g];refine⟨at2,?_,λh=>absurd h g⟩;have:DY c t at2 ([],0,(eU (t.drop b)).2.2)=[.zq 0,.zq (eU (t.drop b)).2.2,.s t,.zq at2]:=by unfold DY;rw[au g]
   rw[this];exact as8 _ _ _ _ _ _ _ _ ah g k
  rw[aj (λe=>e g)];rw[g]at k;have u:=u g;obtain⟨I,G,_⟩:=VT g;rw[fU]at G;have v:(t.drop b).drop (eU (t.drop b)).2.1=t.drop at2:=by rw[tK,u]
  rw[v];have w:at2<=t.length:=ah;generalize J:(eU (t.drop b)).1=x at *;obtain⟨d,r,H⟩:=agM t D n F m (c++[x]) (some x) at2 (by rw[eH,GI];omega) (.inr ⟨c,x,rfl,rfl⟩) w;have i:DY c t d (if(ig m (some x) (t.drop at2)).2.2≠0 then([],0,(ig m (some x) (t.drop at2)).2.2)else(x::(ig m (some x) (t.drop at2)).1,(eU (t.drop b)).2.1+(ig m (some x) (t.drop at2)).2.1,0))=DY (c++[x]) t d (ig m (some x) (t.drop at2)):=by
   unfold DY;by_cases l:(ig m (some x) (t.drop at2)).2.2=0
   ·simp[l]
   ·simp[l]
  have j:((if(ig m (some x) (t.drop at2)).2.2≠0 then(([]:List dS),0,(ig m (some x) (t.drop at2)).2.2)else(x::(ig m (some x) (t.drop at2)).1,(eU (t.drop b)).2.1+(ig m (some x) (t.drop at2)).2.1,0)).2.2=0->d=b+(if(ig m (some x) (t.drop at2)).2.2≠0 then(([]:List dS),0,(ig m (some x) (t.drop at2)).2.2)else(x::(ig m (some x) (t.drop at2)).1,(eU (t.drop b)).2.1+(ig m (some x) (t.drop at2)).2.1,0)).2.1):=by
   by_cases l:(ig m (some x) (t.drop at2)).2.2=0
   ·rw[aj (λe=>e l)];intro _;have:=H l;simp only;omega
   ·rw[au l];intro h;exact absurd h l
  rw[oK]at r;rcases E with⟨rfl,rfl⟩|⟨a,y,rfl,rfl⟩
  ·have z:BL none x=0:=rfl;rw[z,aj aA];refine⟨d,?_,j⟩;rw[i];exact as6 [] n b at2 t x _ (by simp at hi;omega) aA k r
  ·by_cases o:Aw y.1 x.1=0;rotate_left
   ·have f:BL (some y) x≠0:=o;rw[au f];refine⟨at2,?_,λh=>absurd h o⟩;have:DY (a++[y]) t at2 ([],0,BL (some y) x)=[.zq 0,.zq (Aw y.1 x.1),.s t,.zq at2]:=by unfold DY;rw[au f];rfl
    rw[this];have q:((a++[y]).length:Int)=(a.length:Int)+1:=aA;rw[q];rw[eH,GI]at hi;exact as7 _ n a.length b at2 t y x ah ah aA aA o k
   ·have f:¬BL (some y) x≠0:=λe=>e o;rw[aj f];refine⟨d,?_,j⟩;rw[i];have q:((a++[y]).length:Int)=(a.length:Int)+1:=aA;have A:((a++[y]++[x]).length:Int)=(a.length:Int)+1+1:=by simp;omega
    rw[q];rw[A]at r;rw[eH,GI]at hi;exact as9 _ n a.length b at2 t y x _ ah ah (by simp;omega) (by simp;omega) aA o k r
def Dz(e:Int):List dS×Nat×Int:=([],0,e)
def pU(s:Q0):List dS×Nat×Int:=
 if(aF s).2.2≠0 then Dz (aF s).2.2 else
 if(aF s).1=0 then Dz 12 else
 if 16<(aF s).1 then Dz 13 else
 if(ig (aF s).1 none (s.drop (aF s).2.1)).2.2≠0 then Dz (ig (aF s).1 none (s.drop (aF s).2.1)).2.2 else
 ((ig (aF s).1 none (s.drop (aF s).2.1)).1,(aF s).2.1+(ig (aF s).1 none (s.drop (aF s).2.1)).2.1,0)
def asZ(t:Q0)(a:Nat)(h:a<=t.length)(p:t.length<=100000000):
 ∃at2:Nat,TT.lim 210 [.s t,.zq a]=some [.zq 0,.l ((pU (t.drop a)).1.map ent),.zq (pU (t.drop a)).2.2,.s t,.zq at2]/\((pU (t.drop a)).2.2=0->at2=a+(pU (t.drop a)).2.1):=by
 have d:=Ej t a h ah;unfold pU;by_cases g:(aF (t.drop a)).2.2=0;rotate_left
 ·obtain⟨q,l⟩:=L9 g;rw[q,l]at d;rw[au g];generalize(aF (t.drop a)).2.2=e at *;refine⟨a,jG rfl rfl ?_,λh=>absurd h g⟩;simp[d,g,Dz]
 obtain⟨x,y,s,z,_⟩:=lZ g;rw[aj (λe=>e g)];rw[g]at d;rw[fU]at s;rw[tK];by_cases b:16<(aF (t.drop a)).1
 ·have f:¬(aF (t.drop a)).1=0:=ah;have k:(16:Int)<((aF (t.drop a)).1:Nat):=ah;rw[aj f,au b];generalize(aF (t.drop a)).1=n,(aF (t.drop a)).2.1=i at *;refine⟨a+i,jG rfl rfl ?_,λh=>by cases h⟩;simp only[Gz]at d;simp[d,f,b,k,Dz]
 obtain⟨at2,u,l⟩:=agM t p (aF (t.drop a)).1 ah (aF (t.drop a)).1 [] none (a+(aF (t.drop a)).2.1) aA (.inl ⟨rfl,rfl⟩) ah;generalize(aF (t.drop a)).1=n,(aF (t.drop a)).2.1=i at *;by_cases f:n=0
 ·rw[au f];have m:((n:Int)=0)=True:=eq_true ah;refine⟨a+i,jG rfl rfl ?_,λh=>by cases h⟩;simp only[Gz]at d;simp[d,f,m,Dz]
 rw[aj f,aj b];have k:¬(16:Int)<(n:Int):=ah;have w:=bH ((n:Int));have o:(0:Int)<=(n:Int)/\32*(n:Int)<=281474976710656/\(n:Int)<=1152921504606846976:=ah;have c:TT.lim 211 [.l [],.zq n,.zq 0,.s t,.zq ((a:Int)+(i:Int))]=_:=u;generalize v:ig n none (t.drop (a+i))=r at *;refine⟨at2,jG rfl rfl ?_,λh=>?_⟩
 ·simp only[Gz]at d;unfold DY at c;by_cases j:r.2.2=0
  ·simp only[j,ne_eq,not_true_eq_false,if_false,aX]at c⊢;simp[d,f,b,k,w,o,c,GV.gQ]
  ·simp only[j,ne_eq,not_false_eq_true,if_true]at c⊢;simp[d,f,b,k,w,o,c,GV.gQ,Dz]
 ·by_cases j:r.2.2=0
  ·rw[aj (λe=>e j)];have:=l j;simp only;omega
  ·rw[au j]at h;exact absurd h j
def tZ(s:Q0):List dS×Int:=
 if(pU s).2.2≠0 then([],(pU s).2.2)else if(pU s).2.1<s.length then([],10)else((pU s).1,0)
def aaz:∀(m:Nat)(p:Option dS)(s:Q0),(ig m p s).2.2=0->(ig m p s).2.1<=s.length/\(ig m p s).1.length=m/\∀x∈(ig m p s).1,uT x=0/\x.1.length<=s.length/\x.2.length<=s.length
 |0,p,s,_=>by simp[ig]
 |m+1,p,s,h=>by
  rw[VJ]at h⊢;by_cases h1:(eU s).2.2=0;rotate_left
  ·rw[au h1]at h;exact absurd h h1
  rw[aj (λe=>e h1)]at h⊢;by_cases b:BL p (eU s).1=0;rotate_left
  ·rw[au b]at h;exact absurd h b
  rw[aj (λe=>e b)]at h⊢;by_cases a:(ig m (some (eU s).1) (s.drop (eU s).2.1)).2.2=0;rotate_left
  ·rw[au a]at h;exact absurd h a
  rw[aj (λe=>e a)];obtain⟨q,r,d,f,g,_⟩:=VT h1;obtain⟨i,j,k⟩:=aaz m (some (eU s).1) _ a;rw[fU]at i;refine⟨by simp only;omega,by simp[j],λx c=>?_⟩;rcases bI.1 c with rfl|c
  ·exact⟨d,f,g⟩
  ·obtain⟨l,n,o⟩:=k x c;rw[fU]at n o;exact⟨l,ah,ah⟩
def agR{s:Q0}(h:(pU s).2.2=0):(aF s).2.2=0/\0<(aF s).1/\(aF s).1<=16/\(ig (aF s).1 none (s.drop (aF s).2.1)).2.2=0/\(pU s).1=(ig (aF s).1 none (s.drop (aF s).2.1)).1/\
 (pU s).2.1=(aF s).2.1+(ig (aF s).1 none (s.drop (aF s).2.1)).2.1/\(pU s).2.1<=s.length:=by
 unfold pU at h⊢;by_cases a:(aF s).2.2=0;rotate_left
 ·rw[au a]at h;exact absurd h a
 rw[aj (λe=>e a)]at h⊢;by_cases c:(aF s).1=0
 ·rw[au c]at h;exact absurd h (by simp[Dz])
 rw[aj c]at h⊢;by_cases d:16<(aF s).1
 ·rw[au d]at h;exact absurd h (by simp[Dz])
 rw[aj d]at h⊢;by_cases b:(ig (aF s).1 none (s.drop (aF s).2.1)).2.2=0;rotate_left
 ·rw[au b]at h;exact absurd h b
 rw[aj (λe=>e b)];obtain⟨f,g,i,_,_⟩:=lZ a;obtain⟨d1,_,_⟩:=aaz _ _ _ b;rw[fU]at d1;exact⟨a,ah,ah,b,rfl,rfl,by simp only;omega⟩
def agU(s:Q0)(d:s.length<=100000000):TT.lim 209 [.s s]=some [.l ((tZ s).1.map ent),.zq (tZ s).2]:=by
 obtain⟨at2,k,b⟩:=asZ s 0 ah d;rw[dY,show((0:Nat):Int)=0 from rfl]at k;rw[dY]at b;unfold tZ;by_cases a:(pU s).2.2=0;rotate_left
 ·rw[au a];generalize pU s=r at *;refine Wj rfl rfl ?_ (by rfl);simp[k,a]
 have b:=b a;obtain⟨_,_,_,_,_,_,f⟩:=agR a;rw[aj (λe=>e a)];rw[a]at k;rw[mQ]at b;have w:=bH ((s.length:Int)-(at2:Int));rw[<-b]at f⊢;generalize pU s=r at *;by_cases c:at2<s.length
 ·rw[au c];refine aW ?_;simp[k,w,c]
 ·rw[aj c];refine aW ?_;simp[k,w,c]
def Lu(e:Int):Row×Nat×Int:=(([],0),0,e)
def iL(a s:Q0):Row×Nat×Int:=
 if(tZ a).2≠0 then Lu (tZ a).2 else
 if(aF s).2.2≠0 then Lu (aF s).2.2 else
 if(aF s).1=0 then Lu 17 else(((tZ a).1,((aF s).1:Nat)),(aF s).2.1,0)
def adh{a s:Q0}(h:(iL a s).2.2=0):(tZ a).2=0/\(aF s).2.2=0/\(aF s).1≠0/\(iL a s).1=((tZ a).1,(((aF s).1:Nat):Int))/\(iL a s).2.1=(aF s).2.1:=by
 unfold iL at h⊢;by_cases b:(tZ a).2=0;rotate_left
 ·rw[au b]at h;exact absurd h b
 rw[aj (λe=>e b)]at h⊢;by_cases c:(aF s).2.2=0;rotate_left
 ·rw[au c]at h;exact absurd h c
 rw[aj (λe=>e c)]at h⊢;by_cases d:(aF s).1=0
 ·rw[au d]at h;exact absurd h (by simp[Lu])
 rw[aj d];exact⟨b,c,d,rfl,rfl⟩
def rowP(b t:Q0)(a:Nat)(h:a<=t.length)(m:t.length<=100000000)(j:b.length<=100000000):
 ∃at2:Nat,TT.lim 218 [.s b,.s t,.zq a]=some [.zq 0,.l ((iL b (t.drop a)).1.1.map ent),.zu (iL b (t.drop a)).1.2,.zq (iL b (t.drop a)).2.2,.s t,.zq at2]/\
  ((iL b (t.drop a)).2.2=0->at2=a+(iL b (t.drop a)).2.1):=by
 have g:=agU b j;have c:=Ej t a h ah;unfold iL;generalize tZ b=D at *;by_cases d:D.2=0;rotate_left
 ·rw[au d];refine⟨a,jG rfl rfl ?_,λh=>absurd h d⟩;simp[g,d,Lu]
 rw[aj (λe=>e d)];by_cases f:(aF (t.drop a)).2.2=0;rotate_left
 ·obtain⟨k,l⟩:=L9 f;rw[k,l]at c;rw[au f];generalize aF (t.drop a)=V at *;refine⟨a,jG rfl rfl ?_,λh=>absurd h f⟩;simp[g,c,d,f,Lu]
 rw[aj (λe=>e f)];rw[f]at c;simp only[Gz]at c;generalize aF (t.drop a)=V at *;by_cases i:V.1=0
 ·rw[au i];rw[i]at c;refine⟨a+V.2.1,jG rfl rfl ?_,λh=>by cases h⟩;simp[g,c,d,Lu]
 ·rw[aj i];refine⟨a+V.2.1,jG rfl rfl ?_,λ_=>rfl⟩;simp[g,c,d,i]
def iO:Nat->List UInt8->Bool->List UInt8->List Row×Nat×Int
 |0,_,_,_=>([],0,0)
 |m+1,a,first,s=>if(bT s a first).2.2≠0 then([],0,(bT s a first).2.2)else
  if(iL (bT s a first).1 (s.drop (bT s a first).2.1)).2.2≠0 then([],0,(iL (bT s a first).1 (s.drop (bT s a first).2.1)).2.2)else
  if(iO m (bT s a first).1 false (s.drop ((bT s a first).2.1+(iL (bT s a first).1 (s.drop (bT s a first).2.1)).2.1))).2.2≠0 then([],0,(iO m (bT s a first).1 false (s.drop ((bT s a first).2.1+(iL (bT s a first).1 (s.drop (bT s a first).2.1)).2.1))).2.2)else
  ((iL (bT s a first).1 (s.drop (bT s a first).2.1)).1::(iO m (bT s a first).1 false (s.drop ((bT s a first).2.1+(iL (bT s a first).1 (s.drop (bT s a first).2.1)).2.1))).1,
   (bT s a first).2.1+(iL (bT s a first).1 (s.drop (bT s a first).2.1)).2.1+(iO m (bT s a first).1 false (s.drop ((bT s a first).2.1+(iL (bT s a first).1 (s.drop (bT s a first).2.1)).2.1))).2.1,0)
def XL(m:Nat)(a:Q0)(first:Bool)(s:Q0):iO (m+1) a first s=if(bT s a first).2.2≠0 then([],0,(bT s a first).2.2)else
 if(iL (bT s a first).1 (s.drop (bT s a first).2.1)).2.2≠0 then([],0,(iL (bT s a first).1 (s.drop (bT s a first).2.1)).2.2)else
 if(iO m (bT s a first).1 false (s.drop ((bT s a first).2.1+(iL (bT s a first).1 (s.drop (bT s a first).2.1)).2.1))).2.2≠0 then([],0,(iO m (bT s a first).1 false (s.drop ((bT s a first).2.1+(iL (bT s a first).1 (s.drop (bT s a first).2.1)).2.1))).2.2)else
 ((iL (bT s a first).1 (s.drop (bT s a first).2.1)).1::(iO m (bT s a first).1 false (s.drop ((bT s a first).2.1+(iL (bT s a first).1 (s.drop (bT s a first).2.1)).2.1))).1,
  (bT s a first).2.1+(iL (bT s a first).1 (s.drop (bT s a first).2.1)).2.1+(iO m (bT s a first).1 false (s.drop ((bT s a first).2.1+(iL (bT s a first).1 (s.drop (bT s a first).2.1)).2.1))).2.1,0):=rfl
def D5(a:List Row)(t:Q0)(at2:Nat)(r:List Row×Nat×Int):Q1:=if r.2.2≠0 then[.zq 0,.zq r.2.2,.s t,.zq at2]else[.zq 1,.l ((a++r.1).map row),.s t,.zq at2]
def azX(L:Q1)(a t X:Q0)(n i b at2:Int)(first:Bool)(e:Int)(h:i<n)(c:decide (i=0)=first)(d:¬e=0)
 (k:TT.lim 217 [.s t,.zq b,.s a,.b first]=some [.zq 0,.s X,.zq e,.s t,.zq at2]):
 TT.lim 216 [.l L,.s a,.zq n,.zq i,.s t,.zq b]=some [.zq 0,.zq e,.s t,.zq at2]:=by
 refine aB ?_;simp[h,c,k,d]
def azZ(L:Q1)(a t X:Q0)(D:Q1)(N:Int)(n i b at2 c:Int)(first:Bool)(e:Int)(h:i<n)(d:decide (i=0)=first)(f:¬e=0)
 (k:TT.lim 217 [.s t,.zq b,.s a,.b first]=some [.zq 0,.s X,.zq 0,.s t,.zq at2])
 (g:TT.lim 218 [.s X,.s t,.zq at2]=some [.zq 0,.l D,.zu N,.zq e,.s t,.zq c]):
 TT.lim 216 [.l L,.s a,.zq n,.zq i,.s t,.zq b]=some [.zq 0,.zq e,.s t,.zq c]:=by
 refine aB ?_;simp[h,d,k,g,f]
def azY(L:Q1)(a t X:Q0)(D:Q1)(N:Int)(n i b at2 c:Int)(first:Bool)(R:Q1)(h:i<n)(e:decide (i=0)=first)(f:IntKind.i64.wrap (i+1)=i+1)(l:L.length<=100000000)
 (k:TT.lim 217 [.s t,.zq b,.s a,.b first]=some [.zq 0,.s X,.zq 0,.s t,.zq at2])
 (g:TT.lim 218 [.s X,.s t,.zq at2]=some [.zq 0,.l D,.zu N,.zq 0,.s t,.zq c])
 (j:TT.lim 216 [.l (L++[.g [.l D,.zu N]]),.s X,.zq n,.zq (i+1),.s t,.zq c]=some R):
 TT.lim 216 [.l L,.s a,.zq n,.zq i,.s t,.zq b]=some R:=by
 have d:2*(L.length+1)*32<=281474976710656/\L.length+1<=281474976710656:=ah;refine aB ?_;simp[h,e,k,g,f,GV.gQ,d,j]
def akP(t:Q0)(s:t.length<=100000000)(n:Nat)(F:n<=1000):∀(m:Nat)(b:List Row)(a:Q0)(c:Nat),b.length+m=n->c<=t.length->a.length<=c->
 ∃at2:Nat,TT.lim 216 [.l (b.map row),.s a,.zq n,.zq b.length,.s t,.zq c]=some (D5 b t at2 (iO m a (decide ((b.length:Int)=0)) (t.drop c)))/\
  ((iO m a (decide ((b.length:Int)=0)) (t.drop c)).2.2=0->at2=c+(iO m a (decide ((b.length:Int)=0)) (t.drop c)).2.1)
 |0,b,a,c,hi,h,G=>by have u:¬((b.length:Int)<(n:Int)):=ah;refine⟨c,?_,λ_=>by simp[iO]⟩;unfold iO D5;simp only[ne_eq,not_true_eq_false,if_false,pX];generalize b.map row=L at *;refine aB ?_;simp[u]
 |m+1,b,a,c,hi,h,G=>by
  obtain⟨at2,k,r⟩:=azJ t a (decide ((b.length:Int)=0)) c h s ah;rw[XL];generalize v:decide ((b.length:Int)=0)=first at *
  by_cases g:(bT (t.drop c) a first).2.2=0;rotate_left
  ·rw[au g];refine⟨at2,?_,λh=>absurd h g⟩;have:D5 b t at2 ([],0,(bT (t.drop c) a first).2.2)=[.zq 0,.zq (bT (t.drop c) a first).2.2,.s t,.zq at2]:=by unfold D5;rw[au g]
   rw[this];exact azX _ _ _ _ _ _ _ _ _ _ ah v g k
  rw[aj (λe=>e g)];rw[g]at k;have r:=r g;obtain⟨S,H,I⟩:=ac4 g;rw[fU]at H;have w:∀j,(t.drop c).drop ((bT (t.drop c) a first).2.1+j)=t.drop (at2+j):=by intro j;rw[tK,r,kC]
  have x:(t.drop c).drop (bT (t.drop c) a first).2.1=t.drop at2:=by rw[tK,r]
  have J:(bT (t.drop c) a first).1.length<=at2:=by split at I<;>omega
  rw[w,x];generalize(bT (t.drop c) a first).1=X,(bT (t.drop c) a first).2.1=M at *;obtain⟨d,y,z⟩:=rowP X t at2 ah s ah;by_cases i:(iL X (t.drop at2)).2.2=0;rotate_left
  ·rw[au i];refine⟨d,?_,λh=>absurd h i⟩;have:D5 b t d ([],0,(iL X (t.drop at2)).2.2)=[.zq 0,.zq (iL X (t.drop at2)).2.2,.s t,.zq d]:=by unfold D5;rw[au i]
   rw[this];exact azZ _ _ _ _ _ _ _ _ _ _ _ _ _ ah v i k y
  rw[aj (λe=>e i)];rw[i]at y;have z:=z i;obtain⟨_,N,_,_,T⟩:=adh i;obtain⟨U,V,O,_,_⟩:=lZ N;rw[fU]at O;have A:at2+(iL X (t.drop at2)).2.1=d:=z.symm;rw[A];have p:GV.g [.l ((iL X (t.drop at2)).1.1.map ent),.zu (iL X (t.drop at2)).1.2]=row (iL X (t.drop at2)).1:=rfl;obtain⟨l,D,E⟩:=akP t s n F m (b++[(iL X (t.drop at2)).1]) X d (by rw[eH,GI];omega) ah ah;have f:decide (((b++[(iL X (t.drop at2)).1]).length:Int)=0)=false:=by simp;omega
  have P:((b++[(iL X (t.drop at2)).1]).length:Int)=(b.length:Int)+1:=aA;rw[f]at D E;rw[P,oK]at D;generalize(iL X (t.drop at2)).1=Q,(iL X (t.drop at2)).2.1=R at *;have q:D5 b t l (if(iO m X false (t.drop d)).2.2≠0 then([],0,(iO m X false (t.drop d)).2.2)else(Q::(iO m X false (t.drop d)).1,M+R+(iO m X false (t.drop d)).2.1,0))=D5 (b++[Q]) t l (iO m X false (t.drop d)):=by
   unfold D5;by_cases o:(iO m X false (t.drop d)).2.2=0
   ·simp[o]
   ·simp[o]
  refine⟨l,?_,?_⟩
  ·rw[q];exact azY _ _ _ _ _ _ _ _ _ _ _ _ _ ah v (wrap64 ah ah) (by simp;omega) k y (by rw[p];exact D)
  ·by_cases o:(iO m X false (t.drop d)).2.2=0
   ·rw[aj (λe=>e o)];intro _;have:=E o;simp only;omega
   ·rw[au o];intro h;exact absurd h o
def Kz(e:Int):List Row×Nat×Int:=([],0,e)
def oP(s:Q0):List Row×Nat×Int:=
 if(aF s).2.2≠0 then Kz (aF s).2.2 else
 if 256<(aF s).1 then Kz 13 else
 if(iO (aF s).1 [] true (s.drop (aF s).2.1)).2.2≠0 then Kz (iO (aF s).1 [] true (s.drop (aF s).2.1)).2.2 else
 ((iO (aF s).1 [] true (s.drop (aF s).2.1)).1,(aF s).2.1+(iO (aF s).1 [] true (s.drop (aF s).2.1)).2.1,0)
def awP(t:Q0)(a:Nat)(h:a<=t.length)(o:t.length<=100000000):
 ∃at2:Nat,TT.lim 215 [.s t,.zq a]=some [.zq 0,.l ((oP (t.drop a)).1.map row),.zq (oP (t.drop a)).2.2,.s t,.zq at2]/\((oP (t.drop a)).2.2=0->at2=a+(oP (t.drop a)).2.1):=by
 have d:=Ej t a h ah;unfold oP;by_cases f:(aF (t.drop a)).2.2=0;rotate_left
 ·obtain⟨p,j⟩:=L9 f;rw[p,j]at d;rw[au f];generalize(aF (t.drop a)).2.2=e at *;refine⟨a,jG rfl rfl ?_,λh=>absurd h f⟩;simp[d,f,Kz]
 obtain⟨s,u,q,v,_⟩:=lZ f;rw[aj (λe=>e f)];rw[f]at d;rw[fU]at q;rw[tK];by_cases b:256<(aF (t.drop a)).1
 ·have k:(256:Int)<((aF (t.drop a)).1:Nat):=ah;rw[au b];generalize(aF (t.drop a)).1=n,(aF (t.drop a)).2.1=i at *;refine⟨a+i,jG rfl rfl ?_,λh=>by cases h⟩;simp only[Gz]at d;simp[d,b,k,Kz]
 obtain⟨at2,l,j⟩:=akP t o (aF (t.drop a)).1 ah (aF (t.drop a)).1 [] [] (a+(aF (t.drop a)).2.1) aA ah aA;generalize(aF (t.drop a)).1=n,(aF (t.drop a)).2.1=i at *;rw[aj b];have k:¬(256:Int)<(n:Int):=ah;have w:=bH ((n:Int));have m:(0:Int)<=(n:Int)/\32*(n:Int)<=281474976710656/\(n:Int)<=1152921504606846976:=ah;rw[show decide ((([]:List Row).length:Int)=0)=true from rfl]at l j;have c:TT.lim 216 [.l [],.s [],.zq n,.zq 0,.s t,.zq ((a:Int)+(i:Int))]=_:=l;generalize iO n [] true (t.drop (a+i))=r at *;refine⟨at2,jG rfl rfl ?_,λh=>?_⟩
 ·simp only[Gz]at d;unfold D5 at c;by_cases g:r.2.2=0
  ·simp only[g,ne_eq,not_true_eq_false,if_false,aX]at c⊢;simp[d,b,k,w,m,c,GV.gQ]
  ·simp only[g,ne_eq,not_false_eq_true,if_true]at c⊢;simp[d,b,k,w,m,c,GV.gQ,Kz]
 ·by_cases g:r.2.2=0
  ·rw[aj (λe=>e g)];have:=j g;simp only;omega
  ·rw[au g]at h;exact absurd h g
def uy(s:Q0):List Row×Int:=
 if(oP s).2.2≠0 then([],(oP s).2.2)else if(oP s).2.1<s.length then([],10)else((oP s).1,0)
def ac3:∀(m:Nat)(a:Q0)(first:Bool)(s:Q0),(iO m a first s).2.2=0->(iO m a first s).2.1<=s.length/\(iO m a first s).1.length=m
 |0,a,first,s,_=>by simp[iO]
 |m+1,a,first,s,h=>by
  rw[XL]at h⊢;by_cases h1:(bT s a first).2.2=0;rotate_left
  ·rw[au h1]at h;exact absurd h h1
  rw[aj (λe=>e h1)]at h⊢;by_cases b:(iL (bT s a first).1 (s.drop (bT s a first).2.1)).2.2=0;rotate_left
  ·rw[au b]at h;exact absurd h b
  rw[aj (λe=>e b)]at h⊢;by_cases c:(iO m (bT s a first).1 false (s.drop ((bT s a first).2.1+(iL (bT s a first).1 (s.drop (bT s a first).2.1)).2.1))).2.2=0;rotate_left
  ·rw[au c]at h;exact absurd h c
  rw[aj (λe=>e c)];obtain⟨j,k,_⟩:=ac4 h1;obtain⟨_,d,_,_,l⟩:=adh b;obtain⟨n,o,f,_,_⟩:=lZ d;rw[fU]at f;obtain⟨g,i⟩:=ac3 m _ _ _ c;rw[fU]at g;exact⟨by simp only;omega,by simp[i]⟩
def aiV{s:Q0}(h:(oP s).2.2=0):(aF s).2.2=0/\(aF s).1<=256/\(iO (aF s).1 [] true (s.drop (aF s).2.1)).2.2=0/\(oP s).1=(iO (aF s).1 [] true (s.drop (aF s).2.1)).1/\
 (oP s).2.1=(aF s).2.1+(iO (aF s).1 [] true (s.drop (aF s).2.1)).2.1/\(oP s).2.1<=s.length:=by
 unfold oP at h⊢;by_cases a:(aF s).2.2=0;rotate_left
 ·rw[au a]at h;exact absurd h a
 rw[aj (λe=>e a)]at h⊢;by_cases c:256<(aF s).1
 ·rw[au c]at h;exact absurd h (by simp[Kz])
 rw[aj c]at h⊢;by_cases b:(iO (aF s).1 [] true (s.drop (aF s).2.1)).2.2=0;rotate_left
 ·rw[au b]at h;exact absurd h b
 rw[aj (λe=>e b)];obtain⟨d,f,g,_,_⟩:=lZ a;obtain⟨d1,_⟩:=ac3 _ _ _ _ b;rw[fU]at d1;exact⟨a,ah,b,rfl,rfl,by simp only;omega⟩
def aE7(s:Q0)(d:s.length<=100000000):TT.lim 214 [.s s]=some [.l ((uy s).1.map row),.zq (uy s).2]:=by
 obtain⟨at2,k,b⟩:=awP s 0 ah d;rw[dY,show((0:Nat):Int)=0 from rfl]at k;rw[dY]at b;unfold uy;by_cases a:(oP s).2.2=0;rotate_left
 ·rw[au a];generalize oP s=r at *;refine Wj rfl rfl ?_ (by rfl);simp[k,a]
 have b:=b a;obtain⟨_,_,_,_,_,f⟩:=aiV a;rw[aj (λe=>e a)];rw[a]at k;rw[mQ]at b;have w:=bH ((s.length:Int)-(at2:Int));rw[<-b]at f⊢;generalize oP s=r at *;by_cases c:at2<s.length
 ·rw[au c];refine aW ?_;simp[k,w,c]
 ·rw[aj c];refine aW ?_;simp[k,w,c]
def lX:Q0->List Row->List UInt8
 |_,[]=>[]
 |a,r::t=>uw a (dN r.1)++(aS r.2.toNat++lX (dN r.1) t)
def qC(t:List Row):Q0:=aS t.length++lX [] t
def AZ(t:List Row):Q0×Int:=if nN t≠0 then([],nN t)else(qC t,0)
def adq:∀(t:List Row)(a:Q0),(∀r∈t,jf r.1=true/\0<=r.2/\r.2<18446744073709551616)->(lX a t).length<=40000*t.length
 |[],a,_=>by simp[lX]
 |r::t,a,h=>by obtain⟨h1,c,d⟩:=h r aA;have e:=RI h1;have f:=aci a (dN r.1) ah;have g:=nY (n:=r.2.toNat) ah;have i:=adq t (dN r.1) λq b=>h q (by simp[b]);simp only[lX,eH,iD];omega
def awU(L:Q1)(n i:Int)(D:List dS)(N:Int)(a k O V b:Q0)(R:Q1)(j:Nat)(hi:i=j)(h:i<n)(g:L[j]? =some (row (D,N)))(l:IntKind.i64.wrap (i+1)=i+1)(m:TT.lim 13 [.l (D.map ent)]=some [.s k])(o:TT.lim 139 [.s a,.s k]=some [.s O])
 (p:TT.lim 14 [.zu N]=some [.s V]) (c:2*(b.length+O.length)<=281474976710656/\b.length+O.length<=281474976710656) (d:2*(b.length+(O.length+V.length))<=281474976710656/\b.length+(O.length+V.length)<=281474976710656)
 (q:TT.lim 138 [.s k,.l L,.zq n,.zq (i+1),.l (dK b++(dK O++dK V))]=some R):
 TT.lim 138 [.s a,.l L,.zq n,.zq i,.l (dK b)]=some R:=by
 subst hi;have e:=Qz O;have f:=Qz V;refine aB ?_;simp[-List.all_eq_true,h,g,l,m,o,p,e,f,c,d,kC,q]
def ai4(l:List Row)(k:l.length<=1000)(f:∀r∈l,jf r.1=true/\0<=r.2/\r.2<18446744073709551616):∀(m i:Nat)(a b:Q0),i+m=l.length->a.length<=100000->b.length<=10+40000*i->
 TT.lim 138 [.s a,.l (l.map row),.zq l.length,.zq i,.l (dK b)]=some [.zq 0,.l (dK (b++lX a (l.drop i)))]
 |0,i,a,b,hi,o,d=>by have p:l.drop i=[]:=iK;have h:¬((i:Int)<l.length):=ah;rw[p];refine aB ?_;simp[h,lX]
 |m+1,i,a,b,hi,o,d=>by
  have c:i<l.length:=ah;obtain⟨g,u,v⟩:=f l[i] (iT c);have w:=RI g;have q:=DN l[i].1 g;have s:=ayL a (dN l[i].1) ah ah;have x:=aci a (dN l[i].1) ah;have j:=zY l[i].2.toNat ah;rw[(ah:((l[i].2.toNat:Nat):Int)=l[i].2)]at j;have y:=nY (n:=l[i].2.toNat) ah;have e:=ai4 l k f m (i+1) (dN l[i].1) (b++(uw a (dN l[i].1)++aS l[i].2.toNat)) ah ah (by simp only[eH];omega);have t:b++lX a (l.drop i)=b++(uw a (dN l[i].1)++aS l[i].2.toNat)++lX (dN l[i].1) (l.drop (i+1)):=by rw[iR c];simp[lX]
  rw[t];rw[ZU b,ZU]at e;rw[(ah:((i+1:Nat):Int)=(i:Int)+1)]at e;exact awU _ _ _ l[i].1 l[i].2 a _ _ _ b _ i rfl ah (by simp[c]) (wrap64 ah ah) q s j ah ah e
def awT(t:List Row)(c:Rows t)(l:zy t):TT.lim 137 [.l (t.map row)]=some [.s (AZ t).1,.zq (AZ t).2]:=by
 have d:=Vs t c l;unfold AZ;by_cases a:nN t=0;rotate_left
 ·rw[au a];refine Wj rfl rfl ?_ (by rfl);simp[d,a]
 rw[aj (λe=>e a)];rw[a]at d;have m:=((vI t).1 a).1;have o:∀r∈t,jf r.1=true/\0<=r.2/\r.2<18446744073709551616:=λr f=>⟨l r f,(c.2 r f).2.1,(c.2 r f).2.2⟩
 have u:=zY t.length ah;have x:=nY (n:=t.length) ah;have p:=ai4 t ah o t.length 0 [] (aS t.length) ah aA ah;rw[dY,show((0:Nat):Int)=0 from rfl]at p;have q:=adq t [] o;have w:=jV ((t.length:Int));have ok:=Qz (aS t.length);have s:2*(aS t.length).length<=281474976710656/\(aS t.length).length<=281474976710656:=ah;have g:=ZX (qC t);have h:(dK (qC t)).length<=281474976710656:=by rw[afQ];unfold qC;rw[eH];omega
 have i:TT.lim 138 [.s [],.l (t.map row),.zq t.length,.zq 0,.l (dK (aS t.length))]=some [.zq 0,.l (dK (qC t))]:=p;generalize dK (qC t)=y at *;generalize qC t=P at *;generalize b:dK (aS t.length)=v at *;have j:v.length=(aS t.length).length:=by rw[<-b,afQ]
 rw[<-j]at s;have k:(t.map row).length=t.length:=aA;generalize t.map row=L at *;refine aW ?_;simp[-List.all_eq_true,d,k,w,u,b,ok,s,i,g,h]
def aaC{x:dS}(h:uT x=0):x.1.length<=64/\x.2.length<=256:=by
 have d:∀(s:Q0)(lo hi:Int),pF s lo hi=0->(s.length:Int)<=hi:=by
  intro s lo hi h;unfold pF at h;split at h
  ·cases h
  ·split at h
   ·cases h
   ·omega
 unfold uT at h;by_cases c:pF x.1 1 64=0
 ·rw[aj (λe=>e c)]at h;have a:=d _ _ _ c;have b:=d _ _ _ h;omega
 ·rw[au c]at h;exact absurd h c
def amE{s:Q0}(h:(fP s).2.2=0):aS (fP s).1.length++(fP s).1=s.take (fP s).2.1:=by
 unfold fP at h⊢;by_cases a:(aF s).2.2=0;rotate_left
 ·rw[au a]at h;exact absurd h a
 rw[aj (λe=>e a)]at h⊢;obtain⟨d,f,g,i,c⟩:=lZ a;by_cases b:s.length-(aF s).2.1<(aF s).1
 ·rw[au b]at h;cases h
 rw[aj b];simp only[mP,fU];rw[MX ah,c,Eu]
def atd{s:Q0}(h:(eU s).2.2=0):jv (eU s).1=s.take (eU s).2.1:=by obtain⟨_,_,_,_,_,a,b,c,d⟩:=VT h;rw[c,d];unfold jv;simp only;have e:=amE a;have f:=amE b;rw[e,List.append_assoc,f,Eu]
def agO:∀(m:Nat)(p:Option dS)(s:Q0),(ig m p s).2.2=0->(ig m p s).1.flatMap jv=s.take (ig m p s).2.1/\uQ (p.map (·.1)) (ig m p s).1=0
 |0,p,s,_=>by simp[ig,uQ]
 |m+1,p,s,h=>by
  rw[VJ]at h⊢;by_cases h1:(eU s).2.2=0;rotate_left
  ·rw[au h1]at h;exact absurd h h1
  rw[aj (λe=>e h1)]at h⊢;by_cases b:BL p (eU s).1=0;rotate_left
  ·rw[au b]at h;exact absurd h b
  rw[aj (λe=>e b)]at h⊢;by_cases c:(ig m (some (eU s).1) (s.drop (eU s).2.1)).2.2=0;rotate_left
  ·rw[au c]at h;exact absurd h c
  rw[aj (λe=>e c)];obtain⟨i,d⟩:=agO m (some (eU s).1) _ c;obtain⟨_,_,j,_⟩:=VT h1;have l:=atd h1;refine⟨by simp only[kV,i,l,Eu],?_⟩;unfold uQ;rw[aj (λe=>e j)];cases p with
  |none=>exact d
  |some k=>
   have a:Aw k.1 (eU s).1.1=0:=b;unfold Aw at a;simp only[iJ];by_cases f:(eU s).1.1=k.1
   ·rw[au f]at a;exact absurd a aV
   rw[aj f]at a⊢;by_cases g:Op.bytesLess (eU s).1.1 k.1=true
   ·rw[au g]at a;exact absurd a aV
   rw[aj g];exact d
structure DOk(d:List dS)(key:Q0):Prop where
 chk:yL d=0
 few:jf d=true
 ents:uF d
 put:dN d=key
def as2{s:Q0}(h:(pU s).2.2=0)(n:s.length<=100000000):DOk (pU s).1 (s.take (pU s).2.1):=by
 obtain⟨d,o,p,b,e,f,q⟩:=agR h;obtain⟨r,g,c⟩:=aaz _ _ _ b;obtain⟨i,j⟩:=agO _ _ _ b;obtain⟨t,u,v,w,k⟩:=lZ d;rw[e,f];refine⟨?_,?_,⟨ah,λx a=>?_⟩,?_⟩
 ·unfold yL;rw[bU,bU];exact j
 ·unfold jf;rw[aO,decide_eq_true_iff,List.all_eq_true];refine⟨λx a=>?_,ah⟩;obtain⟨l,m⟩:=aaC (c x a).1;unfold wP;rw[decide_eq_true_iff];omega
 ·obtain⟨l,m⟩:=aaC (c x a).1;omega
 ·unfold dN;rw[g,k,i,Eu]
def agW{s:Q0}(h:(tZ s).2=0)(c:s.length<=100000000):DOk (tZ s).1 s:=by
 unfold tZ at h⊢;by_cases a:(pU s).2.2=0;rotate_left
 ·rw[au a]at h;exact absurd h a
 rw[aj (λe=>e a)]at h⊢;by_cases b:(pU s).2.1<s.length
 ·rw[au b]at h;exact absurd h aA
 rw[aj b];have:=as2 a c;rw[mg ah]at this;exact this
def azL{s a:Q0}{first:Bool}(h:(bT s a first).2.2=0)(f:first=true->a=[]):uw a (bT s a first).1=s.take (bT s a first).2.1/\(first=false->a<(bT s a first).1):=by
 have k:(if first=true then[]else a)=a:=by
  cases first with
  |true=>rw[au rfl,f rfl]
  |false=>rfl
 unfold bT at h⊢;simp only[k]at h⊢;by_cases b:(aF s).2.2=0;rotate_left
 ·rw[au b]at h;exact absurd h b
 rw[aj (λe=>e b)]at h⊢;by_cases g:a.length<(aF s).1
 ·rw[au g]at h;exact absurd h (by simp[oZ])
 rw[aj g]at h⊢;by_cases c:(aF (s.drop (aF s).2.1)).2.2=0;rotate_left
 ·rw[au c]at h;exact absurd h c
 rw[aj (λe=>e c)]at h⊢;by_cases i:s.length-((aF s).2.1+(aF (s.drop (aF s).2.1)).2.1)<(aF (s.drop (aF s).2.1)).1
 ·rw[au i]at h;exact absurd h (by simp[oZ])
 rw[aj i]at h⊢;obtain⟨u,v,w,x,l⟩:=lZ b;obtain⟨y,z,A,D,m⟩:=lZ c;have n:((s.drop ((aF s).2.1+(aF (s.drop (aF s).2.1)).2.1)).take (aF (s.drop (aF s).2.1)).1).length=(aF (s.drop (aF s).2.1)).1:=by rw[mP,fU];omega
 generalize o:(s.drop ((aF s).2.1+(aF (s.drop (aF s).2.1)).2.1)).take (aF (s.drop (aF s).2.1)).1=X at *;by_cases d:first=false/\Op.bytesLess a (a.take (aF s).1++X)=false
 ·rw[au d]at h;exact absurd h (by simp[oZ])
 rw[aj d]at h⊢;by_cases j:(aF s).1<common a (a.take (aF s).1++X)
 ·rw[au j]at h;exact absurd h (by simp[oZ])
 rw[aj j];have p:=agt (aF s).1 a X ah;have q:common a (a.take (aF s).1++X)=(aF s).1:=ah;refine⟨?_,λf=>?_⟩
 ·unfold uw;simp only[q];have r:(a.take (aF s).1++X).length-(aF s).1=(aF (s.drop (aF s).2.1)).1:=by rw[eH,mP,n];omega
  have t:(a.take (aF s).1++X).drop (aF s).1=X:=by rw[Zf (by rw[mP];omega)];rw[Je (by rw[mP];omega)];rfl
  rw[r,t,l,m,<-o];rw[Eu,Eu,<-tK]
 ·simp only[f,true_and]at d;rw[<-Nw];simpa using d
def akR:∀(m:Nat)(a:Q0)(first:Bool)(s:Q0),(iO m a first s).2.2=0->(first=true->a=[])->a.length+s.length<=100000000->
 lX a (iO m a first s).1=s.take (iO m a first s).2.1/\kL (iO m a first s).1/\(first=false->∀r∈(iO m a first s).1,a<K r)/\(∀r∈(iO m a first s).1,yY r=0/\jf r.1=true/\uF r.1/\0<=r.2/\r.2<18446744073709551616)
 |0,a,first,s,_,_,_=>by simp[iO,lX,kL]
 |m+1,a,first,s,h,n,D=>by
  rw[XL]at h⊢;by_cases h1:(bT s a first).2.2=0;rotate_left
  ·rw[au h1]at h;exact absurd h h1
  rw[aj (λe=>e h1)]at h⊢;by_cases c:(iL (bT s a first).1 (s.drop (bT s a first).2.1)).2.2=0;rotate_left
  ·rw[au c]at h;exact absurd h c
  rw[aj (λe=>e c)]at h⊢;by_cases d:(iO m (bT s a first).1 false (s.drop ((bT s a first).2.1+(iL (bT s a first).1 (s.drop (bT s a first).2.1)).2.1))).2.2=0;rotate_left
  ·rw[au d]at h;exact absurd h d
  rw[aj (λe=>e d)];obtain⟨E,F,o⟩:=ac4 h1;obtain⟨p,j⟩:=azL h1 n;obtain⟨q,t,G,g,u⟩:=adh c;have v:(bT s a first).1.length<=a.length+(bT s a first).2.1:=by cases first<;>simp at o<;>omega
  obtain⟨H,I,J,L,w⟩:=lZ t;have f:=agW q ah;obtain⟨x,y,k,z⟩:=akR m _ false _ d (λe=>by cases e) (by rw[fU];omega);have i:K (iL (bT s a first).1 (s.drop (bT s a first).2.1)).1=(bT s a first).1:=by rw[g];exact f.put
  have A:(iL (bT s a first).1 (s.drop (bT s a first).2.1)).1.2.toNat=(aF (s.drop (bT s a first).2.1)).1:=by rw[g];simp
  simp only;refine⟨?_,?_,λl r b=>?_,λr b=>?_⟩
  ·show uw a (K _)++(aS _++lX (K _) _)=_
   rw[i,A,x,p,w,<-u];rw[Eu,Eu,List.append_assoc]
  ·refine jA.2 ⟨λr b=>?_,y⟩;rw[i];exact k rfl r b
  ·rcases bI.1 b with rfl|b
   ·rw[i];exact j l
   ·exact Bq (j l) (k rfl r b)
  ·rcases bI.1 b with rfl|b
   ·rw[g];refine⟨?_,f.few,f.ents,by simp only;omega,by simp only;omega⟩;rw[Pg];exact⟨f.chk,by simp only;omega⟩
   ·exact z r b
structure BH(t:List Row):Prop where
 ok:Ok t
 few:zy t
 rows:Rows t
def BH.tb{t:List Row}(h:BH t):nN t=0:=(vI t).2 h.ok
def awR{s:Q0}(h:(oP s).2.2=0)(l:s.length<=100000000):qC (oP s).1=s.take (oP s).2.1/\BH (oP s).1:=by obtain⟨d,m,c,e,f,n⟩:=aiV h;obtain⟨o,p,q,t,g⟩:=lZ d;obtain⟨u,i⟩:=ac3 _ _ _ _ c;obtain⟨j,k,_,b⟩:=akR _ _ _ _ c (λ_=>rfl) (by rw[fU];simp;omega);rw[e,f];refine⟨?_,⟨ah,k,λr a=>(b r a).1⟩,λr a=>(b r a).2.1,ah,λr a=>(b r a).2.2⟩;unfold qC;rw[i,g,j,Eu]
def amH:BH []:=⟨⟨aA,List.Pairwise.nil,aA⟩,λr a=>by simp at a,aA,aA⟩
def aE9{s:Q0}(d:s.length<=100000000):BH (uy s).1/\((uy s).2=0->qC (uy s).1=s)/\((uy s).2≠0->(uy s).1=[]):=by
 unfold uy;by_cases a:(oP s).2.2=0;rotate_left
 ·rw[au a];exact⟨amH,λh=>absurd h a,λ_=>rfl⟩
 rw[aj (λe=>e a)];by_cases b:(oP s).2.1<s.length
 ·rw[au b];exact⟨amH,λh=>absurd h aV,λ_=>rfl⟩
 rw[aj b];obtain⟨c,f⟩:=awR a d;rw[mg ah]at c;exact⟨f,λ_=>c,λh=>absurd rfl h⟩
def BH.len{t:List Row}(h:BH t):t.length<=256:=h.ok.1
def BH.good{t:List Row}(h:BH t):eF t:=⟨Nat.le_trans h.len aV,h.few,h.rows⟩
def amD(a x:Q0)(c:a.length<=100000000):fP (aS a.length++(a++x))=(a,(aS a.length).length+a.length,0):=by have h:=Gt a.length (a++x) ah;unfold fP;rw[h];simp only[ne_eq,not_true_eq_false,if_false];have b:(aS a.length++(a++x)).length=(aS a.length).length+(a.length+x.length):=aA;rw[b,bU,uH,Ux]
def atc(e:dS)(y:Q0)(h:uT e=0):eU (jv e++y)=(e,(jv e).length,0):=by
 obtain⟨i,j⟩:=aaC h;have a:jv e++y=aS e.1.length++(e.1++(aS e.2.length++(e.2++y))):=by unfold jv;simp
 have b:=amD e.1 (aS e.2.length++(e.2++y)) ah;have c:=amD e.2 y ah;have d:(aS e.1.length++(e.1++(aS e.2.length++(e.2++y)))).drop ((aS e.1.length).length+e.1.length)=aS e.2.length++(e.2++y):=by rw[<-List.append_assoc,<-eH,uH]
 have f:(jv e).length=(aS e.1.length).length+e.1.length+((aS e.2.length).length+e.2.length):=by unfold jv;simp;omega
 unfold eU;rw[a,b];simp only[ne_eq,not_true_eq_false,if_false,d,c];have g:uT (e.1,e.2)=0:=h;rw[g,f];simp
def aoT{p:Option Q0}{x:dS}{xs:List dS}(h:uQ p (x::xs)=0):uT x=0/\(∀k,p=some k->Aw k x.1=0)/\uQ (some x.1) xs=0:=by
 unfold uQ at h;by_cases a:uT x=0;rotate_left
 ·rw[au a]at h;exact absurd h a
 rw[aj (λe=>e a)]at h;cases p with
 |none=>exact⟨a,(λk b=>by cases b),h⟩
 |some k=>
  simp only at h;by_cases c:x.1=k
  ·rw[au c]at h;exact absurd h aV
  rw[aj c]at h;by_cases d:Op.bytesLess x.1 k=true
  ·rw[au d]at h;exact absurd h aV
  rw[aj d]at h;refine⟨a,λf b=>?_,h⟩;cases b;unfold Aw;rw[aj c,aj d]
def agN:∀(d:List dS)(p:Option dS)(y:Q0),uQ (p.map (·.1)) d=0->ig d.length p (d.flatMap jv++y)=(d,(d.flatMap jv).length,0)
 |[],p,y,_=>by simp[ig]
 |x::d,p,y,h=>by
  obtain⟨h1,a,b⟩:=aoT h;have c:=atc x (d.flatMap jv++y) h1;have e:(x::d).flatMap jv++y=jv x++(d.flatMap jv++y):=aA;have f:=agN d (some x) y b;have g:BL p x=0:=by
   cases p with
   |none=>rfl
   |some k=>exact a k.1 rfl
  rw[iD,VJ,e,c];simp only[ne_eq,not_true_eq_false,if_false,uH,g,f];simp
def as1(d:List dS)(y:Q0)(h:yL d=0):pU (dN d++y)=(d,(dN d).length,0):=by
 unfold yL at h;by_cases a:d.length=0
 ·rw[au a]at h;exact absurd h aV
 rw[aj a]at h;by_cases b:16<d.length
 ·rw[au b]at h;exact absurd h aV
 rw[aj b]at h;have c:=Gt d.length (d.flatMap jv++y) ah;have e:dN d++y=aS d.length++(d.flatMap jv++y):=by unfold dN;simp
 have f:=agN d none y h;unfold pU;rw[e,c];simp only[ne_eq,not_true_eq_false,if_false,a,b,uH,f];unfold dN;simp
def agV(d:List dS)(h:yL d=0):tZ (dN d)=(d,0):=by have:=as1 d [] h;rw[pX]at this;unfold tZ;rw[this];simp
def apo(a s:Q0):a.take (common a s)++s.drop (common a s)=s:=by rw[agv,Ji]
def azK(a t y:Q0)(first:Bool)(b:first=true->a=[])(c:first=false->a<t)(n:t.length<=100000000):bT (uw a t++y) a first=(t,(uw a t).length,0):=by
 have d:(if first=true then[]else a)=a:=by
  cases first with
  |true=>rw[au rfl,b rfl]
  |false=>rfl
 obtain⟨o,p⟩:=VD a t;have e:uw a t++y=aS (common a t)++(aS (t.length-common a t)++(t.drop (common a t)++y)):=by unfold uw;simp
 have f:=Gt (common a t) (aS (t.length-common a t)++(t.drop (common a t)++y)) ah;have g:=Gt (t.length-common a t) (t.drop (common a t)++y) ah;have h:(uw a t).length=(aS (common a t)).length+(aS (t.length-common a t)).length+(t.length-common a t):=by unfold uw;simp;omega
 have i:(aS (common a t)++(aS (t.length-common a t)++(t.drop (common a t)++y))).drop ((aS (common a t)).length+(aS (t.length-common a t)).length)=t.drop (common a t)++y:=by rw[<-List.append_assoc,<-eH,uH]
 have j:(t.drop (common a t)++y).take (t.length-common a t)=t.drop (common a t):=by rw[<-fU,Ux]
 have k:¬(first=false/\Op.bytesLess a t=false):=by
  rintro⟨l,m⟩
  have:=(Nw a t).2 (c l);rw[m]at this;cases this
 unfold bT;simp only[d];rw[e,f];simp only[ne_eq,not_true_eq_false,if_false,uH,g,i,j,apo];rw[bU,aj (by simp;omega),aj k,bU,h]
def akQ:∀(l:List Row)(a:Q0)(first:Bool)(y:Q0),(first=true->a=[])->(first=false->∀r∈l,a<K r)->kL l->(∀r∈l,yY r=0/\jf r.1=true/\0<=r.2/\r.2<18446744073709551616)->
 iO l.length a first (lX a l++y)=(l,(lX a l).length,0)
 |[],a,first,y,_,_,_,_=>by simp[iO,lX]
 |r::l,a,first,y,g,h,i,d=>by
  obtain⟨h1,j⟩:=jA.1 i;obtain⟨f,k,t,u⟩:=d r aA;have v:(K r).length<=30000:=RI k;rw[Pg]at f;have m:lX a (r::l)++y=uw a (K r)++(aS r.2.toNat++(lX (K r) l++y)):=by simp[lX]
  have n:=azK a (K r) (aS r.2.toNat++(lX (K r) l++y)) first g (λe=>h e r aA) ah
  have o:=Gt r.2.toNat (lX (K r) l++y) ah;have p:=agV r.1 f.1;have s:=akQ l (K r) false y (λe=>by cases e) (λ_=>h1) j λq b=>d q (by simp[b]);have c:(uw a (K r)++(aS r.2.toNat++(lX (K r) l++y))).drop ((uw a (K r)).length+(aS r.2.toNat).length)=lX (K r) l++y:=by rw[<-List.append_assoc,<-eH,uH]
  have b:iL (K r) (aS r.2.toNat++(lX (K r) l++y))=(r,(aS r.2.toNat).length,0):=by unfold iL;rw[o,p];simp only[ne_eq,not_true_eq_false,if_false];rw[bU];have:((r.2.toNat:Nat):Int)=r.2:=ah;rw[this]
  rw[iD,XL,m,n];simp only[ne_eq,not_true_eq_false,if_false,uH,b,c,s];simp[lX,kC]
def awQ(t:List Row)(y:Q0)(h:BH t):oP (qC t++y)=(t,(qC t).length,0):=by
 have f:=h.len;have b:=Gt t.length (lX [] t++y) ah;have c:qC t++y=aS t.length++(lX [] t++y):=by unfold qC;simp
 have d:=akQ t [] true y (λ_=>rfl) (λe=>by cases e) h.ok.2.1 λr a=>⟨h.ok.2.2 r a,h.few r a,(h.rows.2 r a).2.1,(h.rows.2 r a).2.2⟩
 unfold oP;rw[c,b];simp only[ne_eq,not_true_eq_false,if_false,uH,d];rw[bU];unfold qC;simp
def aE8(t:List Row)(h:BH t):uy (qC t)=(t,0):=by have:=awQ t [] h;rw[pX]at this;unfold uy;rw[this];simp
structure One where
 deep:Int
 tag:Int
 typ:Int
 num:Int
 text:Q0
inductive aK where
 |mk (tag typ num:Int) (text:Q0) (l:List aK)
def one(x:One):GV:=.g [.i .u8 x.deep,.zu x.tag,.i .i8 x.typ,.zu x.num,.s x.text]
@[simp] theorem aIf(x:One):(one x).cells=[.i .u8 x.deep,.zu x.tag,.i .i8 x.typ,.zu x.num,.s x.text]:=rfl
mutual
def rC:aK->GV
 |.mk t y n s l=>.g [.zu t,.zq y,.zu n,.s s,.l (aI l)]
def aI:List aK->List GV
 |[]=>[]
 |f::l=>rC f::aI l
end
def qP:∀(a:List aK),(aI a).length=a.length
 |[]=>rfl
 |f::a=>by simp only[aI,iD,qP a]
structure aQ where
 kind:Int
 id:Int
 min:Int
 max:Int
 chosen:Int
 flags:Int
 cost:Int
 priority:Int
 deadline:Int
 retry:Int
 epoch:Int
 base:Int
 digest:Int
 lag:Int
 code:Int
 want:Int
 remaining:Int
 allowed:Bool
 name:Q0
 region:Q0
 note:Q0
 d:List dS
 t:List Row
def jh(b:aQ)(r:Q1):GV:=.g [.zq b.kind,.zu b.id,.zu b.min,.zu b.max,.zu b.chosen,.zu b.flags,.zu b.cost,.zu b.priority,.zu b.deadline,.zu b.retry,.zu b.epoch,.zu b.base,.zu b.digest,.zu b.lag,.zu b.code,.zu b.want,.zq b.remaining,.b b.allowed,.s b.name,.s b.region,.s b.note,.l (b.d.map ent),.l (b.t.map row),.l r]
def lT(b:aQ)(r:Q1):GV.g [.zq b.kind,.zu b.id,.zu b.min,.zu b.max,.zu b.chosen,.zu b.flags,.zu b.cost,.zu b.priority,.zu b.deadline,.zu b.retry,.zu b.epoch,.zu b.base,.zu b.digest,.zu b.lag,.zu b.code,.zu b.want,.zq b.remaining,.b b.allowed,.s b.name,.s b.region,.s b.note,.l (b.d.map ent),.l (b.t.map row),.l r]=jh b r:=rfl
@[simp] theorem fE(b:aQ)(r:Q1):(jh b r).cells=[.zq b.kind,.zu b.id,.zu b.min,.zu b.max,.zu b.chosen,.zu b.flags,.zu b.cost,.zu b.priority,.zu b.deadline,.zu b.retry,.zu b.epoch,.zu b.base,.zu b.digest,.zu b.lag,.zu b.code,.zu b.want,.zq b.remaining,.b b.allowed,.s b.name,.s b.region,.s b.note,.l (b.d.map ent),.l (b.t.map row),.l r]:=rfl
structure vZ(b:aQ):Prop where
 kind: -9223372036854775808<=b.kind/\b.kind<=9223372036854775807
 id:0<=b.id/\b.id<18446744073709551616
 min:0<=b.min/\b.min<18446744073709551616
 max:0<=b.max/\b.max<18446744073709551616
 chosen:0<=b.chosen/\b.chosen<18446744073709551616
 flags:0<=b.flags/\b.flags<18446744073709551616
 cost:0<=b.cost/\b.cost<18446744073709551616
 priority:0<=b.priority/\b.priority<18446744073709551616
 deadline:0<=b.deadline/\b.deadline<18446744073709551616
 retry:0<=b.retry/\b.retry<18446744073709551616
 epoch:0<=b.epoch/\b.epoch<18446744073709551616
 base:0<=b.base/\b.base<18446744073709551616
 digest:0<=b.digest/\b.digest<18446744073709551616
 lag:0<=b.lag/\b.lag<18446744073709551616
 code:0<=b.code/\b.code<18446744073709551616
 want:0<=b.want/\b.want<18446744073709551616
 remaining: -9223372036854775808<=b.remaining/\b.remaining<=9223372036854775807
 name:b.name.length<=140737488351232
 region:b.region.length<=140737488351232
 note:b.note.length<=140737488351232
 d:uF b.d
 t:Rows b.t
def avy{k:IntKind}{g:GV}(h:(dh.int k).has g):∃n,g=.i k n/\k.min<=n/\n<=k.max:=by simp only[dh.has]at h;exact h
def aa6{g:GV}(h:(dh.int .i64).has g):∃n,g=.zq n/\-9223372036854775808<=n/\n<=9223372036854775807:=by obtain⟨n,rfl,a,b⟩:=avy h;exact⟨n,rfl,by simpa[IntKind.min,IntKind.signed,IntKind.bits]using a,by simpa[IntKind.max,IntKind.signed,IntKind.bits]using b⟩
def uj(a c:Int)(n:Q0):aQ:=⟨1,0,a,c,0,0,0,0,0,0,0,0,0,0,0,0,0,false,n,[],[],[],[]⟩
structure dU where
 tag:Int
 use:Int
 from_:Int
 name:Q0
def gJ(s:dU):GV:=.g [.zu s.tag,.zq s.use,.zq s.from_,.s s.name]
@[simp] theorem aIx(s:dU):(gJ s).cells=[.zu s.tag,.zq s.use,.zq s.from_,.s s.name]:=rfl
def aD4(s:dU):GV.g [.zu s.tag,.zq s.use,.zq s.from_,.s s.name]=gJ s:=rfl
def sp1:List dU:=[⟨1,0,1,[109,105,110]⟩,⟨2,0,1,[109,97,120]⟩,⟨3,3,1,[110,97,109,101]⟩,⟨4,3,2,[114,101,103,105,111,110]⟩,⟨5,0,3,[102,108,97,103,115]⟩]
def sp2:List dU:=[⟨1,0,1,[99,104,111,115,101,110]⟩,⟨2,3,1,[110,97,109,101]⟩,⟨3,3,2,[114,101,103,105,111,110]⟩]
def F9:List dU:=[⟨1,0,1,[105,100]⟩,⟨2,4,1,[100,101,115,99,114]⟩,⟨3,0,1,[99,111,115,116]⟩,⟨4,0,2,[112,114,105,111,114,105,116,121]⟩,⟨5,0,3,[100,101,97,100,108,105,110,101]⟩]
def Gf:List dU:=[⟨1,0,1,[105,100]⟩,⟨2,1,1,[97,108,108,111,119,101,100]⟩,⟨3,2,1,[114,101,109,97,105,110,105,110,103]⟩,⟨4,0,2,[114,101,116,114,121]⟩,⟨5,3,3,[110,111,116,101]⟩]
def Gg:List dU:=[⟨1,0,1,[101,112,111,99,104]⟩,⟨2,5,1,[116,97,98,108,101]⟩,⟨3,3,2,[114,101,103,105,111,110]⟩,⟨4,0,3,[100,105,103,101,115,116]⟩]
def Gh:List dU:=[⟨1,0,2,[98,97,115,101]⟩,⟨2,0,2,[101,112,111,99,104]⟩,⟨3,5,2,[116,97,98,108,101]⟩,⟨4,3,2,[114,101,103,105,111,110]⟩,⟨5,0,3,[100,105,103,101,115,116]⟩]
def Gi:List dU:=[⟨1,0,1,[101,112,111,99,104]⟩,⟨2,0,3,[108,97,103]⟩]
def Gj:List dU:=[⟨1,0,1,[101,112,111,99,104]⟩,⟨2,0,1,[99,111,100,101]⟩,⟨3,0,2,[119,97,110,116]⟩,⟨4,3,3,[110,111,116,101]⟩]
def Ac(k:Int):List dU:=if k=1 then sp1 else if k=2 then sp2 else if k=3 then F9 else if k=4 then Gf else if k=5 then Gg else if k=6 then Gh else if k=7 then Gi else if k=8 then Gj else[]
def qQ(k:Int):Int:=if k=1 then 1 else if k=2 then 1 else if k=3 then 1 else if k=4 then 1 else if k=5 then 1 else if k=6 then 2 else if k=7 then 1 else if k=8 then 1 else 0
def aT(k v:Int):List dU:=(Ac k).filter λs=>decide (s.from_<=v)
def avL:TT.lim 94 []=some [.l (sp1.map gJ)]:=by refine aW ?_;simp[sp1,gJ]
def avI:TT.lim 96 []=some [.l (sp2.map gJ)]:=by refine aW ?_;simp[sp2,gJ]
def aoP:TT.lim 97 []=some [.l (F9.map gJ)]:=by refine aW ?_;simp[F9,gJ]
def aoQ:TT.lim 98 []=some [.l (Gf.map gJ)]:=by refine aW ?_;simp[Gf,gJ]
def auy:TT.lim 99 []=some [.l (Gg.map gJ)]:=by refine aW ?_;simp[Gg,gJ]
def asU:TT.lim 100 []=some [.l (Gh.map gJ)]:=by refine aW ?_;simp[Gh,gJ]
def anN:TT.lim 101 []=some [.l (Gi.map gJ)]:=by refine aW ?_;simp[Gi,gJ]
def aA0:TT.lim 102 []=some [.l (Gj.map gJ)]:=by refine aW ?_;simp[Gj,gJ]
def abC(k:Int):TT.lim 92 [.zq k]=some [.zq (qQ k)]:=by
 refine aW ?_;unfold qQ;by_cases a:k=1
 ·simp[a]
 by_cases b:k=2
 ·simp[b]
 by_cases c:k=3
 ·simp[c]
 by_cases d:k=4
 ·simp[d]
 by_cases e:k=5
 ·simp[e]
 by_cases f:k=6
 ·simp[f]
 by_cases g:k=7
 ·simp[g]
 by_cases h:k=8
 ·simp[h]
 simp[a,b,c,d,e,f,g,h]
def abE(v:Int)(l:List dU)(j:l.length<=8):∀(m i:Nat)(a:List dU),i+m=l.length->a.length<=i->
 TT.lim 95 [.zq v,.l (a.map gJ),.l (l.map gJ),.zq l.length,.zq i]=some [.zq 0,.l ((a++(l.drop i).filter λs=>decide (s.from_<=v)).map gJ)]
 |0,i,a,hi,p=>by have h0:l.drop i=[]:=iK;refine aB ?_;have h:¬((i:Int)<l.length):=ah;simp[h,h0]
 |m+1,i,a,hi,p=>by
  have c:i<l.length:=ah;have k:=iR c;refine aB ?_;have h:((i:Int)<l.length):=ah;have n:=bH ((i:Int)+1);have e:2*(a.length+1)*40<=281474976710656:=ah;have f:a.length<=281474976710655:=ah;have g:(gJ l[i]).gQ 4=true:=rfl;have b:((i:Int)+1)=((i+1:Nat):Int):=ah;by_cases o:l[i].from_<=v
  ·have d:=abE v l j m (i+1) (a++[l[i]]) ah (by simp;omega);rw[<-b,oK]at d;simp only[iU,jH]at d;simp[-List.getElem_cons_drop,h,c,o,n,aD4,e,f,g,d,k]
  ·have d:=abE v l j m (i+1) a ah ah;rw[<-b]at d;simp[-List.getElem_cons_drop,h,c,o,n,d,k]
def aD3(k:Int):(Ac k).length<=8:=by
 unfold Ac;repeat' split
 all_goals (first|(unfold sp1;decide)|(unfold sp2;decide)|(unfold F9;decide)|(unfold Gf;decide)|(unfold Gg;decide)|(unfold Gh;decide)|(unfold Gi;decide)|(unfold Gj;decide)|decide)
def Io(v:Int)(l:List dU)(a:l.length<=8):TT.lim 95 [.zq v,.l [],.l (l.map gJ),.zq l.length,.zq 0]=some [.zq 0,.l ((l.filter λs=>decide (s.from_<=v)).map gJ)]:=by have:=abE v l a l.length 0 [] ah aA;simpa using this
def Xf(k v:Int)(h1:1<=v)(E:v<=3)(d:qQ k<=v):TT.lim 93 [.zq k,.zq v]=some [.l ((aT k v).map gJ)]:=by
 have a:¬v<1:=ah;have b:¬3<v:=ah;unfold aT Ac;unfold qQ at d;have m:=Io v sp1 aV;have g2:=Io v sp2 aV;have g3:=Io v F9 aV;have n:=Io v Gf aV;have o:=Io v Gg aV;have p:=Io v Gh aV;have q:=Io v Gi aV;have r:=Io v Gj aV;have s:=avL;have t:=avI;have u:=aoP;have w:=aoQ;have x:=auy;have y:=asU;have z:=anN;have A:=aA0;generalize sp1=F,sp2=G,F9=H,Gf=I,Gg=J,Gh=L,Gi=M,Gj=N at *;refine aW ?_;by_cases e:k=1
 ·simp[e,a,b,s,m]
 by_cases f:k=2
 ·simp[f,a,b,t,g2]
 by_cases g:k=3
 ·simp[g,a,b,u,g3]
 by_cases h:k=4
 ·simp[h,a,b,w,n]
 by_cases i:k=5
 ·simp[i,a,b,x,o]
 by_cases c:k=6
 ·have D:¬v<2:=by subst c;simpa using d
  simp[c,a,D,b,y,p]
 by_cases j:k=7
 ·simp[j,a,b,z,q]
 by_cases l:k=8
 ·simp[l,a,b,A,r]
 simp[e,f,g,h,i,c,j,l]
def ai2(k v:Int)(h1:1<=v)(j:v<=3):aT k v=[]↔qQ k=0\/v<qQ k:=by
 have a:v=1\/v=2\/v=3:=ah;unfold aT Ac qQ;by_cases b:k=1
 ·subst b;rcases a with rfl|rfl|rfl<;>decide
 by_cases c:k=2
 ·subst c;rcases a with rfl|rfl|rfl<;>decide
 by_cases d:k=3
 ·subst d;rcases a with rfl|rfl|rfl<;>decide
 by_cases e:k=4
 ·subst e;rcases a with rfl|rfl|rfl<;>decide
 by_cases f:k=5
 ·subst f;rcases a with rfl|rfl|rfl<;>decide
 by_cases g:k=6
 ·subst g;rcases a with rfl|rfl|rfl<;>decide
 by_cases h:k=7
 ·subst h;rcases a with rfl|rfl|rfl<;>decide
 by_cases i:k=8
 ·subst i;rcases a with rfl|rfl|rfl<;>decide
 simp[b,c,d,e,f,g,h,i]
def aK.tag:aK->Int
 |.mk t _ _ _ _=>t
def DI:∀(a:List aK),aI a=a.map rC
 |[]=>rfl
 |f::a=>by simp only[aI,iU,DI a]
mutual
def xq:aK->Nat
 |.mk _ _ _ _ l=>dO l+1
def dO:List aK->Nat
 |[]=>0
 |f::l=>xq f+dO l+1
end
mutual
def uU:aK->Prop
 |.mk t y n s k=>(0<=t/\t<18446744073709551616/\-128<=y/\y<=127/\0<=n/\n<18446744073709551616/\s.length<=100000000/\k.length<=1000000)/\fD k
def fD:List aK->Prop
 |[]=>True
 |f::r=>uU f/\fD r
end
def Ic:∀{l:List aK},fD l->∀f∈l,uU f
 |f::l,h,g,a=>by
  simp only[fD]at h;rcases bI.1 a with rfl|a
  ·exact h.1
  ·exact Ic h.2 g a
def YM:∀{l:List aK}{f:aK},f∈l->xq f<dO l
 |g::l,f,h=>by
  simp only[dO];rcases bI.1 h with rfl|h
  ·omega
  ·have:=YM h;omega
mutual
def AA(w:Nat):aK->Int
 |.mk _ y n s k=>if y=0 then(if s=[]/\k=[]then 0 else 8)else if y=1 then(if n=0/\k=[]then 0 else 8)else if y=2 then(if n=0/\s=[]then(if 8<=w then 9 else jR (w+1) 0 k)else 8)else 8
def jR(w:Nat)(ahead:Int):List aK->Int
 |[]=>0
 |f::r=>if f.tag=0 then 18 else if 4294967296<f.tag then 18 else if f.tag<=ahead then 7 else if AA w f≠0 then AA w f else jR w f.tag r
end
@[simp] theorem Oa(t y n:Int)(s:Q0)(k:List aK):(rC (.mk t y n s k)).cells=[.zu t,.zq y,.zu n,.s s,.l (aI k)]:=by simp only[rC];rfl
def auq(k:List aK):(aI k).length=0↔k=[]:=by rw[qP,Qa]
def ahr:∀(N:Nat)(l:List aK),dO l<N->fD l->l.length<=1000000->∀w:Nat,w<=8->TT.lim 131 [.l (aI l),.zq w]=some [.zq (jR w 0 l)]
 |0,l,h,_,_,_,_=>ah
 |N+1,l,T,H,L,w,Q=>by
  have loop:∀m i (ahead:Int),i+m=l.length->TT.lim 132 [.zq w,.zu ahead,.l (aI l),.zq l.length,.zq i]=some (if jR w ahead (l.drop i)=0 then[.zq 1]else[.zq 0,.zq (jR w ahead (l.drop i))]):=by
   intro m;induction m with
   |zero=>intro i ahead hi;have r:l.drop i=[]:=iK;refine aB ?_;have h:¬((i:Int)<l.length):=ah;simp[h,r,jR]
   |succ m R=>
    intro i ahead hi;have q:i<l.length:=ah;rw[iR q];have I:=Ic H l[i] (iT q);have S:=YM (iT q);have b:(aI l)[i]? =some (rC l[i]):=by rw[DI,jy,bZ q];rfl
    have u:((i:Int)+1)=((i+1:Nat):Int):=ah;have c:=λa=>R (i+1) a ah;simp only[<-u]at c;generalize l[i]=f at *;obtain⟨t,y,n,s,k⟩:=f;simp only[uU]at I;simp only[xq]at S;have g:=bH ((i:Int)+1);have A:=bH ((w:Int)+1);refine aB ?_;have h:((i:Int)<l.length):=ah;have z:=λh=>ahr N k ah I.2 I.1.2.2.2.2.2.2.2 (w+1) h;simp only[Gz,Int.natCast_one]at z;have D:((aI k).length=0)=(k=[]):=propext (auq k);simp only[jR,aK.tag];by_cases d:t=0
    ·simp[h,b,d]
    by_cases e:4294967296<t
    ·simp[h,b,d,e]
    by_cases j:t<=ahead
    ·simp[h,b,d,e,j]
    simp only[AA];by_cases M:y=0
    ·subst M;by_cases o:s=[]
     ·by_cases p:k=[]
      ·simp[h,b,d,e,j,o,p,g,c,aI]
      ·simp[h,b,d,e,j,o,p,g,c,D]
     ·simp[h,b,d,e,j,o]
    by_cases O:y=1
    ·subst O;by_cases o:n=0
     ·by_cases p:k=[]
      ·simp[h,b,d,e,j,o,p,g,c,aI]
      ·simp[h,b,d,e,j,o,p,g,c,D]
     ·simp[h,b,d,e,j,o]
    by_cases P:y=2
    ·subst P;by_cases o:n=0
     ·by_cases p:s=[]
      ·by_cases J:8<=w
       ·have F:(8:Int)<=w:=ah;simp[h,b,d,e,j,o,p,J,F]
       ·have F:¬(8:Int)<=w:=ah;have z:=z ah;by_cases v:jR (w+1) 0 k=0
        ·rw[v]at z;simp[h,b,d,e,j,o,p,J,F,A,z,v,g,c,aK.tag]
        ·simp[h,b,d,e,j,o,p,J,F,A,z,v,g,c,aK.tag]
      ·simp[h,b,d,e,j,o,p]
     ·simp[h,b,d,e,j,o]
    simp[h,b,d,e,j,M,O,P]
  have r:=loop l.length 0 0 ah;rw[dY]at r;refine aW ?_;have E:=qP l;by_cases G:jR w 0 l=0
  ·rw[au G]at r;have x:TT.lim 132 [.zq w,.zu 0,.l (aI l),.zq (aI l).length,.zq 0]=some [.zq 1]:=by rw[E];exact r
   simp[x,G]
  ·rw[aj G]at r;have x:TT.lim 132 [.zq w,.zu 0,.l (aI l),.zq (aI l).length,.zq 0]=some [.zq 0,.zq (jR w 0 l)]:=by rw[E];exact r
   simp[x,G]
def V3(l:List aK)(b:fD l)(a:l.length<=1000000):TT.lim 130 [.l (aI l)]=some [.zq (jR 0 0 l)]:=by have h:=ahr (dO l+1) l ah b a 0 ah;have c:TT.lim 131 [.l (aI l),.zq 0]=_:=h;refine aW ?_;simp[c]
inductive Pl where
 |rem|allow|name|region|note|d|t
 |num (k:Nat)
def KZ:Q0:=[114,101,109,97,105,110,105,110,103]
def KJ:Q0:=[97,108,108,111,119,101,100]
def KX:Q0:=[110,97,109,101]
def zW:Q0:=[114,101,103,105,111,110]
def FK:Q0:=[110,111,116,101]
def KP:Q0:=[100,101,115,99,114]
def yS:Q0:=[116,97,98,108,101]
def KR:Q0:=[105,100]
def KW:Q0:=[109,105,110]
def KU:Q0:=[109,97,120]
def KL:Q0:=[99,104,111,115,101,110]
def KQ:Q0:=[102,108,97,103,115]
def KN:Q0:=[99,111,115,116]
def KY:Q0:=[112,114,105,111,114,105,116,121]
def KO:Q0:=[100,101,97,100,108,105,110,101]
def La:Q0:=[114,101,116,114,121]
def uX:Q0:=[101,112,111,99,104]
def DV:Q0:=[98,97,115,101]
def Cm:Q0:=[100,105,103,101,115,116]
def KT:Q0:=[108,97,103]
def Cj:Q0:=[99,111,100,101]
def DW:Q0:=[119,97,110,116]
def placeOf(n:Q0):Option Pl:=
 if n=KZ then some .rem else if n=KJ then some .allow else if n=KX then some .name else if n=zW then some .region else if n=FK then some .note else if n=KP then some .d else if n=yS then some .t else if n=KR then some (.num 0)else if n=KW then some (.num 1)else if n=KU then some (.num 2)else if n=KL then some (.num 3)else if n=KQ then some (.num 4)else if n=KN then some (.num 5)else if n=KY then some (.num 6)else if n=KO then some (.num 7)else if n=La then some (.num 8)else if n=uX then some (.num 9)else if n=DV then some (.num 10)else if n=Cm then some (.num 11)else if n=KT then some (.num 12)else if n=Cj then some (.num 13)else if n=DW then some (.num 14)else none
def akK:placeOf KZ=some .rem:=rfl
def aks:placeOf KJ=some .allow:=rfl
def akG:placeOf KX=some .name:=rfl
def akJ:placeOf zW=some .region:=rfl
def akH:placeOf FK=some .note:=rfl
def aky:placeOf KP=some .d:=rfl
def akM:placeOf yS=some .t:=rfl
def akC:placeOf KR=some (.num 0):=rfl
def akF:placeOf KW=some (.num 1):=rfl
def akE:placeOf KU=some (.num 2):=rfl
def aku:placeOf KL=some (.num 3):=rfl
def akB:placeOf KQ=some (.num 4):=rfl
def akw:placeOf KN=some (.num 5):=rfl
def akI:placeOf KY=some (.num 6):=rfl
def akx:placeOf KO=some (.num 7):=rfl
def akL:placeOf La=some (.num 8):=rfl
def akA:placeOf uX=some (.num 9):=rfl
def akt:placeOf DV=some (.num 10):=rfl
def akz:placeOf Cm=some (.num 11):=rfl
def akD:placeOf KT=some (.num 12):=rfl
def akv:placeOf Cj=some (.num 13):=rfl
def akN:placeOf DW=some (.num 14):=rfl
def qV(b:aQ)(k:Nat):Int:=match k with
 |0=>b.id
 |1=>b.min
 |2=>b.max
 |3=>b.chosen
 |4=>b.flags
 |5=>b.cost
 |6=>b.priority
 |7=>b.deadline
 |8=>b.retry
 |9=>b.epoch
 |10=>b.base
 |11=>b.digest
 |12=>b.lag
 |13=>b.code
 |_=>b.want
def jq(b:aQ):Pl->Bool
 |.rem=>decide (b.remaining=0)
 |.allow=>!b.allowed
 |.name=>decide (b.name=[])
 |.region=>decide (b.region=[])
 |.note=>decide (b.note=[])
 |.d=>decide (b.d=[])
 |.t=>decide (b.t=[])
 |.num k=>decide (qV b k=0)
def oV(b:aQ)(n:Q0):Bool:=match placeOf n with
 |some p=>jq b p
 |none=>true
def nU(b:aQ):Pl->Int
 |.name=>pF b.name 0 256
 |.region=>pF b.region 0 256
 |.note=>pF b.note 0 256
 |.d=>if b.d=[]then 0 else yL b.d
 |.t=>nN b.t
 |_=>0
def qA(b:aQ)(n:Q0):Int:=match placeOf n with
 |some p=>nU b p
 |none=>0
def zz(x:Int):Int:=if 0<=x then 2*x else -2*x-1
def bg(b:aQ):Pl->Int×Q0
 |.rem=>(zz b.remaining,[])
 |.allow=>(if b.allowed=true then 1 else 0,[])
 |.name=>(0,b.name)
 |.region=>(0,b.region)
 |.note=>(0,b.note)
 |.d=>(0,if b.d=[]then[]else dN b.d)
 |.t=>(0,if b.t=[]then[]else(AZ b.t).1)
 |.num k=>(qV b k,[])
def dZ:Pl->Int
 |.num _=>0
 |.rem=>0
 |.allow=>0
 |_=>1
def aFp:Pl->Int
 |.num _=>0
 |.allow=>1
 |.rem=>2
 |.d=>4
 |.t=>5
 |_=>3
def nameOf:Pl->List UInt8
 |.rem=>KZ
 |.allow=>KJ
 |.name=>KX
 |.region=>zW
 |.note=>FK
 |.d=>KP
 |.t=>yS
 |.num k=>match k with
  |0=>KR
  |1=>KW
  |2=>KU
  |3=>KL
  |4=>KQ
  |5=>KN
  |6=>KY
  |7=>KO
  |8=>La
  |9=>uX
  |10=>DV
  |11=>Cm
  |12=>KT
  |13=>Cj
  |_=>DW
def IE:Pl->Prop
 |.num k=>k<15
 |_=>True
def awJ{c:Prop}[Decidable c]{a b:Option Pl}{p:Pl}(h:(if c then a else b)=some p):(c/\a=some p)\/(¬c/\b=some p):=by
 by_cases e:c
 ·rw[au e]at h;exact .inl ⟨e,h⟩
 ·rw[aj e]at h;exact .inr ⟨e,h⟩
def AX(n:Q0)(p:Pl)(h:placeOf n=some p):n=nameOf p/\IE p/\n∈iF:=by
 unfold placeOf at h
 iterate 22
  replace h:=awJ h
  rcases h with⟨e,h⟩|⟨-,h⟩
  ·cases h;subst e;exact⟨rfl,by first|exact trivial|exact(show _<15 by decide),aV⟩
 cases h
def akO{a b:Q0}{p:Pl}(c:placeOf a=some p)(d:placeOf b=some p):a=b:=by rw[(AX a p c).1,(AX b p d).1]
def awG{n m:Q0}{p q:Pl}(b:placeOf n=some p)(a:placeOf m=some q):(n=m)=(p=q):=
 propext ⟨λe=>by subst e;rw[b]at a;cases a;rfl,λe=>by subst e;exact akO b a⟩
def WX{n:Q0}{p:Pl}(a:placeOf n=some p):((n=[114,101,109,97,105,110,105,110,103])=(p=.rem))/\((n=[97,108,108,111,119,101,100])=(p=.allow))/\((n=[110,97,109,101])=(p=.name))/\((n=[114,101,103,105,111,110])=(p=.region))/\((n=[110,111,116,101])=(p=.note))/\((n=[100,101,115,99,114])=(p=.d))/\((n=[116,97,98,108,101])=(p=.t))/\((n=[105,100])=(p=.num 0))/\((n=[109,105,110])=(p=.num 1))/\((n=[109,97,120])=(p=.num 2))/\((n=[99,104,111,115,101,110])=(p=.num 3))/\((n=[102,108,97,103,115])=(p=.num 4))/\((n=[99,111,115,116])=(p=.num 5))/\((n=[112,114,105,111,114,105,116,121])=(p=.num 6))/\((n=[100,101,97,100,108,105,110,101])=(p=.num 7))/\((n=[114,101,116,114,121])=(p=.num 8))/\((n=[101,112,111,99,104])=(p=.num 9))/\((n=[98,97,115,101])=(p=.num 10))/\((n=[100,105,103,101,115,116])=(p=.num 11))/\((n=[108,97,103])=(p=.num 12))/\((n=[99,111,100,101])=(p=.num 13))/\((n=[119,97,110,116])=(p=.num 14)):=by and_intros<;>exact awG a rfl
def aiO{n:Q0}(h:placeOf n=none):((n=[114,101,109,97,105,110,105,110,103])=False)/\((n=[97,108,108,111,119,101,100])=False)/\((n=[110,97,109,101])=False)/\((n=[114,101,103,105,111,110])=False)/\((n=[110,111,116,101])=False)/\((n=[100,101,115,99,114])=False)/\((n=[116,97,98,108,101])=False)/\((n=[105,100])=False)/\((n=[109,105,110])=False)/\((n=[109,97,120])=False)/\((n=[99,104,111,115,101,110])=False)/\((n=[102,108,97,103,115])=False)/\((n=[99,111,115,116])=False)/\((n=[112,114,105,111,114,105,116,121])=False)/\((n=[100,101,97,100,108,105,110,101])=False)/\((n=[114,101,116,114,121])=False)/\((n=[101,112,111,99,104])=False)/\((n=[98,97,115,101])=False)/\((n=[100,105,103,101,115,116])=False)/\((n=[108,97,103])=False)/\((n=[99,111,100,101])=False)/\((n=[119,97,110,116])=False):=by and_intros<;>exact eq_false λe=>by subst e;exact absurd h aV
def OW{Q:(p:Pl)->IE p->Prop}(h0:Q (.rem) trivial)(h1:Q (.allow) trivial)(o:Q (.name) trivial)(q:Q (.region) trivial)(r:Q (.note) trivial)(h5:Q (.d) trivial)(h6:Q (.t) trivial)(s:Q (.num 0) (show 0<15 by decide))(t:Q (.num 1) (show 1<15 by decide))(u:Q (.num 2) (show 2<15 by decide))(b:Q (.num 3) (show 3<15 by decide))(c:Q (.num 4) (show 4<15 by decide))(d:Q (.num 5) (show 5<15 by decide))(e:Q (.num 6) (show 6<15 by decide))(f:Q (.num 7) (show 7<15 by decide))(g:Q (.num 8) (show 8<15 by decide))(h:Q (.num 9) (show 9<15 by decide))(i:Q (.num 10) (show 10<15 by decide))(j:Q (.num 11) (show 11<15 by decide))(l:Q (.num 12) (show 12<15 by decide))(m:Q (.num 13) (show 13<15 by decide))(n:Q (.num 14) (show 14<15 by decide))(p:Pl)(a:IE p):Q p a:=by
 cases p with
 |num k=>simp only[IE]at a;rcases(ah:k=0\/k=1\/k=2\/k=3\/k=4\/k=5\/k=6\/k=7\/k=8\/k=9\/k=10\/k=11\/k=12\/k=13\/k=14)with rfl|rfl|rfl|rfl|rfl|rfl|rfl|rfl|rfl|rfl|rfl|rfl|rfl|rfl|rfl<;>assumption
 |_=>assumption
def xK(a:Wa):Q1:=a.map λp=>.g [.s p,.b true]
def DL(a:Wa)(x:Q0):Wa:=if x∈a then a else a++[x]
def ZP(n:Q0):∀a:Wa,gZ (.s n) (xK a)=if n∈a then some (.b true)else none
 |[]=>rfl
 |p::a=>by
  have b:=ZP n a;simp only[xK,iU,gZ,rJ]at b⊢;by_cases e:n=p
  ·subst e;simp
  ·have c:¬p=n:=λh=>e h.symm;simp[e,b]
def ale(x:Q0):∀a:Wa,kH (.s x) (.b true) (xK a)=xK (DL a x)
 |[]=>rfl
 |p::a=>by
  have b:=ale x a;unfold DL at b⊢;simp only[xK,iU,kH,rJ]at b⊢;by_cases e:x=p
  ·subst e;simp
  ·have d:(x==p)=false:=by simpa using e
   simp only[d,iZ,if_false];rw[b];by_cases c:x∈a
   ·simp only[c,if_true,bI,or_true,iU]
   ·simp only[c,if_false,bI,e,or_false,bD,iU]
def BZ(a:Wa)(l:List dU):Wa:=l.foldl (λa s=>DL a s.name) a
def axG(n x:Q0)(a:Wa):n∈DL a x↔n∈a\/x=n:=by
 unfold DL;split
 ·next h=>exact⟨.inl,λe=>e.elim id (λe=>e▸h)⟩
 ·simp[eq_comm]
def ajJ(n:Q0):∀(l:List dU)(a:Wa),n∈BZ a l↔n∈a\/∃s∈l,s.name=n
 |[],a=>by simp[BZ]
 |s::l,a=>by have:=ajJ n l (DL a s.name);unfold BZ at this⊢;rw[List.foldl_cons,this,axG];simp[or_assoc]
def rF(l:List dU)(n:Q0):Bool:=l.any λs=>decide (s.name=n)
def axF(n:Q0)(l:List dU):decide (n∈BZ [] l)=rF l n:=by rw[zx,decide_eq_true_iff,ajJ];simp[rF]
def ajD(b:aQ)(r:Q1)(l:List dU)(f:l.length<=1000):∀(m i:Nat)(a:Wa),i+m=l.length->
 TT.lim 103 [.l (l.map gJ),.zq l.length,.zq i,.l (xK a),.zq b.kind,.zu b.id,.zu b.min,.zu b.max,.zu b.chosen,.zu b.flags,.zu b.cost,.zu b.priority,.zu b.deadline,.zu b.retry,.zu b.epoch,.zu b.base,.zu b.digest,.zu b.lag,.zu b.code,.zu b.want,.zq b.remaining,.b b.allowed,.s b.name,.s b.region,.s b.note,.l (b.d.map ent),.l (b.t.map row),.l r]=some [.zq 0,.l (xK (BZ a (l.drop i)))]
 |0,i,a,hi=>by have h0:l.drop i=[]:=iK;refine aB ?_;have h:¬((i:Int)<l.length):=ah;simp[h,h0,BZ]
 |m+1,i,a,hi=>by
  have d:i<l.length:=ah;have e:=ajD b r l f m (i+1) (DL a l[i].name) ah;have c:((i:Int)+1)=((i+1:Nat):Int):=ah;rw[<-c]at e;have g:=ale l[i].name a;have j:BZ a (l.drop i)=BZ (DL a l[i].name) (l.drop (i+1)):=by rw[iR d];rfl
  rw[j];generalize BZ (DL a l[i].name) (l.drop (i+1))=X,xK (DL a l[i].name)=Y at *;refine aB ?_;have h:((i:Int)<l.length):=ah;have k:=bH ((i:Int)+1);simp[h,d,k,g,e]
def anD(b:aQ)(r:Q1)(n:Q0)(c:Prop):Prop:=∀(f:GV)(a:Wa)(i:Nat)(e:Wa)(d:Q1)(h:i<a.length),((i:Int)<a.length)->IntKind.i64.wrap ((i:Int)+1)=(i:Int)+1->a[i]=n->gZ (.s n) (xK e)=none->
    TT.lim 105 [f,.l (a.map .s),.zq a.length,.zq ((i:Int)+1),.l (xK e),.zq b.kind,.zu b.id,.zu b.min,.zu b.max,.zu b.chosen,.zu b.flags,.zu b.cost,.zu b.priority,.zu b.deadline,.zu b.retry,.zu b.epoch,.zu b.base,.zu b.digest,.zu b.lag,.zu b.code,.zu b.want,.zq b.remaining,.b b.allowed,.s b.name,.s b.region,.s b.note,.l (b.d.map ent),.l (b.t.map row),.l r]=some d->
    (c->TT.lim 105 [f,.l (a.map .s),.zq a.length,.zq i,.l (xK e),.zq b.kind,.zu b.id,.zu b.min,.zu b.max,.zu b.chosen,.zu b.flags,.zu b.cost,.zu b.priority,.zu b.deadline,.zu b.retry,.zu b.epoch,.zu b.base,.zu b.digest,.zu b.lag,.zu b.code,.zu b.want,.zq b.remaining,.b b.allowed,.s b.name,.s b.region,.s b.note,.l (b.d.map ent),.l (b.t.map row),.l r]=some d)/\(¬c->TT.lim 105 [f,.l (a.map .s),.zq a.length,.zq i,.l (xK e),.zq b.kind,.zu b.id,.zu b.min,.zu b.max,.zu b.chosen,.zu b.flags,.zu b.cost,.zu b.priority,.zu b.deadline,.zu b.retry,.zu b.epoch,.zu b.base,.zu b.digest,.zu b.lag,.zu b.code,.zu b.want,.zq b.remaining,.b b.allowed,.s b.name,.s b.region,.s b.note,.l (b.d.map ent),.l (b.t.map row),.l r]=some [.zq 0])
def ajR:TT.lim 104 []=some [.l (iF.map .s)]:=D7 (Ds:=Ds) (k:=104) (f:=Xy) rfl rfl
def ayy(b:aQ){n:Q0}{p:Pl}(h:placeOf n=some p):oV b n=jq b p:=by unfold oV;rw[h]
set_option maxHeartbeats 4000000 in
def aEr(b:aQ)(r:Q1){n:Q0}{p:Pl}(c:placeOf n=some p):anD b r n (jq b p=true):=by
 intro o q i s l h d k e f g;have j:=WX c;have m:=(AX n p c).2.1;clear c;induction p,m using OW<;>(refine⟨λa=>jG rfl rfl ?_,λa=>jG rfl rfl ?_⟩<;>simp only[jq,qV,decide_eq_true_iff,yx]at a)
 all_goals first
  |(have a:=eq_true a;simp[d,h,e,k,f,a,j,g];done)
  |(rw[a]at g;simp[d,h,e,k,f,a,j,g];done)
  |(simp[d,h,e,f,a,j];done)
def ajE(b:aQ)(r:Q1)(l:GV)(a:Wa)(g:a.length<=1000)(j:∀n∈a,placeOf n≠none)(c:Wa):∀(m i:Nat),i+m=a.length->
 TT.lim 105 [l,.l (a.map .s),.zq a.length,.zq i,.l (xK c),.zq b.kind,.zu b.id,.zu b.min,.zu b.max,.zu b.chosen,.zu b.flags,.zu b.cost,.zu b.priority,.zu b.deadline,.zu b.retry,.zu b.epoch,.zu b.base,.zu b.digest,.zu b.lag,.zu b.code,.zu b.want,.zq b.remaining,.b b.allowed,.s b.name,.s b.region,.s b.note,.l (b.d.map ent),.l (b.t.map row),.l r]=some (if(a.drop i).all (λn=>decide (n∈c) ||oV b n)=true then[.zq 1]else[.zq 0])
 |0,i,hi=>by have h0:a.drop i=[]:=iK;refine aB ?_;have h:¬((i:Int)<a.length):=ah;simp[h,h0]
 |m+1,i,hi=>by
  have d:i<a.length:=ah;have o:=ajE b r l a g j c m (i+1) ah;have f:((i:Int)+1)=((i+1:Nat):Int):=ah;rw[<-f]at o;have u:(a.drop i).all (λn=>decide (n∈c) ||oV b n)=((decide (a[i]∈c) ||oV b a[i])&&(a.drop (i+1)).all (λn=>decide (n∈c) ||oV b n)):=by rw[iR d,uG]
  rw[u];generalize(a.drop (i+1)).all (λn=>decide (n∈c) ||oV b n)=X at *;by_cases e:a[i]∈c
  ·have k:=ZP a[i] c;rw[au e]at k;have v:((i:Int)<a.length):=ah;have w:=bH ((i:Int)+1);rw[JU e,Bool.true_or,Gw];refine aB ?_;simp[v,d,w,k,o]
  ·have k:=ZP a[i] c;rw[aj e]at k;obtain⟨p,q⟩:=anA.1 (j _ (iT d));have s:=ayy b q;obtain⟨x,y⟩:=aEr b r q l a i c _ d ah (bH ((i:Int)+1)) rfl k o;rw[ER e,Bl];cases t:oV b a[i]with
   |true=>rw[x (by rw[<-s];exact t),Gw]
   |false=>rw[y (by rw[<-s,t];decide),Zc];rfl
def Jj(b:aQ)(r:Q1)(k:Nat)(a:Q1):Prop:=TT.lim k [.zq b.kind,.zu b.id,.zu b.min,.zu b.max,.zu b.chosen,.zu b.flags,.zu b.cost,.zu b.priority,.zu b.deadline,.zu b.retry,.zu b.epoch,.zu b.base,.zu b.digest,.zu b.lag,.zu b.code,.zu b.want,.zq b.remaining,.b b.allowed,.s b.name,.s b.region,.s b.note,.l (b.d.map ent),.l (b.t.map row),.l r]=some a
def axB(b:aQ){n:Q0}{p:Pl}(h:placeOf n=some p):qA b n=nU b p:=by unfold qA;rw[h]
set_option maxHeartbeats 4000000 in
def axD(b:aQ)(r:Q1)(a:vZ b)(d:∀r∈b.t,jf r.1=true):(∀k∈[107,108,114,115,116,117,118,119,120,121,122,123,124,125,126,127,128],Jj b r k [.zq 0])/\Jj b r 109 [.zq 0,.zq (nU b .name)]/\Jj b r 110 [.zq 0,.zq (nU b .region)]/\Jj b r 111 [.zq 0,.zq (nU b .note)]/\Jj b r 112 [.zq 0,.zq (nU b .d)]/\Jj b r 113 [.zq 0,.zq (nU b .t)]:=by
 have f:=Hr b.name 0 256 a.name;have g:=Hr b.region 0 256 a.region;have h:=Hr b.note 0 256 a.note;have i:=aga b.d a.d;have j:=Vs b.t a.t d;refine⟨λk c=>?_,jG rfl rfl ?_,jG rfl rfl ?_,jG rfl rfl ?_,jG rfl rfl ?_,jG rfl rfl ?_⟩
 ·simp only[bI,List.not_mem_nil,or_false]at c;rcases c with rfl|rfl|rfl|rfl|rfl|rfl|rfl|rfl|rfl|rfl|rfl|rfl|rfl|rfl|rfl|rfl|rfl<;>(refine aB ?_;simp)
 ·simp[nU,f]
 ·simp[nU,g]
 ·simp[nU,h]
 ·by_cases e:b.d=[]
  ·simp[nU,e]
  ·have l:¬(List.map ent b.d)=[]:=by simpa using e
   have m:0<b.d.length:=MO.2 e;simp[nU,e,i]
 ·simp[nU,j]
def anE(b:aQ)(r:Q1)(n:Q0)(c:Int):Prop:=∀(l:List dU)(i:Nat)(a:Q1)(h:i<l.length),((i:Int)<l.length)->IntKind.i64.wrap ((i:Int)+1)=(i:Int)+1->l[i].name=n->
    TT.lim 106 [.l (l.map gJ),.zq l.length,.zq ((i:Int)+1),.zq b.kind,.zu b.id,.zu b.min,.zu b.max,.zu b.chosen,.zu b.flags,.zu b.cost,.zu b.priority,.zu b.deadline,.zu b.retry,.zu b.epoch,.zu b.base,.zu b.digest,.zu b.lag,.zu b.code,.zu b.want,.zq b.remaining,.b b.allowed,.s b.name,.s b.region,.s b.note,.l (b.d.map ent),.l (b.t.map row),.l r]=some a->
    TT.lim 106 [.l (l.map gJ),.zq l.length,.zq i,.zq b.kind,.zu b.id,.zu b.min,.zu b.max,.zu b.chosen,.zu b.flags,.zu b.cost,.zu b.priority,.zu b.deadline,.zu b.retry,.zu b.epoch,.zu b.base,.zu b.digest,.zu b.lag,.zu b.code,.zu b.want,.zq b.remaining,.b b.allowed,.s b.name,.s b.region,.s b.note,.l (b.d.map ent),.l (b.t.map row),.l r]=some (if c=0 then a else[.zq 0,.zq c])
set_option maxHeartbeats 4000000 in
def aEs(b:aQ)(r:Q1)(w:vZ b)(x:∀r∈b.t,jf r.1=true){n:Q0}{p:Pl}(k:placeOf n=some p):anE b r n (nU b p):=by
 intro l i y h m o q s;obtain⟨v,d,e,f,g,j⟩:=axD b r w x;simp only[List.forall_mem_cons,Jj]at v d e f g j;have t:=WX k;have z:=(AX n p k).2.1;clear k;generalize a:nU b p=c at s⊢;induction p,z using OW
 all_goals first
  |(obtain rfl:0=c:=a
    rw[au rfl];refine aB ?_;simp[m,h,q,o,t,v,s];done)
  |(simp only[a]at d e f g j
    by_cases u:c=0
    ·subst u;rw[au rfl];refine aB ?_;simp[m,h,q,o,t,d,e,f,g,j,s]
    ·rw[aj u];refine aB ?_;simp[m,h,q,o,t,d,e,f,g,j,u])
def kP(b:aQ):List dU->Int
 |[]=>0
 |s::l=>if qA b s.name=0 then kP b l else qA b s.name
def ajF(b:aQ)(r:Q1)(j:vZ b)(k:∀r∈b.t,jf r.1=true)(l:List dU)(d:l.length<=1000)(e:∀s∈l,placeOf s.name≠none):∀(m i:Nat),i+m=l.length->
 TT.lim 106 [.l (l.map gJ),.zq l.length,.zq i,.zq b.kind,.zu b.id,.zu b.min,.zu b.max,.zu b.chosen,.zu b.flags,.zu b.cost,.zu b.priority,.zu b.deadline,.zu b.retry,.zu b.epoch,.zu b.base,.zu b.digest,.zu b.lag,.zu b.code,.zu b.want,.zq b.remaining,.b b.allowed,.s b.name,.s b.region,.s b.note,.l (b.d.map ent),.l (b.t.map row),.l r]=some (if kP b (l.drop i)=0 then[.zq 1]else[.zq 0,.zq (kP b (l.drop i))])
 |0,i,hi=>by have h0:l.drop i=[]:=iK;refine aB ?_;have h:¬((i:Int)<l.length):=ah;simp[h,h0,kP]
 |m+1,i,hi=>by
  have a:i<l.length:=ah;have n:=ajF b r j k l d e m (i+1) ah;have c:((i:Int)+1)=((i+1:Nat):Int):=ah;rw[<-c]at n;obtain⟨p,o⟩:=anA.1 (e _ (iT a));have:=aEs b r j k o l i _ a ah (bH ((i:Int)+1)) rfl n;rw[<-axB b o]at this;rw[this,iR a];by_cases f:qA b l[i].name=0
  ·have g:kP b (l[i]::l.drop (i+1))=kP b (l.drop (i+1)):=by simp only[kP,f,if_true]
   rw[au f,g]
  ·have g:kP b (l[i]::l.drop (i+1))=qA b l[i].name:=by simp only[kP,f,if_false]
   rw[aj f,g,aj f]
def hasTag(l:List dU)(t:Int):Bool:=l.any λs=>decide (t=s.tag)
def ajH(l:List dU)(c:l.length<=1000)(e f g:GV)(t:Int)(j k n d:GV):∀(m i:Nat),i+m=l.length->
 TT.lim 134 [.l (l.map gJ),e,f,g,.zq l.length,.zq i,.zu t,j,k,n,d]=some (if hasTag (l.drop i) t=true then[.zq 0]else[.zq 1])
 |0,i,hi=>by have h0:l.drop i=[]:=iK;refine aB ?_;have h:¬((i:Int)<l.length):=ah;simp[h,h0,hasTag]
 |m+1,i,hi=>by
  have a:i<l.length:=ah;have o:=ajH l c e f g t j k n d m (i+1) ah;have b:((i:Int)+1)=((i+1:Nat):Int):=ah;rw[<-b]at o;have p:((i:Int)<l.length):=ah;have r:=bH ((i:Int)+1);have s:hasTag (l.drop i) t=(decide (t=l[i].tag) ||hasTag (l.drop (i+1)) t):=by rw[iR a];rfl
  rw[s];generalize hasTag (l.drop (i+1)) t=X at *;refine aB ?_;by_cases q:t=l[i].tag
  ·simp[p,a,q]
  ·simp[p,a,q,r,o]
def ajG(l:List dU)(c:l.length<=1000)(a:List aK)(o:a.length<=1000000):∀(m i:Nat),i+m=a.length->
 TT.lim 133 [.l (l.map gJ),.l (aI a),.zq a.length,.zq i]=some (if(a.drop i).any (λf=>hasTag l f.tag)=true then[.zq 0]else[.zq 1])
 |0,i,hi=>by have h0:a.drop i=[]:=iK;refine aB ?_;have h:¬((i:Int)<a.length):=ah;simp[h,h0]
 |m+1,i,hi=>by
  have g:i<a.length:=ah;have q:=ajG l c a o m (i+1) ah;have d:((i:Int)+1)=((i+1:Nat):Int):=ah;rw[<-d]at q;have r:((i:Int)<a.length):=ah;have v:=bH ((i:Int)+1);have u:(a.drop i).any (λf=>hasTag l f.tag)=(hasTag l a[i].tag ||(a.drop (i+1)).any (λf=>hasTag l f.tag)):=by rw[iR g,aeH]
  rw[u];have b:(aI a)[i]? =some (rC a[i]):=by rw[DI,jy,bZ g];rfl
  clear u;obtain⟨t,y,n,s,k,p⟩:∃t y n s k,a[i]=aK.mk t y n s k:=by
   cases a[i]with
   |mk t y n s k=>exact⟨_,_,_,_,_,rfl⟩
  rw[p]at b⊢;rw[show(aK.mk t y n s k).tag=t from rfl];have j:TT.lim 134 [.l (l.map gJ),.l (aI a),.zq a.length,.zq i,.zq l.length,.zq 0,.zu t,.zq y,.zu n,.s s,.l (aI k)]=_:=ajH l c _ _ _ t _ _ _ _ l.length 0 ah;rw[dY]at j;refine aB ?_;by_cases e:hasTag l t=true
  ·rw[au e]at j;simp[-List.any_eq_true,r,b,j,e]
  ·rw[aj e]at j;have e:hasTag l t=false:=by simpa using e
   simp[-List.any_eq_true,r,b,j,v,q,e]
def EJ(b:aQ):Int:=
 if b.kind=1 then(if b.min<1 then 18 else if b.max<b.min then 18 else if 255<b.max then 18 else 0)
 else if b.kind=2 then(if b.chosen<1 then 18 else if 255<b.chosen then 18 else 0)
 else if b.kind=3 then(if b.d=[]then 12 else 0)
 else if b.kind=5 then(if b.epoch<1 then 18 else 0)
 else if b.kind=6 then(if b.base<1 then 18 else if b.epoch<=b.base then 20 else 0)
 else 0
def O7(b:List dU)(a:List aK):Int:=if jR 0 0 a≠0 then jR 0 0 a else if a.any (λf=>hasTag b f.tag)=true then 14 else 0
def fC(b:aQ)(a:List aK)(v:Int):Int:=
 if v<1 then 16 else if 3<v then 16 else
 if aT b.kind v=[]then 15 else
 if iF.all (λn=>rF (aT b.kind v) n ||oV b n)=false then 26 else
 if kP b (aT b.kind v)≠0 then kP b (aT b.kind v)else
 if EJ b≠0 then EJ b else O7 (aT b.kind v) a
def ayn:∀n∈iF,placeOf n≠none:=aV
def ai3(k v:Int):∀s∈aT k v,placeOf s.name≠none:=by
 have a:∀s∈Ac k,placeOf s.name≠none:=by
  unfold Ac;repeat' split
  all_goals first|(unfold sp1;decide)|(unfold sp2;decide)|(unfold F9;decide)|(unfold Gf;decide)|(unfold Gg;decide)|(unfold Gh;decide)|(unfold Gi;decide)|(unfold Gj;decide)|(intro s b;cases b)
 intro s b;exact a s (C9.1 b).1
def FB(k v:Int):(aT k v).length<=8:=kW (Zk _ _) (aD3 k)
set_option maxHeartbeats 4000000 in
def abX(b:aQ)(u:List aK)(v:Int)(Z:vZ b)(hf:∀r∈b.t,jf r.1=true)(S:fD u)(I:u.length<=1000000):TT.lim 91 [jh b (aI u),.zq v]=some [.zq (fC b u v)]:=by
 have q:=abC b.kind;refine aW ?_;unfold fC;by_cases m:v<1
 ·simp[m]
 by_cases o:3<v
 ·simp[m,o]
 rw[aj m,aj o];have G:=ai2 b.kind v ah ah;by_cases p:qQ b.kind=0
 ·rw[au (G.2 (.inl p))];rw[p]at q;simp[m,o,q]
 by_cases s:v<qQ b.kind
 ·rw[au (G.2 (.inr s))];simp[m,o,q,p,s]
 rw[aj (λe=>(G.1 e).elim p s)];have g:=Xf b.kind v ah ah ah;have T:=ai3 b.kind v;have aa:=FB b.kind v;clear G;generalize aT b.kind v=y at *;have h:=ajR;have U:=ajD b (aI u) y ah y.length 0 [] ah;have P:=ajE b (aI u) (.l (y.map gJ)) iF aV ayn (BZ [] y) iF.length 0 ah;have V:=ajF b (aI u) Z hf y ah T y.length 0 ah;have Q:=ajG y ah u I u.length 0 ah;have z:=V3 u S I;rw[dY]at U P V Q;simp only[axF]at P;have ab:(iF.map GV.s).length=iF.length:=gB _;have X:=qP u;rw[<-X]at Q;generalize hX:BZ [] y=Y at *;have i:TT.lim 103 [.l (y.map gJ),.zq y.length,.zq 0,.l [],.zq b.kind,.zu b.id,.zu b.min,.zu b.max,.zu b.chosen,.zu b.flags,.zu b.cost,.zu b.priority,.zu b.deadline,.zu b.retry,.zu b.epoch,.zu b.base,.zu b.digest,.zu b.lag,.zu b.code,.zu b.want,.zq b.remaining,.b b.allowed,.s b.name,.s b.region,.s b.note,.l (b.d.map ent),.l (b.t.map row),.l (aI u)]=some [.zq 0,.l (xK Y)]:=U;clear U;have a:TT.lim 105 [.l (y.map gJ),.l (iF.map .s),.zq iF.length,.zq 0,.l (xK Y),.zq b.kind,.zu b.id,.zu b.min,.zu b.max,.zu b.chosen,.zu b.flags,.zu b.cost,.zu b.priority,.zu b.deadline,.zu b.retry,.zu b.epoch,.zu b.base,.zu b.digest,.zu b.lag,.zu b.code,.zu b.want,.zq b.remaining,.b b.allowed,.s b.name,.s b.region,.s b.note,.l (b.d.map ent),.l (b.t.map row),.l (aI u)]=_:=P;clear P;have d:TT.lim 106 [.l (y.map gJ),.zq y.length,.zq 0,.zq b.kind,.zu b.id,.zu b.min,.zu b.max,.zu b.chosen,.zu b.flags,.zu b.cost,.zu b.priority,.zu b.deadline,.zu b.retry,.zu b.epoch,.zu b.base,.zu b.digest,.zu b.lag,.zu b.code,.zu b.want,.zq b.remaining,.b b.allowed,.s b.name,.s b.region,.s b.note,.l (b.d.map ent),.l (b.t.map row),.l (aI u)]=_:=V;clear V;have j:TT.lim 133 [.l (y.map gJ),.l (aI u),.zq (aI u).length,.zq 0]=_:=Q;clear Q;have J:O7 y u=if jR 0 0 u≠0 then jR 0 0 u else if u.any (λf=>hasTag y f.tag)=true then 14 else 0:=rfl
 generalize(iF.all λn=>rF y n ||oV b n)=A,kP b y=M,jR 0 0 u=L,(u.any λf=>hasTag y f.tag)=W,O7 y u=R at *;generalize iF=NL at *;have ac:∀(x:GV),True:=λ_=>trivial;cases A with
 |false=>simp only[iZ,if_false]at a;simp[m,o,q,p,s,g,h,i,a]
 |true=>
 simp only[if_true]at a;by_cases N:M=0;rotate_left
 ·rw[aj N]at d;simp[m,o,q,p,s,g,h,i,a,d,N]
 rw[au N]at d;rw[aj aA,aj (by simp[N])];clear N;have ad:∀(c:Int),EJ b=c->c≠0->True:=λ_ _ _=>trivial;unfold EJ;by_cases k:b.kind=1
 ·have k:=eq_true k;by_cases l:b.min<1
  ·simp[m,o,q,p,s,g,h,i,a,d,k,l]
  by_cases D:b.max<b.min
  ·simp[m,o,q,p,s,g,h,i,a,d,k,l,D]
  by_cases O:255<b.max
  ·simp[m,o,q,p,s,g,h,i,a,d,k,l,D,O]
  simp only[k,l,D,O,if_true,if_false,ne_eq,not_true_eq_false];rw[J];by_cases E:L=0
  ·subst E;cases W with
   |true=>simp only[if_true]at j;simp[m,o,q,p,s,g,h,i,a,d,k,l,D,O,z,j]
   |false=>simp only[iZ,if_false]at j;simp[m,o,q,p,s,g,h,i,a,d,k,l,D,O,z,j]
  ·simp[m,o,q,p,s,g,h,i,a,d,k,l,D,O,z,E]
 by_cases t:b.kind=2
 ·have t:=eq_true t;by_cases l:b.chosen<1
  ·simp[m,o,q,p,s,g,h,i,a,d,k,t,l]
  by_cases D:255<b.chosen
  ·simp[m,o,q,p,s,g,h,i,a,d,k,t,l,D]
  simp only[k,t,l,D,if_true,if_false,ne_eq,not_true_eq_false];rw[J];by_cases E:L=0
  ·subst E;cases W with
   |true=>simp only[if_true]at j;simp[m,o,q,p,s,g,h,i,a,d,k,t,l,D,z,j]
   |false=>simp only[iZ,if_false]at j;simp[m,o,q,p,s,g,h,i,a,d,k,t,l,D,z,j]
  ·simp[m,o,q,p,s,g,h,i,a,d,k,t,l,D,z,E]
 by_cases w:b.kind=3
 ·have w:=eq_true w;by_cases l:b.d=[]
  ·have l:=eq_true l;simp[m,o,q,p,s,g,h,i,a,d,k,t,w,l]
  simp only[k,t,w,l,if_true,if_false,ne_eq,not_true_eq_false];rw[J];by_cases E:L=0
  ·subst E;cases W with
   |true=>simp only[if_true]at j;simp[m,o,q,p,s,g,h,i,a,d,k,t,w,l,z,j]
   |false=>simp only[iZ,if_false]at j;simp[m,o,q,p,s,g,h,i,a,d,k,t,w,l,z,j]
  ·simp[m,o,q,p,s,g,h,i,a,d,k,t,w,l,z,E]
 by_cases F:b.kind=5
 ·have F:=eq_true F;by_cases l:b.epoch<1
  ·simp[m,o,q,p,s,g,h,i,a,d,k,t,w,F,l]
  simp only[k,t,w,F,l,if_true,if_false,ne_eq,not_true_eq_false];rw[J];by_cases E:L=0
  ·subst E;cases W with
   |true=>simp only[if_true]at j;simp[m,o,q,p,s,g,h,i,a,d,k,t,w,F,l,z,j]
   |false=>simp only[iZ,if_false]at j;simp[m,o,q,p,s,g,h,i,a,d,k,t,w,F,l,z,j]
  ·simp[m,o,q,p,s,g,h,i,a,d,k,t,w,F,l,z,E]
 by_cases H:b.kind=6
 ·have H:=eq_true H;by_cases l:b.base<1
  ·simp[m,o,q,p,s,g,h,i,a,d,k,t,w,F,H,l]
  by_cases D:b.epoch<=b.base
  ·simp[m,o,q,p,s,g,h,i,a,d,k,t,w,F,H,l,D]
  simp only[k,t,w,F,H,l,D,if_true,if_false,ne_eq,not_true_eq_false];rw[J];by_cases E:L=0
  ·subst E;cases W with
   |true=>simp only[if_true]at j;simp[m,o,q,p,s,g,h,i,a,d,k,t,w,F,H,l,D,z,j]
   |false=>simp only[iZ,if_false]at j;simp[m,o,q,p,s,g,h,i,a,d,k,t,w,F,H,l,D,z,j]
  ·simp[m,o,q,p,s,g,h,i,a,d,k,t,w,F,H,l,D,z,E]
 simp only[k,t,w,F,H,if_false,ne_eq,not_true_eq_false];rw[J];by_cases E:L=0
 ·subst E;cases W with
  |true=>simp only[if_true]at j;simp[m,o,q,p,s,g,h,i,a,d,k,t,w,F,H,z,j]
  |false=>simp only[iZ,if_false]at j;simp[m,o,q,p,s,g,h,i,a,d,k,t,w,F,H,z,j]
 ·simp[m,o,q,p,s,g,h,i,a,d,k,t,w,F,H,z,E]
def ad8(n:Q0):Int:=match placeOf n with
 |some p=>aFp p
 |none=>-1
def awS(k v:Int):∀s∈aT k v,placeOf s.name≠none/\s.use=ad8 s.name:=by
 have a:∀s∈Ac k,placeOf s.name≠none/\s.use=ad8 s.name:=by
  unfold Ac;repeat' split
  all_goals first|(unfold sp1;decide)|(unfold sp2;decide)|(unfold F9;decide)|(unfold Gf;decide)|(unfold Gg;decide)|(unfold Gh;decide)|(unfold Gi;decide)|(unfold Gj;decide)|(intro s b;cases b)
 intro s b;exact a s (C9.1 b).1
def aF4(x:Int)(h0: -9223372036854775808<=x)(h1:x<=9223372036854775807):∃u w:Int,IntKind.u64.wrap x=u/\IntKind.u64.wrap (x.fdiv (2^63))=w/\dw .xor .u64 (IntKind.u64.wrap (u*2^1)) w=some (.zu (zz x)):=by
 have a:∀y:Int,IntKind.u64.wrap y=y%18446744073709551616:=λy=>by simp[IntKind.wrap,IntKind.signed,IntKind.bits]
 refine⟨_,_,rfl,rfl,?_⟩;rw[a,a,a];unfold zz;have e:IntKind.u64.bits=64:=rfl;by_cases h:0<=x
 ·have b:x.fdiv (2^63)=0:=by rw[Gy _ aV];exact Int.ediv_eq_zero_of_lt h ah
  rw[b,au h];have c:x%18446744073709551616*2^1%18446744073709551616=2*x:=ah;rw[c];simp only[dw,a,e];have d:(BitVec.ofInt 64 (2*x) ^^^ BitVec.ofInt 64 (0%18446744073709551616))=BitVec.ofInt 64 (2*x):=by have:BitVec.ofInt 64 (0%18446744073709551616)=0#64:=rfl;rw[this,BitVec.xor_zero]
  show some (GV.i IntKind.u64 (((BitVec.ofInt 64 (2*x) ^^^ BitVec.ofInt 64 (0%18446744073709551616)).toNat:Int)%18446744073709551616))=_
  rw[d,wo];congr 2;omega
 ·have b:x.fdiv (2^63) = -1:=by rw[Gy _ aV];omega
  rw[b,aj h];have c:x%18446744073709551616*2^1%18446744073709551616=2*x+18446744073709551616:=ah;rw[c];simp only[dw,a,e];have d:(BitVec.ofInt 64 (2*x+18446744073709551616) ^^^ BitVec.ofInt 64 (-1%18446744073709551616)) = ~~~ BitVec.ofInt 64 (2*x+18446744073709551616):=by have:BitVec.ofInt 64 (-1%18446744073709551616)=BitVec.allOnes 64:=aV;rw[this,aes]
  show some (GV.i IntKind.u64 (((BitVec.ofInt 64 (2*x+18446744073709551616) ^^^ BitVec.ofInt 64 (-1%18446744073709551616)).toNat:Int)%18446744073709551616))=_
  rw[d,aep,wo];congr 2;omega
def afd(b:aQ)(r:Q1)(n:Q0)(p:Pl):Prop:=TT.lim 136 [jh b r,.s n]=some [.g [.zu 0,.zq (dZ p),.zu (bg b p).1,.s (bg b p).2,.l []],.b true]
set_option maxHeartbeats 4000000 in
def ayc(b:aQ)(r:Q1)(d:vZ b){n:Q0}{p:Pl}(j:p=.d->jf b.d=true)(k:p=.t->zy b.t)(f:placeOf n=some p):afd b r n p:=by
 have a:=WX f;have c:=(AX n p f).2.1;unfold afd;clear f;induction p,c using OW
 case h0=>obtain⟨u,w,h1,g,h⟩:=aF4 b.remaining d.remaining.1 d.remaining.2;have g:IntKind.u64.wrap (b.remaining.fdiv 9223372036854775808)=w:=g;have h:dw .xor .u64 (IntKind.u64.wrap (u*2)) w=some (.zu (zz b.remaining)):=h;refine aW ?_;simp[a,kT,h1,g,h,IntKind.bits,dZ,bg]
 case h1=>refine aW ?_;cases l:b.allowed<;>simp[a,dZ,bg,l]
 case h5=>
  have c:=DN b.d (j rfl);refine aW ?_;by_cases e:b.d=[]
  ·have i:=eq_true e;simp[a,dZ,bg,i]
  ·simp[a,dZ,bg,e,c]
 case h6=>
  have c:=awT b.t d.t (k rfl);refine aW ?_;by_cases e:b.t=[]
  ·have i:=eq_true e;simp[a,dZ,bg,i]
  ·simp[a,dZ,bg,e,c]
 all_goals
  refine aW ?_;simp[a,dZ,bg,qV]
def ayf(b:aQ)(r:Q1){n:Q0}(a:placeOf n=none):TT.lim 136 [jh b r,.s n]=some [.g [.zu 0,.zq 0,.zu 0,.s [],.l []],.b false]:=by have c:=aiO a;refine aW ?_;simp[c]
