/- What the trees compute: plain laws. -/
import Derived.Test.YtcnekfnipdihgaaGreatDoorKVe1
set_option linter.all false
namespace Go.Proofs.YtcnekfnipdihgaaGreatDoor
open Go Go.aP
set_option maxRecDepth 100000
namespace V
def fK(s:Q2):Q2×Nat×Int:=
 if(aF s).2.2≠0 then([],0,(aF s).2.2)else
 if s.length-(aF s).2.1<(aF s).1 then([],0,1)else
 ((s.drop (aF s).2.1).take (aF s).1,(aF s).2.1+(aF s).1,0)
def YH{s:Q2}(h:(fK s).2.2=0):1<=(fK s).2.1/\(fK s).2.1<=s.length/\(fK s).1.length<=s.length:=by
 unfold fK at h⊢;by_cases a:(aF s).2.2=0;rotate_left
 ·rw[au a]at h;exact absurd h a
 rw[aj (λe=>e a)]at h⊢;obtain⟨c,d,f,g,i⟩:=lN a;by_cases b:s.length-(aF s).2.1<(aF s).1
 ·rw[au b]at h;cases h
 rw[aj b];simp only[lZ,fP];omega
def amm(t:Q2)(a:Nat)(h:a<=t.length)(v:t.length<=100000000):
 ∃at2:Nat,TT.lim 195 [.s t,.zq a]=some [.zq 0,.s (fK (t.drop a)).1,.zq (fK (t.drop a)).2.2,.s t,.zq at2]/\((fK (t.drop a)).2.2=0->at2=a+(fK (t.drop a)).2.1):=by
 have d:=DZ t a h ah;unfold fK;by_cases b:(aF (t.drop a)).2.2=0;rotate_left
 ·obtain⟨j,k⟩:=LC b;rw[j,k]at d;rw[au b];generalize(aF (t.drop a)).2.2=e at *;refine⟨a,jC rfl rfl ?_,λh=>absurd h b⟩;simp[d,b]
 obtain⟨w,x,l,y,_⟩:=lN b;rw[aj (λe=>e b)];rw[b]at d;rw[fP]at l⊢;rw[rZ];generalize(aF (t.drop a)).1=n,(aF (t.drop a)).2.1=i at *;have w1:=bI ((t.length:Int)-((a:Int)+(i:Int)));have f:=jL ((t.length:Int)-((a:Int)+(i:Int)));simp only[F6]at d;by_cases g:t.length-a-i<n
 ·have c:(t.length:Int)-((a:Int)+(i:Int))<(n:Int):=ah;rw[au g];refine⟨a+i,jC rfl rfl ?_,λh=>by cases h⟩;simp[d,w1,f,c]
 ·have c:¬(t.length:Int)-((a:Int)+(i:Int))<(n:Int):=ah;rw[aj g];have m:=bI ((n:Int));have o:=bI ((a:Int)+(i:Int)+(n:Int));have p:((t.take (a+i+n)).drop (a+i))=(t.drop (a+i)).take n:=by rw[LW];congr 1;omega
  have q:(a:Int)+(i:Int)<=(a:Int)+(i:Int)+(n:Int)/\(a:Int)+(i:Int)+(n:Int)<=t.length:=ah;have r:(0:Int)<=(a:Int)+(i:Int):=ah;have s:((a:Int)+(i:Int)+(n:Int)).toNat=a+i+n:=ah;have u:((a:Int)+(i:Int)).toNat=a+i:=ah;generalize(t.drop (a+i)).take n=X at *;refine⟨a+i+n,jC rfl rfl ?_,λ_=>by simp only;omega⟩;simp[d,w1,f,m,o,c,q,r,s,u,p]
def eH(s:Q2):dU×Nat×Int:=
 if(fK s).2.2≠0 then(([],[]),0,(fK s).2.2)else
 if(fK (s.drop (fK s).2.1)).2.2≠0 then(([],[]),0,(fK (s.drop (fK s).2.1)).2.2)else
 if uF ((fK s).1,(fK (s.drop (fK s).2.1)).1)≠0 then(([],[]),0,uF ((fK s).1,(fK (s.drop (fK s).2.1)).1))else
 (((fK s).1,(fK (s.drop (fK s).2.1)).1),(fK s).2.1+(fK (s.drop (fK s).2.1)).2.1,0)
def VH{s:Q2}(h:(eH s).2.2=0):2<=(eH s).2.1/\(eH s).2.1<=s.length/\uF (eH s).1=0/\(eH s).1.1.length<=s.length/\(eH s).1.2.length<=s.length/\
 (fK s).2.2=0/\(fK (s.drop (fK s).2.1)).2.2=0/\(eH s).1=((fK s).1,(fK (s.drop (fK s).2.1)).1)/\(eH s).2.1=(fK s).2.1+(fK (s.drop (fK s).2.1)).2.1:=by
 unfold eH at h⊢;by_cases a:(fK s).2.2=0;rotate_left
 ·rw[au a]at h;exact absurd h a
 rw[aj (λe=>e a)]at h⊢;by_cases b:(fK (s.drop (fK s).2.1)).2.2=0;rotate_left
 ·rw[au b]at h;exact absurd h b
 rw[aj (λe=>e b)]at h⊢;by_cases c:uF ((fK s).1,(fK (s.drop (fK s).2.1)).1)=0;rotate_left
 ·rw[au c]at h;exact absurd h c
 rw[aj (λe=>e c)];obtain⟨i,j,d⟩:=YH a;obtain⟨k,f,g⟩:=YH b;rw[fP]at f g;exact⟨by simp only;omega,by simp only;omega,c,d,by simp only;omega,a,b,rfl,rfl⟩
def as3(t:Q2)(a:Nat)(h:a<=t.length)(l:t.length<=100000000):
 ∃at2:Nat,TT.lim 194 [.s t,.zq a]=some [.zq 0,.s (eH (t.drop a)).1.1,.s (eH (t.drop a)).1.2,.zq (eH (t.drop a)).2.2,.s t,.zq at2]/\((eH (t.drop a)).2.2=0->at2=a+(eH (t.drop a)).2.1):=by
 obtain⟨p,f,j⟩:=amm t a h l;unfold eH;by_cases b:(fK (t.drop a)).2.2=0;rotate_left
 ·rw[au b];generalize fK (t.drop a)=A at *;refine⟨p,jC rfl rfl ?_,λh=>absurd h b⟩;simp[f,b]
 have j:=j b;obtain⟨u,n,o⟩:=YH b;rw[fP]at n o;have k:(t.drop a).drop (fK (t.drop a)).2.1=t.drop p:=by rw[rZ,j]
 obtain⟨q,i,m⟩:=amm t p ah l;rw[aj (λe=>e b),k];rw[b]at f;by_cases c:(fK (t.drop p)).2.2=0;rotate_left
 ·rw[au c];generalize fK (t.drop a)=A,fK (t.drop p)=B at *;refine⟨q,jC rfl rfl ?_,λh=>absurd h c⟩;simp[f,i,c]
 have m:=m c;obtain⟨v,r,s⟩:=YH c;rw[fP]at r s;rw[aj (λe=>e c)];rw[c]at i;have kc:=ag7 ((fK (t.drop a)).1,(fK (t.drop p)).1) (by simp only;omega) (by simp only;omega);have d:TT.lim 41 [.g [.s (fK (t.drop a)).1,.s (fK (t.drop p)).1]]=_:=kc;generalize fK (t.drop a)=A,fK (t.drop p)=B at *;by_cases g:uF (A.1,B.1)=0;rotate_left
 ·rw[au g];refine⟨q,jC rfl rfl ?_,λh=>absurd h g⟩;generalize uF (A.1,B.1)=E at *;simp[f,i,d,g]
 ·rw[aj (λe=>e g)];rw[g]at d;refine⟨q,jC rfl rfl ?_,λ_=>by simp only;omega⟩;simp[f,i,d]
def Ba(p:Option dU)(x:dU):Int:=match p with
 |none=>0
 |some k=>zV k.1 x.1
def gW:Nat->Option dU->List UInt8->List dU×Nat×Int
 |0,_,_=>([],0,0)
 |m+1,p,s=>if(eH s).2.2≠0 then([],0,(eH s).2.2)else
  if Ba p (eH s).1≠0 then([],0,Ba p (eH s).1)else
  if(gW m (some (eH s).1) (s.drop (eH s).2.1)).2.2≠0 then([],0,(gW m (some (eH s).1) (s.drop (eH s).2.1)).2.2)else
  ((eH s).1::(gW m (some (eH s).1) (s.drop (eH s).2.1)).1,(eH s).2.1+(gW m (some (eH s).1) (s.drop (eH s).2.1)).2.1,0)
def Vy(m:Nat)(p:Option dU)(s:Q2):gW (m+1) p s=if(eH s).2.2≠0 then([],0,(eH s).2.2)else
 if Ba p (eH s).1≠0 then([],0,Ba p (eH s).1)else
 if(gW m (some (eH s).1) (s.drop (eH s).2.1)).2.2≠0 then([],0,(gW m (some (eH s).1) (s.drop (eH s).2.1)).2.2)else
 ((eH s).1::(gW m (some (eH s).1) (s.drop (eH s).2.1)).1,(eH s).2.1+(gW m (some (eH s).1) (s.drop (eH s).2.1)).2.1,0):=rfl
def Dv(a:List dU)(t:Q2)(at2:Nat)(r:List dU×Nat×Int):Q3:=if r.2.2≠0 then[.zq 0,.zq r.2.2,.s t,.zq at2]else[.zq 1,.l ((a++r.1).map ent),.s t,.zq at2]
def asT(L:Q3)(n i a at2:Int)(t:Q2)(x:dU)(e:Int)(h:i<n)(b:¬e=0)
 (k:TT.lim 194 [.s t,.zq a]=some [.zq 0,.s x.1,.s x.2,.zq e,.s t,.zq at2]):
 TT.lim 193 [.l L,.zq n,.zq i,.s t,.zq a]=some [.zq 0,.zq e,.s t,.zq at2]:=by
 refine aB ?_;simp[h,k,b]
def asQ(L:Q3)(n a at2:Int)(t:Q2)(x:dU)(R:Q3)(h:0<n)(b:2*(L.length+1)*32<=281474976710656/\L.length+1<=281474976710656)
 (k:TT.lim 194 [.s t,.zq a]=some [.zq 0,.s x.1,.s x.2,.zq 0,.s t,.zq at2])
 (c:TT.lim 193 [.l (L++[ent x]),.zq n,.zq 1,.s t,.zq at2]=some R):
 TT.lim 193 [.l L,.zq n,.zq 0,.s t,.zq a]=some R:=by
 have d:GV.g [.s x.1,.s x.2]=ent x:=rfl;have w1:=bI 1;refine aB ?_;simp[h,k,d,GV.gu,b,w1,c]
def asR(L:Q3)(n:Int)(i:Nat)(a at2:Int)(t:Q2)(p x:dU)(h:(i:Int)+1<n)(hi:i+1<=100000000)(g:L.length=i+1)(e:L[i]? =some (ent p))(j:¬zV p.1 x.1=0)
 (k:TT.lim 194 [.s t,.zq a]=some [.zq 0,.s x.1,.s x.2,.zq 0,.s t,.zq at2]):
 TT.lim 193 [.l L,.zq n,.zq ((i:Int)+1),.s t,.zq a]=some [.zq 0,.zq (zV p.1 x.1),.s t,.zq at2]:=by
 have l:(0:Int)<(i:Int)+1:=ah;have b:(i:Int)<(i:Int)+1:=ah;have w:=bI ((i:Int));have c:L[i]'(by omega)=ent p:=by have:=e;rw[bV ah]at this;exact IZ this
 unfold zV at j⊢;by_cases d:x.1=p.1
 ·have f:(x.1=p.1)=True:=eq_true d;clear d;refine aB ?_;simp[h,k,l,b,w,g,e,c,f]
 ·by_cases m:Op.bytesLess x.1 p.1=true
  ·refine aB ?_;simp[h,k,l,b,w,g,e,c,d,m]
  ·simp[d,m]at j
def asU(L:Q3)(n:Int)(i:Nat)(b at2:Int)(t:Q2)(p x:dU)(R:Q3)(h:(i:Int)+1<n)(hi:i+1<=100000000)(o:(i:Int)<L.length)(q:L.length<=100000000)(l:L[i]? =some (ent p))(a:zV p.1 x.1=0)
 (k:TT.lim 194 [.s t,.zq b]=some [.zq 0,.s x.1,.s x.2,.zq 0,.s t,.zq at2])
 (r:TT.lim 193 [.l (L++[ent x]),.zq n,.zq ((i:Int)+1+1),.s t,.zq at2]=some R):
 TT.lim 193 [.l L,.zq n,.zq ((i:Int)+1),.s t,.zq b]=some R:=by
 have s:(0:Int)<(i:Int)+1:=ah;have d:(i:Int)<(i:Int)+1:=ah;have w:=bI ((i:Int));have u:=bI ((i:Int)+1+1);have c:i<L.length:=ah;have f:L[i]=ent p:=by have:=l;rw[bV c]at this;exact IZ this
 have v:GV.g [.s x.1,.s x.2]=ent x:=rfl;have g:2*(L.length+1)*32<=281474976710656/\L.length+1<=281474976710656:=ah;unfold zV at a;have m:¬x.1=p.1:=by intro e;rw[au e]at a;exact absurd a aU
 rw[aj m]at a;have j:¬Op.bytesLess x.1 p.1=true:=by intro e;rw[au e]at a;exact absurd a aU
 have j:Op.bytesLess x.1 p.1=false:=by simpa using j
 refine aB ?_;simp[h,k,s,d,w,u,o,c,l,f,m,j,v,GV.gu,g,r]
def awH(b:List dU)(p:Option dU):Prop:=(b=[]/\p=none)\/∃a x,b=a++[x]/\p=some x
def agM(t:Q2)(B:t.length<=100000000)(n:Nat)(E:n<=1000):∀(m:Nat)(c:List dU)(p:Option dU)(b:Nat),c.length+m=n->awH c p->b<=t.length->
 ∃at2:Nat,TT.lim 193 [.l (c.map ent),.zq n,.zq c.length,.s t,.zq b]=some (Dv c t at2 (gW m p (t.drop b)))/\((gW m p (t.drop b)).2.2=0->at2=b+(gW m p (t.drop b)).2.1)
 |0,c,p,b,hi,D,h=>by have s:¬((c.length:Int)<(n:Int)):=ah;refine⟨b,?_,λ_=>by simp[gW]⟩;have q:(c.map ent).length=c.length:=aA;unfold gW Dv;simp only[ne_eq,not_true_eq_false,if_false,lQ];generalize c.map ent=L at *;refine aB ?_;simp[s]
 |m+1,c,p,b,hi,D,h=>by
  obtain⟨at2,k,u⟩:=as3 t b h B;rw[Vy];by_cases g:(eH (t.drop b)).2.2=0;rotate_left
  ·rw[au g];refine⟨at2,?_,λh=>absurd h g⟩;have:Dv c t at2 ([],0,(eH (t.drop b)).2.2)=[.zq 0,.zq (eH (t.drop b)).2.2,.s t,.zq at2]:=by unfold Dv;rw[au g]
   rw[this];exact asT _ _ _ _ _ _ _ _ ah g k
  rw[aj (λe=>e g)];rw[g]at k;have u:=u g;obtain⟨H,F,_⟩:=VH g;rw[fP]at F;have v:(t.drop b).drop (eH (t.drop b)).2.1=t.drop at2:=by rw[rZ,u]
  rw[v];have w:at2<=t.length:=ah;generalize I:(eH (t.drop b)).1=x at *;obtain⟨d,r,G⟩:=agM t B n E m (c++[x]) (some x) at2 (by rw[dM,F8];omega) (.inr ⟨c,x,rfl,rfl⟩) w;have i:Dv c t d (if(gW m (some x) (t.drop at2)).2.2≠0 then([],0,(gW m (some x) (t.drop at2)).2.2)else(x::(gW m (some x) (t.drop at2)).1,(eH (t.drop b)).2.1+(gW m (some x) (t.drop at2)).2.1,0))=Dv (c++[x]) t d (gW m (some x) (t.drop at2)):=by
   unfold Dv;by_cases l:(gW m (some x) (t.drop at2)).2.2=0
   ·simp[l]
   ·simp[l]
  have j:((if(gW m (some x) (t.drop at2)).2.2≠0 then(([]:List dU),0,(gW m (some x) (t.drop at2)).2.2)else(x::(gW m (some x) (t.drop at2)).1,(eH (t.drop b)).2.1+(gW m (some x) (t.drop at2)).2.1,0)).2.2=0->d=b+(if(gW m (some x) (t.drop at2)).2.2≠0 then(([]:List dU),0,(gW m (some x) (t.drop at2)).2.2)else(x::(gW m (some x) (t.drop at2)).1,(eH (t.drop b)).2.1+(gW m (some x) (t.drop at2)).2.1,0)).2.1):=by
   by_cases l:(gW m (some x) (t.drop at2)).2.2=0
   ·rw[aj (λe=>e l)];intro _;have:=G l;simp only;omega
   ·rw[au l];intro h;exact absurd h l
  rw[nP]at r;rcases D with⟨rfl,rfl⟩|⟨a,y,rfl,rfl⟩
  ·have z:Ba none x=0:=rfl;rw[z,aj aA];refine⟨d,?_,j⟩;rw[i];exact asQ [] n b at2 t x _ (by simp at hi;omega) aA k r
  ·by_cases o:zV y.1 x.1=0;rotate_left
   ·have f:Ba (some y) x≠0:=o;rw[au f];refine⟨at2,?_,λh=>absurd h o⟩;have:Dv (a++[y]) t at2 ([],0,Ba (some y) x)=[.zq 0,.zq (zV y.1 x.1),.s t,.zq at2]:=by unfold Dv;rw[au f];rfl
    rw[this];have q:((a++[y]).length:Int)=(a.length:Int)+1:=aA;rw[q];rw[dM,F8]at hi;exact asR _ n a.length b at2 t y x ah ah aA aA o k
   ·have f:¬Ba (some y) x≠0:=λe=>e o;rw[aj f];refine⟨d,?_,j⟩;rw[i];have q:((a++[y]).length:Int)=(a.length:Int)+1:=aA;have A:((a++[y]++[x]).length:Int)=(a.length:Int)+1+1:=by simp;omega
    rw[q];rw[A]at r;rw[dM,F8]at hi;exact asU _ n a.length b at2 t y x _ ah ah (by simp;omega) (by simp;omega) aA o k r
def CY(e:Int):List dU×Nat×Int:=([],0,e)
def oL(s:Q2):List dU×Nat×Int:=
 if(aF s).2.2≠0 then CY (aF s).2.2 else
 if(aF s).1=0 then CY 12 else
 if 16<(aF s).1 then CY 13 else
 if(gW (aF s).1 none (s.drop (aF s).2.1)).2.2≠0 then CY (gW (aF s).1 none (s.drop (aF s).2.1)).2.2 else
 ((gW (aF s).1 none (s.drop (aF s).2.1)).1,(aF s).2.1+(gW (aF s).1 none (s.drop (aF s).2.1)).2.1,0)
def asK(t:Q2)(a:Nat)(h:a<=t.length)(p:t.length<=100000000):
 ∃at2:Nat,TT.lim 192 [.s t,.zq a]=some [.zq 0,.l ((oL (t.drop a)).1.map ent),.zq (oL (t.drop a)).2.2,.s t,.zq at2]/\((oL (t.drop a)).2.2=0->at2=a+(oL (t.drop a)).2.1):=by
 have d:=DZ t a h ah;unfold oL;by_cases g:(aF (t.drop a)).2.2=0;rotate_left
 ·obtain⟨q,l⟩:=LC g;rw[q,l]at d;rw[au g];generalize(aF (t.drop a)).2.2=e at *;refine⟨a,jC rfl rfl ?_,λh=>absurd h g⟩;simp[d,g,CY]
 obtain⟨x,y,s,z,_⟩:=lN g;rw[aj (λe=>e g)];rw[g]at d;rw[fP]at s;rw[rZ];by_cases b:16<(aF (t.drop a)).1
 ·have f:¬(aF (t.drop a)).1=0:=ah;have k:(16:Int)<((aF (t.drop a)).1:Nat):=ah;rw[aj f,au b];generalize(aF (t.drop a)).1=n,(aF (t.drop a)).2.1=i at *;refine⟨a+i,jC rfl rfl ?_,λh=>by cases h⟩;simp only[F6]at d;simp[d,f,b,k,CY]
 obtain⟨at2,u,l⟩:=agM t p (aF (t.drop a)).1 ah (aF (t.drop a)).1 [] none (a+(aF (t.drop a)).2.1) aA (.inl ⟨rfl,rfl⟩) ah;generalize(aF (t.drop a)).1=n,(aF (t.drop a)).2.1=i at *;by_cases f:n=0
 ·rw[au f];have m:((n:Int)=0)=True:=eq_true ah;refine⟨a+i,jC rfl rfl ?_,λh=>by cases h⟩;simp only[F6]at d;simp[d,f,m,CY]
 rw[aj f,aj b];have k:¬(16:Int)<(n:Int):=ah;have w:=bI ((n:Int));have o:(0:Int)<=(n:Int)/\32*(n:Int)<=281474976710656/\(n:Int)<=1152921504606846976:=ah;have c:TT.lim 193 [.l [],.zq n,.zq 0,.s t,.zq ((a:Int)+(i:Int))]=_:=u;generalize v:gW n none (t.drop (a+i))=r at *;refine⟨at2,jC rfl rfl ?_,λh=>?_⟩
 ·simp only[F6]at d;unfold Dv at c;by_cases j:r.2.2=0
  ·simp only[j,ne_eq,not_true_eq_false,if_false,aW]at c⊢;simp[d,f,b,k,w,o,c,GV.gu]
  ·simp only[j,ne_eq,not_false_eq_true,if_true]at c⊢;simp[d,f,b,k,w,o,c,GV.gu,CY]
 ·by_cases j:r.2.2=0
  ·rw[aj (λe=>e j)];have:=l j;simp only;omega
  ·rw[au j]at h;exact absurd h j
def sU(s:Q2):List dU×Int:=
 if(oL s).2.2≠0 then([],(oL s).2.2)else if(oL s).2.1<s.length then([],10)else((oL s).1,0)
def aau:∀(m:Nat)(p:Option dU)(s:Q2),(gW m p s).2.2=0->(gW m p s).2.1<=s.length/\(gW m p s).1.length=m/\∀x∈(gW m p s).1,uF x=0/\x.1.length<=s.length/\x.2.length<=s.length
 |0,p,s,_=>by simp[gW]
 |m+1,p,s,h=>by
  rw[Vy]at h⊢;by_cases h1:(eH s).2.2=0;rotate_left
  ·rw[au h1]at h;exact absurd h h1
  rw[aj (λe=>e h1)]at h⊢;by_cases b:Ba p (eH s).1=0;rotate_left
  ·rw[au b]at h;exact absurd h b
  rw[aj (λe=>e b)]at h⊢;by_cases a:(gW m (some (eH s).1) (s.drop (eH s).2.1)).2.2=0;rotate_left
  ·rw[au a]at h;exact absurd h a
  rw[aj (λe=>e a)];obtain⟨q,r,d,f,g,_⟩:=VH h1;obtain⟨i,j,k⟩:=aau m (some (eH s).1) _ a;rw[fP]at i;refine⟨by simp only;omega,by simp[j],λx c=>?_⟩;rcases bJ.1 c with rfl|c
  ·exact⟨d,f,g⟩
  ·obtain⟨l,n,o⟩:=k x c;rw[fP]at n o;exact⟨l,ah,ah⟩
def agP{s:Q2}(h:(oL s).2.2=0):(aF s).2.2=0/\0<(aF s).1/\(aF s).1<=16/\(gW (aF s).1 none (s.drop (aF s).2.1)).2.2=0/\(oL s).1=(gW (aF s).1 none (s.drop (aF s).2.1)).1/\
 (oL s).2.1=(aF s).2.1+(gW (aF s).1 none (s.drop (aF s).2.1)).2.1/\(oL s).2.1<=s.length:=by
 unfold oL at h⊢;by_cases a:(aF s).2.2=0;rotate_left
 ·rw[au a]at h;exact absurd h a
 rw[aj (λe=>e a)]at h⊢;by_cases c:(aF s).1=0
 ·rw[au c]at h;exact absurd h (by simp[CY])
 rw[aj c]at h⊢;by_cases d:16<(aF s).1
 ·rw[au d]at h;exact absurd h (by simp[CY])
 rw[aj d]at h⊢;by_cases b:(gW (aF s).1 none (s.drop (aF s).2.1)).2.2=0;rotate_left
 ·rw[au b]at h;exact absurd h b
 rw[aj (λe=>e b)];obtain⟨f,g,i,_,_⟩:=lN a;obtain⟨d1,_,_⟩:=aau _ _ _ b;rw[fP]at d1;exact⟨a,ah,ah,b,rfl,rfl,by simp only;omega⟩
def agS(s:Q2)(d:s.length<=100000000):TT.lim 191 [.s s]=some [.l ((sU s).1.map ent),.zq (sU s).2]:=by
 obtain⟨at2,k,b⟩:=asK s 0 ah d;rw[dY,show((0:Nat):Int)=0 from rfl]at k;rw[dY]at b;unfold sU;by_cases a:(oL s).2.2=0;rotate_left
 ·rw[au a];generalize oL s=r at *;refine V3 rfl rfl ?_ (by rfl);simp[k,a]
 have b:=b a;obtain⟨_,_,_,_,_,_,f⟩:=agP a;rw[aj (λe=>e a)];rw[a]at k;rw[l9]at b;have w:=bI ((s.length:Int)-(at2:Int));rw[<-b]at f⊢;generalize oL s=r at *;by_cases c:at2<s.length
 ·rw[au c];refine aV ?_;simp[k,w,c]
 ·rw[aj c];refine aV ?_;simp[k,w,c]
def KQ(e:Int):Row×Nat×Int:=(([],0),0,e)
def iI(a s:Q2):Row×Nat×Int:=
 if(sU a).2≠0 then KQ (sU a).2 else
 if(aF s).2.2≠0 then KQ (aF s).2.2 else
 if(aF s).1=0 then KQ 17 else(((sU a).1,((aF s).1:Nat)),(aF s).2.1,0)
def ada{a s:Q2}(h:(iI a s).2.2=0):(sU a).2=0/\(aF s).2.2=0/\(aF s).1≠0/\(iI a s).1=((sU a).1,(((aF s).1:Nat):Int))/\(iI a s).2.1=(aF s).2.1:=by
 unfold iI at h⊢;by_cases b:(sU a).2=0;rotate_left
 ·rw[au b]at h;exact absurd h b
 rw[aj (λe=>e b)]at h⊢;by_cases c:(aF s).2.2=0;rotate_left
 ·rw[au c]at h;exact absurd h c
 rw[aj (λe=>e c)]at h⊢;by_cases d:(aF s).1=0
 ·rw[au d]at h;exact absurd h (by simp[KQ])
 rw[aj d];exact⟨b,c,d,rfl,rfl⟩
def rowP(b t:Q2)(a:Nat)(h:a<=t.length)(m:t.length<=100000000)(j:b.length<=100000000):
 ∃at2:Nat,TT.lim 200 [.s b,.s t,.zq a]=some [.zq 0,.l ((iI b (t.drop a)).1.1.map ent),.zu (iI b (t.drop a)).1.2,.zq (iI b (t.drop a)).2.2,.s t,.zq at2]/\
  ((iI b (t.drop a)).2.2=0->at2=a+(iI b (t.drop a)).2.1):=by
 have g:=agS b j;have c:=DZ t a h ah;unfold iI;generalize sU b=D at *;by_cases d:D.2=0;rotate_left
 ·rw[au d];refine⟨a,jC rfl rfl ?_,λh=>absurd h d⟩;simp[g,d,KQ]
 rw[aj (λe=>e d)];by_cases f:(aF (t.drop a)).2.2=0;rotate_left
 ·obtain⟨k,l⟩:=LC f;rw[k,l]at c;rw[au f];generalize aF (t.drop a)=V at *;refine⟨a,jC rfl rfl ?_,λh=>absurd h f⟩;simp[g,c,d,f,KQ]
 rw[aj (λe=>e f)];rw[f]at c;simp only[F6]at c;generalize aF (t.drop a)=V at *;by_cases i:V.1=0
 ·rw[au i];rw[i]at c;refine⟨a+V.2.1,jC rfl rfl ?_,λh=>by cases h⟩;simp[g,c,d,KQ]
 ·rw[aj i];refine⟨a+V.2.1,jC rfl rfl ?_,λ_=>rfl⟩;simp[g,c,d,i]
def iL:Nat->List UInt8->Bool->List UInt8->List Row×Nat×Int
 |0,_,_,_=>([],0,0)
 |m+1,a,first,s=>if(bT s a first).2.2≠0 then([],0,(bT s a first).2.2)else
  if(iI (bT s a first).1 (s.drop (bT s a first).2.1)).2.2≠0 then([],0,(iI (bT s a first).1 (s.drop (bT s a first).2.1)).2.2)else
  if(iL m (bT s a first).1 false (s.drop ((bT s a first).2.1+(iI (bT s a first).1 (s.drop (bT s a first).2.1)).2.1))).2.2≠0 then([],0,(iL m (bT s a first).1 false (s.drop ((bT s a first).2.1+(iI (bT s a first).1 (s.drop (bT s a first).2.1)).2.1))).2.2)else
  ((iI (bT s a first).1 (s.drop (bT s a first).2.1)).1::(iL m (bT s a first).1 false (s.drop ((bT s a first).2.1+(iI (bT s a first).1 (s.drop (bT s a first).2.1)).2.1))).1,
   (bT s a first).2.1+(iI (bT s a first).1 (s.drop (bT s a first).2.1)).2.1+(iL m (bT s a first).1 false (s.drop ((bT s a first).2.1+(iI (bT s a first).1 (s.drop (bT s a first).2.1)).2.1))).2.1,0)
def XH(m:Nat)(a:Q2)(first:Bool)(s:Q2):iL (m+1) a first s=if(bT s a first).2.2≠0 then([],0,(bT s a first).2.2)else
 if(iI (bT s a first).1 (s.drop (bT s a first).2.1)).2.2≠0 then([],0,(iI (bT s a first).1 (s.drop (bT s a first).2.1)).2.2)else
 if(iL m (bT s a first).1 false (s.drop ((bT s a first).2.1+(iI (bT s a first).1 (s.drop (bT s a first).2.1)).2.1))).2.2≠0 then([],0,(iL m (bT s a first).1 false (s.drop ((bT s a first).2.1+(iI (bT s a first).1 (s.drop (bT s a first).2.1)).2.1))).2.2)else
 ((iI (bT s a first).1 (s.drop (bT s a first).2.1)).1::(iL m (bT s a first).1 false (s.drop ((bT s a first).2.1+(iI (bT s a first).1 (s.drop (bT s a first).2.1)).2.1))).1,
  (bT s a first).2.1+(iI (bT s a first).1 (s.drop (bT s a first).2.1)).2.1+(iL m (bT s a first).1 false (s.drop ((bT s a first).2.1+(iI (bT s a first).1 (s.drop (bT s a first).2.1)).2.1))).2.1,0):=rfl
def Dx(a:List Row)(t:Q2)(at2:Nat)(r:List Row×Nat×Int):Q3:=if r.2.2≠0 then[.zq 0,.zq r.2.2,.s t,.zq at2]else[.zq 1,.l ((a++r.1).map row),.s t,.zq at2]
def azH(L:Q3)(a t X:Q2)(n i b at2:Int)(first:Bool)(e:Int)(h:i<n)(c:decide (i=0)=first)(d:¬e=0)
 (k:TT.lim 199 [.s t,.zq b,.s a,.b first]=some [.zq 0,.s X,.zq e,.s t,.zq at2]):
 TT.lim 198 [.l L,.s a,.zq n,.zq i,.s t,.zq b]=some [.zq 0,.zq e,.s t,.zq at2]:=by
 refine aB ?_;simp[h,c,k,d]
def azJ(L:Q3)(a t X:Q2)(D:Q3)(N:Int)(n i b at2 c:Int)(first:Bool)(e:Int)(h:i<n)(d:decide (i=0)=first)(f:¬e=0)
 (k:TT.lim 199 [.s t,.zq b,.s a,.b first]=some [.zq 0,.s X,.zq 0,.s t,.zq at2])
 (g:TT.lim 200 [.s X,.s t,.zq at2]=some [.zq 0,.l D,.zu N,.zq e,.s t,.zq c]):
 TT.lim 198 [.l L,.s a,.zq n,.zq i,.s t,.zq b]=some [.zq 0,.zq e,.s t,.zq c]:=by
 refine aB ?_;simp[h,d,k,g,f]
def azI(L:Q3)(a t X:Q2)(D:Q3)(N:Int)(n i b at2 c:Int)(first:Bool)(R:Q3)(h:i<n)(e:decide (i=0)=first)(f:IntKind.i64.wrap (i+1)=i+1)(l:L.length<=100000000)
 (k:TT.lim 199 [.s t,.zq b,.s a,.b first]=some [.zq 0,.s X,.zq 0,.s t,.zq at2])
 (g:TT.lim 200 [.s X,.s t,.zq at2]=some [.zq 0,.l D,.zu N,.zq 0,.s t,.zq c])
 (j:TT.lim 198 [.l (L++[.g [.l D,.zu N]]),.s X,.zq n,.zq (i+1),.s t,.zq c]=some R):
 TT.lim 198 [.l L,.s a,.zq n,.zq i,.s t,.zq b]=some R:=by
 have d:2*(L.length+1)*32<=281474976710656/\L.length+1<=281474976710656:=ah;refine aB ?_;simp[h,e,k,g,f,GV.gu,d,j]
def akJ(t:Q2)(s:t.length<=100000000)(n:Nat)(E:n<=1000):∀(m:Nat)(b:List Row)(a:Q2)(c:Nat),b.length+m=n->c<=t.length->a.length<=c->
 ∃at2:Nat,TT.lim 198 [.l (b.map row),.s a,.zq n,.zq b.length,.s t,.zq c]=some (Dx b t at2 (iL m a (decide ((b.length:Int)=0)) (t.drop c)))/\
  ((iL m a (decide ((b.length:Int)=0)) (t.drop c)).2.2=0->at2=c+(iL m a (decide ((b.length:Int)=0)) (t.drop c)).2.1)
 |0,b,a,c,hi,h,F=>by have u:¬((b.length:Int)<(n:Int)):=ah;refine⟨c,?_,λ_=>by simp[iL]⟩;unfold iL Dx;simp only[ne_eq,not_true_eq_false,if_false,lQ];generalize b.map row=L at *;refine aB ?_;simp[u]
 |m+1,b,a,c,hi,h,F=>by
  obtain⟨at2,k,r⟩:=azx t a (decide ((b.length:Int)=0)) c h s ah;rw[XH];generalize v:decide ((b.length:Int)=0)=first at *
  by_cases g:(bT (t.drop c) a first).2.2=0;rotate_left
  ·rw[au g];refine⟨at2,?_,λh=>absurd h g⟩;have:Dx b t at2 ([],0,(bT (t.drop c) a first).2.2)=[.zq 0,.zq (bT (t.drop c) a first).2.2,.s t,.zq at2]:=by unfold Dx;rw[au g]
   rw[this];exact azH _ _ _ _ _ _ _ _ _ _ ah v g k
  rw[aj (λe=>e g)];rw[g]at k;have r:=r g;obtain⟨R,G,H⟩:=acZ g;rw[fP]at G;have w:∀j,(t.drop c).drop ((bT (t.drop c) a first).2.1+j)=t.drop (at2+j):=by intro j;rw[rZ,r,jV]
  have x:(t.drop c).drop (bT (t.drop c) a first).2.1=t.drop at2:=by rw[rZ,r]
  have I:(bT (t.drop c) a first).1.length<=at2:=by split at H<;>omega
  rw[w,x];generalize(bT (t.drop c) a first).1=X,(bT (t.drop c) a first).2.1=J at *;obtain⟨d,y,z⟩:=rowP X t at2 ah s ah;by_cases i:(iI X (t.drop at2)).2.2=0;rotate_left
  ·rw[au i];refine⟨d,?_,λh=>absurd h i⟩;have:Dx b t d ([],0,(iI X (t.drop at2)).2.2)=[.zq 0,.zq (iI X (t.drop at2)).2.2,.s t,.zq d]:=by unfold Dx;rw[au i]
   rw[this];exact azJ _ _ _ _ _ _ _ _ _ _ _ _ _ ah v i k y
  rw[aj (λe=>e i)];rw[i]at y;have z:=z i;obtain⟨_,M,_,_,S⟩:=ada i;obtain⟨T,U,N,_,_⟩:=lN M;rw[fP]at N;have A:at2+(iI X (t.drop at2)).2.1=d:=z.symm;rw[A];have p:GV.g [.l ((iI X (t.drop at2)).1.1.map ent),.zu (iI X (t.drop at2)).1.2]=row (iI X (t.drop at2)).1:=rfl;obtain⟨l,B,D⟩:=akJ t s n E m (b++[(iI X (t.drop at2)).1]) X d (by rw[dM,F8];omega) ah ah;have f:decide (((b++[(iI X (t.drop at2)).1]).length:Int)=0)=false:=by simp;omega
  have O:((b++[(iI X (t.drop at2)).1]).length:Int)=(b.length:Int)+1:=aA;rw[f]at B D;rw[O,nP]at B;generalize(iI X (t.drop at2)).1=Q,(iI X (t.drop at2)).2.1=P at *;have q:Dx b t l (if(iL m X false (t.drop d)).2.2≠0 then([],0,(iL m X false (t.drop d)).2.2)else(Q::(iL m X false (t.drop d)).1,J+P+(iL m X false (t.drop d)).2.1,0))=Dx (b++[Q]) t l (iL m X false (t.drop d)):=by
   unfold Dx;by_cases o:(iL m X false (t.drop d)).2.2=0
   ·simp[o]
   ·simp[o]
  refine⟨l,?_,?_⟩
  ·rw[q];exact azI _ _ _ _ _ _ _ _ _ _ _ _ _ ah v (wrap64 ah ah) (by simp;omega) k y (by rw[p];exact B)
  ·by_cases o:(iL m X false (t.drop d)).2.2=0
   ·rw[aj (λe=>e o)];intro _;have:=D o;simp only;omega
   ·rw[au o];intro h;exact absurd h o
def JQ(e:Int):List Row×Nat×Int:=([],0,e)
def oq(s:Q2):List Row×Nat×Int:=
 if(aF s).2.2≠0 then JQ (aF s).2.2 else
 if 256<(aF s).1 then JQ 13 else
 if(iL (aF s).1 [] true (s.drop (aF s).2.1)).2.2≠0 then JQ (iL (aF s).1 [] true (s.drop (aF s).2.1)).2.2 else
 ((iL (aF s).1 [] true (s.drop (aF s).2.1)).1,(aF s).2.1+(iL (aF s).1 [] true (s.drop (aF s).2.1)).2.1,0)
def awx(t:Q2)(a:Nat)(h:a<=t.length)(o:t.length<=100000000):
 ∃at2:Nat,TT.lim 197 [.s t,.zq a]=some [.zq 0,.l ((oq (t.drop a)).1.map row),.zq (oq (t.drop a)).2.2,.s t,.zq at2]/\((oq (t.drop a)).2.2=0->at2=a+(oq (t.drop a)).2.1):=by
 have d:=DZ t a h ah;unfold oq;by_cases f:(aF (t.drop a)).2.2=0;rotate_left
 ·obtain⟨p,j⟩:=LC f;rw[p,j]at d;rw[au f];generalize(aF (t.drop a)).2.2=e at *;refine⟨a,jC rfl rfl ?_,λh=>absurd h f⟩;simp[d,f,JQ]
 obtain⟨s,u,q,v,_⟩:=lN f;rw[aj (λe=>e f)];rw[f]at d;rw[fP]at q;rw[rZ];by_cases b:256<(aF (t.drop a)).1
 ·have k:(256:Int)<((aF (t.drop a)).1:Nat):=ah;rw[au b];generalize(aF (t.drop a)).1=n,(aF (t.drop a)).2.1=i at *;refine⟨a+i,jC rfl rfl ?_,λh=>by cases h⟩;simp only[F6]at d;simp[d,b,k,JQ]
 obtain⟨at2,l,j⟩:=akJ t o (aF (t.drop a)).1 ah (aF (t.drop a)).1 [] [] (a+(aF (t.drop a)).2.1) aA ah aA;generalize(aF (t.drop a)).1=n,(aF (t.drop a)).2.1=i at *;rw[aj b];have k:¬(256:Int)<(n:Int):=ah;have w:=bI ((n:Int));have m:(0:Int)<=(n:Int)/\32*(n:Int)<=281474976710656/\(n:Int)<=1152921504606846976:=ah;rw[show decide ((([]:List Row).length:Int)=0)=true from rfl]at l j;have c:TT.lim 198 [.l [],.s [],.zq n,.zq 0,.s t,.zq ((a:Int)+(i:Int))]=_:=l;generalize iL n [] true (t.drop (a+i))=r at *;refine⟨at2,jC rfl rfl ?_,λh=>?_⟩
 ·simp only[F6]at d;unfold Dx at c;by_cases g:r.2.2=0
  ·simp only[g,ne_eq,not_true_eq_false,if_false,aW]at c⊢;simp[d,b,k,w,m,c,GV.gu]
  ·simp only[g,ne_eq,not_false_eq_true,if_true]at c⊢;simp[d,b,k,w,m,c,GV.gu,JQ]
 ·by_cases g:r.2.2=0
  ·rw[aj (λe=>e g)];have:=j g;simp only;omega
  ·rw[au g]at h;exact absurd h g
def tK(s:Q2):List Row×Int:=
 if(oq s).2.2≠0 then([],(oq s).2.2)else if(oq s).2.1<s.length then([],10)else((oq s).1,0)
def acY:∀(m:Nat)(a:Q2)(first:Bool)(s:Q2),(iL m a first s).2.2=0->(iL m a first s).2.1<=s.length/\(iL m a first s).1.length=m
 |0,a,first,s,_=>by simp[iL]
 |m+1,a,first,s,h=>by
  rw[XH]at h⊢;by_cases h1:(bT s a first).2.2=0;rotate_left
  ·rw[au h1]at h;exact absurd h h1
  rw[aj (λe=>e h1)]at h⊢;by_cases b:(iI (bT s a first).1 (s.drop (bT s a first).2.1)).2.2=0;rotate_left
  ·rw[au b]at h;exact absurd h b
  rw[aj (λe=>e b)]at h⊢;by_cases c:(iL m (bT s a first).1 false (s.drop ((bT s a first).2.1+(iI (bT s a first).1 (s.drop (bT s a first).2.1)).2.1))).2.2=0;rotate_left
  ·rw[au c]at h;exact absurd h c
  rw[aj (λe=>e c)];obtain⟨j,k,_⟩:=acZ h1;obtain⟨_,d,_,_,l⟩:=ada b;obtain⟨n,o,f,_,_⟩:=lN d;rw[fP]at f;obtain⟨g,i⟩:=acY m _ _ _ c;rw[fP]at g;exact⟨by simp only;omega,by simp[i]⟩
def aiO{s:Q2}(h:(oq s).2.2=0):(aF s).2.2=0/\(aF s).1<=256/\(iL (aF s).1 [] true (s.drop (aF s).2.1)).2.2=0/\(oq s).1=(iL (aF s).1 [] true (s.drop (aF s).2.1)).1/\
 (oq s).2.1=(aF s).2.1+(iL (aF s).1 [] true (s.drop (aF s).2.1)).2.1/\(oq s).2.1<=s.length:=by
 unfold oq at h⊢;by_cases a:(aF s).2.2=0;rotate_left
 ·rw[au a]at h;exact absurd h a
 rw[aj (λe=>e a)]at h⊢;by_cases c:256<(aF s).1
 ·rw[au c]at h;exact absurd h (by simp[JQ])
 rw[aj c]at h⊢;by_cases b:(iL (aF s).1 [] true (s.drop (aF s).2.1)).2.2=0;rotate_left
 ·rw[au b]at h;exact absurd h b
 rw[aj (λe=>e b)];obtain⟨d,f,g,_,_⟩:=lN a;obtain⟨d1,_⟩:=acY _ _ _ _ b;rw[fP]at d1;exact⟨a,ah,b,rfl,rfl,by simp only;omega⟩
def aEN(s:Q2)(d:s.length<=100000000):TT.lim 196 [.s s]=some [.l ((tK s).1.map row),.zq (tK s).2]:=by
 obtain⟨at2,k,b⟩:=awx s 0 ah d;rw[dY,show((0:Nat):Int)=0 from rfl]at k;rw[dY]at b;unfold tK;by_cases a:(oq s).2.2=0;rotate_left
 ·rw[au a];generalize oq s=r at *;refine V3 rfl rfl ?_ (by rfl);simp[k,a]
 have b:=b a;obtain⟨_,_,_,_,_,f⟩:=aiO a;rw[aj (λe=>e a)];rw[a]at k;rw[l9]at b;have w:=bI ((s.length:Int)-(at2:Int));rw[<-b]at f⊢;generalize oq s=r at *;by_cases c:at2<s.length
 ·rw[au c];refine aV ?_;simp[k,w,c]
 ·rw[aj c];refine aV ?_;simp[k,w,c]
def nM:Q2->List Row->List UInt8
 |_,[]=>[]
 |a,r::t=>tJ a (dN r.1)++(aS r.2.toNat++nM (dN r.1) t)
def qy(t:List Row):Q2:=aS t.length++nM [] t
def E8(t:List Row):Q2×Int:=if oK t≠0 then([],oK t)else(qy t,0)
def adk:∀(t:List Row)(a:Q2),(∀r∈t,iY r.1=true/\0<=r.2/\r.2<18446744073709551616)->(nM a t).length<=40000*t.length
 |[],a,_=>by simp[nM]
 |r::t,a,h=>by obtain⟨h1,c,d⟩:=h r aA;have e:=Ry h1;have f:=aj1 a (dN r.1) ah;have g:=oU (n:=r.2.toNat) ah;have i:=adk t (dN r.1) λq b=>h q (by simp[b]);simp only[nM,dM,ig];omega
def awE(L:Q3)(n i:Int)(D:List dU)(N:Int)(a k O V b:Q2)(R:Q3)(j:Nat)(hi:i=j)(h:i<n)(g:L[j]? =some (row (D,N)))(l:IntKind.i64.wrap (i+1)=i+1)(m:TT.lim 14 [.l (D.map ent)]=some [.s k])(o:TT.lim 121 [.s a,.s k]=some [.s O])
 (p:TT.lim 15 [.zu N]=some [.s V]) (c:2*(b.length+O.length)<=281474976710656/\b.length+O.length<=281474976710656) (d:2*(b.length+(O.length+V.length))<=281474976710656/\b.length+(O.length+V.length)<=281474976710656)
 (q:TT.lim 120 [.s k,.l L,.zq n,.zq (i+1),.l (dH b++(dH O++dH V))]=some R):
 TT.lim 120 [.s a,.l L,.zq n,.zq i,.l (dH b)]=some R:=by
 subst hi;have e:=Qn O;have f:=Qn V;refine aB ?_;simp[-List.all_eq_true,h,g,l,m,o,p,e,f,c,d,jV,q]
def aiY(l:List Row)(k:l.length<=1000)(f:∀r∈l,iY r.1=true/\0<=r.2/\r.2<18446744073709551616):∀(m i:Nat)(a b:Q2),i+m=l.length->a.length<=100000->b.length<=10+40000*i->
 TT.lim 120 [.s a,.l (l.map row),.zq l.length,.zq i,.l (dH b)]=some [.zq 0,.l (dH (b++nM a (l.drop i)))]
 |0,i,a,b,hi,o,d=>by have p:l.drop i=[]:=iE;have h:¬((i:Int)<l.length):=ah;rw[p];refine aB ?_;simp[h,nM]
 |m+1,i,a,b,hi,o,d=>by
  have c:i<l.length:=ah;obtain⟨g,u,v⟩:=f l[i] (gY c);have w:=Ry g;have q:=Dj l[i].1 g;have s:=ayo a (dN l[i].1) ah ah;have x:=aj1 a (dN l[i].1) ah;have j:=zC l[i].2.toNat ah;rw[(ah:((l[i].2.toNat:Nat):Int)=l[i].2)]at j;have y:=oU (n:=l[i].2.toNat) ah;have e:=aiY l k f m (i+1) (dN l[i].1) (b++(tJ a (dN l[i].1)++aS l[i].2.toNat)) ah ah (by simp only[dM];omega);have t:b++nM a (l.drop i)=b++(tJ a (dN l[i].1)++aS l[i].2.toNat)++nM (dN l[i].1) (l.drop (i+1)):=by rw[iG c];simp[nM]
  rw[t];rw[ZN b,ZN]at e;rw[(ah:((i+1:Nat):Int)=(i:Int)+1)]at e;exact awE _ _ _ l[i].1 l[i].2 a _ _ _ b _ i rfl ah (by simp[c]) (wrap64 ah ah) q s j ah ah e
def awD(t:List Row)(c:Rows t)(l:yS t):TT.lim 119 [.l (t.map row)]=some [.s (E8 t).1,.zq (E8 t).2]:=by
 have d:=Vh t c l;unfold E8;by_cases a:oK t=0;rotate_left
 ·rw[au a];refine V3 rfl rfl ?_ (by rfl);simp[d,a]
 rw[aj (λe=>e a)];rw[a]at d;have m:=((xu t).1 a).1;have o:∀r∈t,iY r.1=true/\0<=r.2/\r.2<18446744073709551616:=λr f=>⟨l r f,(c.2 r f).2.1,(c.2 r f).2.2⟩
 have u:=zC t.length ah;have x:=oU (n:=t.length) ah;have p:=aiY t ah o t.length 0 [] (aS t.length) ah aA ah;rw[dY,show((0:Nat):Int)=0 from rfl]at p;have q:=adk t [] o;have w:=jL ((t.length:Int));have ok:=Qn (aS t.length);have s:2*(aS t.length).length<=281474976710656/\(aS t.length).length<=281474976710656:=ah;have g:=ZQ (qy t);have h:(dH (qy t)).length<=281474976710656:=by rw[afM];unfold qy;rw[dM];omega
 have i:TT.lim 120 [.s [],.l (t.map row),.zq t.length,.zq 0,.l (dH (aS t.length))]=some [.zq 0,.l (dH (qy t))]:=p;generalize dH (qy t)=y at *;generalize qy t=P at *;generalize b:dH (aS t.length)=v at *;have j:v.length=(aS t.length).length:=by rw[<-b,afM]
 rw[<-j]at s;have k:(t.map row).length=t.length:=aA;generalize t.map row=L at *;refine aV ?_;simp[-List.all_eq_true,d,k,w,u,b,ok,s,i,g,h]
def aay{x:dU}(h:uF x=0):x.1.length<=64/\x.2.length<=256:=by
 have d:∀(s:Q2)(lo hi:Int),qX s lo hi=0->(s.length:Int)<=hi:=by
  intro s lo hi h;unfold qX at h;split at h
  ·cases h
  ·split at h
   ·cases h
   ·omega
 unfold uF at h;by_cases c:qX x.1 1 64=0
 ·rw[aj (λe=>e c)]at h;have a:=d _ _ _ c;have b:=d _ _ _ h;omega
 ·rw[au c]at h;exact absurd h c
def amq{s:Q2}(h:(fK s).2.2=0):aS (fK s).1.length++(fK s).1=s.take (fK s).2.1:=by
 unfold fK at h⊢;by_cases a:(aF s).2.2=0;rotate_left
 ·rw[au a]at h;exact absurd h a
 rw[aj (λe=>e a)]at h⊢;obtain⟨d,f,g,i,c⟩:=lN a;by_cases b:s.length-(aF s).2.1<(aF s).1
 ·rw[au b]at h;cases h
 rw[aj b];simp only[lZ,fP];rw[Mc ah,c,Ec]
def as2{s:Q2}(h:(eH s).2.2=0):jq (eH s).1=s.take (eH s).2.1:=by obtain⟨_,_,_,_,_,a,b,c,d⟩:=VH h;rw[c,d];unfold jq;simp only;have e:=amq a;have f:=amq b;rw[e,List.append_assoc,f,Ec]
def agO:∀(m:Nat)(p:Option dU)(s:Q2),(gW m p s).2.2=0->(gW m p s).1.flatMap jq=s.take (gW m p s).2.1/\uz (p.map (·.1)) (gW m p s).1=0
 |0,p,s,_=>by simp[gW,uz]
 |m+1,p,s,h=>by
  rw[Vy]at h⊢;by_cases h1:(eH s).2.2=0;rotate_left
  ·rw[au h1]at h;exact absurd h h1
  rw[aj (λe=>e h1)]at h⊢;by_cases b:Ba p (eH s).1=0;rotate_left
  ·rw[au b]at h;exact absurd h b
  rw[aj (λe=>e b)]at h⊢;by_cases c:(gW m (some (eH s).1) (s.drop (eH s).2.1)).2.2=0;rotate_left
  ·rw[au c]at h;exact absurd h c
  rw[aj (λe=>e c)];obtain⟨i,d⟩:=agO m (some (eH s).1) _ c;obtain⟨_,_,j,_⟩:=VH h1;have l:=as2 h1;refine⟨by simp only[kP,i,l,Ec],?_⟩;unfold uz;rw[aj (λe=>e j)];cases p with
  |none=>exact d
  |some k=>
   have a:zV k.1 (eH s).1.1=0:=b;unfold zV at a;simp only[iH];by_cases f:(eH s).1.1=k.1
   ·rw[au f]at a;exact absurd a aU
   rw[aj f]at a⊢;by_cases g:Op.bytesLess (eH s).1.1 k.1=true
   ·rw[au g]at a;exact absurd a aU
   rw[aj g];exact d
structure DOk(d:List dU)(key:Q2):Prop where
 chk:yA d=0
 few:iY d=true
 ents:tX d
 put:dN d=key
def asM{s:Q2}(h:(oL s).2.2=0)(n:s.length<=100000000):DOk (oL s).1 (s.take (oL s).2.1):=by
 obtain⟨d,o,p,b,e,f,q⟩:=agP h;obtain⟨r,g,c⟩:=aau _ _ _ b;obtain⟨i,j⟩:=agO _ _ _ b;obtain⟨t,u,v,w,k⟩:=lN d;rw[e,f];refine⟨?_,?_,⟨ah,λx a=>?_⟩,?_⟩
 ·unfold yA;rw[dL,dL];exact j
 ·unfold iY;rw[aO,decide_eq_true_iff,List.all_eq_true];refine⟨λx a=>?_,ah⟩;obtain⟨l,m⟩:=aay (c x a).1;unfold wB;rw[decide_eq_true_iff];omega
 ·obtain⟨l,m⟩:=aay (c x a).1;omega
 ·unfold dN;rw[g,k,i,Ec]
def agU{s:Q2}(h:(sU s).2=0)(c:s.length<=100000000):DOk (sU s).1 s:=by
 unfold sU at h⊢;by_cases a:(oL s).2.2=0;rotate_left
 ·rw[au a]at h;exact absurd h a
 rw[aj (λe=>e a)]at h⊢;by_cases b:(oL s).2.1<s.length
 ·rw[au b]at h;exact absurd h aA
 rw[aj b];have:=asM a c;rw[lS ah]at this;exact this
def azz{s a:Q2}{first:Bool}(h:(bT s a first).2.2=0)(f:first=true->a=[]):tJ a (bT s a first).1=s.take (bT s a first).2.1/\(first=false->a<(bT s a first).1):=by
 have k:(if first=true then[]else a)=a:=by
  cases first with
  |true=>rw[au rfl,f rfl]
  |false=>rfl
 unfold bT at h⊢;simp only[k]at h⊢;by_cases b:(aF s).2.2=0;rotate_left
 ·rw[au b]at h;exact absurd h b
 rw[aj (λe=>e b)]at h⊢;by_cases g:a.length<(aF s).1
 ·rw[au g]at h;exact absurd h (by simp[oC])
 rw[aj g]at h⊢;by_cases c:(aF (s.drop (aF s).2.1)).2.2=0;rotate_left
 ·rw[au c]at h;exact absurd h c
 rw[aj (λe=>e c)]at h⊢;by_cases i:s.length-((aF s).2.1+(aF (s.drop (aF s).2.1)).2.1)<(aF (s.drop (aF s).2.1)).1
 ·rw[au i]at h;exact absurd h (by simp[oC])
 rw[aj i]at h⊢;obtain⟨u,v,w,x,l⟩:=lN b;obtain⟨y,z,A,B,m⟩:=lN c;have n:((s.drop ((aF s).2.1+(aF (s.drop (aF s).2.1)).2.1)).take (aF (s.drop (aF s).2.1)).1).length=(aF (s.drop (aF s).2.1)).1:=by rw[lZ,fP];omega
 generalize o:(s.drop ((aF s).2.1+(aF (s.drop (aF s).2.1)).2.1)).take (aF (s.drop (aF s).2.1)).1=X at *;by_cases d:first=false/\Op.bytesLess a (a.take (aF s).1++X)=false
 ·rw[au d]at h;exact absurd h (by simp[oC])
 rw[aj d]at h⊢;by_cases j:(aF s).1<common a (a.take (aF s).1++X)
 ·rw[au j]at h;exact absurd h (by simp[oC])
 rw[aj j];have p:=agp (aF s).1 a X ah;have q:common a (a.take (aF s).1++X)=(aF s).1:=ah;refine⟨?_,λf=>?_⟩
 ·unfold tJ;simp only[q];have r:(a.take (aF s).1++X).length-(aF s).1=(aF (s.drop (aF s).2.1)).1:=by rw[dM,lZ,n];omega
  have t:(a.take (aF s).1++X).drop (aF s).1=X:=by rw[Y4 (by rw[lZ];omega)];rw[IJ (by rw[lZ];omega)];rfl
  rw[r,t,l,m,<-o];rw[Ec,Ec,<-rZ]
 ·simp only[f,true_and]at d;rw[<-MX];simpa using d
def akL:∀(m:Nat)(a:Q2)(first:Bool)(s:Q2),(iL m a first s).2.2=0->(first=true->a=[])->a.length+s.length<=100000000->
 nM a (iL m a first s).1=s.take (iL m a first s).2.1/\jO (iL m a first s).1/\(first=false->∀r∈(iL m a first s).1,a<K r)/\(∀r∈(iL m a first s).1,yL r=0/\iY r.1=true/\tX r.1/\0<=r.2/\r.2<18446744073709551616)
 |0,a,first,s,_,_,_=>by simp[iL,nM,jO]
 |m+1,a,first,s,h,n,B=>by
  rw[XH]at h⊢;by_cases h1:(bT s a first).2.2=0;rotate_left
  ·rw[au h1]at h;exact absurd h h1
  rw[aj (λe=>e h1)]at h⊢;by_cases c:(iI (bT s a first).1 (s.drop (bT s a first).2.1)).2.2=0;rotate_left
  ·rw[au c]at h;exact absurd h c
  rw[aj (λe=>e c)]at h⊢;by_cases d:(iL m (bT s a first).1 false (s.drop ((bT s a first).2.1+(iI (bT s a first).1 (s.drop (bT s a first).2.1)).2.1))).2.2=0;rotate_left
  ·rw[au d]at h;exact absurd h d
  rw[aj (λe=>e d)];obtain⟨D,E,o⟩:=acZ h1;obtain⟨p,j⟩:=azz h1 n;obtain⟨q,t,F,g,u⟩:=ada c;have v:(bT s a first).1.length<=a.length+(bT s a first).2.1:=by cases first<;>simp at o<;>omega
  obtain⟨G,H,I,J,w⟩:=lN t;have f:=agU q ah;obtain⟨x,y,k,z⟩:=akL m _ false _ d (λe=>by cases e) (by rw[fP];omega);have i:K (iI (bT s a first).1 (s.drop (bT s a first).2.1)).1=(bT s a first).1:=by rw[g];exact f.put
  have A:(iI (bT s a first).1 (s.drop (bT s a first).2.1)).1.2.toNat=(aF (s.drop (bT s a first).2.1)).1:=by rw[g];simp
  simp only;refine⟨?_,?_,λl r b=>?_,λr b=>?_⟩
  ·show tJ a (K _)++(aS _++nM (K _) _)=_
   rw[i,A,x,p,w,<-u];rw[Ec,Ec,List.append_assoc]
  ·refine jm.2 ⟨λr b=>?_,y⟩;rw[i];exact k rfl r b
  ·rcases bJ.1 b with rfl|b
   ·rw[i];exact j l
   ·exact AL (j l) (k rfl r b)
  ·rcases bJ.1 b with rfl|b
   ·rw[g];refine⟨?_,f.few,f.ents,by simp only;omega,by simp only;omega⟩;rw[OM];exact⟨f.chk,by simp only;omega⟩
   ·exact z r b
structure AX(t:List Row):Prop where
 ok:Ok t
 few:yS t
 rows:Rows t
def AX.tb{t:List Row}(h:AX t):oK t=0:=(xu t).2 h.ok
def awz{s:Q2}(h:(oq s).2.2=0)(l:s.length<=100000000):qy (oq s).1=s.take (oq s).2.1/\AX (oq s).1:=by obtain⟨d,m,c,e,f,n⟩:=aiO h;obtain⟨o,p,q,t,g⟩:=lN d;obtain⟨u,i⟩:=acY _ _ _ _ c;obtain⟨j,k,_,b⟩:=akL _ _ _ _ c (λ_=>rfl) (by rw[fP];simp;omega);rw[e,f];refine⟨?_,⟨ah,k,λr a=>(b r a).1⟩,λr a=>(b r a).2.1,ah,λr a=>(b r a).2.2⟩;unfold qy;rw[i,g,j,Ec]
def amu:AX []:=⟨⟨aA,List.Pairwise.nil,aA⟩,λr a=>by simp at a,aA,aA⟩
def aEP{s:Q2}(d:s.length<=100000000):AX (tK s).1/\((tK s).2=0->qy (tK s).1=s)/\((tK s).2≠0->(tK s).1=[]):=by
 unfold tK;by_cases a:(oq s).2.2=0;rotate_left
 ·rw[au a];exact⟨amu,λh=>absurd h a,λ_=>rfl⟩
 rw[aj (λe=>e a)];by_cases b:(oq s).2.1<s.length
 ·rw[au b];exact⟨amu,λh=>absurd h aU,λ_=>rfl⟩
 rw[aj b];obtain⟨c,f⟩:=awz a d;rw[lS ah]at c;exact⟨f,λ_=>c,λh=>absurd rfl h⟩
def AX.len{t:List Row}(h:AX t):t.length<=256:=h.ok.1
def AX.good{t:List Row}(h:AX t):bZ t:=⟨Nat.le_trans h.len aU,h.few,h.rows⟩
def amo(a x:Q2)(c:a.length<=100000000):fK (aS a.length++(a++x))=(a,(aS a.length).length+a.length,0):=by have h:=FV a.length (a++x) ah;unfold fK;rw[h];simp only[ne_eq,not_true_eq_false,if_false];have b:(aS a.length++(a++x)).length=(aS a.length).length+(a.length+x.length):=aA;rw[b,dL,uf,Ug]
def as1(e:dU)(y:Q2)(h:uF e=0):eH (jq e++y)=(e,(jq e).length,0):=by
 obtain⟨i,j⟩:=aay h;have a:jq e++y=aS e.1.length++(e.1++(aS e.2.length++(e.2++y))):=by unfold jq;simp
 have b:=amo e.1 (aS e.2.length++(e.2++y)) ah;have c:=amo e.2 y ah;have d:(aS e.1.length++(e.1++(aS e.2.length++(e.2++y)))).drop ((aS e.1.length).length+e.1.length)=aS e.2.length++(e.2++y):=by rw[<-List.append_assoc,<-dM,uf]
 have f:(jq e).length=(aS e.1.length).length+e.1.length+((aS e.2.length).length+e.2.length):=by unfold jq;simp;omega
 unfold eH;rw[a,b];simp only[ne_eq,not_true_eq_false,if_false,d,c];have g:uF (e.1,e.2)=0:=h;rw[g,f];simp
def aoJ{p:Option Q2}{x:dU}{xs:List dU}(h:uz p (x::xs)=0):uF x=0/\(∀k,p=some k->zV k x.1=0)/\uz (some x.1) xs=0:=by
 unfold uz at h;by_cases a:uF x=0;rotate_left
 ·rw[au a]at h;exact absurd h a
 rw[aj (λe=>e a)]at h;cases p with
 |none=>exact⟨a,(λk b=>by cases b),h⟩
 |some k=>
  simp only at h;by_cases c:x.1=k
  ·rw[au c]at h;exact absurd h aU
  rw[aj c]at h;by_cases d:Op.bytesLess x.1 k=true
  ·rw[au d]at h;exact absurd h aU
  rw[aj d]at h;refine⟨a,λf b=>?_,h⟩;cases b;unfold zV;rw[aj c,aj d]
def agN:∀(d:List dU)(p:Option dU)(y:Q2),uz (p.map (·.1)) d=0->gW d.length p (d.flatMap jq++y)=(d,(d.flatMap jq).length,0)
 |[],p,y,_=>by simp[gW]
 |x::d,p,y,h=>by
  obtain⟨h1,a,b⟩:=aoJ h;have c:=as1 x (d.flatMap jq++y) h1;have e:(x::d).flatMap jq++y=jq x++(d.flatMap jq++y):=aA;have f:=agN d (some x) y b;have g:Ba p x=0:=by
   cases p with
   |none=>rfl
   |some k=>exact a k.1 rfl
  rw[ig,Vy,e,c];simp only[ne_eq,not_true_eq_false,if_false,uf,g,f];simp
def asL(d:List dU)(y:Q2)(h:yA d=0):oL (dN d++y)=(d,(dN d).length,0):=by
 unfold yA at h;by_cases a:d.length=0
 ·rw[au a]at h;exact absurd h aU
 rw[aj a]at h;by_cases b:16<d.length
 ·rw[au b]at h;exact absurd h aU
 rw[aj b]at h;have c:=FV d.length (d.flatMap jq++y) ah;have e:dN d++y=aS d.length++(d.flatMap jq++y):=by unfold dN;simp
 have f:=agN d none y h;unfold oL;rw[e,c];simp only[ne_eq,not_true_eq_false,if_false,a,b,uf,f];unfold dN;simp
def agT(d:List dU)(h:yA d=0):sU (dN d)=(d,0):=by have:=asL d [] h;rw[lQ]at this;unfold sU;rw[this];simp
def apf(a s:Q2):a.take (common a s)++s.drop (common a s)=s:=by rw[agq,IU]
def azy(a t y:Q2)(first:Bool)(b:first=true->a=[])(c:first=false->a<t)(n:t.length<=100000000):bT (tJ a t++y) a first=(t,(tJ a t).length,0):=by
 have d:(if first=true then[]else a)=a:=by
  cases first with
  |true=>rw[au rfl,b rfl]
  |false=>rfl
 obtain⟨o,p⟩:=Vs a t;have e:tJ a t++y=aS (common a t)++(aS (t.length-common a t)++(t.drop (common a t)++y)):=by unfold tJ;simp
 have f:=FV (common a t) (aS (t.length-common a t)++(t.drop (common a t)++y)) ah;have g:=FV (t.length-common a t) (t.drop (common a t)++y) ah;have h:(tJ a t).length=(aS (common a t)).length+(aS (t.length-common a t)).length+(t.length-common a t):=by unfold tJ;simp;omega
 have i:(aS (common a t)++(aS (t.length-common a t)++(t.drop (common a t)++y))).drop ((aS (common a t)).length+(aS (t.length-common a t)).length)=t.drop (common a t)++y:=by rw[<-List.append_assoc,<-dM,uf]
 have j:(t.drop (common a t)++y).take (t.length-common a t)=t.drop (common a t):=by rw[<-fP,Ug]
 have k:¬(first=false/\Op.bytesLess a t=false):=by
  rintro⟨l,m⟩
  have:=(MX a t).2 (c l);rw[m]at this;cases this
 unfold bT;simp only[d];rw[e,f];simp only[ne_eq,not_true_eq_false,if_false,uf,g,i,j,apf];rw[dL,aj (by simp;omega),aj k,dL,h]
def akK:∀(l:List Row)(a:Q2)(first:Bool)(y:Q2),(first=true->a=[])->(first=false->∀r∈l,a<K r)->jO l->(∀r∈l,yL r=0/\iY r.1=true/\0<=r.2/\r.2<18446744073709551616)->
 iL l.length a first (nM a l++y)=(l,(nM a l).length,0)
 |[],a,first,y,_,_,_,_=>by simp[iL,nM]
 |r::l,a,first,y,g,h,i,d=>by
  obtain⟨h1,j⟩:=jm.1 i;obtain⟨f,k,t,u⟩:=d r aA;have v:(K r).length<=30000:=Ry k;rw[OM]at f;have m:nM a (r::l)++y=tJ a (K r)++(aS r.2.toNat++(nM (K r) l++y)):=by simp[nM]
  have n:=azy a (K r) (aS r.2.toNat++(nM (K r) l++y)) first g (λe=>h e r aA) ah
  have o:=FV r.2.toNat (nM (K r) l++y) ah;have p:=agT r.1 f.1;have s:=akK l (K r) false y (λe=>by cases e) (λ_=>h1) j λq b=>d q (by simp[b]);have c:(tJ a (K r)++(aS r.2.toNat++(nM (K r) l++y))).drop ((tJ a (K r)).length+(aS r.2.toNat).length)=nM (K r) l++y:=by rw[<-List.append_assoc,<-dM,uf]
  have b:iI (K r) (aS r.2.toNat++(nM (K r) l++y))=(r,(aS r.2.toNat).length,0):=by unfold iI;rw[o,p];simp only[ne_eq,not_true_eq_false,if_false];rw[dL];have:((r.2.toNat:Nat):Int)=r.2:=ah;rw[this]
  rw[ig,XH,m,n];simp only[ne_eq,not_true_eq_false,if_false,uf,b,c,s];simp[nM,jV]
def awy(t:List Row)(y:Q2)(h:AX t):oq (qy t++y)=(t,(qy t).length,0):=by
 have f:=h.len;have b:=FV t.length (nM [] t++y) ah;have c:qy t++y=aS t.length++(nM [] t++y):=by unfold qy;simp
 have d:=akK t [] true y (λ_=>rfl) (λe=>by cases e) h.ok.2.1 λr a=>⟨h.ok.2.2 r a,h.few r a,(h.rows.2 r a).2.1,(h.rows.2 r a).2.2⟩
 unfold oq;rw[c,b];simp only[ne_eq,not_true_eq_false,if_false,uf,d];rw[dL];unfold qy;simp
def aEO(t:List Row)(h:AX t):tK (qy t)=(t,0):=by have:=awy t [] h;rw[lQ]at this;unfold tK;rw[this];simp
structure One where
 deep:Int
 tag:Int
 typ:Int
 num:Int
 text:Q2
inductive aK where
 |mk (tag typ num:Int) (text:Q2) (l:List aK)
def one(x:One):GV:=.g [.i .u8 x.deep,.zu x.tag,.i .i8 x.typ,.zu x.num,.s x.text]
@[simp] theorem aH7(x:One):(one x).cells=[.i .u8 x.deep,.zu x.tag,.i .i8 x.typ,.zu x.num,.s x.text]:=rfl
mutual
def qJ:aK->GV
 |.mk t y n s l=>.g [.zu t,.zq y,.zu n,.s s,.l (aI l)]
def aI:List aK->List GV
 |[]=>[]
 |f::l=>qJ f::aI l
end
def qh:∀(a:List aK),(aI a).length=a.length
 |[]=>rfl
 |f::a=>by simp only[aI,ig,qh a]
structure aQ where
 kind:Int
 id:Int
 min:Int
 max:Int
 chosen:Int
 flags:Int
 cost:Int
 priority:Int
 deadline:Int
 retry:Int
 epoch:Int
 base:Int
 digest:Int
 lag:Int
 code:Int
 want:Int
 remaining:Int
 allowed:Bool
 name:Q2
 region:Q2
 note:Q2
 d:List dU
 t:List Row
def jc(b:aQ)(r:Q3):GV:=.g [.zq b.kind,.zu b.id,.zu b.min,.zu b.max,.zu b.chosen,.zu b.flags,.zu b.cost,.zu b.priority,.zu b.deadline,.zu b.retry,.zu b.epoch,.zu b.base,.zu b.digest,.zu b.lag,.zu b.code,.zu b.want,.zq b.remaining,.b b.allowed,.s b.name,.s b.region,.s b.note,.l (b.d.map ent),.l (b.t.map row),.l r]
def lJ(b:aQ)(r:Q3):GV.g [.zq b.kind,.zu b.id,.zu b.min,.zu b.max,.zu b.chosen,.zu b.flags,.zu b.cost,.zu b.priority,.zu b.deadline,.zu b.retry,.zu b.epoch,.zu b.base,.zu b.digest,.zu b.lag,.zu b.code,.zu b.want,.zq b.remaining,.b b.allowed,.s b.name,.s b.region,.s b.note,.l (b.d.map ent),.l (b.t.map row),.l r]=jc b r:=rfl
@[simp] theorem fD(b:aQ)(r:Q3):(jc b r).cells=[.zq b.kind,.zu b.id,.zu b.min,.zu b.max,.zu b.chosen,.zu b.flags,.zu b.cost,.zu b.priority,.zu b.deadline,.zu b.retry,.zu b.epoch,.zu b.base,.zu b.digest,.zu b.lag,.zu b.code,.zu b.want,.zq b.remaining,.b b.allowed,.s b.name,.s b.region,.s b.note,.l (b.d.map ent),.l (b.t.map row),.l r]:=rfl
structure vP(b:aQ):Prop where
 kind: -9223372036854775808<=b.kind/\b.kind<=9223372036854775807
 id:0<=b.id/\b.id<18446744073709551616
 min:0<=b.min/\b.min<18446744073709551616
 max:0<=b.max/\b.max<18446744073709551616
 chosen:0<=b.chosen/\b.chosen<18446744073709551616
 flags:0<=b.flags/\b.flags<18446744073709551616
 cost:0<=b.cost/\b.cost<18446744073709551616
 priority:0<=b.priority/\b.priority<18446744073709551616
 deadline:0<=b.deadline/\b.deadline<18446744073709551616
 retry:0<=b.retry/\b.retry<18446744073709551616
 epoch:0<=b.epoch/\b.epoch<18446744073709551616
 base:0<=b.base/\b.base<18446744073709551616
 digest:0<=b.digest/\b.digest<18446744073709551616
 lag:0<=b.lag/\b.lag<18446744073709551616
 code:0<=b.code/\b.code<18446744073709551616
 want:0<=b.want/\b.want<18446744073709551616
 remaining: -9223372036854775808<=b.remaining/\b.remaining<=9223372036854775807
 name:b.name.length<=140737488351232
 region:b.region.length<=140737488351232
 note:b.note.length<=140737488351232
 d:tX b.d
 t:Rows b.t
def avj{k:IntKind}{g:GV}(h:(cO.int k).has g):∃n,g=.i k n/\k.min<=n/\n<=k.max:=by simp only[cO.has]at h;exact h
def aaZ{g:GV}(h:(cO.int .i64).has g):∃n,g=.zq n/\-9223372036854775808<=n/\n<=9223372036854775807:=by obtain⟨n,rfl,a,b⟩:=avj h;exact⟨n,rfl,by simpa[IntKind.min,IntKind.signed,IntKind.bits]using a,by simpa[IntKind.max,IntKind.signed,IntKind.bits]using b⟩
def tu(a c:Int)(n:Q2):aQ:=⟨1,0,a,c,0,0,0,0,0,0,0,0,0,0,0,0,0,false,n,[],[],[],[]⟩
structure eF where
 tag:Int
 use:Int
 from_:Int
 name:Q2
def gB(s:eF):GV:=.g [.zu s.tag,.zq s.use,.zq s.from_,.s s.name]
@[simp] theorem aIo(s:eF):(gB s).cells=[.zu s.tag,.zq s.use,.zq s.from_,.s s.name]:=rfl
def aDL(s:eF):GV.g [.zu s.tag,.zq s.use,.zq s.from_,.s s.name]=gB s:=rfl
def sp1:List eF:=[⟨1,0,1,[109,105,110]⟩,⟨2,0,1,[109,97,120]⟩,⟨3,3,1,[110,97,109,101]⟩,⟨4,3,2,[114,101,103,105,111,110]⟩,⟨5,0,3,[102,108,97,103,115]⟩]
def sp2:List eF:=[⟨1,0,1,[99,104,111,115,101,110]⟩,⟨2,3,1,[110,97,109,101]⟩,⟨3,3,2,[114,101,103,105,111,110]⟩]
def Fv:List eF:=[⟨1,0,1,[105,100]⟩,⟨2,4,1,[100,101,115,99,114]⟩,⟨3,0,1,[99,111,115,116]⟩,⟨4,0,2,[112,114,105,111,114,105,116,121]⟩,⟨5,0,3,[100,101,97,100,108,105,110,101]⟩]
def Fz:List eF:=[⟨1,0,1,[105,100]⟩,⟨2,1,1,[97,108,108,111,119,101,100]⟩,⟨3,2,1,[114,101,109,97,105,110,105,110,103]⟩,⟨4,0,2,[114,101,116,114,121]⟩,⟨5,3,3,[110,111,116,101]⟩]
def FB:List eF:=[⟨1,0,1,[101,112,111,99,104]⟩,⟨2,5,1,[116,97,98,108,101]⟩,⟨3,3,2,[114,101,103,105,111,110]⟩,⟨4,0,3,[100,105,103,101,115,116]⟩]
def FD:List eF:=[⟨1,0,2,[98,97,115,101]⟩,⟨2,0,2,[101,112,111,99,104]⟩,⟨3,5,2,[116,97,98,108,101]⟩,⟨4,3,2,[114,101,103,105,111,110]⟩,⟨5,0,3,[100,105,103,101,115,116]⟩]
def FH:List eF:=[⟨1,0,1,[101,112,111,99,104]⟩,⟨2,0,3,[108,97,103]⟩]
def FI:List eF:=[⟨1,0,1,[101,112,111,99,104]⟩,⟨2,0,1,[99,111,100,101]⟩,⟨3,0,2,[119,97,110,116]⟩,⟨4,3,3,[110,111,116,101]⟩]
def zG(k:Int):List eF:=if k=1 then sp1 else if k=2 then sp2 else if k=3 then Fv else if k=4 then Fz else if k=5 then FB else if k=6 then FD else if k=7 then FH else if k=8 then FI else[]
def qj(k:Int):Int:=if k=1 then 1 else if k=2 then 1 else if k=3 then 1 else if k=4 then 1 else if k=5 then 1 else if k=6 then 2 else if k=7 then 1 else if k=8 then 1 else 0
def aZ(k v:Int):List eF:=(zG k).filter λs=>decide (s.from_<=v)
def avw:TT.lim 76 []=some [.l (sp1.map gB)]:=by refine aV ?_;simp[sp1,gB]
def avs:TT.lim 78 []=some [.l (sp2.map gB)]:=by refine aV ?_;simp[sp2,gB]
def aoE:TT.lim 79 []=some [.l (Fv.map gB)]:=by refine aV ?_;simp[Fv,gB]
def aoF:TT.lim 80 []=some [.l (Fz.map gB)]:=by refine aV ?_;simp[Fz,gB]
def auj:TT.lim 81 []=some [.l (FB.map gB)]:=by refine aV ?_;simp[FB,gB]
def asG:TT.lim 82 []=some [.l (FD.map gB)]:=by refine aV ?_;simp[FD,gB]
def anA:TT.lim 83 []=some [.l (FH.map gB)]:=by refine aV ?_;simp[FH,gB]
def aAK:TT.lim 84 []=some [.l (FI.map gB)]:=by refine aV ?_;simp[FI,gB]
def abw(k:Int):TT.lim 74 [.zq k]=some [.zq (qj k)]:=by
 refine aV ?_;unfold qj;by_cases a:k=1
 ·simp[a]
 by_cases b:k=2
 ·simp[b]
 by_cases c:k=3
 ·simp[c]
 by_cases d:k=4
 ·simp[d]
 by_cases e:k=5
 ·simp[e]
 by_cases f:k=6
 ·simp[f]
 by_cases g:k=7
 ·simp[g]
 by_cases h:k=8
 ·simp[h]
 simp[a,b,c,d,e,f,g,h]
def aby(v:Int)(l:List eF)(j:l.length<=8):∀(m i:Nat)(a:List eF),i+m=l.length->a.length<=i->
 TT.lim 77 [.zq v,.l (a.map gB),.l (l.map gB),.zq l.length,.zq i]=some [.zq 0,.l ((a++(l.drop i).filter λs=>decide (s.from_<=v)).map gB)]
 |0,i,a,hi,p=>by have h0:l.drop i=[]:=iE;refine aB ?_;have h:¬((i:Int)<l.length):=ah;simp[h,h0]
 |m+1,i,a,hi,p=>by
  have c:i<l.length:=ah;have k:=iG c;refine aB ?_;have h:((i:Int)<l.length):=ah;have n:=bI ((i:Int)+1);have e:2*(a.length+1)*40<=281474976710656:=ah;have f:a.length<=281474976710655:=ah;have g:(gB l[i]).gu 4=true:=rfl;have b:((i:Int)+1)=((i+1:Nat):Int):=ah;by_cases o:l[i].from_<=v
  ·have d:=aby v l j m (i+1) (a++[l[i]]) ah (by simp;omega);rw[<-b,nP]at d;simp only[iU,jU]at d;simp[-List.getElem_cons_drop,h,c,o,n,aDL,e,f,g,d,k]
  ·have d:=aby v l j m (i+1) a ah ah;rw[<-b]at d;simp[-List.getElem_cons_drop,h,c,o,n,d,k]
def aDK(k:Int):(zG k).length<=8:=by
 unfold zG;repeat' split
 all_goals (first|(unfold sp1;decide)|(unfold sp2;decide)|(unfold Fv;decide)|(unfold Fz;decide)|(unfold FB;decide)|(unfold FD;decide)|(unfold FH;decide)|(unfold FI;decide)|decide)
def Hq(v:Int)(l:List eF)(a:l.length<=8):TT.lim 77 [.zq v,.l [],.l (l.map gB),.zq l.length,.zq 0]=some [.zq 0,.l ((l.filter λs=>decide (s.from_<=v)).map gB)]:=by have:=aby v l a l.length 0 [] ah aA;simpa using this
def W9(k v:Int)(h1:1<=v)(E:v<=3)(d:qj k<=v):TT.lim 75 [.zq k,.zq v]=some [.l ((aZ k v).map gB)]:=by
 have a:¬v<1:=ah;have b:¬3<v:=ah;unfold aZ zG;unfold qj at d;have m:=Hq v sp1 aU;have n:=Hq v sp2 aU;have o:=Hq v Fv aU;have p:=Hq v Fz aU;have q:=Hq v FB aU;have r:=Hq v FD aU;have s:=Hq v FH aU;have g8:=Hq v FI aU;have t:=avw;have u:=avs;have w:=aoE;have x:=aoF;have y:=auj;have z:=asG;have A:=anA;have B:=aAK;generalize sp1=F,sp2=G,Fv=H,Fz=I,FB=J,FD=L,FH=M,FI=N at *;refine aV ?_;by_cases e:k=1
 ·simp[e,a,b,t,m]
 by_cases f:k=2
 ·simp[f,a,b,u,n]
 by_cases g:k=3
 ·simp[g,a,b,w,o]
 by_cases h:k=4
 ·simp[h,a,b,x,p]
 by_cases i:k=5
 ·simp[i,a,b,y,q]
 by_cases c:k=6
 ·have D:¬v<2:=by subst c;simpa using d
  simp[c,a,D,b,z,r]
 by_cases j:k=7
 ·simp[j,a,b,A,s]
 by_cases l:k=8
 ·simp[l,a,b,B,g8]
 simp[e,f,g,h,i,c,j,l]
def aiV(k v:Int)(h1:1<=v)(j:v<=3):aZ k v=[]↔qj k=0\/v<qj k:=by
 have a:v=1\/v=2\/v=3:=ah;unfold aZ zG qj;by_cases b:k=1
 ·subst b;rcases a with rfl|rfl|rfl<;>decide
 by_cases c:k=2
 ·subst c;rcases a with rfl|rfl|rfl<;>decide
 by_cases d:k=3
 ·subst d;rcases a with rfl|rfl|rfl<;>decide
 by_cases e:k=4
 ·subst e;rcases a with rfl|rfl|rfl<;>decide
 by_cases f:k=5
 ·subst f;rcases a with rfl|rfl|rfl<;>decide
 by_cases g:k=6
 ·subst g;rcases a with rfl|rfl|rfl<;>decide
 by_cases h:k=7
 ·subst h;rcases a with rfl|rfl|rfl<;>decide
 by_cases i:k=8
 ·subst i;rcases a with rfl|rfl|rfl<;>decide
 simp[b,c,d,e,f,g,h,i]
def aK.tag:aK->Int
 |.mk t _ _ _ _=>t
def Dc:∀(a:List aK),aI a=a.map qJ
 |[]=>rfl
 |f::a=>by simp only[aI,iU,Dc a]
mutual
def wR:aK->Nat
 |.mk _ _ _ _ l=>dO l+1
def dO:List aK->Nat
 |[]=>0
 |f::l=>wR f+dO l+1
end
mutual
def uG:aK->Prop
 |.mk t y n s k=>(0<=t/\t<18446744073709551616/\-128<=y/\y<=127/\0<=n/\n<18446744073709551616/\s.length<=100000000/\k.length<=1000000)/\fB k
def fB:List aK->Prop
 |[]=>True
 |f::r=>uG f/\fB r
end
def G8:∀{l:List aK},fB l->∀f∈l,uG f
 |f::l,h,g,a=>by
  simp only[fB]at h;rcases bJ.1 a with rfl|a
  ·exact h.1
  ·exact G8 h.2 g a
def YC:∀{l:List aK}{f:aK},f∈l->wR f<dO l
 |g::l,f,h=>by
  simp only[dO];rcases bJ.1 h with rfl|h
  ·omega
  ·have:=YC h;omega
mutual
def zY(w:Nat):aK->Int
 |.mk _ y n s k=>if y=0 then(if s=[]/\k=[]then 0 else 8)else if y=1 then(if n=0/\k=[]then 0 else 8)else if y=2 then(if n=0/\s=[]then(if 8<=w then 9 else jJ (w+1) 0 k)else 8)else 8
def jJ(w:Nat)(ahead:Int):List aK->Int
 |[]=>0
 |f::r=>if f.tag=0 then 18 else if 4294967296<f.tag then 18 else if f.tag<=ahead then 7 else if zY w f≠0 then zY w f else jJ w f.tag r
end
@[simp] theorem NI(t y n:Int)(s:Q2)(k:List aK):(qJ (.mk t y n s k)).cells=[.zu t,.zq y,.zu n,.s s,.l (aI k)]:=by simp only[qJ];rfl
def aub(k:List aK):(aI k).length=0↔k=[]:=by rw[qh,aeK]
def ahm:∀(N:Nat)(l:List aK),dO l<N->fB l->l.length<=1000000->∀w:Nat,w<=8->TT.lim 113 [.l (aI l),.zq w]=some [.zq (jJ w 0 l)]
 |0,l,h,_,_,_,_=>ah
 |N+1,l,S,G,J,w,P=>by
  have loop:∀m i (ahead:Int),i+m=l.length->TT.lim 114 [.zq w,.zu ahead,.l (aI l),.zq l.length,.zq i]=some (if jJ w ahead (l.drop i)=0 then[.zq 1]else[.zq 0,.zq (jJ w ahead (l.drop i))]):=by
   intro m;induction m with
   |zero=>intro i ahead hi;have r:l.drop i=[]:=iE;refine aB ?_;have h:¬((i:Int)<l.length):=ah;simp[h,r,jJ]
   |succ m Q=>
    intro i ahead hi;have q:i<l.length:=ah;rw[iG q];have H:=G8 G l[i] (gY q);have R:=YC (gY q);have b:(aI l)[i]? =some (qJ l[i]):=by rw[Dc,iO,bV q];rfl
    have u:((i:Int)+1)=((i+1:Nat):Int):=ah;have c:=λa=>Q (i+1) a ah;simp only[<-u]at c;generalize l[i]=f at *;obtain⟨t,y,n,s,k⟩:=f;simp only[uG]at H;simp only[wR]at R;have g:=bI ((i:Int)+1);have A:=bI ((w:Int)+1);refine aB ?_;have h:((i:Int)<l.length):=ah;have z:=λh=>ahm N k ah H.2 H.1.2.2.2.2.2.2.2 (w+1) h;simp only[F6,Int.natCast_one]at z;have B:((aI k).length=0)=(k=[]):=propext (aub k);simp only[jJ,aK.tag];by_cases d:t=0
    ·simp[h,b,d]
    by_cases e:4294967296<t
    ·simp[h,b,d,e]
    by_cases j:t<=ahead
    ·simp[h,b,d,e,j]
    simp only[zY];by_cases L:y=0
    ·subst L;by_cases o:s=[]
     ·by_cases p:k=[]
      ·simp[h,b,d,e,j,o,p,g,c,aI]
      ·simp[h,b,d,e,j,o,p,g,c,B]
     ·simp[h,b,d,e,j,o]
    by_cases M:y=1
    ·subst M;by_cases o:n=0
     ·by_cases p:k=[]
      ·simp[h,b,d,e,j,o,p,g,c,aI]
      ·simp[h,b,d,e,j,o,p,g,c,B]
     ·simp[h,b,d,e,j,o]
    by_cases O:y=2
    ·subst O;by_cases o:n=0
     ·by_cases p:s=[]
      ·by_cases I:8<=w
       ·have E:(8:Int)<=w:=ah;simp[h,b,d,e,j,o,p,I,E]
       ·have E:¬(8:Int)<=w:=ah;have z:=z ah;by_cases v:jJ (w+1) 0 k=0
        ·rw[v]at z;simp[h,b,d,e,j,o,p,I,E,A,z,v,g,c,aK.tag]
        ·simp[h,b,d,e,j,o,p,I,E,A,z,v,g,c,aK.tag]
      ·simp[h,b,d,e,j,o,p]
     ·simp[h,b,d,e,j,o]
    simp[h,b,d,e,j,L,M,O]
  have r:=loop l.length 0 0 ah;rw[dY]at r;refine aV ?_;have D:=qh l;by_cases F:jJ w 0 l=0
  ·rw[au F]at r;have x:TT.lim 114 [.zq w,.zu 0,.l (aI l),.zq (aI l).length,.zq 0]=some [.zq 1]:=by rw[D];exact r
   simp[x,F]
  ·rw[aj F]at r;have x:TT.lim 114 [.zq w,.zu 0,.l (aI l),.zq (aI l).length,.zq 0]=some [.zq 0,.zq (jJ w 0 l)]:=by rw[D];exact r
   simp[x,F]
def VO(l:List aK)(b:fB l)(a:l.length<=1000000):TT.lim 112 [.l (aI l)]=some [.zq (jJ 0 0 l)]:=by have h:=ahm (dO l+1) l ah b a 0 ah;have c:TT.lim 113 [.l (aI l),.zq 0]=_:=h;refine aV ?_;simp[c]
inductive Pl where
 |rem|allow|name|region|note|d|t
 |num (k:Nat)
def Ky:Q2:=[114,101,109,97,105,110,105,110,103]
def JZ:Q2:=[97,108,108,111,119,101,100]
def Ku:Q2:=[110,97,109,101]
def Kw:Q2:=[114,101,103,105,111,110]
def ET:Q2:=[110,111,116,101]
def J7:Q2:=[100,101,115,99,114]
def KA:Q2:=[116,97,98,108,101]
def Ko:Q2:=[105,100]
def Kt:Q2:=[109,105,110]
def Kr:Q2:=[109,97,120]
def J4:Q2:=[99,104,111,115,101,110]
def J9:Q2:=[102,108,97,103,115]
def J5:Q2:=[99,111,115,116]
def Kv:Q2:=[112,114,105,111,114,105,116,121]
def J6:Q2:=[100,101,97,100,108,105,110,101]
def Kz:Q2:=[114,101,116,114,121]
def BK:Q2:=[101,112,111,99,104]
def J3:Q2:=[98,97,115,101]
def J8:Q2:=[100,105,103,101,115,116]
def Kq:Q2:=[108,97,103]
def BJ:Q2:=[99,111,100,101]
def Dt:Q2:=[119,97,110,116]
def placeOf(n:Q2):Option Pl:=
 if n=Ky then some .rem else if n=JZ then some .allow else if n=Ku then some .name else if n=Kw then some .region else if n=ET then some .note else if n=J7 then some .d else if n=KA then some .t else if n=Ko then some (.num 0)else if n=Kt then some (.num 1)else if n=Kr then some (.num 2)else if n=J4 then some (.num 3)else if n=J9 then some (.num 4)else if n=J5 then some (.num 5)else if n=Kv then some (.num 6)else if n=J6 then some (.num 7)else if n=Kz then some (.num 8)else if n=BK then some (.num 9)else if n=J3 then some (.num 10)else if n=J8 then some (.num 11)else if n=Kq then some (.num 12)else if n=BJ then some (.num 13)else if n=Dt then some (.num 14)else none
def akE:placeOf Ky=some .rem:=rfl
def akm:placeOf JZ=some .allow:=rfl
def akA:placeOf Ku=some .name:=rfl
def akD:placeOf Kw=some .region:=rfl
def akB:placeOf ET=some .note:=rfl
def aks:placeOf J7=some .d:=rfl
def akG:placeOf KA=some .t:=rfl
def akw:placeOf Ko=some (.num 0):=rfl
def akz:placeOf Kt=some (.num 1):=rfl
def aky:placeOf Kr=some (.num 2):=rfl
def ako:placeOf J4=some (.num 3):=rfl
def akv:placeOf J9=some (.num 4):=rfl
def akq:placeOf J5=some (.num 5):=rfl
def akC:placeOf Kv=some (.num 6):=rfl
def akr:placeOf J6=some (.num 7):=rfl
def akF:placeOf Kz=some (.num 8):=rfl
def aku:placeOf BK=some (.num 9):=rfl
def akn:placeOf J3=some (.num 10):=rfl
def akt:placeOf J8=some (.num 11):=rfl
def akx:placeOf Kq=some (.num 12):=rfl
def akp:placeOf BJ=some (.num 13):=rfl
def akH:placeOf Dt=some (.num 14):=rfl
def qp(b:aQ)(k:Nat):Int:=match k with
 |0=>b.id
 |1=>b.min
 |2=>b.max
 |3=>b.chosen
 |4=>b.flags
 |5=>b.cost
 |6=>b.priority
 |7=>b.deadline
 |8=>b.retry
 |9=>b.epoch
 |10=>b.base
 |11=>b.digest
 |12=>b.lag
 |13=>b.code
 |_=>b.want
def jk(b:aQ):Pl->Bool
 |.rem=>decide (b.remaining=0)
 |.allow=>!b.allowed
 |.name=>decide (b.name=[])
 |.region=>decide (b.region=[])
 |.note=>decide (b.note=[])
 |.d=>decide (b.d=[])
 |.t=>decide (b.t=[])
 |.num k=>decide (qp b k=0)
def qR(b:aQ)(n:Q2):Bool:=match placeOf n with
 |some p=>jk b p
 |none=>true
def nJ(b:aQ):Pl->Int
 |.name=>qX b.name 0 256
 |.region=>qX b.region 0 256
 |.note=>qX b.note 0 256
 |.d=>if b.d=[]then 0 else yA b.d
 |.t=>oK b.t
 |_=>0
def yH(b:aQ)(n:Q2):Int:=match placeOf n with
 |some p=>nJ b p
 |none=>0
def zz(x:Int):Int:=if 0<=x then 2*x else -2*x-1
def bC(b:aQ):Pl->Int×Q2
 |.rem=>(zz b.remaining,[])
 |.allow=>(if b.allowed=true then 1 else 0,[])
 |.name=>(0,b.name)
 |.region=>(0,b.region)
 |.note=>(0,b.note)
 |.d=>(0,if b.d=[]then[]else dN b.d)
 |.t=>(0,if b.t=[]then[]else(E8 b.t).1)
 |.num k=>(qp b k,[])
def dZ:Pl->Int
 |.num _=>0
 |.rem=>0
 |.allow=>0
 |_=>1
def aFb:Pl->Int
 |.num _=>0
 |.allow=>1
 |.rem=>2
 |.d=>4
 |.t=>5
 |_=>3
def nameOf:Pl->List UInt8
 |.rem=>Ky
 |.allow=>JZ
 |.name=>Ku
 |.region=>Kw
 |.note=>ET
 |.d=>J7
 |.t=>KA
 |.num k=>match k with
  |0=>Ko
  |1=>Kt
  |2=>Kr
  |3=>J4
  |4=>J9
  |5=>J5
  |6=>Kv
  |7=>J6
  |8=>Kz
  |9=>BK
  |10=>J3
  |11=>J8
  |12=>Kq
  |13=>BJ
  |_=>Dt
def Ia:Pl->Prop
 |.num k=>k<15
 |_=>True
def awr{c:Prop}[Decidable c]{a b:Option Pl}{p:Pl}(h:(if c then a else b)=some p):(c/\a=some p)\/(¬c/\b=some p):=by
 by_cases e:c
 ·rw[au e]at h;exact .inl ⟨e,h⟩
 ·rw[aj e]at h;exact .inr ⟨e,h⟩
def Aj(n:Q2)(p:Pl)(h:placeOf n=some p):n=nameOf p/\Ia p/\n∈iR:=by
 unfold placeOf at h
 iterate 22
  replace h:=awr h
  rcases h with⟨e,h⟩|⟨-,h⟩
  ·cases h;subst e;exact⟨rfl,by first|exact trivial|exact(show _<15 by decide),aU⟩
 cases h
def akI{a b:Q2}{p:Pl}(c:placeOf a=some p)(d:placeOf b=some p):a=b:=by rw[(Aj a p c).1,(Aj b p d).1]
def awo{n m:Q2}{p q:Pl}(b:placeOf n=some p)(a:placeOf m=some q):(n=m)=(p=q):=
 propext ⟨λe=>by subst e;rw[b]at a;cases a;rfl,λe=>by subst e;exact akI b a⟩
def WR{n:Q2}{p:Pl}(a:placeOf n=some p):((n=[114,101,109,97,105,110,105,110,103])=(p=.rem))/\((n=[97,108,108,111,119,101,100])=(p=.allow))/\((n=[110,97,109,101])=(p=.name))/\((n=[114,101,103,105,111,110])=(p=.region))/\((n=[110,111,116,101])=(p=.note))/\((n=[100,101,115,99,114])=(p=.d))/\((n=[116,97,98,108,101])=(p=.t))/\((n=[105,100])=(p=.num 0))/\((n=[109,105,110])=(p=.num 1))/\((n=[109,97,120])=(p=.num 2))/\((n=[99,104,111,115,101,110])=(p=.num 3))/\((n=[102,108,97,103,115])=(p=.num 4))/\((n=[99,111,115,116])=(p=.num 5))/\((n=[112,114,105,111,114,105,116,121])=(p=.num 6))/\((n=[100,101,97,100,108,105,110,101])=(p=.num 7))/\((n=[114,101,116,114,121])=(p=.num 8))/\((n=[101,112,111,99,104])=(p=.num 9))/\((n=[98,97,115,101])=(p=.num 10))/\((n=[100,105,103,101,115,116])=(p=.num 11))/\((n=[108,97,103])=(p=.num 12))/\((n=[99,111,100,101])=(p=.num 13))/\((n=[119,97,110,116])=(p=.num 14)):=by and_intros<;>exact awo a rfl
def aiH{n:Q2}(h:placeOf n=none):((n=[114,101,109,97,105,110,105,110,103])=False)/\((n=[97,108,108,111,119,101,100])=False)/\((n=[110,97,109,101])=False)/\((n=[114,101,103,105,111,110])=False)/\((n=[110,111,116,101])=False)/\((n=[100,101,115,99,114])=False)/\((n=[116,97,98,108,101])=False)/\((n=[105,100])=False)/\((n=[109,105,110])=False)/\((n=[109,97,120])=False)/\((n=[99,104,111,115,101,110])=False)/\((n=[102,108,97,103,115])=False)/\((n=[99,111,115,116])=False)/\((n=[112,114,105,111,114,105,116,121])=False)/\((n=[100,101,97,100,108,105,110,101])=False)/\((n=[114,101,116,114,121])=False)/\((n=[101,112,111,99,104])=False)/\((n=[98,97,115,101])=False)/\((n=[100,105,103,101,115,116])=False)/\((n=[108,97,103])=False)/\((n=[99,111,100,101])=False)/\((n=[119,97,110,116])=False):=by and_intros<;>exact eq_false λe=>by subst e;exact absurd h aU
def Ox{Q:(p:Pl)->Ia p->Prop}(h0:Q (.rem) trivial)(h1:Q (.allow) trivial)(o:Q (.name) trivial)(q:Q (.region) trivial)(r:Q (.note) trivial)(h5:Q (.d) trivial)(h6:Q (.t) trivial)(s:Q (.num 0) (show 0<15 by decide))(t:Q (.num 1) (show 1<15 by decide))(u:Q (.num 2) (show 2<15 by decide))(b:Q (.num 3) (show 3<15 by decide))(c:Q (.num 4) (show 4<15 by decide))(d:Q (.num 5) (show 5<15 by decide))(e:Q (.num 6) (show 6<15 by decide))(f:Q (.num 7) (show 7<15 by decide))(g:Q (.num 8) (show 8<15 by decide))(h:Q (.num 9) (show 9<15 by decide))(i:Q (.num 10) (show 10<15 by decide))(j:Q (.num 11) (show 11<15 by decide))(l:Q (.num 12) (show 12<15 by decide))(m:Q (.num 13) (show 13<15 by decide))(n:Q (.num 14) (show 14<15 by decide))(p:Pl)(a:Ia p):Q p a:=by
 cases p with
 |num k=>simp only[Ia]at a;rcases(ah:k=0\/k=1\/k=2\/k=3\/k=4\/k=5\/k=6\/k=7\/k=8\/k=9\/k=10\/k=11\/k=12\/k=13\/k=14)with rfl|rfl|rfl|rfl|rfl|rfl|rfl|rfl|rfl|rfl|rfl|rfl|rfl|rfl|rfl<;>assumption
 |_=>assumption
def xA(a:We):Q3:=a.map λp=>.g [.s p,.b true]
def Di(a:We)(x:Q2):We:=if x∈a then a else a++[x]
def ZH(n:Q2):∀a:We,gy (.s n) (xA a)=if n∈a then some (.b true)else none
 |[]=>rfl
 |p::a=>by
  have b:=ZH n a;simp only[xA,iU,gy,qO]at b⊢;by_cases e:n=p
  ·subst e;simp
  ·have c:¬p=n:=λh=>e h.symm;simp[e,b]
def ak2(x:Q2):∀a:We,kK (.s x) (.b true) (xA a)=xA (Di a x)
 |[]=>rfl
 |p::a=>by
  have b:=ak2 x a;unfold Di at b⊢;simp only[xA,iU,kK,qO]at b⊢;by_cases e:x=p
  ·subst e;simp
  ·have d:(x==p)=false:=by simpa using e
   simp only[d,iJ,if_false];rw[b];by_cases c:x∈a
   ·simp only[c,if_true,bJ,or_true,iU]
   ·simp only[c,if_false,bJ,e,or_false,bg,iU]
def Bz(a:We)(l:List eF):We:=l.foldl (λa s=>Di a s.name) a
def axl(n x:Q2)(a:We):n∈Di a x↔n∈a\/x=n:=by
 unfold Di;split
 ·next h=>exact⟨.inl,λe=>e.elim id (λe=>e▸h)⟩
 ·simp[eq_comm]
def ajD(n:Q2):∀(l:List eF)(a:We),n∈Bz a l↔n∈a\/∃s∈l,s.name=n
 |[],a=>by simp[Bz]
 |s::l,a=>by have:=ajD n l (Di a s.name);unfold Bz at this⊢;rw[List.foldl_cons,this,axl];simp[or_assoc]
def uZ(l:List eF)(n:Q2):Bool:=l.any λs=>decide (s.name=n)
def axk(n:Q2)(l:List eF):decide (n∈Bz [] l)=uZ l n:=by rw[yR,decide_eq_true_iff,ajD];simp[uZ]
def ajx(b:aQ)(r:Q3)(l:List eF)(f:l.length<=1000):∀(m i:Nat)(a:We),i+m=l.length->
 TT.lim 85 [.l (l.map gB),.zq l.length,.zq i,.l (xA a),.zq b.kind,.zu b.id,.zu b.min,.zu b.max,.zu b.chosen,.zu b.flags,.zu b.cost,.zu b.priority,.zu b.deadline,.zu b.retry,.zu b.epoch,.zu b.base,.zu b.digest,.zu b.lag,.zu b.code,.zu b.want,.zq b.remaining,.b b.allowed,.s b.name,.s b.region,.s b.note,.l (b.d.map ent),.l (b.t.map row),.l r]=some [.zq 0,.l (xA (Bz a (l.drop i)))]
 |0,i,a,hi=>by have h0:l.drop i=[]:=iE;refine aB ?_;have h:¬((i:Int)<l.length):=ah;simp[h,h0,Bz]
 |m+1,i,a,hi=>by
  have d:i<l.length:=ah;have e:=ajx b r l f m (i+1) (Di a l[i].name) ah;have c:((i:Int)+1)=((i+1:Nat):Int):=ah;rw[<-c]at e;have g:=ak2 l[i].name a;have j:Bz a (l.drop i)=Bz (Di a l[i].name) (l.drop (i+1)):=by rw[iG d];rfl
  rw[j];generalize Bz (Di a l[i].name) (l.drop (i+1))=X,xA (Di a l[i].name)=Y at *;refine aB ?_;have h:((i:Int)<l.length):=ah;have k:=bI ((i:Int)+1);simp[h,d,k,g,e]
def ano(b:aQ)(r:Q3)(n:Q2)(c:Prop):Prop:=∀(f:GV)(a:We)(i:Nat)(e:We)(d:Q3)(h:i<a.length),((i:Int)<a.length)->IntKind.i64.wrap ((i:Int)+1)=(i:Int)+1->a[i]=n->gy (.s n) (xA e)=none->
    TT.lim 87 [f,.l (a.map .s),.zq a.length,.zq ((i:Int)+1),.l (xA e),.zq b.kind,.zu b.id,.zu b.min,.zu b.max,.zu b.chosen,.zu b.flags,.zu b.cost,.zu b.priority,.zu b.deadline,.zu b.retry,.zu b.epoch,.zu b.base,.zu b.digest,.zu b.lag,.zu b.code,.zu b.want,.zq b.remaining,.b b.allowed,.s b.name,.s b.region,.s b.note,.l (b.d.map ent),.l (b.t.map row),.l r]=some d->
    (c->TT.lim 87 [f,.l (a.map .s),.zq a.length,.zq i,.l (xA e),.zq b.kind,.zu b.id,.zu b.min,.zu b.max,.zu b.chosen,.zu b.flags,.zu b.cost,.zu b.priority,.zu b.deadline,.zu b.retry,.zu b.epoch,.zu b.base,.zu b.digest,.zu b.lag,.zu b.code,.zu b.want,.zq b.remaining,.b b.allowed,.s b.name,.s b.region,.s b.note,.l (b.d.map ent),.l (b.t.map row),.l r]=some d)/\(¬c->TT.lim 87 [f,.l (a.map .s),.zq a.length,.zq i,.l (xA e),.zq b.kind,.zu b.id,.zu b.min,.zu b.max,.zu b.chosen,.zu b.flags,.zu b.cost,.zu b.priority,.zu b.deadline,.zu b.retry,.zu b.epoch,.zu b.base,.zu b.digest,.zu b.lag,.zu b.code,.zu b.want,.zq b.remaining,.b b.allowed,.s b.name,.s b.region,.s b.note,.l (b.d.map ent),.l (b.t.map row),.l r]=some [.zq 0])
def ajL:TT.lim 86 []=some [.l (iR.map .s)]:=BN (Ds:=Ds) (k:=86) (f:=Xt) rfl rfl
def ayd(b:aQ){n:Q2}{p:Pl}(h:placeOf n=some p):qR b n=jk b p:=by unfold qR;rw[h]
set_option maxHeartbeats 4000000 in
def aD8(b:aQ)(r:Q3){n:Q2}{p:Pl}(c:placeOf n=some p):ano b r n (jk b p=true):=by
 intro o q i s l h d k e f g;have j:=WR c;have m:=(Aj n p c).2.1;clear c;induction p,m using Ox<;>(refine⟨λa=>jC rfl rfl ?_,λa=>jC rfl rfl ?_⟩<;>simp only[jk,qp,decide_eq_true_iff,wU]at a)
 all_goals first
  |(have a:=eq_true a;simp[d,h,e,k,f,a,j,g];done)
  |(rw[a]at g;simp[d,h,e,k,f,a,j,g];done)
  |(simp[d,h,e,f,a,j];done)
def ajy(b:aQ)(r:Q3)(l:GV)(a:We)(g:a.length<=1000)(j:∀n∈a,placeOf n≠none)(c:We):∀(m i:Nat),i+m=a.length->
 TT.lim 87 [l,.l (a.map .s),.zq a.length,.zq i,.l (xA c),.zq b.kind,.zu b.id,.zu b.min,.zu b.max,.zu b.chosen,.zu b.flags,.zu b.cost,.zu b.priority,.zu b.deadline,.zu b.retry,.zu b.epoch,.zu b.base,.zu b.digest,.zu b.lag,.zu b.code,.zu b.want,.zq b.remaining,.b b.allowed,.s b.name,.s b.region,.s b.note,.l (b.d.map ent),.l (b.t.map row),.l r]=some (if(a.drop i).all (λn=>decide (n∈c) ||qR b n)=true then[.zq 1]else[.zq 0])
 |0,i,hi=>by have h0:a.drop i=[]:=iE;refine aB ?_;have h:¬((i:Int)<a.length):=ah;simp[h,h0]
 |m+1,i,hi=>by
  have d:i<a.length:=ah;have o:=ajy b r l a g j c m (i+1) ah;have f:((i:Int)+1)=((i+1:Nat):Int):=ah;rw[<-f]at o;have u:(a.drop i).all (λn=>decide (n∈c) ||qR b n)=((decide (a[i]∈c) ||qR b a[i])&&(a.drop (i+1)).all (λn=>decide (n∈c) ||qR b n)):=by rw[iG d,qZ]
  rw[u];generalize(a.drop (i+1)).all (λn=>decide (n∈c) ||qR b n)=X at *;by_cases e:a[i]∈c
  ·have k:=ZH a[i] c;rw[au e]at k;have v:((i:Int)<a.length):=ah;have w:=bI ((i:Int)+1);rw[GL e,Bool.true_or,FY];refine aB ?_;simp[v,d,w,k,o]
  ·have k:=ZH a[i] c;rw[aj e]at k;obtain⟨p,q⟩:=ank.1 (j _ (gY d));have s:=ayd b q;obtain⟨x,y⟩:=aD8 b r q l a i c _ d ah (bI ((i:Int)+1)) rfl k o;rw[Et e,AA];cases t:qR b a[i]with
   |true=>rw[x (by rw[<-s];exact t),FY]
   |false=>rw[y (by rw[<-s,t];decide),Y1];rfl
def IV(b:aQ)(r:Q3)(k:Nat)(a:Q3):Prop:=TT.lim k [.zq b.kind,.zu b.id,.zu b.min,.zu b.max,.zu b.chosen,.zu b.flags,.zu b.cost,.zu b.priority,.zu b.deadline,.zu b.retry,.zu b.epoch,.zu b.base,.zu b.digest,.zu b.lag,.zu b.code,.zu b.want,.zq b.remaining,.b b.allowed,.s b.name,.s b.region,.s b.note,.l (b.d.map ent),.l (b.t.map row),.l r]=some a
def axg(b:aQ){n:Q2}{p:Pl}(h:placeOf n=some p):yH b n=nJ b p:=by unfold yH;rw[h]
set_option maxHeartbeats 4000000 in
def axi(b:aQ)(r:Q3)(a:vP b)(d:∀r∈b.t,iY r.1=true):(∀k∈[89,90,96,97,98,99,100,101,102,103,104,105,106,107,108,109,110],IV b r k [.zq 0])/\IV b r 91 [.zq 0,.zq (nJ b .name)]/\IV b r 92 [.zq 0,.zq (nJ b .region)]/\IV b r 93 [.zq 0,.zq (nJ b .note)]/\IV b r 94 [.zq 0,.zq (nJ b .d)]/\IV b r 95 [.zq 0,.zq (nJ b .t)]:=by
 have f:=Gz b.name 0 256 a.name;have g:=Gz b.region 0 256 a.region;have h:=Gz b.note 0 256 a.note;have i:=af7 b.d a.d;have j:=Vh b.t a.t d;refine⟨λk c=>?_,jC rfl rfl ?_,jC rfl rfl ?_,jC rfl rfl ?_,jC rfl rfl ?_,jC rfl rfl ?_⟩
 ·simp only[bJ,List.not_mem_nil,or_false]at c;rcases c with rfl|rfl|rfl|rfl|rfl|rfl|rfl|rfl|rfl|rfl|rfl|rfl|rfl|rfl|rfl|rfl|rfl<;>(refine aB ?_;simp)
 ·simp[nJ,f]
 ·simp[nJ,g]
 ·simp[nJ,h]
 ·by_cases e:b.d=[]
  ·simp[nJ,e]
  ·have l:¬(List.map ent b.d)=[]:=by simpa using e
   have m:0<b.d.length:=LY.2 e;simp[nJ,e,i]
 ·simp[nJ,j]
def anp(b:aQ)(r:Q3)(n:Q2)(c:Int):Prop:=∀(l:List eF)(i:Nat)(a:Q3)(h:i<l.length),((i:Int)<l.length)->IntKind.i64.wrap ((i:Int)+1)=(i:Int)+1->l[i].name=n->
    TT.lim 88 [.l (l.map gB),.zq l.length,.zq ((i:Int)+1),.zq b.kind,.zu b.id,.zu b.min,.zu b.max,.zu b.chosen,.zu b.flags,.zu b.cost,.zu b.priority,.zu b.deadline,.zu b.retry,.zu b.epoch,.zu b.base,.zu b.digest,.zu b.lag,.zu b.code,.zu b.want,.zq b.remaining,.b b.allowed,.s b.name,.s b.region,.s b.note,.l (b.d.map ent),.l (b.t.map row),.l r]=some a->
    TT.lim 88 [.l (l.map gB),.zq l.length,.zq i,.zq b.kind,.zu b.id,.zu b.min,.zu b.max,.zu b.chosen,.zu b.flags,.zu b.cost,.zu b.priority,.zu b.deadline,.zu b.retry,.zu b.epoch,.zu b.base,.zu b.digest,.zu b.lag,.zu b.code,.zu b.want,.zq b.remaining,.b b.allowed,.s b.name,.s b.region,.s b.note,.l (b.d.map ent),.l (b.t.map row),.l r]=some (if c=0 then a else[.zq 0,.zq c])
set_option maxHeartbeats 4000000 in
def aD9(b:aQ)(r:Q3)(w:vP b)(x:∀r∈b.t,iY r.1=true){n:Q2}{p:Pl}(k:placeOf n=some p):anp b r n (nJ b p):=by
 intro l i y h m o q s;obtain⟨v,d,e,f,g,j⟩:=axi b r w x;simp only[List.forall_mem_cons,IV]at v d e f g j;have t:=WR k;have z:=(Aj n p k).2.1;clear k;generalize a:nJ b p=c at s⊢;induction p,z using Ox
 all_goals first
  |(obtain rfl:0=c:=a
    rw[au rfl];refine aB ?_;simp[m,h,q,o,t,v,s];done)
  |(simp only[a]at d e f g j
    by_cases u:c=0
    ·subst u;rw[au rfl];refine aB ?_;simp[m,h,q,o,t,d,e,f,g,j,s]
    ·rw[aj u];refine aB ?_;simp[m,h,q,o,t,d,e,f,g,j,u])
def oN(b:aQ):List eF->Int
 |[]=>0
 |s::l=>if yH b s.name=0 then oN b l else yH b s.name
def ajz(b:aQ)(r:Q3)(j:vP b)(k:∀r∈b.t,iY r.1=true)(l:List eF)(d:l.length<=1000)(e:∀s∈l,placeOf s.name≠none):∀(m i:Nat),i+m=l.length->
 TT.lim 88 [.l (l.map gB),.zq l.length,.zq i,.zq b.kind,.zu b.id,.zu b.min,.zu b.max,.zu b.chosen,.zu b.flags,.zu b.cost,.zu b.priority,.zu b.deadline,.zu b.retry,.zu b.epoch,.zu b.base,.zu b.digest,.zu b.lag,.zu b.code,.zu b.want,.zq b.remaining,.b b.allowed,.s b.name,.s b.region,.s b.note,.l (b.d.map ent),.l (b.t.map row),.l r]=some (if oN b (l.drop i)=0 then[.zq 1]else[.zq 0,.zq (oN b (l.drop i))])
 |0,i,hi=>by have h0:l.drop i=[]:=iE;refine aB ?_;have h:¬((i:Int)<l.length):=ah;simp[h,h0,oN]
 |m+1,i,hi=>by
  have a:i<l.length:=ah;have n:=ajz b r j k l d e m (i+1) ah;have c:((i:Int)+1)=((i+1:Nat):Int):=ah;rw[<-c]at n;obtain⟨p,o⟩:=ank.1 (e _ (gY a));have:=aD9 b r j k o l i _ a ah (bI ((i:Int)+1)) rfl n;rw[<-axg b o]at this;rw[this,iG a];by_cases f:yH b l[i].name=0
  ·have g:oN b (l[i]::l.drop (i+1))=oN b (l.drop (i+1)):=by simp only[oN,f,if_true]
   rw[au f,g]
  ·have g:oN b (l[i]::l.drop (i+1))=yH b l[i].name:=by simp only[oN,f,if_false]
   rw[aj f,g,aj f]
def hasTag(l:List eF)(t:Int):Bool:=l.any λs=>decide (t=s.tag)
def ajB(l:List eF)(c:l.length<=1000)(e f g:GV)(t:Int)(j k n d:GV):∀(m i:Nat),i+m=l.length->
 TT.lim 116 [.l (l.map gB),e,f,g,.zq l.length,.zq i,.zu t,j,k,n,d]=some (if hasTag (l.drop i) t=true then[.zq 0]else[.zq 1])
 |0,i,hi=>by have h0:l.drop i=[]:=iE;refine aB ?_;have h:¬((i:Int)<l.length):=ah;simp[h,h0,hasTag]
 |m+1,i,hi=>by
  have a:i<l.length:=ah;have o:=ajB l c e f g t j k n d m (i+1) ah;have b:((i:Int)+1)=((i+1:Nat):Int):=ah;rw[<-b]at o;have p:((i:Int)<l.length):=ah;have r:=bI ((i:Int)+1);have s:hasTag (l.drop i) t=(decide (t=l[i].tag) ||hasTag (l.drop (i+1)) t):=by rw[iG a];rfl
  rw[s];generalize hasTag (l.drop (i+1)) t=X at *;refine aB ?_;by_cases q:t=l[i].tag
  ·simp[p,a,q]
  ·simp[p,a,q,r,o]
def ajA(l:List eF)(c:l.length<=1000)(a:List aK)(o:a.length<=1000000):∀(m i:Nat),i+m=a.length->
 TT.lim 115 [.l (l.map gB),.l (aI a),.zq a.length,.zq i]=some (if(a.drop i).any (λf=>hasTag l f.tag)=true then[.zq 0]else[.zq 1])
 |0,i,hi=>by have h0:a.drop i=[]:=iE;refine aB ?_;have h:¬((i:Int)<a.length):=ah;simp[h,h0]
 |m+1,i,hi=>by
  have g:i<a.length:=ah;have q:=ajA l c a o m (i+1) ah;have d:((i:Int)+1)=((i+1:Nat):Int):=ah;rw[<-d]at q;have r:((i:Int)<a.length):=ah;have v:=bI ((i:Int)+1);have u:(a.drop i).any (λf=>hasTag l f.tag)=(hasTag l a[i].tag ||(a.drop (i+1)).any (λf=>hasTag l f.tag)):=by rw[iG g,aeA]
  rw[u];have b:(aI a)[i]? =some (qJ a[i]):=by rw[Dc,iO,bV g];rfl
  clear u;obtain⟨t,y,n,s,k,p⟩:∃t y n s k,a[i]=aK.mk t y n s k:=by
   cases a[i]with
   |mk t y n s k=>exact⟨_,_,_,_,_,rfl⟩
  rw[p]at b⊢;rw[show(aK.mk t y n s k).tag=t from rfl];have j:TT.lim 116 [.l (l.map gB),.l (aI a),.zq a.length,.zq i,.zq l.length,.zq 0,.zu t,.zq y,.zu n,.s s,.l (aI k)]=_:=ajB l c _ _ _ t _ _ _ _ l.length 0 ah;rw[dY]at j;refine aB ?_;by_cases e:hasTag l t=true
  ·rw[au e]at j;simp[-List.any_eq_true,r,b,j,e]
  ·rw[aj e]at j;have e:hasTag l t=false:=by simpa using e
   simp[-List.any_eq_true,r,b,j,v,q,e]
def Jf(b:aQ):Int:=
 if b.kind=1 then(if b.min<1 then 18 else if b.max<b.min then 18 else if 255<b.max then 18 else 0)
 else if b.kind=2 then(if b.chosen<1 then 18 else if 255<b.chosen then 18 else 0)
 else if b.kind=3 then(if b.d=[]then 12 else 0)
 else if b.kind=5 then(if b.epoch<1 then 18 else 0)
 else if b.kind=6 then(if b.base<1 then 18 else if b.epoch<=b.base then 20 else 0)
 else 0
def OI(b:List eF)(a:List aK):Int:=if jJ 0 0 a≠0 then jJ 0 0 a else if a.any (λf=>hasTag b f.tag)=true then 14 else 0
def gK(b:aQ)(a:List aK)(v:Int):Int:=
 if v<1 then 16 else if 3<v then 16 else
 if aZ b.kind v=[]then 15 else
 if iR.all (λn=>uZ (aZ b.kind v) n ||qR b n)=false then 26 else
 if oN b (aZ b.kind v)≠0 then oN b (aZ b.kind v)else
 if Jf b≠0 then Jf b else OI (aZ b.kind v) a
def ax2:∀n∈iR,placeOf n≠none:=aU
def aiW(k v:Int):∀s∈aZ k v,placeOf s.name≠none:=by
 have a:∀s∈zG k,placeOf s.name≠none:=by
  unfold zG;repeat' split
  all_goals first|(unfold sp1;decide)|(unfold sp2;decide)|(unfold Fv;decide)|(unfold Fz;decide)|(unfold FB;decide)|(unfold FD;decide)|(unfold FH;decide)|(unfold FI;decide)|(intro s b;cases b)
 intro s b;exact a s (BZ.1 b).1
def Ht(k v:Int):(aZ k v).length<=8:=kR (Za _ _) (aDK k)
set_option maxHeartbeats 4000000 in
def abQ(b:aQ)(u:List aK)(v:Int)(Z:vP b)(hf:∀r∈b.t,iY r.1=true)(Q:fB u)(H:u.length<=1000000):TT.lim 73 [jc b (aI u),.zq v]=some [.zq (gK b u v)]:=by
 have q:=abw b.kind;refine aV ?_;unfold gK;by_cases m:v<1
 ·simp[m]
 by_cases o:3<v
 ·simp[m,o]
 rw[aj m,aj o];have F:=aiV b.kind v ah ah;by_cases p:qj b.kind=0
 ·rw[au (F.2 (.inl p))];rw[p]at q;simp[m,o,q]
 by_cases s:v<qj b.kind
 ·rw[au (F.2 (.inr s))];simp[m,o,q,p,s]
 rw[aj (λe=>(F.1 e).elim p s)];have g:=W9 b.kind v ah ah ah;have S:=aiW b.kind v;have aa:=Ht b.kind v;clear F;generalize aZ b.kind v=y at *;have h:=ajL;have T:=ajx b (aI u) y ah y.length 0 [] ah;have O:=ajy b (aI u) (.l (y.map gB)) iR aU ax2 (Bz [] y) iR.length 0 ah;have U:=ajz b (aI u) Z hf y ah S y.length 0 ah;have P:=ajA y ah u H u.length 0 ah;have z:=VO u Q H;rw[dY]at T O U P;simp only[axk]at O;have ab:(iR.map GV.s).length=iR.length:=gG _;have X:=qh u;rw[<-X]at P;generalize hX:Bz [] y=Y at *;have i:TT.lim 85 [.l (y.map gB),.zq y.length,.zq 0,.l [],.zq b.kind,.zu b.id,.zu b.min,.zu b.max,.zu b.chosen,.zu b.flags,.zu b.cost,.zu b.priority,.zu b.deadline,.zu b.retry,.zu b.epoch,.zu b.base,.zu b.digest,.zu b.lag,.zu b.code,.zu b.want,.zq b.remaining,.b b.allowed,.s b.name,.s b.region,.s b.note,.l (b.d.map ent),.l (b.t.map row),.l (aI u)]=some [.zq 0,.l (xA Y)]:=T;clear T;have a:TT.lim 87 [.l (y.map gB),.l (iR.map .s),.zq iR.length,.zq 0,.l (xA Y),.zq b.kind,.zu b.id,.zu b.min,.zu b.max,.zu b.chosen,.zu b.flags,.zu b.cost,.zu b.priority,.zu b.deadline,.zu b.retry,.zu b.epoch,.zu b.base,.zu b.digest,.zu b.lag,.zu b.code,.zu b.want,.zq b.remaining,.b b.allowed,.s b.name,.s b.region,.s b.note,.l (b.d.map ent),.l (b.t.map row),.l (aI u)]=_:=O;clear O;have d:TT.lim 88 [.l (y.map gB),.zq y.length,.zq 0,.zq b.kind,.zu b.id,.zu b.min,.zu b.max,.zu b.chosen,.zu b.flags,.zu b.cost,.zu b.priority,.zu b.deadline,.zu b.retry,.zu b.epoch,.zu b.base,.zu b.digest,.zu b.lag,.zu b.code,.zu b.want,.zq b.remaining,.b b.allowed,.s b.name,.s b.region,.s b.note,.l (b.d.map ent),.l (b.t.map row),.l (aI u)]=_:=U;clear U;have j:TT.lim 115 [.l (y.map gB),.l (aI u),.zq (aI u).length,.zq 0]=_:=P;clear P;have I:OI y u=if jJ 0 0 u≠0 then jJ 0 0 u else if u.any (λf=>hasTag y f.tag)=true then 14 else 0:=rfl
 generalize(iR.all λn=>uZ y n ||qR b n)=A,oN b y=M,jJ 0 0 u=J,(u.any λf=>hasTag y f.tag)=W,OI y u=R at *;generalize iR=NL at *;have ac:∀(x:GV),True:=λ_=>trivial;cases A with
 |false=>simp only[iJ,if_false]at a;simp[m,o,q,p,s,g,h,i,a]
 |true=>
 simp only[if_true]at a;by_cases L:M=0;rotate_left
 ·rw[aj L]at d;simp[m,o,q,p,s,g,h,i,a,d,L]
 rw[au L]at d;rw[aj aA,aj (by simp[L])];clear L;have ad:∀(c:Int),Jf b=c->c≠0->True:=λ_ _ _=>trivial;unfold Jf;by_cases k:b.kind=1
 ·have k:=eq_true k;by_cases l:b.min<1
  ·simp[m,o,q,p,s,g,h,i,a,d,k,l]
  by_cases B:b.max<b.min
  ·simp[m,o,q,p,s,g,h,i,a,d,k,l,B]
  by_cases N:255<b.max
  ·simp[m,o,q,p,s,g,h,i,a,d,k,l,B,N]
  simp only[k,l,B,N,if_true,if_false,ne_eq,not_true_eq_false];rw[I];by_cases D:J=0
  ·subst D;cases W with
   |true=>simp only[if_true]at j;simp[m,o,q,p,s,g,h,i,a,d,k,l,B,N,z,j]
   |false=>simp only[iJ,if_false]at j;simp[m,o,q,p,s,g,h,i,a,d,k,l,B,N,z,j]
  ·simp[m,o,q,p,s,g,h,i,a,d,k,l,B,N,z,D]
 by_cases t:b.kind=2
 ·have t:=eq_true t;by_cases l:b.chosen<1
  ·simp[m,o,q,p,s,g,h,i,a,d,k,t,l]
  by_cases B:255<b.chosen
  ·simp[m,o,q,p,s,g,h,i,a,d,k,t,l,B]
  simp only[k,t,l,B,if_true,if_false,ne_eq,not_true_eq_false];rw[I];by_cases D:J=0
  ·subst D;cases W with
   |true=>simp only[if_true]at j;simp[m,o,q,p,s,g,h,i,a,d,k,t,l,B,z,j]
   |false=>simp only[iJ,if_false]at j;simp[m,o,q,p,s,g,h,i,a,d,k,t,l,B,z,j]
  ·simp[m,o,q,p,s,g,h,i,a,d,k,t,l,B,z,D]
 by_cases w:b.kind=3
 ·have w:=eq_true w;by_cases l:b.d=[]
  ·have l:=eq_true l;simp[m,o,q,p,s,g,h,i,a,d,k,t,w,l]
  simp only[k,t,w,l,if_true,if_false,ne_eq,not_true_eq_false];rw[I];by_cases D:J=0
  ·subst D;cases W with
   |true=>simp only[if_true]at j;simp[m,o,q,p,s,g,h,i,a,d,k,t,w,l,z,j]
   |false=>simp only[iJ,if_false]at j;simp[m,o,q,p,s,g,h,i,a,d,k,t,w,l,z,j]
  ·simp[m,o,q,p,s,g,h,i,a,d,k,t,w,l,z,D]
 by_cases E:b.kind=5
 ·have E:=eq_true E;by_cases l:b.epoch<1
  ·simp[m,o,q,p,s,g,h,i,a,d,k,t,w,E,l]
  simp only[k,t,w,E,l,if_true,if_false,ne_eq,not_true_eq_false];rw[I];by_cases D:J=0
  ·subst D;cases W with
   |true=>simp only[if_true]at j;simp[m,o,q,p,s,g,h,i,a,d,k,t,w,E,l,z,j]
   |false=>simp only[iJ,if_false]at j;simp[m,o,q,p,s,g,h,i,a,d,k,t,w,E,l,z,j]
  ·simp[m,o,q,p,s,g,h,i,a,d,k,t,w,E,l,z,D]
 by_cases G:b.kind=6
 ·have G:=eq_true G;by_cases l:b.base<1
  ·simp[m,o,q,p,s,g,h,i,a,d,k,t,w,E,G,l]
  by_cases B:b.epoch<=b.base
  ·simp[m,o,q,p,s,g,h,i,a,d,k,t,w,E,G,l,B]
  simp only[k,t,w,E,G,l,B,if_true,if_false,ne_eq,not_true_eq_false];rw[I];by_cases D:J=0
  ·subst D;cases W with
   |true=>simp only[if_true]at j;simp[m,o,q,p,s,g,h,i,a,d,k,t,w,E,G,l,B,z,j]
   |false=>simp only[iJ,if_false]at j;simp[m,o,q,p,s,g,h,i,a,d,k,t,w,E,G,l,B,z,j]
  ·simp[m,o,q,p,s,g,h,i,a,d,k,t,w,E,G,l,B,z,D]
 simp only[k,t,w,E,G,if_false,ne_eq,not_true_eq_false];rw[I];by_cases D:J=0
 ·subst D;cases W with
  |true=>simp only[if_true]at j;simp[m,o,q,p,s,g,h,i,a,d,k,t,w,E,G,z,j]
  |false=>simp only[iJ,if_false]at j;simp[m,o,q,p,s,g,h,i,a,d,k,t,w,E,G,z,j]
 ·simp[m,o,q,p,s,g,h,i,a,d,k,t,w,E,G,z,D]
def ad1(n:Q2):Int:=match placeOf n with
 |some p=>aFb p
 |none=>-1
def awC(k v:Int):∀s∈aZ k v,placeOf s.name≠none/\s.use=ad1 s.name:=by
 have a:∀s∈zG k,placeOf s.name≠none/\s.use=ad1 s.name:=by
  unfold zG;repeat' split
  all_goals first|(unfold sp1;decide)|(unfold sp2;decide)|(unfold Fv;decide)|(unfold Fz;decide)|(unfold FB;decide)|(unfold FD;decide)|(unfold FH;decide)|(unfold FI;decide)|(intro s b;cases b)
 intro s b;exact a s (BZ.1 b).1
def aFW(x:Int)(h0: -9223372036854775808<=x)(h1:x<=9223372036854775807):∃u w:Int,IntKind.u64.wrap x=u/\IntKind.u64.wrap (x.fdiv (2^63))=w/\dh .xor .u64 (IntKind.u64.wrap (u*2^1)) w=some (.zu (zz x)):=by
 have a:∀y:Int,IntKind.u64.wrap y=y%18446744073709551616:=λy=>by simp[IntKind.wrap,IntKind.signed,IntKind.bits]
 refine⟨_,_,rfl,rfl,?_⟩;rw[a,a,a];unfold zz;have e:IntKind.u64.bits=64:=rfl;by_cases h:0<=x
 ·have b:x.fdiv (2^63)=0:=by rw[F5 _ aU];exact Int.ediv_eq_zero_of_lt h ah
  rw[b,au h];have c:x%18446744073709551616*2^1%18446744073709551616=2*x:=ah;rw[c];simp only[dh,a,e];have d:(BitVec.ofInt 64 (2*x) ^^^ BitVec.ofInt 64 (0%18446744073709551616))=BitVec.ofInt 64 (2*x):=by have:BitVec.ofInt 64 (0%18446744073709551616)=0#64:=rfl;rw[this,BitVec.xor_zero]
  show some (GV.i IntKind.u64 (((BitVec.ofInt 64 (2*x) ^^^ BitVec.ofInt 64 (0%18446744073709551616)).toNat:Int)%18446744073709551616))=_
  rw[d,vS];congr 2;omega
 ·have b:x.fdiv (2^63) = -1:=by rw[F5 _ aU];omega
  rw[b,aj h];have c:x%18446744073709551616*2^1%18446744073709551616=2*x+18446744073709551616:=ah;rw[c];simp only[dh,a,e];have d:(BitVec.ofInt 64 (2*x+18446744073709551616) ^^^ BitVec.ofInt 64 (-1%18446744073709551616)) = ~~~ BitVec.ofInt 64 (2*x+18446744073709551616):=by have:BitVec.ofInt 64 (-1%18446744073709551616)=BitVec.allOnes 64:=aU;rw[this,aek]
  show some (GV.i IntKind.u64 (((BitVec.ofInt 64 (2*x+18446744073709551616) ^^^ BitVec.ofInt 64 (-1%18446744073709551616)).toNat:Int)%18446744073709551616))=_
  rw[d,aei,vS];congr 2;omega
def ae5(b:aQ)(r:Q3)(n:Q2)(p:Pl):Prop:=TT.lim 118 [jc b r,.s n]=some [.g [.zu 0,.zq (dZ p),.zu (bC b p).1,.s (bC b p).2,.l []],.b true]
set_option maxHeartbeats 4000000 in
def axT(b:aQ)(r:Q3)(d:vP b){n:Q2}{p:Pl}(j:p=.d->iY b.d=true)(k:p=.t->yS b.t)(f:placeOf n=some p):ae5 b r n p:=by
 have a:=WR f;have c:=(Aj n p f).2.1;unfold ae5;clear f;induction p,c using Ox
 case h0=>obtain⟨u,w,h1,g,h⟩:=aFW b.remaining d.remaining.1 d.remaining.2;have g:IntKind.u64.wrap (b.remaining.fdiv 9223372036854775808)=w:=g;have h:dh .xor .u64 (IntKind.u64.wrap (u*2)) w=some (.zu (zz b.remaining)):=h;refine aV ?_;simp[a,kM,h1,g,h,IntKind.bits,dZ,bC]
 case h1=>refine aV ?_;cases l:b.allowed<;>simp[a,dZ,bC,l]
 case h5=>
  have c:=Dj b.d (j rfl);refine aV ?_;by_cases e:b.d=[]
  ·have i:=eq_true e;simp[a,dZ,bC,i]
  ·simp[a,dZ,bC,e,c]
 case h6=>
  have c:=awD b.t d.t (k rfl);refine aV ?_;by_cases e:b.t=[]
  ·have i:=eq_true e;simp[a,dZ,bC,i]
  ·simp[a,dZ,bC,e,c]
 all_goals
  refine aV ?_;simp[a,dZ,bC,qp]
def axW(b:aQ)(r:Q3){n:Q2}(a:placeOf n=none):TT.lim 118 [jc b r,.s n]=some [.g [.zu 0,.zq 0,.zu 0,.s [],.l []],.b false]:=by have c:=aiH a;refine aV ?_;simp[c]
