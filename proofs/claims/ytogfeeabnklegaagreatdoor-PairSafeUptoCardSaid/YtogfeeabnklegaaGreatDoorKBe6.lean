/- What the trees compute: plain laws. -/
import Derived.Test.YtogfeeabnklegaaGreatDoorKBe5
set_option linter.all false
namespace Go.Proofs.YtogfeeabnklegaaGreatDoor
open Go Go.aP
set_option maxRecDepth 100000
namespace B
def jM(rec:Q0->List aK×Int)(w:Nat)(ahead:Nat)(s:Q0):aK×Nat×Int:=
 if(aF s).2.2≠0 then(.mk 0 0 0 [] [],0,(aF s).2.2)
 else if(aF s).1/4=0 then(.mk 0 0 0 [] [],0,18)
 else if 4294967296<(aF s).1/4 then(.mk 0 0 0 [] [],0,18)
 else if 3<=(aF s).1%4 then(.mk 0 0 0 [] [],0,8)
 else if(aF s).1/4<=ahead then(.mk 0 0 0 [] [],0,7)
 else
  let r:=s.drop (aF s).2.1
  let k:=(aF s).2.1+(aF r).2.1
  if(aF r).2.2≠0 then(.mk 0 0 0 [] [],0,(aF r).2.2)
  else if(aF s).1%4=0 then(.mk ((aF s).1/4:Nat) 0 (aF r).1 [] [],k,0)
  else if s.length-k<(aF r).1 then(.mk 0 0 0 [] [],0,1)
  else if(aF s).1%4=1 then(.mk ((aF s).1/4:Nat) 1 0 ((s.drop k).take (aF r).1) [],k+(aF r).1,0)
  else if 8<=w then(.mk 0 0 0 [] [],0,9)
  else if(rec ((s.drop k).take (aF r).1)).2≠0 then(.mk 0 0 0 [] [],0,(rec ((s.drop k).take (aF r).1)).2)
  else(.mk ((aF s).1/4:Nat) 2 0 [] (rec ((s.drop k).take (aF r).1)).1,k+(aF r).1,0)
def fF:Nat->Nat->Nat->List UInt8->List aK×Int
 |0,_,_,_=>([],0)
 |N+1,w,ahead,s=>if s=[]then([],0)else
  if(jM (λt=>fF N (w+1) 0 t) w ahead s).2.2≠0 then([],(jM (λt=>fF N (w+1) 0 t) w ahead s).2.2)
  else if(fF N w ((aF s).1/4) (s.drop (jM (λt=>fF N (w+1) 0 t) w ahead s).2.1)).2≠0 then([],(fF N w ((aF s).1/4) (s.drop (jM (λt=>fF N (w+1) 0 t) w ahead s).2.1)).2)
  else((jM (λt=>fF N (w+1) 0 t) w ahead s).1::(fF N w ((aF s).1/4) (s.drop (jM (λt=>fF N (w+1) 0 t) w ahead s).2.1)).1,0)
def anY(n:Nat)(d:n<18446744073709551616):dw .and .u64 (n:Int) 3=some (.zu ((n:Int)%4)):=by
 have a:∀y:Int,IntKind.u64.wrap y=y%18446744073709551616:=λy=>by simp[IntKind.wrap,IntKind.signed,IntKind.bits]
 have e:n &&& 3=n%4:=ae0 n 2;have b:(BitVec.ofInt 64 (n:Int)).toNat=n:=by rw[wo];omega
 have c:(BitVec.ofInt 64 3).toNat=3:=aV;show some (GV.i IntKind.u64 (IntKind.u64.wrap ((BitVec.ofInt 64 (n:Int) &&& BitVec.ofInt 64 3).toNat:Int)))=_
 rw[Zb,b,c,e,a];congr 2;omega
def aDM(n:Nat):kT .shr .u64 (n:Int) 2=some (.zu ((n:Int)/4)):=by
 show some (GV.i IntKind.u64 ((n:Int).fdiv (2^2)))=_
 rw[Gy _ aV];rfl
def aAS(t y w:GV)(s:Q0)(a:Nat)(h:a<=s.length)(b:s.length<=100000000)(n x:GV):
 TT.lim 194 [t,y,w,.s s,.zq a,n,x]=some [.zq 0,.zq (aF (s.drop a)).2.2,.zu ((aF (s.drop a)).1:Nat),.s s,.zq ((a+(aF (s.drop a)).2.1:Nat):Int)]:=by
 have k:=Ej s a h ah;refine aB ?_;simp[k]
def aAU(t y w:GV)(s:Q0)(b:Nat)(h:b<=s.length)(E:s.length<=100000000)(n:GV):
 ∃a,TT.lim 195 [t,y,w,.s s,.zq b,n,.s []]=some
  (if(aF (s.drop b)).2.2≠0 then[.zq 0,.zq (aF (s.drop b)).2.2,.s [],.s s,.zq (a:Nat)]
  else if s.length-(b+(aF (s.drop b)).2.1)<(aF (s.drop b)).1 then[.zq 0,.zq 1,.s [],.s s,.zq (a:Nat)]
  else[.zq 0,.zq 0,.s ((s.drop (b+(aF (s.drop b)).2.1)).take (aF (s.drop b)).1),.s s,.zq ((b+(aF (s.drop b)).2.1+(aF (s.drop b)).1:Nat):Int)]):=by
 have k:=Ej s b h ah;by_cases d:(aF (s.drop b)).2.2=0;rotate_left
 ·refine⟨b+(aF (s.drop b)).2.1,?_⟩;rw[au d];generalize(aF (s.drop b)).2.2=e at *;refine aB ?_;simp[k,d]
 have i:=lZ d;have q:=i.len;have r:=i.lt;rw[fU]at q;rw[d]at k;refine⟨b+(aF (s.drop b)).2.1,?_⟩;rw[aj (λx=>x d)];clear d;generalize(aF (s.drop b)).1=m,(aF (s.drop b)).2.1=j at *;have w1:=bH ((s.length:Int)-((b+j:Nat):Int));have l:=jV ((s.length:Int)-((b+j:Nat):Int));by_cases c:s.length-(b+j)<m
 ·have f:(s.length:Int)-((b+j:Nat):Int)<(m:Int):=ah;rw[au c];generalize((b+j:Nat):Int)=A at *;refine aB ?_;simp[k,w1,l,f]
 ·have f:¬((s.length:Int)-((b+j:Nat):Int)<(m:Int)):=ah;rw[aj c];have u:=bH ((m:Int));have o:=bH (((b+j:Nat):Int)+(m:Int));have p:((b+j:Nat):Int)+(m:Int)=((b+j+m:Nat):Int):=ah;rw[p]at o;have v:(0:Int)<=((b+j:Nat):Int)/\((b+j:Nat):Int)<=((b+j+m:Nat):Int)/\((b+j+m:Nat):Int)<=s.length:=ah;have g:(s.take (b+j+m)).drop (b+j)=(s.drop (b+j)).take m:=by rw[MN,(ah:b+j+m-(b+j)=m)]
  have z:(((b+j:Nat):Int)).toNat=b+j:=ah;have D:(((b+j+m:Nat):Int)).toNat=b+j+m:=ah;generalize F:((b+j:Nat):Int)=A at *;generalize G:((b+j+m:Nat):Int)=B at *;refine aB ?_;simp[k,w1,l,f,u,p,o,v,z,D,g]
def Qh(N:Nat):Prop:=∀(w ahead c:Nat)(s:Q0),c<=s.length->s.length<=100000000->(s.drop c).length<N->w<=8->ahead<18446744073709551616->∃a b,TT.lim 190 [.s s,.zq (w:Nat),.zu (ahead:Nat),.zq (c:Nat)]=some [.zq 0,.l (aI (fF N w ahead (s.drop c)).1),.zq (fF N w ahead (s.drop c)).2,.zu (a:Nat),.s s,.zq (b:Nat)]
def aAP{N:Nat}(G:Qh N)(t y:GV)(w:Nat)(Q:w<=8)(s:Q0)(d:Nat)(h:d<=s.length)(S:s.length<=100000000)(q:(s.drop d).length<=N)(n x:GV):
 ∃a,TT.lim 196 [t,y,.zq (w:Nat),.s s,.zq d,n,x]=some
  (if(aF (s.drop d)).2.2≠0 then[.zq 0,.zq (aF (s.drop d)).2.2,.l [],.s s,.zq (a:Nat)]
  else if s.length-(d+(aF (s.drop d)).2.1)<(aF (s.drop d)).1 then[.zq 0,.zq 1,.l [],.s s,.zq (a:Nat)]
  else if 8<=w then[.zq 0,.zq 9,.l [],.s s,.zq (a:Nat)]
  else[.zq 0,.zq (fF N (w+1) 0 ((s.drop (d+(aF (s.drop d)).2.1)).take (aF (s.drop d)).1)).2,.l (aI (fF N (w+1) 0 ((s.drop (d+(aF (s.drop d)).2.1)).take (aF (s.drop d)).1)).1),.s s,.zq ((d+(aF (s.drop d)).2.1+(aF (s.drop d)).1:Nat):Int)]):=by
 have k:=Ej s d h ah;by_cases f:(aF (s.drop d)).2.2=0;rotate_left
 ·refine⟨d+(aF (s.drop d)).2.1,?_⟩;rw[au f];generalize(aF (s.drop d)).2.2=e at *;refine aB ?_;simp[k,f]
 have r:=lZ f;have H:=r.len;have I:=r.lt;have U:=r.pos;rw[fU]at H q;rw[f]at k;by_cases c:s.length-(d+(aF (s.drop d)).2.1)<(aF (s.drop d)).1
 ·refine⟨d+(aF (s.drop d)).2.1,?_⟩;rw[aj (λx=>x f),au c];clear f;generalize(aF (s.drop d)).1=m,(aF (s.drop d)).2.1=j at *;have w1:=bH ((s.length:Int)-((d+j:Nat):Int));have i:=jV ((s.length:Int)-((d+j:Nat):Int));have l:(s.length:Int)-((d+j:Nat):Int)<(m:Int):=ah;generalize((d+j:Nat):Int)=A at *;refine aB ?_;simp[k,w1,i,l]
 by_cases E:8<=w
 ·refine⟨d+(aF (s.drop d)).2.1+(aF (s.drop d)).1,?_⟩;rw[aj (λx=>x f),aj c,au E];clear f;generalize(aF (s.drop d)).1=m,(aF (s.drop d)).2.1=j at *;have w1:=bH ((s.length:Int)-((d+j:Nat):Int));have i:=jV ((s.length:Int)-((d+j:Nat):Int));have l:¬((s.length:Int)-((d+j:Nat):Int)<(m:Int)):=ah;have u:=bH ((m:Int));have o:=bH (((d+j:Nat):Int)+(m:Int));have p:((d+j:Nat):Int)+(m:Int)=((d+j+m:Nat):Int):=ah;rw[p]at o;have v:(0:Int)<=((d+j:Nat):Int)/\((d+j:Nat):Int)<=((d+j+m:Nat):Int)/\((d+j+m:Nat):Int)<=s.length:=ah;have z:(8:Int)<=(w:Int):=ah;generalize J:((d+j:Nat):Int)=A at *;generalize L:((d+j+m:Nat):Int)=B at *;refine aB ?_;simp[k,w1,i,l,u,p,o,v,z]
 ·refine⟨0,?_⟩;rw[aj (λx=>x f),aj c,aj E];clear f;generalize(aF (s.drop d)).1=m,(aF (s.drop d)).2.1=j at *;have g:=G (w+1) 0 0 ((s.drop (d+j)).take m) ah (by rw[mP,fU];omega) (by rw[dY,mP,fU];omega) ah ah;obtain⟨a,b,g⟩:=g;rw[dY]at g;have w1:=bH ((s.length:Int)-((d+j:Nat):Int));have i:=jV ((s.length:Int)-((d+j:Nat):Int));have l:¬((s.length:Int)-((d+j:Nat):Int)<(m:Int)):=ah;have u:=bH ((m:Int));have o:=bH (((d+j:Nat):Int)+(m:Int));have p:((d+j:Nat):Int)+(m:Int)=((d+j+m:Nat):Int):=ah;rw[p]at o;have v:(0:Int)<=((d+j:Nat):Int)/\((d+j:Nat):Int)<=((d+j+m:Nat):Int)/\((d+j+m:Nat):Int)<=s.length:=ah;have D:(s.take (d+j+m)).drop (d+j)=(s.drop (d+j)).take m:=by rw[MN,(ah:d+j+m-(d+j)=m)]
  have M:(((d+j:Nat):Int)).toNat=d+j:=ah;have O:(((d+j+m:Nat):Int)).toNat=d+j+m:=ah;have z:¬(8:Int)<=(w:Int):=ah;have P:=bH ((w:Int)+1);have F:(w:Int)+1=((w+1:Nat):Int):=ah;simp only[tJ]at g;rw[<-F]at g;generalize(s.drop (d+j)).take m=T at *;generalize fF N (w+1) 0 T=R at *;generalize J:((d+j:Nat):Int)=A at *;generalize L:((d+j+m:Nat):Int)=B at *;generalize V:(w:Int)=W at *;clear F;refine aB ?_;simp[k,w1,i,l,u,p,o,v,M,O,D,z,P,g]
def aAR{N:Nat}(hN:Qh N)(w ahead:Nat)(hw:w<=8)(ha:ahead<18446744073709551616)(s:Q0)(d:Nat)(h:d<=s.length)(U:s.length<=100000000)(V:(s.drop d).length<=N+1):
 ∃a b:Nat,TT.lim 192 [.zq (w:Nat),.zu (ahead:Nat),.s s,.zq d]=some (.zq 0::((rC (jM (λt=>fF N (w+1) 0 t) w ahead (s.drop d)).1).cells++[.zq (jM (λt=>fF N (w+1) 0 t) w ahead (s.drop d)).2.2,.zu (a:Nat),.s s,.zq (b:Nat)]))/\
  ((jM (λt=>fF N (w+1) 0 t) w ahead (s.drop d)).2.2=0->a=(aF (s.drop d)).1/4/\b=d+(jM (λt=>fF N (w+1) 0 t) w ahead (s.drop d)).2.1/\1<=(jM (λt=>fF N (w+1) 0 t) w ahead (s.drop d)).2.1/\b<=s.length):=by
 have k:=Ej s d h ah;have fn:aI []=[]:=by simp only[aI]
 have v:(rC (.mk 0 0 0 [] [])).cells=[.zu 0,.zq 0,.zu 0,.s [],.l []]:=by rw[Oa,fn]
 unfold jM;by_cases F:(aF (s.drop d)).2.2=0;rotate_left
 ·refine⟨ahead,d+(aF (s.drop d)).2.1,?_,?_⟩
  ·simp only[au F];rw[v];generalize(aF (s.drop d)).2.2=e at *;refine aB ?_;simp[k,F]
  ·simp only[au F];exact λx=>absurd x F
 have P:=lZ F;have hl:=P.len;have W:=P.lt;have hp:=P.pos;rw[fU]at hl V;have J:(s.drop d).drop (aF (s.drop d)).2.1=s.drop (d+(aF (s.drop d)).2.1):=by rw[tK]
 rw[J];have L:(s.drop d).length=s.length-d:=fU;rw[L];rw[F]at k;simp only[aj (λx=>x F:¬(aF (s.drop d)).2.2≠0)];have M:∀X:Nat,(s.drop d).drop ((aF (s.drop d)).2.1+X)=s.drop (d+(aF (s.drop d)).2.1+X):=λX=>by rw[tK,kC]
 rw[M];clear F P J L M;generalize(aF (s.drop d)).1=n,(aF (s.drop d)).2.1=j at *;have S:=aDM n;have A:=anY n W;have o:=bH ((n:Int)%4);by_cases Y:n/4=0
 ·refine⟨ahead,d+j,?_,?_⟩
  ·simp only[au Y];rw[v];have f:(n:Int)/4=0:=ah;generalize(n:Int)/4=q at *;refine aB ?_;simp[k,S,A,o,f]
  ·simp only[au Y];exact λx=>absurd x aV
 have f:¬(n:Int)/4=0:=ah;simp only[aj Y];by_cases Z:4294967296<n/4
 ·refine⟨ahead,d+j,?_,?_⟩
  ·simp only[au Z];rw[v];have g:4294967296<(n:Int)/4:=ah;generalize(n:Int)/4=q at *;refine aB ?_;simp[k,S,A,o,f,g]
  ·simp only[au Z];exact λx=>absurd x aV
 have g:¬4294967296<(n:Int)/4:=ah;simp only[aj Z];by_cases c3:3<=n%4
 ·refine⟨ahead,d+j,?_,?_⟩
  ·simp only[au c3];rw[v];have G:3<=(n:Int)%4:=ah;generalize(n:Int)/4=q,(n:Int)%4=y at *;refine aB ?_;simp[k,S,A,o,f,g,G]
  ·simp only[au c3];exact λx=>absurd x aV
 have G:¬3<=(n:Int)%4:=ah;simp only[aj c3];by_cases c4:n/4<=ahead
 ·refine⟨ahead,d+j,?_,?_⟩
  ·simp only[au c4];rw[v];have z:(n:Int)/4<=(ahead:Int):=ah;generalize(n:Int)/4=q,(n:Int)%4=y,(ahead:Int)=D at *;refine aB ?_;simp[k,S,A,o,f,g,G,z]
  ·simp only[au c4];exact λx=>absurd x aV
 have z:¬(n:Int)/4<=(ahead:Int):=ah;simp only[aj c4];have E:((n/4:Nat):Int)=(n:Int)/4:=ah;have hj:d+j<=s.length:=ah;rcases(ah:n%4=0\/n%4=1\/n%4=2)with H|y1|y2
 ·have O:(n:Int)%4=0:=ah;have l:=aAS (.zu ((n:Int)/4)) (.zq 0) (.zq (w:Nat)) s (d+j) hj U (.zu 0) (.s []);rw[O]at A o;by_cases i:(aF (s.drop (d+j))).2.2=0
  ·have p:=lZ i;have r:=p.len;rw[fU]at r;refine⟨n/4,d+j+(aF (s.drop (d+j))).2.1,?_,?_⟩
   ·simp only[aj (λx=>x i:¬(aF (s.drop (d+j))).2.2≠0),au H];rw[Oa,fn,E];rw[i]at l;clear p r i;generalize(aF (s.drop (d+j))).1=m,((d+j+(aF (s.drop (d+j))).2.1:Nat):Int)=B,((d+j:Nat):Int)=AT,(n:Int)/4=q,(ahead:Int)=D at *;refine aB ?_;simp[k,S,A,o,f,g,z,l]
   ·simp only[aj (λx=>x i:¬(aF (s.drop (d+j))).2.2≠0),au H];refine λ_=>⟨?_,?_,?_,?_⟩<;>first|trivial|rfl|omega
  ·refine⟨n/4,d+j+(aF (s.drop (d+j))).2.1,?_,?_⟩
   ·simp only[au i];rw[v,E];generalize(aF (s.drop (d+j))).1=m,((d+j+(aF (s.drop (d+j))).2.1:Nat):Int)=B,(aF (s.drop (d+j))).2.2=e,((d+j:Nat):Int)=AT,(n:Int)/4=q,(ahead:Int)=D at *;refine aB ?_;simp[k,S,A,o,f,g,z,l,i]
   ·simp only[au i];exact λx=>absurd x i
 ·have O:(n:Int)%4=1:=ah;have H:¬n%4=0:=ah;obtain⟨a,l⟩:=aAU (.zu ((n:Int)/4)) (.zq 1) (.zq (w:Nat)) s (d+j) hj U (.zu 0);rw[O]at A o;have u:s.length-d-(j+(aF (s.drop (d+j))).2.1)=s.length-(d+j+(aF (s.drop (d+j))).2.1):=ah;by_cases i:(aF (s.drop (d+j))).2.2=0
  ·have p:=lZ i;have r:=p.len;rw[fU]at r;rw[aj (λx=>x i)]at l;simp only[aj (λx=>x i:¬(aF (s.drop (d+j))).2.2≠0),aj H];rw[u];by_cases c:s.length-(d+j+(aF (s.drop (d+j))).2.1)<(aF (s.drop (d+j))).1
   ·rw[au c]at l;simp only[au c];refine⟨n/4,a,?_,λx=>absurd x aV⟩;rw[v,E];generalize((d+j:Nat):Int)=AT,(n:Int)/4=q,(ahead:Int)=D at *;refine aB ?_;simp[k,S,A,o,f,g,z,l]
   ·rw[aj c]at l;simp only[aj c,au y1];refine⟨n/4,d+j+(aF (s.drop (d+j))).2.1+(aF (s.drop (d+j))).1,?_,λ_=>⟨rfl,ah,ah,ah⟩⟩;rw[Oa,fn,E];generalize(s.drop (d+j+(aF (s.drop (d+j))).2.1)).take (aF (s.drop (d+j))).1=T,((d+j+(aF (s.drop (d+j))).2.1+(aF (s.drop (d+j))).1:Nat):Int)=B,((d+j:Nat):Int)=AT,(n:Int)/4=q,(ahead:Int)=D at *;refine aB ?_;simp[k,S,A,o,f,g,z,l]
  ·rw[au i]at l;simp only[au i];refine⟨n/4,a,?_,λx=>absurd x i⟩;rw[v,E];generalize(aF (s.drop (d+j))).2.2=e,((d+j:Nat):Int)=AT,(n:Int)/4=q,(ahead:Int)=D at *;refine aB ?_;simp[k,S,A,o,f,g,z,l,i]
 ·have O:(n:Int)%4=2:=ah;have H:¬n%4=0:=ah;have y1:¬n%4=1:=ah;obtain⟨a,l⟩:=aAP hN (.zu ((n:Int)/4)) (.zq 2) w hw s (d+j) hj U (by rw[fU];omega) (.zu 0) (.s []);rw[O]at A o;have u:s.length-d-(j+(aF (s.drop (d+j))).2.1)=s.length-(d+j+(aF (s.drop (d+j))).2.1):=ah;by_cases i:(aF (s.drop (d+j))).2.2=0
  ·have p:=lZ i;have r:=p.len;rw[fU]at r;rw[aj (λx=>x i)]at l;simp only[aj (λx=>x i:¬(aF (s.drop (d+j))).2.2≠0),aj H];rw[u];by_cases c:s.length-(d+j+(aF (s.drop (d+j))).2.1)<(aF (s.drop (d+j))).1
   ·rw[au c]at l;simp only[au c];refine⟨n/4,a,?_,λx=>absurd x aV⟩;rw[v,E];generalize((d+j:Nat):Int)=AT,(n:Int)/4=q,(ahead:Int)=D at *;refine aB ?_;simp[k,S,A,o,f,g,z,l]
   ·rw[aj c]at l;simp only[aj c,aj y1];by_cases Q:8<=w
    ·rw[au Q]at l;simp only[au Q];refine⟨n/4,a,?_,λx=>absurd x aV⟩;rw[v,E];generalize((d+j:Nat):Int)=AT,(n:Int)/4=q,(ahead:Int)=D at *;refine aB ?_;simp[k,S,A,o,f,g,z,l]
    ·rw[aj Q]at l;simp only[aj Q];generalize(s.drop (d+j+(aF (s.drop (d+j))).2.1)).take (aF (s.drop (d+j))).1=T at *;by_cases I:(fF N (w+1) 0 T).2=0
     ·simp only[aj (λx=>x I:¬(fF N (w+1) 0 T).2≠0)];refine⟨n/4,d+j+(aF (s.drop (d+j))).2.1+(aF (s.drop (d+j))).1,?_,λ_=>⟨rfl,ah,ah,ah⟩⟩;rw[Oa,E];rw[I]at l;clear I c i p r u;generalize fF N (w+1) 0 T=R,((d+j+(aF (s.drop (d+j))).2.1+(aF (s.drop (d+j))).1:Nat):Int)=B,((d+j:Nat):Int)=AT,(n:Int)/4=q,(ahead:Int)=D at *;refine aB ?_;simp[k,S,A,o,f,g,z,l]
     ·simp only[au I];refine⟨n/4,d+j+(aF (s.drop (d+j))).2.1+(aF (s.drop (d+j))).1,?_,λx=>absurd x I⟩;rw[v,E];clear c i p r u;generalize fF N (w+1) 0 T=R,((d+j+(aF (s.drop (d+j))).2.1+(aF (s.drop (d+j))).1:Nat):Int)=B,((d+j:Nat):Int)=AT,(n:Int)/4=q,(ahead:Int)=D at *;refine aB ?_;simp[k,S,A,o,f,g,z,l,I]
  ·rw[au i]at l;simp only[au i];refine⟨n/4,a,?_,λx=>absurd x i⟩;rw[v,E];generalize(aF (s.drop (d+j))).2.2=e,((d+j:Nat):Int)=AT,(n:Int)/4=q,(ahead:Int)=D at *;refine aB ?_;simp[k,S,A,o,f,g,z,l,i]
def UH(N:Nat):Prop:=∀(w:Nat)(d:List aK)(ahead c:Nat)(s:Q0),w<=8->d.length+(s.drop c).length<=200000000->c<=s.length->s.length<=100000000->(s.drop c).length<N->ahead<18446744073709551616->
    ∃a b:Nat,TT.lim 191 [.l (aI d),.zq (w:Nat),.zu (ahead:Nat),.s s,.zq (c:Nat)]=some (if(fF N w ahead (s.drop c)).2=0 then[.zq 1,.l (aI (d++(fF N w ahead (s.drop c)).1)),.zu (a:Nat),.s s,.zq (b:Nat)]else[.zq 0,.zq (fF N w ahead (s.drop c)).2,.zu (a:Nat),.s s,.zq (b:Nat)])
def aAN:∀(N w ahead:Nat)(s:Q0),(fF N w ahead s).2≠0->(fF N w ahead s).1=[]
 |0,_,_,_,_=>rfl
 |N+1,w,ahead,s,h=>by
  unfold fF at h⊢;by_cases h1:s=[]
  ·rw[au h1]
  rw[aj h1]at h⊢;by_cases a:(jM (λt=>fF N (w+1) 0 t) w ahead s).2.2≠0
  ·rw[au a]
  rw[aj a]at h⊢;by_cases b:(fF N w ((aF s).1/4) (s.drop (jM (λt=>fF N (w+1) 0 t) w ahead s).2.1)).2≠0
  ·rw[au b]
  ·rw[aj b]at h;exact absurd rfl h
def aAQ{N:Nat}(X:Qh N)(Y:UH N):UH (N+1):=by
 intro w g ahead d s Q L h S hl Z;have m:(s.drop d).length=s.length-d:=fU;have J:=bH ((s.length:Int)-(d:Int));unfold fF;by_cases r:s.drop d=[]
 ·have aa:s.length-d=0:=by rw[<-m,r];rfl
  have u:¬d<s.length:=ah;refine⟨ahead,d,?_⟩;rw[au r];simp only[if_true,pX];refine aB ?_;simp[J,u]
 have M:0<s.length-d:=by rw[<-m];exact MO.2 r
 have u:d<s.length:=ah;simp only[aj r];obtain⟨a,b,j,v⟩:=aAR X w ahead Q Z s d h S ah;have la:=qP g;by_cases i:(jM (λt=>fF N (w+1) 0 t) w ahead (s.drop d)).2.2=0;rotate_left
 ·refine⟨a,b,?_⟩;rw[au i];generalize jM (λt=>fF N (w+1) 0 t) w ahead (s.drop d)=o at *;obtain⟨f,z,e⟩:=o;obtain⟨t,y,n,tx,k⟩:=f;simp only at *;rw[aj i];rw[Oa]at j;simp only[bD,aX]at j;refine aB ?_;simp[J,u,j,i]
 obtain⟨T,U,hu,V⟩:=v i;have D:(aF (s.drop d)).2.2=0:=by
  by_cases c:(aF (s.drop d)).2.2=0
  ·exact c
  ·exfalso;unfold jM at i;rw[au c]at i;exact c i
 have O:=(lZ D).lt;simp only[aj (λx=>x i:¬(jM (λt=>fF N (w+1) 0 t) w ahead (s.drop d)).2.2≠0)];rw[i]at j;have F:(s.drop d).drop (jM (λt=>fF N (w+1) 0 t) w ahead (s.drop d)).2.1=s.drop b:=by rw[tK,<-U]
 rw[F];rw[<-T];clear F i v;have P:(s.drop b).length=s.length-b:=fU;obtain⟨a2,b2,p⟩:=Y w (g++[(jM (λt=>fF N (w+1) 0 t) w ahead (s.drop d)).1]) a b s Q (by rw[eH,GI];omega) V S ah ah;refine⟨a2,b2,?_⟩;generalize jM (λt=>fF N (w+1) 0 t) w ahead (s.drop d)=o at *;obtain⟨f,z,e⟩:=o;obtain⟨t,y,n,tx,k⟩:=f;simp only at *;rw[Oa]at j;simp only[bD,aX]at j;have G:aI (g++[.mk t y n tx k])=aI g++[uh t y n tx k]:=by rw[Wh];simp only[aI,rC];rfl
 have H:(uh t y n tx k).gQ 5=true:=rfl;have I:GV.g [.zu t,.zq y,.zu n,.s tx,.l (aI k)]=uh t y n tx k:=rfl;have W:2*((aI g).length+1)*64<=281474976710656/\(aI g).length+1<=281474976710656:=ah;rw[G]at p;clear G T U O D hu V m P L M r la;by_cases q:(fF N w a (s.drop b)).2=0
 ·rw[au q]at p;simp only[aj (λx=>x q:¬(fF N w a (s.drop b)).2≠0)];simp only[if_true];have l:g++[aK.mk t y n tx k]++(fF N w a (s.drop b)).1=g++(aK.mk t y n tx k::(fF N w a (s.drop b)).1):=aA;rw[l]at p;clear l q;generalize aI (g++(aK.mk t y n tx k::(fF N w a (s.drop b)).1))=R,uh t y n tx k=E,aI g=A at *;refine aB ?_;simp[J,u,j,I,H,W,p]
 ·rw[aj q]at p;simp only[au q];rw[aj q];generalize fF N w a (s.drop b)=RR,uh t y n tx k=E,aI g=A at *;refine aB ?_;simp[J,u,j,I,H,W,p]
def aAT{N:Nat}(g:UH N):Qh N:=by
 intro w ahead c s h i j k l;have m:(s.drop c).length=s.length-c:=fU;obtain⟨a,b,d⟩:=g w [] ahead c s k (by simp only[lK];omega) h i j l;have fn:aI []=[]:=by simp only[aI]
 refine⟨a,b,?_⟩;rw[fn,aX]at d;have e:=aAN N w ahead (s.drop c);generalize fF N w ahead (s.drop c)=R at *;by_cases f:R.2=0
 ·rw[au f]at d;rw[f];refine aB ?_;simp[d]
 ·rw[aj f]at d;rw[e f,fn];refine aB ?_;simp[d]
def alm:∀N:Nat,Qh N/\UH N
 |0=>⟨λw ahead b s _ _ a _ _=>absurd a ah,λw d ahead b s _ _ _ _ a _=>absurd a ah⟩
 |N+1=>by have c:=alm N;have a:=aAQ c.1 c.2;exact⟨aAT a,a⟩
def xO(s:Q0):List aK×Int:=if 65536<s.length then([],4)else fF (s.length+1) 0 0 s
def aFL(s:Q0)(f:s.length<=140737488351232):TT.lim 189 [.s s]=some [.l (aI (xO s).1),.zq (xO s).2]:=by
 unfold xO;have fn:aI []=[]:=by simp only[aI]
 by_cases c:65536<s.length
 ·have d:(65536:Int)<s.length:=ah;rw[au c,fn];refine aW ?_;simp[d]
 ·have d:¬(65536:Int)<s.length:=ah;obtain⟨a,b,e⟩:=(alm (s.length+1)).1 0 0 0 s ah ah (by rw[dY];omega) ah ah;rw[dY]at e;rw[aj c];simp only[tJ]at e;generalize fF (s.length+1) 0 0 s=R at *;refine aW ?_;simp[d,e]
def vW(l:List dU):Q1:=l.map λs=>GV.zu s.tag
def ai5(l:List dU)(k:l.length<=1000):∀(m i:Nat)(a:Q1),i+m=l.length->a.length+m<=2000->TT.lim 199 [.l a,.l (l.map gJ),.zq l.length,.zq i]=some [.zq 0,.l (a++vW (l.drop i))]
 |0,i,a,hi,n=>by
  have h:¬((i:Int)<l.length):=ah;have e:l.drop i=[]:=iK;rw[e];show _=some [GV.zq 0,.l (a++[])]
  rw[pX];refine aB ?_;simp[h]
 |m+1,i,a,hi,n=>by
  have c:i<l.length:=ah;have h:((i:Int)<l.length):=ah;have d:(l.map gJ)[i]? =some (gJ l[i]):=by rw[jy,bZ c];rfl
  have b:((i+1:Nat):Int)=(i:Int)+1:=ah;have o:=bH ((i:Int)+1);have f:l.drop i=l[i]::l.drop (i+1):=iR c;have g:=ai5 l k m (i+1) (a++[.zu l[i].tag]) ah (by rw[eH,GI];omega);rw[f];have j:a++vW (l[i]::l.drop (i+1))=a++[GV.zu l[i].tag]++vW (l.drop (i+1)):=by rw[show vW (l[i]::l.drop (i+1))=GV.zu l[i].tag::vW (l.drop (i+1))from rfl,List.append_assoc];rfl
  rw[j];rw[b]at g;have p:2*(a.length+1)*8<=281474976710656/\a.length+1<=281474976710656:=ah;clear j f;generalize a++[GV.zu l[i].tag]++vW (l.drop (i+1))=R at *;generalize l[i]=s,l.map gJ=q at *;refine aB ?_;simp[h,d,p,GV.gQ,o,g]
def awV(k v:Int)(h1:1<=v)(d:v<=3)(e:qQ k<=v):TT.lim 198 [.zq k,.zq v]=some [.l (vW (aT k v))]:=by
 have a:=Xf k v h1 d e;have f:=FB k v;have b:=ai5 (aT k v) ah (aT k v).length 0 [] ah (by simp;omega);rw[dY,aX]at b;simp only[tJ]at b;have c:(((aT k v).map gJ).length:Int)=((aT k v).length:Int):=by rw[gB]
 generalize vW (aT k v)=g,(aT k v).map gJ=h,((aT k v).length:Int)=L at *;refine aW ?_;simp[a,c,b]
def FM(xs:Q1)(l:List dU):Q1:=l.foldl (λm s=>kH (.zu s.tag) (.s s.name) m) xs
def agF(l:List dU)(k:l.length<=1000)(d f g:GV):∀(m i:Nat)(xs:Q1),i+m=l.length->TT.lim 197 [d,f,g,.l (l.map gJ),.zq l.length,.zq i,.l xs]=some [.zq 0,.l (FM xs (l.drop i))]
 |0,i,xs,hi=>by
  have h:¬((i:Int)<l.length):=ah;have e:l.drop i=[]:=iK;rw[e];show _=some [GV.zq 0,.l xs]
  refine aB ?_;simp[h]
 |m+1,i,xs,hi=>by
  have b:i<l.length:=ah;have h:((i:Int)<l.length):=ah;have c:(l.map gJ)[i]? =some (gJ l[i]):=by rw[jy,bZ b];rfl
  have a:((i+1:Nat):Int)=(i:Int)+1:=ah;have n:=bH ((i:Int)+1);have o:l.drop i=l[i]::l.drop (i+1):=iR b;have j:=agF l k d f g m (i+1) (kH (.zu l[i].tag) (.s l[i].name) xs) ah;rw[o];show _=some [GV.zq 0,.l (FM (kH (.zu l[i].tag) (.s l[i].name) xs) (l.drop (i+1)))]
  rw[a]at j;generalize FM (kH (.zu l[i].tag) (.s l[i].name) xs) (l.drop (i+1))=R at *;generalize l[i]=s,l.map gJ=p at *;refine aB ?_;simp[h,c,n,j]
def aj2(t:Int):∀(l:List dU)(xs:Q1),l.Pairwise (λa b=>a.tag<b.tag)->gZ (.zu t) (FM xs l)=(match l.find? (λs=>decide (s.tag=t))with
 |some s=>some (.s s.name)
 |none=>gZ (.zu t) xs)
 |[],xs,_=>rfl
 |s::l,xs,c=>by
  rw[jA]at c;have f:=aj2 t l (kH (.zu s.tag) (.s s.name) xs) c.2;show gZ (.zu t) (FM (kH (.zu s.tag) (.s s.name) xs) l)=_
  rw[f,List.find?_cons];by_cases h:s.tag=t
  ·have d:l.find? (λs=>decide (s.tag=t))=none:=by rw[List.find?_eq_none];intro x g;have:=c.1 x g;simp;omega
   rw[d];simp only[h,decide_true];rw[vH,au rfl]
  ·simp only[h,decide_false];cases i:l.find? (λs=>decide (s.tag=t))with
   |some x=>rfl
   |none=>simp only;rw[vH,aj (λe=>h e.symm)]
def EI(xs:Q1)(l:List dU):Q1:=l.foldl (λm s=>kH (.zu s.tag) (.b true) m) xs
def amf(l:List dU)(g:l.length<=1000)(d:GV):∀(m i:Nat)(xs:Q1),i+m=l.length->TT.lim 201 [d,.l (vW l),.zq l.length,.zq i,.l xs]=some [.zq 0,.l (EI xs (l.drop i))]
 |0,i,xs,hi=>by
  have h:¬((i:Int)<l.length):=ah;have e:l.drop i=[]:=iK;rw[e];show _=some [GV.zq 0,.l xs]
  refine aB ?_;simp[h]
 |m+1,i,xs,hi=>by
  have b:i<l.length:=ah;have h:((i:Int)<l.length):=ah;have c:(vW l)[i]? =some (.zu l[i].tag):=by unfold vW;rw[jy,bZ b];rfl
  have a:((i+1:Nat):Int)=(i:Int)+1:=ah;have j:=bH ((i:Int)+1);have k:l.drop i=l[i]::l.drop (i+1):=iR b;have f:=amf l g d m (i+1) (kH (.zu l[i].tag) (.b true) xs) ah;rw[k];show _=some [GV.zq 0,.l (EI (kH (.zu l[i].tag) (.b true) xs) (l.drop (i+1)))]
  rw[a]at f;generalize EI (kH (.zu l[i].tag) (.b true) xs) (l.drop (i+1))=R at *;generalize l[i]=s,vW l=n at *;refine aB ?_;simp[h,c,j,f]
def afH(t:Int):∀(l:List dU)(xs:Q1),gZ (.zu t) (EI xs l)=if hasTag l t=true then some (.b true)else gZ (.zu t) xs
 |[],xs=>rfl
 |s::l,xs=>by
  have a:=afH t l (kH (.zu s.tag) (.b true) xs);show gZ (.zu t) (EI (kH (.zu s.tag) (.b true) xs) l)=_
  rw[a,vH];unfold hasTag;rw[aeH];by_cases h:t=s.tag
  ·simp[h]
  ·simp[h]
def mM(l:List dU)(fs:List aK):List aK:=fs.filter λf=>hasTag l f.tag
def qB(l:List dU)(fs:List aK):List aK:=fs.filter λf=>!hasTag l f.tag
def amg(l:List dU)(fs:List aK)(u:fs.length<=1000000):∀(m i:Nat)(a b:List aK),i+m=fs.length->a.length+b.length+m<=3000000->TT.lim 202 [.l (aI fs),.l (aI a),.l (aI b),.zq fs.length,.zq i,.l (EI [] l)]=some [.zq 0,.l (aI (a++mM l (fs.drop i))),.l (aI (b++qB l (fs.drop i)))]
 |0,i,a,b,hi,v=>by have h:¬((i:Int)<fs.length):=ah;have e:fs.drop i=[]:=iK;rw[e];have f:mM l []=[]:=rfl;have g:qB l []=[]:=rfl;rw[f,g,pX,pX];refine aB ?_;simp[h]
 |m+1,i,a,b,hi,v=>by
  have h:((i:Int)<fs.length):=ah;obtain⟨t,y,n,s,k,J,g2,g3,L⟩:=Ib (l:=fs) (i:=i) ah;have j:((i+1:Nat):Int)=(i:Int)+1:=ah;have D:=bH ((i:Int)+1);have r:=afH t l [];have c:∀z:List aK,aI (z++[.mk t y n s k])=aI z++[uh t y n s k]:=λz=>by rw[Wh];simp only[aI,rC];rfl
  have p:(uh t y n s k).gQ 5=true:=rfl;have q:GV.g [.zu t,.zq y,.zu n,.s s,.l (aI k)]=uh t y n s k:=rfl;have E:=qP a;have F:=qP b;have d:=λa b v=>amg l fs u m (i+1) a b ah v;simp only[j]at d;rw[g3];have w:gZ (.zu t) []=none:=rfl;cases o:hasTag l t with
  |true=>
   have f:mM l (.mk t y n s k::fs.drop (i+1))=.mk t y n s k::mM l (fs.drop (i+1)):=by unfold mM;rw[anq (by exact o)]
   have g:qB l (.mk t y n s k::fs.drop (i+1))=qB l (fs.drop (i+1)):=by unfold qB;rw[anp (by show ¬(!hasTag l t)=true;rw[o];decide)]
   rw[f,g];have d:=d (a++[.mk t y n s k]) b (by rw[eH,GI];omega);rw[c,List.append_assoc,MS]at d;rw[o,au rfl]at r;have x:2*((aI a).length+1)*64<=281474976710656/\(aI a).length+1<=281474976710656:=ah;generalize aI (a++.mk t y n s k::mM l (fs.drop (i+1)))=G,aI (b++qB l (fs.drop (i+1)))=H at *;clear c E F f g;generalize EI [] l=I,aI a=A,aI b=B at *;refine aB ?_;simp[h,g2,r,q,p,x,D,d]
  |false=>
   have f:mM l (.mk t y n s k::fs.drop (i+1))=mM l (fs.drop (i+1)):=by unfold mM;rw[anp (by show ¬hasTag l t=true;rw[o];decide)]
   have g:qB l (.mk t y n s k::fs.drop (i+1))=.mk t y n s k::qB l (fs.drop (i+1)):=by unfold qB;rw[anq (by show(!hasTag l t)=true;rw[o];rfl)]
   rw[f,g];have d:=d a (b++[.mk t y n s k]) (by rw[eH,GI];omega);rw[c,List.append_assoc,MS]at d;rw[o,aj aV,w]at r;have x:2*((aI b).length+1)*64<=281474976710656/\(aI b).length+1<=281474976710656:=ah;generalize aI (a++mM l (fs.drop (i+1)))=G,aI (b++.mk t y n s k::qB l (fs.drop (i+1)))=H at *;clear c E F f g;generalize EI [] l=I,aI a=A,aI b=B at *;refine aB ?_;simp[h,g2,r,q,p,x,D,d]
def aAO{rec:Q0->List aK×Int}{w ahead:Nat}{s:Q0}(u:s.length<=100000000)(p:∀t:Q0,t.length+2<=s.length->fD (rec t).1/\(rec t).1.length<=1000000/\dO (rec t).1<=t.length/\wL (rec t).1<=42*t.length)(h:(jM rec w ahead s).2.2=0):
 uU (jM rec w ahead s).1/\xq (jM rec w ahead s).1+1<=(jM rec w ahead s).2.1/\(jM rec w ahead s).2.1<=s.length/\(jM rec w ahead s).1.tag=((aF s).1/4:Nat)/\wF (jM rec w ahead s).1<=42*(jM rec w ahead s).2.1:=by
 unfold jM at h⊢;by_cases a:(aF s).2.2=0;rotate_left
 ·simp only[au a]at h;exact absurd h a
 have d:=lZ a;simp only[aj (λx=>x a:¬(aF s).2.2≠0)]at h⊢;by_cases g:(aF s).1/4=0
 ·simp only[au g]at h;exact absurd h aV
 simp only[aj g]at h⊢;by_cases i:4294967296<(aF s).1/4
 ·simp only[au i]at h;exact absurd h aV
 simp only[aj i]at h⊢;by_cases j:3<=(aF s).1%4
 ·simp only[au j]at h;exact absurd h aV
 simp only[aj j]at h⊢;by_cases k:(aF s).1/4<=ahead
 ·simp only[au k]at h;exact absurd h aV
 simp only[aj k]at h⊢;by_cases b:(aF (s.drop (aF s).2.1)).2.2=0;rotate_left
 ·simp only[au b]at h;exact absurd h b
 have e:=lZ b;have v:=d.len;have y:=d.pos;have q:=e.len;have z:=e.pos;have A:=d.lt;have D:=e.lt;rw[fU]at q;simp only[aj (λx=>x b:¬(aF (s.drop (aF s).2.1)).2.2≠0)]at h⊢;by_cases l:(aF s).1%4=0
 ·simp only[au l]at h⊢;simp only[uU,fD,xq,dO,wF,wL,lK];refine⟨⟨⟨ah,ah,ah,ah,ah,ah,aA,aA⟩,trivial⟩,ah,ah,rfl,ah⟩
 simp only[aj l]at h⊢;by_cases c:s.length-((aF s).2.1+(aF (s.drop (aF s).2.1)).2.1)<(aF (s.drop (aF s).2.1)).1
 ·simp only[au c]at h;exact absurd h aV
 simp only[aj c]at h⊢;by_cases m:(aF s).1%4=1
 ·simp only[au m]at h⊢;simp only[uU,fD,xq,dO,wF,wL];refine⟨⟨⟨ah,ah,ah,ah,ah,ah,by rw[mP,fU];omega,aA⟩,trivial⟩,ah,ah,rfl,by rw[mP,fU];omega⟩
 simp only[aj m]at h⊢;by_cases n:8<=w
 ·simp only[au n]at h;exact absurd h aV
 simp only[aj n]at h⊢;have o:((s.drop ((aF s).2.1+(aF (s.drop (aF s).2.1)).2.1)).take (aF (s.drop (aF s).2.1)).1).length=(aF (s.drop (aF s).2.1)).1:=by rw[mP,fU];omega
 obtain⟨r1,r2,r3,r⟩:=p ((s.drop ((aF s).2.1+(aF (s.drop (aF s).2.1)).2.1)).take (aF (s.drop (aF s).2.1)).1) (by rw[o];omega);rw[o]at r3 r;generalize(s.drop ((aF s).2.1+(aF (s.drop (aF s).2.1)).2.1)).take (aF (s.drop (aF s).2.1)).1=T at *;by_cases f:(rec T).2=0;rotate_left
 ·simp only[au f]at h;exact absurd h f
 simp only[aj (λx=>x f:¬(rec T).2≠0)]at h⊢;simp only[uU,xq,wF,lK];refine⟨⟨⟨ah,ah,ah,ah,ah,ah,aA,r2⟩,r1⟩,ah,ah,rfl,ah⟩
def adk:∀(N w ahead:Nat)(s:Q0),s.length<=1000000->fD (fF N w ahead s).1/\(fF N w ahead s).1.length<=1000000/\dO (fF N w ahead s).1<=s.length/\wL (fF N w ahead s).1<=42*s.length
 |0,w,ahead,s,_=>by simp only[fF,fD,dO,wL];simp
 |N+1,w,ahead,s,h=>by
  unfold fF;by_cases h1:s=[]
  ·rw[au h1];simp only[fD,dO,wL];simp
  rw[aj h1];by_cases a:(jM (λt=>fF N (w+1) 0 t) w ahead s).2.2=0;rotate_left
  ·rw[au a];simp only[fD,dO,wL];simp
  rw[aj (λx=>x a)];obtain⟨o1,i,j,k,m⟩:=aAO (rec:=λt=>fF N (w+1) 0 t) (w:=w) (ahead:=ahead) (s:=s) ah (λt n=>adk N (w+1) 0 t ah) a;have c:(s.drop (jM (λt=>fF N (w+1) 0 t) w ahead s).2.1).length=s.length-(jM (λt=>fF N (w+1) 0 t) w ahead s).2.1:=fU;obtain⟨d,o,e,g⟩:=adk N w ((aF s).1/4) (s.drop (jM (λt=>fF N (w+1) 0 t) w ahead s).2.1) ah;rw[c]at e g;split
  ·simp only[fD,dO,wL];simp
  ·simp only[fD,dO,wL];have:∀l:List aK,l.length<=dO l:=λl=>by
    induction l with
    |nil=>simp[dO]
    |cons f l p=>simp only[iD,dO];omega
   have q:=this (fF N w ((aF s).1/4) (s.drop (jM (λt=>fF N (w+1) 0 t) w ahead s).2.1)).1;refine⟨⟨o1,d⟩,?_,?_,?_⟩
   ·simp only[iD];omega
   ·omega
   ·omega
def ahP(s:Q0):fD (xO s).1/\(xO s).1.length<=1000000/\dO (xO s).1<=65536/\wL (xO s).1<=3000000:=by
 unfold xO;by_cases c:65536<s.length
 ·rw[au c];simp only[fD,dO,wL];simp
 ·rw[aj c];obtain⟨a,b,d,e⟩:=adk (s.length+1) 0 0 s ah;exact⟨a,b,ah,ah⟩
def aK.typ:aK->Int
 |.mk _ y _ _ _=>y
def aK.num:aK->Int
 |.mk _ _ n _ _=>n
def aK.txt:aK->List UInt8
 |.mk _ _ _ s _=>s
def qN(l:List dU):aQ->List aK->aQ×Int
 |b,[]=>(b,0)
 |b,f::r=>match l.find? (λs=>decide (s.tag=f.tag))with
  |some s=>(match placeOf s.name with
   |some p=>if nC f.typ f.num f.txt p=0 then qN l (setB b f.num f.txt p) r else(gK,nC f.typ f.num f.txt p)
   |none=>(gK,26))
  |none=>(gK,26)
def agG(l:List dU)(L:l.Pairwise (λa b=>a.tag<b.tag))(w:∀s∈l,placeOf s.name≠none)(fs:List aK)(z:fD fs)(A:fs.length<=1000000)(D:∀f∈fs,hasTag l f.tag=true)(M N:GV):∀(m i:Nat)(b:aQ),i+m=fs.length->tV b []->
 TT.lim 203 ([M,N,.l (aI fs),.zq fs.length,.zq i]++(jh b []).cells++[.l (FM [] l)])=some (if(qN l b (fs.drop i)).2=0 then .zq 1::(jh (qN l b (fs.drop i)).1 []).cells else[.zq 0,.zq (qN l b (fs.drop i)).2])
 |0,i,b,hi,v=>by have h:¬((i:Int)<fs.length):=ah;have e:fs.drop i=[]:=iK;rw[e];unfold qN;rw[au rfl];rw[fE];simp only[bD,aX];refine aB ?_;simp[h]
 |m+1,i,b,hi,v=>by
  have h:((i:Int)<fs.length):=ah;obtain⟨t,y,n,s,k,g1,g2,g3,O⟩:=Ib (l:=fs) (i:=i) ah;have q:((i+1:Nat):Int)=(i:Int)+1:=ah;have T:=bH ((i:Int)+1);have o:=Ic z _ O;simp only[uU]at o;have E:=D _ O;have F:=aj2 t l [] L;have fn:aI []=[]:=by simp only[aI]
  obtain⟨d,g⟩:∃d,l.find? (λs=>decide (s.tag=t))=some d:=by
   unfold hasTag at E;obtain⟨d,U,V⟩:=List.any_eq_true.1 E;cases J:l.find? (λs=>decide (s.tag=t))with
   |some x=>exact⟨x,rfl⟩
   |none=>have:=(List.find?_eq_none.1 J) d U;have W:t=d.tag:=DX V;simp[W]at this
  have j:=List.mem_of_find?_eq_some g;rw[g]at F;simp only at F;obtain⟨p,H⟩:∃p,placeOf d.name=some p:=by
   cases J:placeOf d.name with
   |some p=>exact⟨p,rfl⟩
   |none=>exact absurd J (w d j)
  have c:=ayg (aI k) b [] (EX v.d) v.t (by simp[dO]) t y n s ⟨o.1.2.2.2.2.1,o.1.2.2.2.2.2.1⟩ o.1.2.2.2.2.2.2.1 d.name;rw[fn]at c;unfold aei at c;rw[H]at c;simp only at c;unfold aej at c;rw[g3];unfold qN;have X:aK.tag (.mk t y n s k)=t:=rfl;have Y:aK.typ (.mk t y n s k)=y:=rfl;have Z:aK.num (.mk t y n s k)=n:=rfl;have e4:aK.txt (.mk t y n s k)=s:=rfl;rw[X,g,Y,Z,e4];simp only[H];have r:GV.g [.zu t,.zq y,.zu n,.s s,.l (aI k)]=uh t y n s k:=rfl;rw[r]at c;by_cases u:nC y n s p=0
  ·rw[au u]at c;simp only[au u];obtain⟨P,Q,S⟩:=alX v.body v.d v.t ⟨o.1.2.2.2.2.1,o.1.2.2.2.2.2.1⟩ o.1.2.2.2.2.2.2.1 u;have I:=agG l L w fs z A D M N m (i+1) (setB b n s p) ah ⟨P,Q,S,by simp only[fD],aA⟩;rw[q]at I;generalize qN l (setB b n s p) (fs.drop (i+1))=R at *;generalize setB b n s p=B at *;clear P Q S u g j H E o;generalize FM [] l=MP,d.name=nm,aI fs=G at *;rw[fE]at I;rw[fE];simp only[bD,aX]at I⊢;refine aB ?_;simp[↓Q8,h,g2,r,F,lT,c,T,I]
  ·rw[aj u]at c;simp only[aj u];generalize nC y n s p=e at *;clear g j H E o;generalize FM [] l=MP,d.name=nm,aI fs=G at *;rw[fE];simp only[bD,aX];refine aB ?_;simp[↓Q8,h,g2,r,F,lT,c,u]
def je(s:Q0)(v:Int):aQ×List aK×Int:=
 if v<1 then(gK,[],16)else if 3<v then(gK,[],16)else
 if 65536<s.length then(gK,[],4)else
 if(aF s).2.2≠0 then(gK,[],(aF s).2.2)else
 if 8<(aF s).1 then(gK,[],15)else
 if qQ (aF s).1=0 then(gK,[],15)else if v<qQ (aF s).1 then(gK,[],15)else
 if(xO (s.drop (aF s).2.1)).2≠0 then(gK,[],(xO (s.drop (aF s).2.1)).2)else
 let l:=aT (aF s).1 v
 let a:=(xO (s.drop (aF s).2.1)).1
 let r:=qN l {gK with kind:=(aF s).1} (mM l a)
 if r.2≠0 then(gK,[],r.2)else
 if fC r.1 (qB l a) v≠0 then(gK,[],fC r.1 (qB l a) v)else(r.1,qB l a,0)
def adW(p:aK->Bool):∀l:List aK,dO (l.filter p)<=dO l
 |[]=>by simp[dO]
 |f::l=>by
  have a:=adW p l;rw[Uo];split
  ·simp only[dO];omega
  ·simp only[dO];omega
def split_ok(l:List dU)(e:l.length<=1000)(fs:List aK)(a:fs.length<=1000000)(b:dO fs<=1000000):TT.lim 200 [.l (aI fs),.l (vW l)]=some [.l (aI (mM l fs)),.l (aI (qB l fs))]:=by
 have d:=amf l e (.l (aI fs)) l.length 0 [] ah;have c:=amg l fs a fs.length 0 [] [] ah (by simp;omega);have fn:aI []=[]:=by simp only[aI]
 rw[dY]at d c;rw[aX,aX,fn]at c;simp only[tJ]at d c;have f:=V4 (mM l fs) (kW (adW _ fs) b);have g:=V4 (qB l fs) (kW (adW _ fs) b);have lt:(vW l).length=l.length:=by unfold vW;rw[gB]
 have h:=qP fs;generalize aI (mM l fs)=W,aI (qB l fs)=O,aI fs=G,EI [] l=i,vW l=j at *;refine aW ?_;simp[lt,h,d,c,f,g]
def aax(l:List dU):∀(fs:List aK)(b:aQ),fD fs->tV b []->tV (qN l b fs).1 []
 |[],b,_,a=>a
 |f::fs,b,c,a=>by
  simp only[fD]at c;unfold qN;cases l.find? (λs=>decide (s.tag=f.tag))with
  |none=>exact Ja
  |some s=>
   simp only;cases placeOf s.name with
   |none=>exact Ja
   |some p=>
    simp only;by_cases d:nC f.typ f.num f.txt p=0
    ·rw[au d];have h1:=c.1;cases f with
     |mk t y n s k=>simp only[uU]at h1;obtain⟨e,g,h⟩:=alX a.body a.d a.t ⟨h1.1.2.2.2.2.1,h1.1.2.2.2.2.2.1⟩ h1.1.2.2.2.2.2.2.1 d;exact aax l fs _ c.2 ⟨e,g,h,by simp only[fD],aA⟩
    ·rw[aj d];exact Ja
def ael(k:Int)(h: -9223372036854775808<=k/\k<=9223372036854775807):tV {gK with kind:=k} []:=by have z:=Ja;exact⟨{z.body with kind:=h},z.d,z.t,z.f8,z.len⟩
def Ob(p:aK->Bool):∀{l:List aK},fD l->fD (l.filter p)
 |[],_=>by simp only[List.filter_nil,fD]
 |f::l,h=>by
  simp only[fD]at h;have a:=Ob p h.2;rw[Uo];split
  ·simp only[fD];exact⟨h.1,a⟩
  ·exact a
set_option maxHeartbeats 4000000 in
def decode_ok(s:Q0)(v:Int)(hs:s.length<=140737488351232):TT.lim 188 [.s s,.zq v]=some [jh (je s v).1 (aI (je s v).2.1),.zq (je s v).2.2]:=by
 have fn:aI []=[]:=by simp only[aI]
 have i:GV.g [.zq 0,.zu 0,.zu 0,.zu 0,.zu 0,.zu 0,.zu 0,.zu 0,.zu 0,.zu 0,.zu 0,.zu 0,.zu 0,.zu 0,.zu 0,.zu 0,.zq 0,.b false,.s [],.s [],.s [],.l [],.l [],.l []]=jh gK []:=rfl;unfold je;by_cases d:v<1
 ·rw[au d];simp only;rw[fn,<-i];refine aW ?_;simp[d]
 rw[aj d];by_cases g:3<v
 ·rw[au g];simp only;rw[fn,<-i];refine aW ?_;simp[d,g]
 rw[aj g];by_cases U:65536<s.length
 ·rw[au U];have a:(65536:Int)<s.length:=ah;simp only;rw[fn,<-i];refine aW ?_;simp[d,g,a]
 rw[aj U];have a:¬(65536:Int)<s.length:=ah;have l:=wR s ah;by_cases w:(aF s).2.2=0;rotate_left
 ·rw[au w];simp only;rw[fn,<-i];generalize(aF s).2.2=e at *;refine aW ?_;simp[d,g,a,l,w]
 rw[aj (λx=>x w)];rw[w]at l;have J:=lZ w;have l1:=J.len;have t1:=J.lt;have M:(s.drop (aF s).2.1).length=s.length-(aF s).2.1:=fU;have h:=aFL (s.drop (aF s).2.1) ah;obtain⟨G,g2,g3,-⟩:=ahP (s.drop (aF s).2.1);clear J w M;generalize xO (s.drop (aF s).2.1)=b at *;generalize A:s.drop (aF s).2.1=T at *;generalize(aF s).1=n,(aF s).2.1=j at *;have c:(s.take s.length).drop j=T:=by rw[Bz];exact A
 have H:(j:Int)<=s.length:=ah;have V:=abC 0;have N:qQ 0=0:=rfl;rw[N]at V;by_cases X:8<n
 ·rw[au X];have m:¬(n:Int)<=8:=ah;simp only;rw[fn,<-i];refine aW ?_;simp[d,g,a,l,m,V]
 rw[aj X];have m:(n:Int)<=8:=ah;have y:=bH ((n:Int));have p:=abC (n:Int);by_cases o:qQ n=0
 ·rw[au o];rw[o]at p;simp only;rw[fn,<-i];refine aW ?_;simp[d,g,a,l,m,y,p]
 rw[aj o];by_cases q:v<qQ n
 ·rw[au q];simp only;rw[fn,<-i];generalize qQ n=Y at *;refine aW ?_;simp[d,g,a,l,m,y,p,o,q]
 rw[aj q];by_cases I:b.2=0;rotate_left
 ·rw[au I];simp only;rw[fn,<-i];generalize qQ n=Y at *;refine aW ?_;simp[d,g,a,l,m,y,p,o,q,c,A,H,h,I]
 rw[aj (λx=>x I)];rw[I]at h;have P:=Xf n v ah ah ah;have Q:=awV n v ah ah ah;have k8:=FB n v;have D:=agF (aT n v) ah (.zq v) (.zq n) (.l (aI b.1)) (aT n v).length 0 [] ah;rw[dY]at D;simp only[tJ]at D;have S:=split_ok (aT n v) ah b.1 g2 ah;have k:=agG (aT n v) (KC n v).1 (ai3 n v) (mM (aT n v) b.1) (Ob _ G) (kW (Zk _ _) g2) (λf hf=>(C9.1 hf).2) (.zq v) (.l (aI (qB (aT n v) b.1))) (mM (aT n v) b.1).length 0 {gK with kind:=n} ah (ael n ah);rw[dY]at k;simp only[tJ]at k;have r:=aax (aT n v) (mM (aT n v) b.1) {gK with kind:=n} (Ob _ G) (ael n ah);have kc:=abX (qN (aT n v) {gK with kind:=n} (mM (aT n v) b.1)).1 (qB (aT n v) b.1) v r.body r.t.few (Ob _ G) (kW (Zk _ _) g2);have t:(((aT n v).map gJ).length:Int)=((aT n v).length:Int):=by rw[gB]
 have u:=qP (mM (aT n v) b.1);have E:(jh {gK with kind:=(n:Int)} []).cells=[.zq (n:Int),.zu 0,.zu 0,.zu 0,.zu 0,.zu 0,.zu 0,.zu 0,.zu 0,.zu 0,.zu 0,.zu 0,.zu 0,.zu 0,.zu 0,.zu 0,.zq 0,.b false,.s [],.s [],.s [],.l [],.l [],.l []]:=rfl;rw[E]at k;simp only[bD,aX]at k;simp only;clear r E G g2 g3 k8;generalize qN (aT n v) {gK with kind:=(n:Int)} (mM (aT n v) b.1)=R,qB (aT n v) b.1=O,aI (mM (aT n v) b.1)=W,(mM (aT n v) b.1).length=WL,aI b.1=FG,FM [] (aT n v)=MP,(aT n v).map gJ=SP,vW (aT n v)=TG,((aT n v).length:Int)=L,qQ n=Y at *;by_cases z:R.2=0;rotate_left
 ·rw[aj z]at k;rw[au z];simp only;rw[fn,<-i];generalize aI O=Z at *;clear kc;refine aW ?_;simp -implicitDefEqProofs(maxSteps:=10000000) [↓Q8,d,g,a,l,m,y,p,o,q,c,A,H,h,P,t,D,Q,S,u,k,z]
 rw[au z]at k;rw[aj (λx=>x z)];rw[fE]at k;by_cases F:fC R.1 O v=0
 ·rw[aj (λx=>x F)];rw[F]at kc;simp only;generalize aI O=Z at *;clear z F;refine aW ?_;simp -implicitDefEqProofs(maxSteps:=10000000) [↓Q8,d,g,a,l,m,y,p,o,q,c,A,H,h,P,t,D,Q,S,u,k,lT,kc]
 ·rw[au F];simp only;rw[fn,<-i];generalize aI O=Z,fC R.1 O v=ck at *;refine aW ?_;simp -implicitDefEqProofs(maxSteps:=10000000) [↓Q8,d,g,a,l,m,y,p,o,q,c,A,H,h,P,t,D,Q,S,u,k,lT,kc,F]
def Ud(n:Nat)(x:Q0)(a:n<18446744073709551616):aF (aS n++x)=(n,(aS n).length,0):=Gt n x a
def aFD(n:Nat):1<=(aS n).length:=En n
def adl:∀(N:Nat)(L:List aK)(w ahead:Nat),fD L->vk L->wL L<=1000000000000->jR w (ahead:Int) L=0->w<=8->(dL L).length<N->fF N w ahead (dL L)=(L,0)
 |0,L,w,ahead,_,_,_,_,_,h=>ah
 |N+1,[],w,ahead,_,_,_,_,_,_=>by unfold fF;rw[au (by simp only[dL])]
 |N+1,.mk t y n s k::L,w,ahead,d,b,G,a,I,u=>by
  have J:=G;simp only[wL,wF]at G;have M:=J4 (dO k+1) k ah (by simp only[fD,uU]at d;exact d.1.2) (by simp only[vk,IY]at b;exact b.1.2.2) ah;obtain⟨S,T,U,V,O,P⟩:=aaP (TV b (.mk t y n s k) aA);simp only[fD,uU]at d;have p:=TV b (.mk t y n s k) aA;simp only[IY]at p;have v:vk L:=by simp only[vk]at b;exact b.2
  unfold jR at a;by_cases z:(aK.mk t y n s k).tag=0
  ·rw[au z]at a;exact absurd a aV
  rw[aj z]at a;by_cases D:4294967296<(aK.mk t y n s k).tag
  ·rw[au D]at a;exact absurd a aV
  rw[aj D]at a;by_cases q:(aK.mk t y n s k).tag<=(ahead:Int)
  ·rw[au q]at a;exact absurd a aV
  rw[aj q]at a;by_cases f:AA w (.mk t y n s k)=0;rotate_left
  ·rw[au f]at a;exact absurd a f
  rw[aj (λe=>e f)]at a;have q:¬t<=(ahead:Int):=q;have a:jR w t L=0:=a;clear z D;have r:((t.toNat:Nat):Int)=t:=ah;have W:(4*t+y).toNat=4*t.toNat+y.toNat:=ah;have i:∀x,aF (aS (4*t+y).toNat++x)=((4*t+y).toNat,(aS (4*t+y).toNat).length,0):=λx=>Ud _ x ah;have j:(4*t+y).toNat/4=t.toNat:=ah;have E:(4*t+y).toNat%4=y.toNat:=ah;have Q:=adl N L w t.toNat d.2 v ah (by rw[r];exact a) I;simp only[dL,Q7]at u⊢;simp only[eH]at u;have X:=aFD (4*t+y).toNat;have F:¬(aS (4*t+y).toNat++(if y=0 then aS n.toNat else if y=1 then aS s.length++s else aS (dL k).length++dL k)++dL L=[]):=by intro e;have:=uS List.length e;simp only[eH,lK]at this;omega
  unfold fF;rw[aj F];have one:jM (λt=>fF N (w+1) 0 t) w ahead (aS (4*t+y).toNat++(if y=0 then aS n.toNat else if y=1 then aS s.length++s else aS (dL k).length++dL k)++dL L)=(.mk t y n s k,(aS (4*t+y).toNat).length+(if y=0 then aS n.toNat else if y=1 then aS s.length++s else aS (dL k).length++dL k).length,0):=by
   unfold jM;rw[List.append_assoc,i];simp only[ne_eq,not_true_eq_false,if_false,j,E,uH];rw[bU,bU,bU,bU];rcases O with l|l|l
   ·subst l;have e:=p.2.1;obtain⟨m,o⟩:s=[]/\k=[]:=by
     rcases e with e|e|e
     ·exact e.2
     ·exact absurd e.1 aV
     ·exact absurd e.1 aV
    subst m;subst o;simp only[if_true];rw[Ud _ _ ah];simp only[not_true_eq_false,if_false,Int.toNat_zero,if_true];rw[r,(ah:((n.toNat:Nat):Int)=n)]
   ·subst l;have e:=p.2.1;obtain⟨m,o⟩:n=0/\k=[]:=by
     rcases e with e|e|e
     ·exact absurd e.1 aV
     ·exact e.2
     ·exact absurd e.1 aV
    subst m;subst o;simp only[show((1:Int)=0)=False from aA,show((1:Int)=1)=True from aA,if_false,if_true];rw[List.append_assoc,Ud _ _ ah];simp only[not_true_eq_false,if_false];rw[aj (show ¬Int.toNat 1=0 by decide),aj (by simp only[eH];omega),au (show Int.toNat 1=1 by decide)];rw[<-tK,uH,uH,Ux];rw[r];simp only[eH,kC]
   ·subst l;have e:=p.2.1;obtain⟨m,o⟩:n=0/\s=[]:=by
     rcases e with e|e|e
     ·exact absurd e.1 aV
     ·exact absurd e.1 aV
     ·exact e.2
    subst m;subst o;have H:¬8<=w/\jR (w+1) 0 k=0:=by
     unfold AA at f;rw[aj aV,aj aV,au rfl,au ⟨rfl,rfl⟩]at f;by_cases c:8<=w
     ·rw[au c]at f;exact absurd f aV
     ·rw[aj c]at f;exact⟨c,f⟩
    have R:=adl N k (w+1) 0 d.1.2 P ah H.2 ah (by simp only[aj (show ¬(2:Int)=0 by decide),aj (show ¬(2:Int)=1 by decide),eH]at u;omega)
    simp only[show((2:Int)=0)=False from aA,show((2:Int)=1)=False from aA,if_false];rw[List.append_assoc,Ud _ _ ah];simp only[not_true_eq_false,if_false];rw[aj (show ¬Int.toNat 2=0 by decide),aj (by simp only[eH];omega),aj (show ¬Int.toNat 2=1 by decide),aj H.1];rw[<-tK,uH,uH,Ux];rw[R];simp only[not_true_eq_false,if_false];rw[r];simp only[eH,kC]
  rw[one];simp only[ne_eq,not_true_eq_false,if_false];rw[List.append_assoc,i];simp only[j];have g:∀A B C:Q0,(A++(B++C)).drop (A.length+B.length)=C:=λA B C=>by rw[<-tK,uH,uH]
  rw[g,Q ah];simp
def ave{L:List aK}(h:Y8 L)(a:(dL L).length<=65536):xO (dL L)=(L,0):=by unfold xO;rw[bU];exact adl ((dL L).length+1) L 0 0 h.ok (QK (dO L+1) L ah h.ok 0 0 h.chk ah) h.w h.chk ah ah
def asR{k w:Int}(f:1<=k/\k<=8)(h1:1<=w)(l:w<=3)(m:qQ k<=w){L:List aK}(h:Y8 L)(g:(aS k.toNat++dL L).length<=65536):
 je (aS k.toNat++dL L) w=(if(qN (aT k w) {gK with kind:=k} (mM (aT k w) L)).2≠0 then(gK,[],(qN (aT k w) {gK with kind:=k} (mM (aT k w) L)).2)else
  if fC (qN (aT k w) {gK with kind:=k} (mM (aT k w) L)).1 (qB (aT k w) L) w≠0 then(gK,[],fC (qN (aT k w) {gK with kind:=k} (mM (aT k w) L)).1 (qB (aT k w) L) w)else((qN (aT k w) {gK with kind:=k} (mM (aT k w) L)).1,qB (aT k w) L,0)):=by
 have c:(dL L).length<=65536:=by rw[eH]at g;omega
 have i:=Ud k.toNat (dL L) ah;have d:((k.toNat:Nat):Int)=k:=ah;have e:qQ k≠0:=by unfold qQ;obtain⟨a,b⟩:=f;rcases(ah:k=1\/k=2\/k=3\/k=4\/k=5\/k=6\/k=7\/k=8)with rfl|rfl|rfl|rfl|rfl|rfl|rfl|rfl<;>decide
 have j:=ave h c;unfold je;rw[bU,bU,bU,i];simp only[ne_eq,not_true_eq_false,if_false,d,uH];rw[bU,aj e,bU,j];simp only[not_true_eq_false,if_false]
def uZ(b c:aQ):List dU->aQ
 |[]=>c
 |s::l=>match placeOf s.name with
  |some p=>if(bg b p).1=0/\(bg b p).2=[]then uZ b c l else uZ b (zZ b c p) l
  |none=>uZ b c l
def V8(s:dU):∀l:List dU,l.Pairwise (λa b=>a.tag<b.tag)->s∈l->l.find? (λx=>decide (x.tag=s.tag))=some s
 |[],_,h=>by cases h
 |a::l,c,h=>by
  rw[jA]at c;rw[List.find?_cons];rcases bI.1 h with e|h
  ·subst e;simp
  ·have:=c.1 s h;rw[ER (ah:¬a.tag=s.tag)];simp only;exact V8 s l c.2 h
def agI{b:aQ}{j:List aK}{u:Int}(h:xH b j)(k:fC b j u=0){l:List dU}(m:l.Pairwise (λa b=>a.tag<b.tag)):∀(f:List dU)(c:aQ),(∀s∈f,s∈l)->qN l c (lQ b f)=(uZ b c f,0)
 |[],c,_=>rfl
 |s::f,c,n=>by
  have i:=λc=>agI h k m f c (λx q=>n x (by simp[q]));rw[Fz];unfold uZ xU;cases o:placeOf s.name with
  |none=>simp only[aX];exact i c
  |some p=>
   simp only;by_cases e:(bg b p).1=0/\(bg b p).2=[]
   ·rw[au e,au e];simp only[aX];exact i c
   ·rw[aj e,aj e];simp only[bD,aX];have g:=aoR k o e;obtain⟨r,-,-,t⟩:=aDD h.msg h.short p g e;have d:=V8 s l m (n s aA);unfold qN;have v:aK.tag (.mk s.tag (dZ p) (bg b p).1 (bg b p).2 [])=s.tag:=rfl;have w:aK.typ (.mk s.tag (dZ p) (bg b p).1 (bg b p).2 [])=dZ p:=rfl;have y:aK.num (.mk s.tag (dZ p) (bg b p).1 (bg b p).2 [])=(bg b p).1:=rfl;have z:aK.txt (.mk s.tag (dZ p) (bg b p).1 (bg b p).2 [])=(bg b p).2:=rfl;rw[v,d,w,y,z];simp only[o];rw[au r,t];exact i _
def Xg(k:Int){w u:Int}(h:w<=u):aT k w=(aT k u).filter (λs=>decide (s.from_<=w)):=by
 unfold aT;rw[List.filter_filter];congr 1;funext s;by_cases a:s.from_<=w
 ·have:s.from_<=u:=ah;simp[a,this]
 ·simp[a]
def avv{l:List dU}(g:l.Pairwise (λa b=>a.tag<b.tag))(q:dU->Bool){s:dU}(h:s∈l):hasTag (l.filter q) s.tag=q s:=by
 cases i:q s with
 |true=>unfold hasTag;exact List.any_eq_true.2 ⟨s,C9.2 ⟨h,i⟩,aA⟩
 |false=>
  cases j:hasTag (l.filter q) s.tag with
  |false=>rfl
  |true=>
   unfold hasTag at j;obtain⟨x,k,e⟩:=List.any_eq_true.1 j;have e:s.tag=x.tag:=DX e;obtain⟨f,c⟩:=C9.1 k;have m:=V8 s l g h;have d:=V8 x l g f;rw[<-e,m]at d;injection d with d
   rw[<-d,i]at c;cases c
def aiW(b:aQ)(P:Int->Bool)(q:dU->Bool):∀a:List dU,(∀s∈a,P s.tag=q s)->(lQ b a).filter (λf=>P f.tag)=lQ b (a.filter q)
 |[],_=>rfl
 |s::a,h=>by
  have i:=aiW b P q a (λx j=>h x (by simp[j]));have k:=h s aA;rw[Fz,aeN,i,Uo];cases d:xU b s with
  |none=>
   have e:∀z,lQ b (s::z)=lQ b z:=λz=>by rw[Fz,d];rfl
   cases g:q s with
   |true=>simp[e]
   |false=>simp
  |some f=>
   obtain⟨p,-,rfl,-⟩:=RN d;have c:P (aK.mk s.tag (dZ p) (bg b p).1 (bg b p).2 []).tag=q s:=k;cases g:q s with
   |true=>rw[g]at c;simp only[Uo,c,if_true,List.filter_nil];rw[Fz,d]
   |false=>rw[g]at c;simp[Uo,c]
def aA2{b:aQ}{d:List aK}{u w:Int}(g:fC b d u=0)(h:w<=u):∀f∈d,hasTag (aT b.kind w) f.tag=false:=λf i=>by
 have a:=(Ht g).2.2.2.2 f i;cases c:hasTag (aT b.kind w) f.tag with
 |false=>rfl
 |true=>rw[Xg b.kind h]at c;unfold hasTag at c a;obtain⟨x,j,e⟩:=List.any_eq_true.1 c;have:(aT b.kind u).any (λs=>decide (f.tag=s.tag))=true:=List.any_eq_true.2 ⟨x,(C9.1 j).1,e⟩;rw[this]at a;exact a
def aFO{b:aQ}{a:List aK}{u w:Int}(d:fC b a u=0)(h:w<=u):mM (aT b.kind w) (wH b a u)=lQ b (aT b.kind w):=by
 obtain⟨g,i⟩:=Sl (Qn d);have c:=g.filter (λf=>hasTag (aT b.kind w) f.tag);rw[aeN]at c;have j:a.filter (λf=>hasTag (aT b.kind w) f.tag)=[]:=anr.2 λf k=>by rw[aA2 d h f k];decide
 have e:=aiW b (hasTag (aT b.kind w)) (λs=>decide (s.from_<=w)) (aT b.kind u) (λs l=>by rw[Xg b.kind h];exact avv (KC b.kind u).1 _ l)
 rw[<-Xg b.kind h]at e;rw[j,e,pX]at c;refine Yt _ _ c ?_ (Xh b _ (KC b.kind w).1);exact(i.sublist aeO).imp λh=>ah
def alb(b c:aQ)(p:Pl):dF (zZ b c p) b p:=by
 cases p with
 |num k=>rcases k with _|_|_|_|_|_|_|_|_|_|_|_|_|_|k<;>rfl
 |_=>rfl
def adf(b c d:aQ)(p q:Pl)(f:IE p)(g:IE q)(a:q≠p):dF (zZ b c p) d q↔dF c d q:=by
 cases p with
 |num k=>
  cases q with
  |num j=>
   show qV (zZ b c (.num k)) j=qV d j↔qV c j=qV d j
   rw[aAd b c j k f g (λe=>a (by rw[e]))]
  |_=>unfold zZ;split<;>rename_i h<;>cases h<;>(split<;>exact Iff.rfl)
 |_=>
  cases q with
  |num j=>exact Iff.rfl
  |_=>first|exact Iff.rfl|exact absurd rfl a
def val_zero{b:aQ}(q:Pl)(f:nU b q=0)(h:(bg b q).1=0/\(bg b q).2=[]):jq b q=true:=by
 have g:∀d:List dS,dN d≠[]:=λd e=>by have:=uS List.length e;unfold dN at this;have a:=En d.length;unfold fZ at a;simp only[eH,lK]at this;omega
 cases q with
 |rem=>simp only[bg]at h;simp only[jq,decide_eq_true_iff];have:=h.1;unfold zz at this;split at this<;>omega
 |allow=>
  simp only[bg]at h;simp only[jq];cases i:b.allowed with
  |false=>rfl
  |true=>rw[i]at h;simp at h
 |name=>simp only[bg]at h;simp only[jq,decide_eq_true_iff];exact h.2
 |region=>simp only[bg]at h;simp only[jq,decide_eq_true_iff];exact h.2
 |note=>simp only[bg]at h;simp only[jq,decide_eq_true_iff];exact h.2
 |d=>
  simp only[bg]at h;simp only[jq,decide_eq_true_iff];by_cases c:b.d=[]
  ·exact c
  ·rw[aj c]at h;exact absurd h.2 (g _)
 |t=>
  simp only[bg]at h;simp only[nU]at f;simp only[jq,decide_eq_true_iff];by_cases c:b.t=[]
  ·exact c
  ·rw[aj c]at h;have j:AZ b.t=(qC b.t,0):=by unfold AZ;rw[aj (λx=>x f)]
   rw[j]at h;have:=uS List.length h.2;unfold qC at this;have a:=En b.t.length;unfold fZ at a;simp only[eH,lK]at this;omega
 |num k=>simp only[bg]at h;simp only[jq,decide_eq_true_iff];exact h.1
def XT{b:aQ}{q:Pl}(i:IE q)(a:nU b q=0):∀(d:List dU)(c:aQ),(∃s∈d,placeOf s.name=some q)->(jq b q=true->dF c b q)->dF (uZ b c d) b q
 |[],c,h,_=>by obtain⟨s,o,-⟩:=h;cases o
 |s::d,c,h,l=>by
  have f:∀(d:List dU)(c:aQ),dF c b q->dF (uZ b c d) b q:=λd=>by
   induction d with
   |nil=>exact λc h=>h
   |cons s d m=>
    intro c h;unfold uZ;cases j:placeOf s.name with
    |none=>exact m c h
    |some p=>
     simp only;split
     ·exact m c h
     ·refine m _ ?_;by_cases e:q=p
      ·rw[e];exact alb b c p
      ·exact(adf b c b p q (AX s.name p j).2.1 i e).2 h
  unfold uZ;cases j:placeOf s.name with
  |none=>
   refine XT i a d c ?_ l;obtain⟨x,g,e⟩:=h;rcases bI.1 g with rfl|g
   ·rw[j]at e;cases e
   ·exact⟨x,g,e⟩
  |some p=>
   simp only;by_cases e:q=p
   ·subst e;split
    ·rename_i r
     exact f d c (l (val_zero q a r))
    ·exact f d _ (alb b c q)
   ·have n:∃s∈d,placeOf s.name=some q:=by
     obtain⟨x,g,k⟩:=h;rcases bI.1 g with rfl|g
     ·rw[j]at k;injection k with k;exact absurd k.symm e
     ·exact⟨x,g,k⟩
    split
    ·exact XT i a d c n l
    ·exact XT i a d _ n λt=>(adf b c b p q (AX s.name p j).2.1 i e).2 (l t)
def ak9{b d:aQ}{q:Pl}(g:IE q):∀(a:List dU)(c:aQ),(∀s∈a,placeOf s.name≠some q)->(dF (uZ b c a) d q↔dF c d q)
 |[],c,_=>Iff.rfl
 |s::a,c,h=>by
  have f:=λc=>ak9 (b:=b) (d:=d) g a c (λx j=>h x (by simp[j]));unfold uZ;cases i:placeOf s.name with
  |none=>exact f c
  |some p=>
   have e:q≠p:=λe=>h s aA (by rw[i,e]);simp only;split
   ·exact f c
   ·exact(f _).trans (adf b c d p q (AX s.name p i).2.1 g e)
def XU(b:aQ):∀(a:List dU)(c:aQ),(uZ b c a).kind=c.kind
 |[],c=>rfl
 |s::a,c=>by
  unfold uZ;cases placeOf s.name with
  |none=>exact XU b a c
  |some p=>
   simp only;split
   ·exact XU b a c
   ·rw[XU b a,aAc]
def ab6{b:aQ}{k:Int}{q:Pl}(h:jq b q=true):dF {gK with kind:=k} b q:=by
 cases q with
 |num j=>
  simp only[jq,decide_eq_true_iff]at h;show qV {gK with kind:=k} j=qV b j
  rw[h];unfold qV gK;split<;>rfl
 |allow=>simp only[jq,yx]at h;show false=b.allowed;rw[h]
 |rem=>simp only[jq,decide_eq_true_iff]at h;show(0:Int)=b.remaining;rw[h]
 |name=>simp only[jq,decide_eq_true_iff]at h;show([]:Q0)=b.name;rw[h]
 |region=>simp only[jq,decide_eq_true_iff]at h;show([]:Q0)=b.region;rw[h]
 |note=>simp only[jq,decide_eq_true_iff]at h;show([]:Q0)=b.note;rw[h]
 |d=>simp only[jq,decide_eq_true_iff]at h;show([]:List dS)=b.d;rw[h]
 |t=>simp only[jq,decide_eq_true_iff]at h;show([]:List Row)=b.t;rw[h]
def aF3{b:aQ}{k:Int}{q:Pl}(h:dF b {gK with kind:=k} q):jq b q=true:=by
 cases q with
 |num j=>have h:qV b j=qV {gK with kind:=k} j:=h;simp only[jq,decide_eq_true_iff];rw[h];unfold qV gK;split<;>rfl
 |allow=>have h:b.allowed=false:=h;simp[jq,h]
 |rem=>have h:b.remaining=0:=h;simp[jq,h]
 |name=>have h:b.name=[]:=h;simp[jq,h]
 |region=>have h:b.region=[]:=h;simp[jq,h]
 |note=>have h:b.note=[]:=h;simp[jq,h]
 |d=>have h:b.d=[]:=h;simp[jq,h]
 |t=>have h:b.t=[]:=h;simp[jq,h]
def azb(b:aQ)(q:Pl):dF b b q:=by cases q<;>simp[dF]
def aAV{b:aQ}{j:List aK}{u w:Int}(l:fC b j u=0)(h:w<=u):(∀s∈aT b.kind w,∀q,placeOf s.name=some q->dF (uZ b {gK with kind:=b.kind} (aT b.kind w)) b q/\nU b q=0)/\
 (∀n q,placeOf n=some q->rF (aT b.kind w) n=false->jq (uZ b {gK with kind:=b.kind} (aT b.kind w)) q=true):=by
 have g:∀s∈aT b.kind w,qA b s.name=0:=λs d=>by
  have a:=l;unfold fC at a;split at a;· cases a
  split at a;· cases a
  split at a;· cases a
  split at a;· cases a
  split at a
  ·rename_i c;exact absurd a c
  rename_i c
  have c:kP b (aT b.kind u)=0:=by simpa using c
  rw[Xg b.kind h]at d;exact abW b _ c s (C9.1 d).1
 refine⟨λs d q f=>?_,λn q f i=>?_⟩
 ·have c:nU b q=0:=by have:=g s d;unfold qA at this;rw[f]at this;exact this
  exact⟨XT (AX s.name q f).2.1 c _ _ ⟨s,d,f⟩ λi=>ab6 i,c⟩
 ·refine aF3 (k:=b.kind) ((ak9 (AX n q f).2.1 (aT b.kind w) _ λs d e=>?_).2 (azb _ q));have:n=s.name:=akO f e;unfold rF at i;have m:(aT b.kind w).any (λs=>decide (s.name=n))=true:=List.any_eq_true.2 ⟨s,d,by simp[this]⟩;rw[m]at i;cases i
def aAW{b:aQ}{d:List aK}{u:Int}(g:fC b d u=0):uZ b {gK with kind:=b.kind} (aT b.kind u)=b/\qB (aT b.kind u) (wH b d u)=d:=by
 have A:(uZ b {gK with kind:=b.kind} (aT b.kind u)).kind=b.kind:=XU b _ _;obtain⟨j,l⟩:=aAV g (gq u);obtain⟨L,M,D,m,o⟩:=Ht g;obtain⟨E,F⟩:=Sl (Qn g);constructor
 ·refine(parts_all _ b A).1 λn G q r=>?_
  cases i:rF (aT b.kind u) n with
  |true=>unfold rF at i;obtain⟨s,t,e⟩:=List.any_eq_true.1 i;have e:s.name=n:=DX e;exact(j s t q (by rw[e];exact r)).1
  |false=>
   have H:=l n q r i;have v:jq b q=true:=by
    have a:=g;unfold fC at a;rw[bU,bU,aj D]at a;by_cases w:iF.all (λn=>rF (aT b.kind u) n ||oV b n)=false
    ·rw[au w]at a;exact absurd a aV
    rw[Zd]at w;have:=List.all_eq_true.1 w n G;rw[i,Bl]at this;unfold oV at this;rw[r]at this;exact this
   have y:=ab6 (k:=0) H;have z:=ab6 (k:=0) v;generalize uZ b {gK with kind:=b.kind} (aT b.kind u)=B at *;cases q<;>simp only[dF]at y z⊢<;>rw[<-y,<-z]
 ·have c:=E.filter (λf=>!hasTag (aT b.kind u) f.tag);rw[aeN]at c;have I:d.filter (λf=>!hasTag (aT b.kind u) f.tag)=d:=List.filter_eq_self.2 λf x=>by rw[o f x];rfl
  have J:(lQ b (aT b.kind u)).filter (λf=>!hasTag (aT b.kind u) f.tag)=[]:=anr.2 λf x=>by
   obtain⟨s,t,p,-,rfl,-⟩:=RP x;have:hasTag (aT b.kind u) s.tag=true:=by unfold hasTag;exact List.any_eq_true.2 ⟨s,t,aA⟩
   show ¬(!hasTag (aT b.kind u) s.tag)=true
   rw[this];decide
  rw[I,J,aX]at c;exact Yt _ _ c ((F.sublist aeO).imp λh=>ah) (QJ d 0 0 m).2
def agH(l:List dU):∀(fs:List aK)(b:aQ),(qN l b fs).2=0->(qN l b fs).1.kind=b.kind
 |[],b,_=>rfl
 |f::fs,b,h=>by
  unfold qN at h⊢;cases c:l.find? (λs=>decide (s.tag=f.tag))with
  |none=>rw[c]at h;exact absurd h aA
  |some s=>
   rw[c]at h;simp only at h⊢;cases d:placeOf s.name with
   |none=>rw[d]at h;exact absurd h aA
   |some p=>
    rw[d]at h;simp only at h⊢;by_cases a:nC f.typ f.num f.txt p=0
    ·rw[au a]at h⊢;rw[agH l fs _ h,alY]
    ·rw[aj a]at h;exact absurd h a
def VH(s:Q0)(v:Int):tV (je s v).1 (je s v).2.1:=by
 unfold je;obtain⟨a,g2,-⟩:=ahP (s.drop (aF s).2.1);repeat' split
 all_goals first|exact Ja|skip
 have h:=aax (aT (aF s).1 v) (mM (aT (aF s).1 v) (xO (s.drop (aF s).2.1)).1) {gK with kind:=(aF s).1} (Ob _ a) (ael (aF s).1 ah);simp only;split
 ·exact Ja
 ·split
  ·exact Ja
  ·exact⟨h.body,h.d,h.t,Ob _ a,kW (Zk _ _) g2⟩
def ayQ(a b k:Nat)(h:a<2^k):a |||b*2^k=a+b*2^k:=by rw[Nat.or_comm,<-Nat.shiftLeft_eq,<-Nat.shiftLeft_add_eq_or_of_lt h,MV]
def OQ{a b k m:Nat}(c:m=2^k)(h:a<m)(g:a+b*m<4294967296):dw .or .u32 (a:Int) ((b*m:Nat):Int)=some (.i .u32 ((a+b*m:Nat):Int)):=by
 have d:∀y:Int,IntKind.u32.wrap y=y%4294967296:=λy=>by simp[IntKind.wrap,IntKind.signed,IntKind.bits]
 have e:(BitVec.ofInt 32 (a:Int)).toNat=a:=by rw[wo];omega
 have f:(BitVec.ofInt 32 ((b*m:Nat):Int)).toNat=b*m:=by rw[wo];omega
 show some (GV.i IntKind.u32 (IntKind.u32.wrap ((BitVec.ofInt 32 (a:Int) |||BitVec.ofInt 32 ((b*m:Nat):Int)).toNat:Int)))=_
 rw[aer,e,f,c,ayQ a b k (by rw[<-c];exact h),<-c,d];congr 2;omega
def Py{a:IntKind}{b k m B:Nat}(c:∀y:Int,a.wrap y=y%(B:Int))(d:m=2^k)(f:k<=a.bits)(h:b*m<B):kT .shl a (b:Int) (k:Int)=some (.i a ((b*m:Nat):Int)):=by
 unfold kT;rw[bU,zB,MX f];simp only;have e:(b:Int)*2^k=((b*m:Nat):Int):=by rw[d];push_cast;rfl
 rw[e,c,Int.emod_eq_of_lt (Int.natCast_nonneg _) (Int.ofNat_lt.2 h)]
def apz(p:Q0)(O:p.length<=65536):TT.lim 185 [.s p,.s (le4 (jo p))]=some [.b true]:=by
 have G:=aau p ah;have v:=agB p;unfold le4;generalize jo p=n at *;have h:∀y:Int,IntKind.u32.wrap y=y%((4294967296:Nat):Int):=λy=>by simp[IntKind.wrap,IntKind.signed,IntKind.bits]
 obtain⟨f,i⟩:∃c,n%256=c:=⟨_,rfl⟩
 obtain⟨d,j⟩:∃c,n/256%256=c:=⟨_,rfl⟩
 obtain⟨e,l⟩:∃c,n/65536%256=c:=⟨_,rfl⟩
 obtain⟨g,o⟩:∃c,n/16777216%256=c:=⟨_,rfl⟩
 rw[i,j,l,o];have H:(UInt8.ofNat f).toNat=f:=Gp ah;have I:(UInt8.ofNat d).toNat=d:=Gp ah;have J:(UInt8.ofNat e).toNat=e:=Gp ah;have L:(UInt8.ofNat g).toNat=g:=Gp ah;have w:kT .shl .u32 (d:Int) 8=some (.i .u32 ((d*256:Nat):Int)):=Py (k:=8) h rfl aV ah;have x:kT .shl .u32 (e:Int) 16=some (.i .u32 ((e*65536:Nat):Int)):=Py (k:=16) h rfl aV ah;have z:kT .shl .u32 (g:Int) 24=some (.i .u32 ((g*16777216:Nat):Int)):=Py (k:=24) h rfl aV ah;have o1:=OQ (a:=f) (b:=d) (k:=8) (m:=256) rfl ah ah;have t:=OQ (a:=f+d*256) (b:=e) (k:=16) (m:=65536) rfl ah ah;have u:=OQ (a:=f+d*256+e*65536) (b:=g) (k:=24) (m:=16777216) rfl ah ah;have A:f+d*256+e*65536+g*16777216=n:=ah;rw[A]at u;have w0:IntKind.u32.wrap (f:Int)=f:=by rw[h];omega
 have w1:IntKind.u32.wrap (d:Int)=d:=by rw[h];omega
 have M:IntKind.u32.wrap (e:Int)=e:=by rw[h];omega
 have N:IntKind.u32.wrap (g:Int)=g:=by rw[h];omega
 clear i j l o A v;obtain⟨P,D⟩:∃q:Int,((g*16777216:Nat):Int)=q:=⟨_,rfl⟩
 obtain⟨Q,E⟩:∃q:Int,((f+d*256+e*65536:Nat):Int)=q:=⟨_,rfl⟩
 obtain⟨R,r⟩:∃q:Int,((e*65536:Nat):Int)=q:=⟨_,rfl⟩
 obtain⟨S,F⟩:∃q:Int,((f+d*256:Nat):Int)=q:=⟨_,rfl⟩
 obtain⟨T,s⟩:∃q:Int,((d*256:Nat):Int)=q:=⟨_,rfl⟩
 rw[D]at z u;rw[E]at t u;rw[r]at x t;rw[F]at o1 t;rw[s]at w o1;clear D E r F s;refine aW ?_;simp -implicitDefEqProofs[G,H,I,J,L,w0,w1,M,N,w,x,z,o1,t,u]
def ahL(n:Nat)(f:n<=65536):TT.lim 186 [.zq n]=some [.zq ((2+fZ n+n+4:Nat):Int)]:=by have k:=Pz n ah;have g:=PX 3 n ah ah;have a:¬((n:Int)<0):=ah;have b:¬(65536<(n:Int)):=ah;have w:=jV ((n:Int));have w1:=bH (2+(fZ n:Int));have c:=bH (2+(fZ n:Int)+n);have d:=bH (2+(fZ n:Int)+n+4);have e:((2+fZ n+n+4:Nat):Int)=2+(fZ n:Int)+n+4:=ah;rw[e];refine aW ?_;simp -implicitDefEqProofs[a,b,k,w,w1,c,d]
def aaS(p:Q0):(eX p).length=2+fZ p.length+p.length+4:=by unfold eX fZ;simp -implicitDefEqProofs[le4];omega
def axw(s:Q0):TT.lim 181 [.s ([81,70]++s)]=some [.zq 0]/\TT.lim 181 [.s []]=some [.zq 1]/\TT.lim 181 [.s [81]]=some [.zq 1]:=by
 have w1:=bH ((1:Int));have d:=bH ((2:Int));have e:¬(0:Int)=(s.length:Int)+1+1:=ah;have f:¬(1:Int)=(s.length:Int)+1+1:=ah;have a:TT.lim 182 [.s ([81,70]++s),.zq 2]=some [.zq 1]:=by refine aB ?_;simp
 have b:TT.lim 182 [.s ([81,70]++s),.zq 1]=some [.zq 1]:=by refine aB ?_;simp at a;simp -implicitDefEqProofs[f,d,a]
 have c:TT.lim 182 [.s ([81,70]++s),.zq 0]=some [.zq 1]:=by refine aB ?_;simp at b;simp -implicitDefEqProofs[e,w1,b]
 have g:TT.lim 182 [.s [],.zq 0]=some [.zq 0,.zq 1]:=by refine aB ?_;simp
 have h:TT.lim 182 [.s [81],.zq 1]=some [.zq 0,.zq 1]:=by refine aB ?_;simp
 have i:TT.lim 182 [.s [81],.zq 0]=some [.zq 0,.zq 1]:=by refine aB ?_;simp -implicitDefEqProofs[w1,h]
 refine⟨?_,?_,?_⟩
 ·refine aW ?_;simp at c;simp -implicitDefEqProofs[c]
 ·refine aW ?_;simp -implicitDefEqProofs[g]
 ·refine aW ?_;simp -implicitDefEqProofs[i]
def ay9{p:Q0}(h:p.length<=65536):TT.lim 180 [.s (eX p)]=some [.s p,.zq ((eX p).length:Nat),.zq 0]:=by
 have b:=apz p h;have c:=ahL p.length h;have d:=(axw (aS p.length++(p++le4 (jo p)))).1;have j:=PX 3 p.length ah ah;have e:(p++le4 (jo p)).length=p.length+4:=by simp[le4]
 have i:(aS p.length++(p++le4 (jo p))).length=fZ p.length+(p.length+4):=by rw[eH,e];rfl
 have f:=wR (aS p.length++(p++le4 (jo p))) ah;rw[Gt _ _ ah]at f;have k:eX p=81::70::(aS p.length++(p++le4 (jo p))):=by unfold eX;simp
 have l:List.take p.length (p++le4 (jo p))=p:=Ux;have m:List.drop p.length (List.take ((p.length:Int)+4).toNat (p++le4 (jo p)))=le4 (jo p):=by have:((p.length:Int)+4).toNat=p.length+4:=ah;rw[this,mg ah,uH]
 rw[aaS,k];have n:List.drop (2+(fZ p.length:Int)).toNat (List.take (((aS p.length++(p++le4 (jo p))).length:Int)+1+1).toNat (81::70::(aS p.length++(p++le4 (jo p)))))=p++le4 (jo p):=by have g:(((aS p.length++(p++le4 (jo p))).length:Int)+1+1).toNat=(aS p.length++(p++le4 (jo p))).length+2:=ah;have o:(2+(fZ p.length:Int)).toNat=fZ p.length+2:=ah;rw[g,o,mg aA];exact uH
 have q:List.drop 2 (List.take (((aS p.length++(p++le4 (jo p))).length:Int)+1+1).toNat (81::70::(aS p.length++(p++le4 (jo p)))))=aS p.length++(p++le4 (jo p)):=by have g:(((aS p.length++(p++le4 (jo p))).length:Int)+1+1).toNat=(aS p.length++(p++le4 (jo p))).length+2:=ah;rw[g,mg aA];rfl
 change TT.lim 183 [.s (aS p.length++(p++le4 (jo p)))]=some [.zu (p.length:Nat),.zq (fZ p.length:Nat),.zq 0]at f
 have d:TT.lim 181 [.s (81::70::(aS p.length++(p++le4 (jo p))))]=some [.zq 0]:=d;generalize p++le4 (jo p)=a at *;generalize le4 (jo p)=D,aS p.length++a=T at *;have r:¬(65536:Int)<(p.length:Int):=ah;generalize((2+fZ p.length+p.length+4:Nat):Int)=E at *;generalize fZ p.length=V at *;have w1:=bH (2+(V:Int));have s:=bH ((p.length:Int));have t:=bH ((p.length:Int)+4);have u:(2:Int)<=(T.length:Int)+1+1:=ah;have v:2+(V:Int)<=(T.length:Int)+1+1:=ah;have w:(0:Int)<=2+(V:Int):=ah;have x:¬(a.length:Int)<(p.length:Int)+4:=ah;have y:(p.length:Int)<=(a.length:Int):=ah;have z:(p.length:Int)+4<=(a.length:Int):=ah;have A:(p.length:Int)<=(p.length:Int)+4:=ah;refine aW ?_;simp -implicitDefEqProofs[d,f,r,w1,s,t,u,v,w,q,n,x,y,z,A,l,m,b,c]
