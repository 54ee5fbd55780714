/- What the trees compute: plain laws. -/
import Derived.Test.YtcnekfnipdihgaaGreatDoorKVe5
set_option linter.all false
namespace Go.Proofs.YtcnekfnipdihgaaGreatDoor
open Go Go.aP
set_option maxRecDepth 100000
namespace V
def jF(rec:Q2->List aK×Int)(w:Nat)(ahead:Nat)(s:Q2):aK×Nat×Int:=
 if(aF s).2.2≠0 then(.mk 0 0 0 [] [],0,(aF s).2.2)
 else if(aF s).1/4=0 then(.mk 0 0 0 [] [],0,18)
 else if 4294967296<(aF s).1/4 then(.mk 0 0 0 [] [],0,18)
 else if 3<=(aF s).1%4 then(.mk 0 0 0 [] [],0,8)
 else if(aF s).1/4<=ahead then(.mk 0 0 0 [] [],0,7)
 else
  let r:=s.drop (aF s).2.1
  let k:=(aF s).2.1+(aF r).2.1
  if(aF r).2.2≠0 then(.mk 0 0 0 [] [],0,(aF r).2.2)
  else if(aF s).1%4=0 then(.mk ((aF s).1/4:Nat) 0 (aF r).1 [] [],k,0)
  else if s.length-k<(aF r).1 then(.mk 0 0 0 [] [],0,1)
  else if(aF s).1%4=1 then(.mk ((aF s).1/4:Nat) 1 0 ((s.drop k).take (aF r).1) [],k+(aF r).1,0)
  else if 8<=w then(.mk 0 0 0 [] [],0,9)
  else if(rec ((s.drop k).take (aF r).1)).2≠0 then(.mk 0 0 0 [] [],0,(rec ((s.drop k).take (aF r).1)).2)
  else(.mk ((aF s).1/4:Nat) 2 0 [] (rec ((s.drop k).take (aF r).1)).1,k+(aF r).1,0)
def fF:Nat->Nat->Nat->List UInt8->List aK×Int
 |0,_,_,_=>([],0)
 |N+1,w,ahead,s=>if s=[]then([],0)else
  if(jF (λt=>fF N (w+1) 0 t) w ahead s).2.2≠0 then([],(jF (λt=>fF N (w+1) 0 t) w ahead s).2.2)
  else if(fF N w ((aF s).1/4) (s.drop (jF (λt=>fF N (w+1) 0 t) w ahead s).2.1)).2≠0 then([],(fF N w ((aF s).1/4) (s.drop (jF (λt=>fF N (w+1) 0 t) w ahead s).2.1)).2)
  else((jF (λt=>fF N (w+1) 0 t) w ahead s).1::(fF N w ((aF s).1/4) (s.drop (jF (λt=>fF N (w+1) 0 t) w ahead s).2.1)).1,0)
def anL(n:Nat)(d:n<18446744073709551616):dh .and .u64 (n:Int) 3=some (.zu ((n:Int)%4)):=by
 have a:∀y:Int,IntKind.u64.wrap y=y%18446744073709551616:=λy=>by simp[IntKind.wrap,IntKind.signed,IntKind.bits]
 have e:n &&& 3=n%4:=aeR n 2;have b:(BitVec.ofInt 64 (n:Int)).toNat=n:=by rw[vS];omega
 have c:(BitVec.ofInt 64 3).toNat=3:=aU;show some (GV.i IntKind.u64 (IntKind.u64.wrap ((BitVec.ofInt 64 (n:Int) &&& BitVec.ofInt 64 3).toNat:Int)))=_
 rw[Y0,b,c,e,a];congr 2;omega
def aDt(n:Nat):kM .shr .u64 (n:Int) 2=some (.zu ((n:Int)/4)):=by
 show some (GV.i IntKind.u64 ((n:Int).fdiv (2^2)))=_
 rw[F5 _ aU];rfl
def aAC(t y w:GV)(s:Q2)(a:Nat)(h:a<=s.length)(b:s.length<=100000000)(n x:GV):
 TT.lim 176 [t,y,w,.s s,.zq a,n,x]=some [.zq 0,.zq (aF (s.drop a)).2.2,.zu ((aF (s.drop a)).1:Nat),.s s,.zq ((a+(aF (s.drop a)).2.1:Nat):Int)]:=by
 have k:=DZ s a h ah;refine aB ?_;simp[k]
def aAE(t y w:GV)(s:Q2)(b:Nat)(h:b<=s.length)(E:s.length<=100000000)(n:GV):
 ∃a,TT.lim 177 [t,y,w,.s s,.zq b,n,.s []]=some
  (if(aF (s.drop b)).2.2≠0 then[.zq 0,.zq (aF (s.drop b)).2.2,.s [],.s s,.zq (a:Nat)]
  else if s.length-(b+(aF (s.drop b)).2.1)<(aF (s.drop b)).1 then[.zq 0,.zq 1,.s [],.s s,.zq (a:Nat)]
  else[.zq 0,.zq 0,.s ((s.drop (b+(aF (s.drop b)).2.1)).take (aF (s.drop b)).1),.s s,.zq ((b+(aF (s.drop b)).2.1+(aF (s.drop b)).1:Nat):Int)]):=by
 have k:=DZ s b h ah;by_cases d:(aF (s.drop b)).2.2=0;rotate_left
 ·refine⟨b+(aF (s.drop b)).2.1,?_⟩;rw[au d];generalize(aF (s.drop b)).2.2=e at *;refine aB ?_;simp[k,d]
 have i:=lN d;have q:=i.len;have r:=i.lt;rw[fP]at q;rw[d]at k;refine⟨b+(aF (s.drop b)).2.1,?_⟩;rw[aj (λx=>x d)];clear d;generalize(aF (s.drop b)).1=m,(aF (s.drop b)).2.1=j at *;have w1:=bI ((s.length:Int)-((b+j:Nat):Int));have l:=jL ((s.length:Int)-((b+j:Nat):Int));by_cases c:s.length-(b+j)<m
 ·have f:(s.length:Int)-((b+j:Nat):Int)<(m:Int):=ah;rw[au c];generalize((b+j:Nat):Int)=A at *;refine aB ?_;simp[k,w1,l,f]
 ·have f:¬((s.length:Int)-((b+j:Nat):Int)<(m:Int)):=ah;rw[aj c];have u:=bI ((m:Int));have o:=bI (((b+j:Nat):Int)+(m:Int));have p:((b+j:Nat):Int)+(m:Int)=((b+j+m:Nat):Int):=ah;rw[p]at o;have v:(0:Int)<=((b+j:Nat):Int)/\((b+j:Nat):Int)<=((b+j+m:Nat):Int)/\((b+j+m:Nat):Int)<=s.length:=ah;have g:(s.take (b+j+m)).drop (b+j)=(s.drop (b+j)).take m:=by rw[LW,(ah:b+j+m-(b+j)=m)]
  have z:(((b+j:Nat):Int)).toNat=b+j:=ah;have D:(((b+j+m:Nat):Int)).toNat=b+j+m:=ah;generalize F:((b+j:Nat):Int)=A at *;generalize G:((b+j+m:Nat):Int)=B at *;refine aB ?_;simp[k,w1,l,f,u,p,o,v,z,D,g]
def PW(N:Nat):Prop:=∀(w ahead c:Nat)(s:Q2),c<=s.length->s.length<=100000000->(s.drop c).length<N->w<=8->ahead<18446744073709551616->∃a b,TT.lim 172 [.s s,.zq (w:Nat),.zu (ahead:Nat),.zq (c:Nat)]=some [.zq 0,.l (aI (fF N w ahead (s.drop c)).1),.zq (fF N w ahead (s.drop c)).2,.zu (a:Nat),.s s,.zq (b:Nat)]
def aAz{N:Nat}(G:PW N)(t y:GV)(w:Nat)(Q:w<=8)(s:Q2)(d:Nat)(h:d<=s.length)(S:s.length<=100000000)(q:(s.drop d).length<=N)(n x:GV):
 ∃a,TT.lim 178 [t,y,.zq (w:Nat),.s s,.zq d,n,x]=some
  (if(aF (s.drop d)).2.2≠0 then[.zq 0,.zq (aF (s.drop d)).2.2,.l [],.s s,.zq (a:Nat)]
  else if s.length-(d+(aF (s.drop d)).2.1)<(aF (s.drop d)).1 then[.zq 0,.zq 1,.l [],.s s,.zq (a:Nat)]
  else if 8<=w then[.zq 0,.zq 9,.l [],.s s,.zq (a:Nat)]
  else[.zq 0,.zq (fF N (w+1) 0 ((s.drop (d+(aF (s.drop d)).2.1)).take (aF (s.drop d)).1)).2,.l (aI (fF N (w+1) 0 ((s.drop (d+(aF (s.drop d)).2.1)).take (aF (s.drop d)).1)).1),.s s,.zq ((d+(aF (s.drop d)).2.1+(aF (s.drop d)).1:Nat):Int)]):=by
 have k:=DZ s d h ah;by_cases f:(aF (s.drop d)).2.2=0;rotate_left
 ·refine⟨d+(aF (s.drop d)).2.1,?_⟩;rw[au f];generalize(aF (s.drop d)).2.2=e at *;refine aB ?_;simp[k,f]
 have r:=lN f;have H:=r.len;have I:=r.lt;have U:=r.pos;rw[fP]at H q;rw[f]at k;by_cases c:s.length-(d+(aF (s.drop d)).2.1)<(aF (s.drop d)).1
 ·refine⟨d+(aF (s.drop d)).2.1,?_⟩;rw[aj (λx=>x f),au c];clear f;generalize(aF (s.drop d)).1=m,(aF (s.drop d)).2.1=j at *;have w1:=bI ((s.length:Int)-((d+j:Nat):Int));have i:=jL ((s.length:Int)-((d+j:Nat):Int));have l:(s.length:Int)-((d+j:Nat):Int)<(m:Int):=ah;generalize((d+j:Nat):Int)=A at *;refine aB ?_;simp[k,w1,i,l]
 by_cases E:8<=w
 ·refine⟨d+(aF (s.drop d)).2.1+(aF (s.drop d)).1,?_⟩;rw[aj (λx=>x f),aj c,au E];clear f;generalize(aF (s.drop d)).1=m,(aF (s.drop d)).2.1=j at *;have w1:=bI ((s.length:Int)-((d+j:Nat):Int));have i:=jL ((s.length:Int)-((d+j:Nat):Int));have l:¬((s.length:Int)-((d+j:Nat):Int)<(m:Int)):=ah;have u:=bI ((m:Int));have o:=bI (((d+j:Nat):Int)+(m:Int));have p:((d+j:Nat):Int)+(m:Int)=((d+j+m:Nat):Int):=ah;rw[p]at o;have v:(0:Int)<=((d+j:Nat):Int)/\((d+j:Nat):Int)<=((d+j+m:Nat):Int)/\((d+j+m:Nat):Int)<=s.length:=ah;have z:(8:Int)<=(w:Int):=ah;generalize J:((d+j:Nat):Int)=A at *;generalize L:((d+j+m:Nat):Int)=B at *;refine aB ?_;simp[k,w1,i,l,u,p,o,v,z]
 ·refine⟨0,?_⟩;rw[aj (λx=>x f),aj c,aj E];clear f;generalize(aF (s.drop d)).1=m,(aF (s.drop d)).2.1=j at *;have g:=G (w+1) 0 0 ((s.drop (d+j)).take m) ah (by rw[lZ,fP];omega) (by rw[dY,lZ,fP];omega) ah ah;obtain⟨a,b,g⟩:=g;rw[dY]at g;have w1:=bI ((s.length:Int)-((d+j:Nat):Int));have i:=jL ((s.length:Int)-((d+j:Nat):Int));have l:¬((s.length:Int)-((d+j:Nat):Int)<(m:Int)):=ah;have u:=bI ((m:Int));have o:=bI (((d+j:Nat):Int)+(m:Int));have p:((d+j:Nat):Int)+(m:Int)=((d+j+m:Nat):Int):=ah;rw[p]at o;have v:(0:Int)<=((d+j:Nat):Int)/\((d+j:Nat):Int)<=((d+j+m:Nat):Int)/\((d+j+m:Nat):Int)<=s.length:=ah;have D:(s.take (d+j+m)).drop (d+j)=(s.drop (d+j)).take m:=by rw[LW,(ah:d+j+m-(d+j)=m)]
  have M:(((d+j:Nat):Int)).toNat=d+j:=ah;have O:(((d+j+m:Nat):Int)).toNat=d+j+m:=ah;have z:¬(8:Int)<=(w:Int):=ah;have P:=bI ((w:Int)+1);have F:(w:Int)+1=((w+1:Nat):Int):=ah;simp only[rY]at g;rw[<-F]at g;generalize(s.drop (d+j)).take m=T at *;generalize fF N (w+1) 0 T=R at *;generalize J:((d+j:Nat):Int)=A at *;generalize L:((d+j+m:Nat):Int)=B at *;generalize X:(w:Int)=W at *;clear F;refine aB ?_;simp[k,w1,i,l,u,p,o,v,M,O,D,z,P,g]
def aAB{N:Nat}(hN:PW N)(w ahead:Nat)(hw:w<=8)(ha:ahead<18446744073709551616)(s:Q2)(d:Nat)(h:d<=s.length)(U:s.length<=100000000)(W:(s.drop d).length<=N+1):
 ∃a b:Nat,TT.lim 174 [.zq (w:Nat),.zu (ahead:Nat),.s s,.zq d]=some (.zq 0::((qJ (jF (λt=>fF N (w+1) 0 t) w ahead (s.drop d)).1).cells++[.zq (jF (λt=>fF N (w+1) 0 t) w ahead (s.drop d)).2.2,.zu (a:Nat),.s s,.zq (b:Nat)]))/\
  ((jF (λt=>fF N (w+1) 0 t) w ahead (s.drop d)).2.2=0->a=(aF (s.drop d)).1/4/\b=d+(jF (λt=>fF N (w+1) 0 t) w ahead (s.drop d)).2.1/\1<=(jF (λt=>fF N (w+1) 0 t) w ahead (s.drop d)).2.1/\b<=s.length):=by
 have k:=DZ s d h ah;have fn:aI []=[]:=by simp only[aI]
 have v:(qJ (.mk 0 0 0 [] [])).cells=[.zu 0,.zq 0,.zu 0,.s [],.l []]:=by rw[NI,fn]
 unfold jF;by_cases F:(aF (s.drop d)).2.2=0;rotate_left
 ·refine⟨ahead,d+(aF (s.drop d)).2.1,?_,?_⟩
  ·simp only[au F];rw[v];generalize(aF (s.drop d)).2.2=e at *;refine aB ?_;simp[k,F]
  ·simp only[au F];exact λx=>absurd x F
 have P:=lN F;have hl:=P.len;have X:=P.lt;have hp:=P.pos;rw[fP]at hl W;have J:(s.drop d).drop (aF (s.drop d)).2.1=s.drop (d+(aF (s.drop d)).2.1):=by rw[rZ]
 rw[J];have L:(s.drop d).length=s.length-d:=fP;rw[L];rw[F]at k;simp only[aj (λx=>x F:¬(aF (s.drop d)).2.2≠0)];have M:∀Y:Nat,(s.drop d).drop ((aF (s.drop d)).2.1+Y)=s.drop (d+(aF (s.drop d)).2.1+Y):=λY=>by rw[rZ,jV]
 rw[M];clear F P J L M;generalize(aF (s.drop d)).1=n,(aF (s.drop d)).2.1=j at *;have S:=aDt n;have A:=anL n X;have o:=bI ((n:Int)%4);by_cases Z:n/4=0
 ·refine⟨ahead,d+j,?_,?_⟩
  ·simp only[au Z];rw[v];have f:(n:Int)/4=0:=ah;generalize(n:Int)/4=q at *;refine aB ?_;simp[k,S,A,o,f]
  ·simp only[au Z];exact λx=>absurd x aU
 have f:¬(n:Int)/4=0:=ah;simp only[aj Z];by_cases c2:4294967296<n/4
 ·refine⟨ahead,d+j,?_,?_⟩
  ·simp only[au c2];rw[v];have g:4294967296<(n:Int)/4:=ah;generalize(n:Int)/4=q at *;refine aB ?_;simp[k,S,A,o,f,g]
  ·simp only[au c2];exact λx=>absurd x aU
 have g:¬4294967296<(n:Int)/4:=ah;simp only[aj c2];by_cases c3:3<=n%4
 ·refine⟨ahead,d+j,?_,?_⟩
  ·simp only[au c3];rw[v];have G:3<=(n:Int)%4:=ah;generalize(n:Int)/4=q,(n:Int)%4=y at *;refine aB ?_;simp[k,S,A,o,f,g,G]
  ·simp only[au c3];exact λx=>absurd x aU
 have G:¬3<=(n:Int)%4:=ah;simp only[aj c3];by_cases c4:n/4<=ahead
 ·refine⟨ahead,d+j,?_,?_⟩
  ·simp only[au c4];rw[v];have z:(n:Int)/4<=(ahead:Int):=ah;generalize(n:Int)/4=q,(n:Int)%4=y,(ahead:Int)=D at *;refine aB ?_;simp[k,S,A,o,f,g,G,z]
  ·simp only[au c4];exact λx=>absurd x aU
 have z:¬(n:Int)/4<=(ahead:Int):=ah;simp only[aj c4];have E:((n/4:Nat):Int)=(n:Int)/4:=ah;have hj:d+j<=s.length:=ah;rcases(ah:n%4=0\/n%4=1\/n%4=2)with H|y1|y2
 ·have O:(n:Int)%4=0:=ah;have l:=aAC (.zu ((n:Int)/4)) (.zq 0) (.zq (w:Nat)) s (d+j) hj U (.zu 0) (.s []);rw[O]at A o;by_cases i:(aF (s.drop (d+j))).2.2=0
  ·have p:=lN i;have r:=p.len;rw[fP]at r;refine⟨n/4,d+j+(aF (s.drop (d+j))).2.1,?_,?_⟩
   ·simp only[aj (λx=>x i:¬(aF (s.drop (d+j))).2.2≠0),au H];rw[NI,fn,E];rw[i]at l;clear p r i;generalize(aF (s.drop (d+j))).1=m,((d+j+(aF (s.drop (d+j))).2.1:Nat):Int)=B,((d+j:Nat):Int)=AT,(n:Int)/4=q,(ahead:Int)=D at *;refine aB ?_;simp[k,S,A,o,f,g,z,l]
   ·simp only[aj (λx=>x i:¬(aF (s.drop (d+j))).2.2≠0),au H];refine λ_=>⟨?_,?_,?_,?_⟩<;>first|trivial|rfl|omega
  ·refine⟨n/4,d+j+(aF (s.drop (d+j))).2.1,?_,?_⟩
   ·simp only[au i];rw[v,E];generalize(aF (s.drop (d+j))).1=m,((d+j+(aF (s.drop (d+j))).2.1:Nat):Int)=B,(aF (s.drop (d+j))).2.2=e,((d+j:Nat):Int)=AT,(n:Int)/4=q,(ahead:Int)=D at *;refine aB ?_;simp[k,S,A,o,f,g,z,l,i]
   ·simp only[au i];exact λx=>absurd x i
 ·have O:(n:Int)%4=1:=ah;have H:¬n%4=0:=ah;obtain⟨a,l⟩:=aAE (.zu ((n:Int)/4)) (.zq 1) (.zq (w:Nat)) s (d+j) hj U (.zu 0);rw[O]at A o;have u:s.length-d-(j+(aF (s.drop (d+j))).2.1)=s.length-(d+j+(aF (s.drop (d+j))).2.1):=ah;by_cases i:(aF (s.drop (d+j))).2.2=0
  ·have p:=lN i;have r:=p.len;rw[fP]at r;rw[aj (λx=>x i)]at l;simp only[aj (λx=>x i:¬(aF (s.drop (d+j))).2.2≠0),aj H];rw[u];by_cases c:s.length-(d+j+(aF (s.drop (d+j))).2.1)<(aF (s.drop (d+j))).1
   ·rw[au c]at l;simp only[au c];refine⟨n/4,a,?_,λx=>absurd x aU⟩;rw[v,E];generalize((d+j:Nat):Int)=AT,(n:Int)/4=q,(ahead:Int)=D at *;refine aB ?_;simp[k,S,A,o,f,g,z,l]
   ·rw[aj c]at l;simp only[aj c,au y1];refine⟨n/4,d+j+(aF (s.drop (d+j))).2.1+(aF (s.drop (d+j))).1,?_,λ_=>⟨rfl,ah,ah,ah⟩⟩;rw[NI,fn,E];generalize(s.drop (d+j+(aF (s.drop (d+j))).2.1)).take (aF (s.drop (d+j))).1=T,((d+j+(aF (s.drop (d+j))).2.1+(aF (s.drop (d+j))).1:Nat):Int)=B,((d+j:Nat):Int)=AT,(n:Int)/4=q,(ahead:Int)=D at *;refine aB ?_;simp[k,S,A,o,f,g,z,l]
  ·rw[au i]at l;simp only[au i];refine⟨n/4,a,?_,λx=>absurd x i⟩;rw[v,E];generalize(aF (s.drop (d+j))).2.2=e,((d+j:Nat):Int)=AT,(n:Int)/4=q,(ahead:Int)=D at *;refine aB ?_;simp[k,S,A,o,f,g,z,l,i]
 ·have O:(n:Int)%4=2:=ah;have H:¬n%4=0:=ah;have y1:¬n%4=1:=ah;obtain⟨a,l⟩:=aAz hN (.zu ((n:Int)/4)) (.zq 2) w hw s (d+j) hj U (by rw[fP];omega) (.zu 0) (.s []);rw[O]at A o;have u:s.length-d-(j+(aF (s.drop (d+j))).2.1)=s.length-(d+j+(aF (s.drop (d+j))).2.1):=ah;by_cases i:(aF (s.drop (d+j))).2.2=0
  ·have p:=lN i;have r:=p.len;rw[fP]at r;rw[aj (λx=>x i)]at l;simp only[aj (λx=>x i:¬(aF (s.drop (d+j))).2.2≠0),aj H];rw[u];by_cases c:s.length-(d+j+(aF (s.drop (d+j))).2.1)<(aF (s.drop (d+j))).1
   ·rw[au c]at l;simp only[au c];refine⟨n/4,a,?_,λx=>absurd x aU⟩;rw[v,E];generalize((d+j:Nat):Int)=AT,(n:Int)/4=q,(ahead:Int)=D at *;refine aB ?_;simp[k,S,A,o,f,g,z,l]
   ·rw[aj c]at l;simp only[aj c,aj y1];by_cases Q:8<=w
    ·rw[au Q]at l;simp only[au Q];refine⟨n/4,a,?_,λx=>absurd x aU⟩;rw[v,E];generalize((d+j:Nat):Int)=AT,(n:Int)/4=q,(ahead:Int)=D at *;refine aB ?_;simp[k,S,A,o,f,g,z,l]
    ·rw[aj Q]at l;simp only[aj Q];generalize(s.drop (d+j+(aF (s.drop (d+j))).2.1)).take (aF (s.drop (d+j))).1=T at *;by_cases I:(fF N (w+1) 0 T).2=0
     ·simp only[aj (λx=>x I:¬(fF N (w+1) 0 T).2≠0)];refine⟨n/4,d+j+(aF (s.drop (d+j))).2.1+(aF (s.drop (d+j))).1,?_,λ_=>⟨rfl,ah,ah,ah⟩⟩;rw[NI,E];rw[I]at l;clear I c i p r u;generalize fF N (w+1) 0 T=R,((d+j+(aF (s.drop (d+j))).2.1+(aF (s.drop (d+j))).1:Nat):Int)=B,((d+j:Nat):Int)=AT,(n:Int)/4=q,(ahead:Int)=D at *;refine aB ?_;simp[k,S,A,o,f,g,z,l]
     ·simp only[au I];refine⟨n/4,d+j+(aF (s.drop (d+j))).2.1+(aF (s.drop (d+j))).1,?_,λx=>absurd x I⟩;rw[v,E];clear c i p r u;generalize fF N (w+1) 0 T=R,((d+j+(aF (s.drop (d+j))).2.1+(aF (s.drop (d+j))).1:Nat):Int)=B,((d+j:Nat):Int)=AT,(n:Int)/4=q,(ahead:Int)=D at *;refine aB ?_;simp[k,S,A,o,f,g,z,l,I]
  ·rw[au i]at l;simp only[au i];refine⟨n/4,a,?_,λx=>absurd x i⟩;rw[v,E];generalize(aF (s.drop (d+j))).2.2=e,((d+j:Nat):Int)=AT,(n:Int)/4=q,(ahead:Int)=D at *;refine aB ?_;simp[k,S,A,o,f,g,z,l,i]
def Uo(N:Nat):Prop:=∀(w:Nat)(d:List aK)(ahead c:Nat)(s:Q2),w<=8->d.length+(s.drop c).length<=200000000->c<=s.length->s.length<=100000000->(s.drop c).length<N->ahead<18446744073709551616->
    ∃a b:Nat,TT.lim 173 [.l (aI d),.zq (w:Nat),.zu (ahead:Nat),.s s,.zq (c:Nat)]=some (if(fF N w ahead (s.drop c)).2=0 then[.zq 1,.l (aI (d++(fF N w ahead (s.drop c)).1)),.zu (a:Nat),.s s,.zq (b:Nat)]else[.zq 0,.zq (fF N w ahead (s.drop c)).2,.zu (a:Nat),.s s,.zq (b:Nat)])
def aAx:∀(N w ahead:Nat)(s:Q2),(fF N w ahead s).2≠0->(fF N w ahead s).1=[]
 |0,_,_,_,_=>rfl
 |N+1,w,ahead,s,h=>by
  unfold fF at h⊢;by_cases h1:s=[]
  ·rw[au h1]
  rw[aj h1]at h⊢;by_cases a:(jF (λt=>fF N (w+1) 0 t) w ahead s).2.2≠0
  ·rw[au a]
  rw[aj a]at h⊢;by_cases b:(fF N w ((aF s).1/4) (s.drop (jF (λt=>fF N (w+1) 0 t) w ahead s).2.1)).2≠0
  ·rw[au b]
  ·rw[aj b]at h;exact absurd rfl h
def aAA{N:Nat}(Y:PW N)(Z:Uo N):Uo (N+1):=by
 intro w g ahead d s Q L h S hl ha;have p:(s.drop d).length=s.length-d:=fP;have J:=bI ((s.length:Int)-(d:Int));unfold fF;by_cases u:s.drop d=[]
 ·have aa:s.length-d=0:=by rw[<-p,u];rfl
  have v:¬d<s.length:=ah;refine⟨ahead,d,?_⟩;rw[au u];simp only[if_true,lQ];refine aB ?_;simp[J,v]
 have M:0<s.length-d:=by rw[<-p];exact LY.2 u
 have v:d<s.length:=ah;simp only[aj u];obtain⟨a,b,l,z⟩:=aAB Y w ahead Q ha s d h S ah;have la:=qh g;by_cases j:(jF (λt=>fF N (w+1) 0 t) w ahead (s.drop d)).2.2=0;rotate_left
 ·refine⟨a,b,?_⟩;rw[au j];generalize jF (λt=>fF N (w+1) 0 t) w ahead (s.drop d)=o at *;obtain⟨f,B,e⟩:=o;obtain⟨t,y,n,i,k⟩:=f;simp only at *;rw[aj j];rw[NI]at l;simp only[bg,aW]at l;refine aB ?_;simp[J,v,l,j]
 obtain⟨T,U,hu,W⟩:=z j;have D:(aF (s.drop d)).2.2=0:=by
  by_cases c:(aF (s.drop d)).2.2=0
  ·exact c
  ·exfalso;unfold jF at j;rw[au c]at j;exact c j
 have O:=(lN D).lt;simp only[aj (λx=>x j:¬(jF (λt=>fF N (w+1) 0 t) w ahead (s.drop d)).2.2≠0)];rw[j]at l;have F:(s.drop d).drop (jF (λt=>fF N (w+1) 0 t) w ahead (s.drop d)).2.1=s.drop b:=by rw[rZ,<-U]
 rw[F];rw[<-T];clear F j z;have P:(s.drop b).length=s.length-b:=fP;obtain⟨a2,b2,q⟩:=Z w (g++[(jF (λt=>fF N (w+1) 0 t) w ahead (s.drop d)).1]) a b s Q (by rw[dM,F8];omega) W S ah ah;refine⟨a2,b2,?_⟩;generalize jF (λt=>fF N (w+1) 0 t) w ahead (s.drop d)=o at *;obtain⟨f,B,e⟩:=o;obtain⟨t,y,n,i,k⟩:=f;simp only at *;rw[NI]at l;simp only[bg,aW]at l;have G:aI (g++[.mk t y n i k])=aI g++[sZ t y n i k]:=by rw[VY];simp only[aI,qJ];rfl
 have H:(sZ t y n i k).gu 5=true:=rfl;have I:GV.g [.zu t,.zq y,.zu n,.s i,.l (aI k)]=sZ t y n i k:=rfl;have X:2*((aI g).length+1)*64<=281474976710656/\(aI g).length+1<=281474976710656:=ah;rw[G]at q;clear G T U O D hu W p P L M u la;by_cases r:(fF N w a (s.drop b)).2=0
 ·rw[au r]at q;simp only[aj (λx=>x r:¬(fF N w a (s.drop b)).2≠0)];simp only[if_true];have m:g++[aK.mk t y n i k]++(fF N w a (s.drop b)).1=g++(aK.mk t y n i k::(fF N w a (s.drop b)).1):=aA;rw[m]at q;clear m r;generalize aI (g++(aK.mk t y n i k::(fF N w a (s.drop b)).1))=R,sZ t y n i k=E,aI g=A at *;refine aB ?_;simp[J,v,l,I,H,X,q]
 ·rw[aj r]at q;simp only[au r];rw[aj r];generalize fF N w a (s.drop b)=RR,sZ t y n i k=E,aI g=A at *;refine aB ?_;simp[J,v,l,I,H,X,q]
def aAD{N:Nat}(g:Uo N):PW N:=by
 intro w ahead c s h i j k l;have m:(s.drop c).length=s.length-c:=fP;obtain⟨a,b,d⟩:=g w [] ahead c s k (by simp only[kF];omega) h i j l;have fn:aI []=[]:=by simp only[aI]
 refine⟨a,b,?_⟩;rw[fn,aW]at d;have e:=aAx N w ahead (s.drop c);generalize fF N w ahead (s.drop c)=R at *;by_cases f:R.2=0
 ·rw[au f]at d;rw[f];refine aB ?_;simp[d]
 ·rw[aj f]at d;rw[e f,fn];refine aB ?_;simp[d]
def ak5:∀N:Nat,PW N/\Uo N
 |0=>⟨λw ahead b s _ _ a _ _=>absurd a ah,λw d ahead b s _ _ _ _ a _=>absurd a ah⟩
 |N+1=>by have c:=ak5 N;have a:=aAA c.1 c.2;exact⟨aAD a,a⟩
def xE(s:Q2):List aK×Int:=if 65536<s.length then([],4)else fF (s.length+1) 0 0 s
def aFC(s:Q2)(f:s.length<=140737488351232):TT.lim 171 [.s s]=some [.l (aI (xE s).1),.zq (xE s).2]:=by
 unfold xE;have fn:aI []=[]:=by simp only[aI]
 by_cases c:65536<s.length
 ·have d:(65536:Int)<s.length:=ah;rw[au c,fn];refine aV ?_;simp[d]
 ·have d:¬(65536:Int)<s.length:=ah;obtain⟨a,b,e⟩:=(ak5 (s.length+1)).1 0 0 0 s ah ah (by rw[dY];omega) ah ah;rw[dY]at e;rw[aj c];simp only[rY]at e;generalize fF (s.length+1) 0 0 s=R at *;refine aV ?_;simp[d,e]
def vM(l:List eF):Q3:=l.map λs=>GV.zu s.tag
def aiZ(l:List eF)(k:l.length<=1000):∀(m i:Nat)(a:Q3),i+m=l.length->a.length+m<=2000->TT.lim 181 [.l a,.l (l.map gB),.zq l.length,.zq i]=some [.zq 0,.l (a++vM (l.drop i))]
 |0,i,a,hi,n=>by
  have h:¬((i:Int)<l.length):=ah;have e:l.drop i=[]:=iE;rw[e];show _=some [GV.zq 0,.l (a++[])]
  rw[lQ];refine aB ?_;simp[h]
 |m+1,i,a,hi,n=>by
  have c:i<l.length:=ah;have h:((i:Int)<l.length):=ah;have d:(l.map gB)[i]? =some (gB l[i]):=by rw[iO,bV c];rfl
  have b:((i+1:Nat):Int)=(i:Int)+1:=ah;have o:=bI ((i:Int)+1);have f:l.drop i=l[i]::l.drop (i+1):=iG c;have g:=aiZ l k m (i+1) (a++[.zu l[i].tag]) ah (by rw[dM,F8];omega);rw[f];have j:a++vM (l[i]::l.drop (i+1))=a++[GV.zu l[i].tag]++vM (l.drop (i+1)):=by rw[show vM (l[i]::l.drop (i+1))=GV.zu l[i].tag::vM (l.drop (i+1))from rfl,List.append_assoc];rfl
  rw[j];rw[b]at g;have p:2*(a.length+1)*8<=281474976710656/\a.length+1<=281474976710656:=ah;clear j f;generalize a++[GV.zu l[i].tag]++vM (l.drop (i+1))=R at *;generalize l[i]=s,l.map gB=q at *;refine aB ?_;simp[h,d,p,GV.gu,o,g]
def awF(k v:Int)(h1:1<=v)(d:v<=3)(e:qj k<=v):TT.lim 180 [.zq k,.zq v]=some [.l (vM (aZ k v))]:=by
 have a:=W9 k v h1 d e;have f:=Ht k v;have b:=aiZ (aZ k v) ah (aZ k v).length 0 [] ah (by simp;omega);rw[dY,aW]at b;simp only[rY]at b;have c:(((aZ k v).map gB).length:Int)=((aZ k v).length:Int):=by rw[gG]
 generalize vM (aZ k v)=g,(aZ k v).map gB=h,((aZ k v).length:Int)=L at *;refine aV ?_;simp[a,c,b]
def EU(xs:Q3)(l:List eF):Q3:=l.foldl (λm s=>kK (.zu s.tag) (.s s.name) m) xs
def agC(l:List eF)(k:l.length<=1000)(d f g:GV):∀(m i:Nat)(xs:Q3),i+m=l.length->TT.lim 179 [d,f,g,.l (l.map gB),.zq l.length,.zq i,.l xs]=some [.zq 0,.l (EU xs (l.drop i))]
 |0,i,xs,hi=>by
  have h:¬((i:Int)<l.length):=ah;have e:l.drop i=[]:=iE;rw[e];show _=some [GV.zq 0,.l xs]
  refine aB ?_;simp[h]
 |m+1,i,xs,hi=>by
  have b:i<l.length:=ah;have h:((i:Int)<l.length):=ah;have c:(l.map gB)[i]? =some (gB l[i]):=by rw[iO,bV b];rfl
  have a:((i+1:Nat):Int)=(i:Int)+1:=ah;have n:=bI ((i:Int)+1);have o:l.drop i=l[i]::l.drop (i+1):=iG b;have j:=agC l k d f g m (i+1) (kK (.zu l[i].tag) (.s l[i].name) xs) ah;rw[o];show _=some [GV.zq 0,.l (EU (kK (.zu l[i].tag) (.s l[i].name) xs) (l.drop (i+1)))]
  rw[a]at j;generalize EU (kK (.zu l[i].tag) (.s l[i].name) xs) (l.drop (i+1))=R at *;generalize l[i]=s,l.map gB=p at *;refine aB ?_;simp[h,c,n,j]
def ajV(t:Int):∀(l:List eF)(xs:Q3),l.Pairwise (λa b=>a.tag<b.tag)->gy (.zu t) (EU xs l)=(match l.find? (λs=>decide (s.tag=t))with
 |some s=>some (.s s.name)
 |none=>gy (.zu t) xs)
 |[],xs,_=>rfl
 |s::l,xs,c=>by
  rw[jm]at c;have f:=ajV t l (kK (.zu s.tag) (.s s.name) xs) c.2;show gy (.zu t) (EU (kK (.zu s.tag) (.s s.name) xs) l)=_
  rw[f,List.find?_cons];by_cases h:s.tag=t
  ·have d:l.find? (λs=>decide (s.tag=t))=none:=by rw[List.find?_eq_none];intro x g;have:=c.1 x g;simp;omega
   rw[d];simp only[h,decide_true];rw[sO,au rfl]
  ·simp only[h,decide_false];cases i:l.find? (λs=>decide (s.tag=t))with
   |some x=>rfl
   |none=>simp only;rw[sO,aj (λe=>h e.symm)]
def Em(xs:Q3)(l:List eF):Q3:=l.foldl (λm s=>kK (.zu s.tag) (.b true) m) xs
def al0(l:List eF)(g:l.length<=1000)(d:GV):∀(m i:Nat)(xs:Q3),i+m=l.length->TT.lim 183 [d,.l (vM l),.zq l.length,.zq i,.l xs]=some [.zq 0,.l (Em xs (l.drop i))]
 |0,i,xs,hi=>by
  have h:¬((i:Int)<l.length):=ah;have e:l.drop i=[]:=iE;rw[e];show _=some [GV.zq 0,.l xs]
  refine aB ?_;simp[h]
 |m+1,i,xs,hi=>by
  have b:i<l.length:=ah;have h:((i:Int)<l.length):=ah;have c:(vM l)[i]? =some (.zu l[i].tag):=by unfold vM;rw[iO,bV b];rfl
  have a:((i+1:Nat):Int)=(i:Int)+1:=ah;have j:=bI ((i:Int)+1);have k:l.drop i=l[i]::l.drop (i+1):=iG b;have f:=al0 l g d m (i+1) (kK (.zu l[i].tag) (.b true) xs) ah;rw[k];show _=some [GV.zq 0,.l (Em (kK (.zu l[i].tag) (.b true) xs) (l.drop (i+1)))]
  rw[a]at f;generalize Em (kK (.zu l[i].tag) (.b true) xs) (l.drop (i+1))=R at *;generalize l[i]=s,vM l=n at *;refine aB ?_;simp[h,c,j,f]
def afC(t:Int):∀(l:List eF)(xs:Q3),gy (.zu t) (Em xs l)=if hasTag l t=true then some (.b true)else gy (.zu t) xs
 |[],xs=>rfl
 |s::l,xs=>by
  have a:=afC t l (kK (.zu s.tag) (.b true) xs);show gy (.zu t) (Em (kK (.zu s.tag) (.b true) xs) l)=_
  rw[a,sO];unfold hasTag;rw[aeA];by_cases h:t=s.tag
  ·simp[h]
  ·simp[h]
def lX(l:List eF)(fs:List aK):List aK:=fs.filter λf=>hasTag l f.tag
def pJ(l:List eF)(fs:List aK):List aK:=fs.filter λf=>!hasTag l f.tag
def al1(l:List eF)(fs:List aK)(u:fs.length<=1000000):∀(m i:Nat)(a b:List aK),i+m=fs.length->a.length+b.length+m<=3000000->TT.lim 184 [.l (aI fs),.l (aI a),.l (aI b),.zq fs.length,.zq i,.l (Em [] l)]=some [.zq 0,.l (aI (a++lX l (fs.drop i))),.l (aI (b++pJ l (fs.drop i)))]
 |0,i,a,b,hi,v=>by have h:¬((i:Int)<fs.length):=ah;have e:fs.drop i=[]:=iE;rw[e];have f:lX l []=[]:=rfl;have g:pJ l []=[]:=rfl;rw[f,g,lQ,lQ];refine aB ?_;simp[h]
 |m+1,i,a,b,hi,v=>by
  have h:((i:Int)<fs.length):=ah;obtain⟨t,y,n,s,k,M,D,H,N⟩:=G7 (l:=fs) (i:=i) ah;have j:((i+1:Nat):Int)=(i:Int)+1:=ah;have E:=bI ((i:Int)+1);have r:=afC t l [];have c:∀z:List aK,aI (z++[.mk t y n s k])=aI z++[sZ t y n s k]:=λz=>by rw[VY];simp only[aI,qJ];rfl
  have p:(sZ t y n s k).gu 5=true:=rfl;have q:GV.g [.zu t,.zq y,.zu n,.s s,.l (aI k)]=sZ t y n s k:=rfl;have F:=qh a;have G:=qh b;have d:=λa b v=>al1 l fs u m (i+1) a b ah v;simp only[j]at d;rw[H];have w:gy (.zu t) []=none:=rfl;cases o:hasTag l t with
  |true=>
   have f:lX l (.mk t y n s k::fs.drop (i+1))=.mk t y n s k::lX l (fs.drop (i+1)):=by unfold lX;rw[anb (by exact o)]
   have g:pJ l (.mk t y n s k::fs.drop (i+1))=pJ l (fs.drop (i+1)):=by unfold pJ;rw[ana (by show ¬(!hasTag l t)=true;rw[o];decide)]
   rw[f,g];have d:=d (a++[.mk t y n s k]) b (by rw[dM,F8];omega);rw[c,List.append_assoc,PK]at d;rw[o,au rfl]at r;have x:2*((aI a).length+1)*64<=281474976710656/\(aI a).length+1<=281474976710656:=ah;generalize aI (a++.mk t y n s k::lX l (fs.drop (i+1)))=I,aI (b++pJ l (fs.drop (i+1)))=J at *;clear c F G f g;generalize Em [] l=L,aI a=A,aI b=B at *;refine aB ?_;simp[h,D,r,q,p,x,E,d]
  |false=>
   have f:lX l (.mk t y n s k::fs.drop (i+1))=lX l (fs.drop (i+1)):=by unfold lX;rw[ana (by show ¬hasTag l t=true;rw[o];decide)]
   have g:pJ l (.mk t y n s k::fs.drop (i+1))=.mk t y n s k::pJ l (fs.drop (i+1)):=by unfold pJ;rw[anb (by show(!hasTag l t)=true;rw[o];rfl)]
   rw[f,g];have d:=d a (b++[.mk t y n s k]) (by rw[dM,F8];omega);rw[c,List.append_assoc,PK]at d;rw[o,aj aU,w]at r;have x:2*((aI b).length+1)*64<=281474976710656/\(aI b).length+1<=281474976710656:=ah;generalize aI (a++lX l (fs.drop (i+1)))=I,aI (b++.mk t y n s k::pJ l (fs.drop (i+1)))=J at *;clear c F G f g;generalize Em [] l=L,aI a=A,aI b=B at *;refine aB ?_;simp[h,D,r,q,p,x,E,d]
def aAy{rec:Q2->List aK×Int}{w ahead:Nat}{s:Q2}(u:s.length<=100000000)(p:∀t:Q2,t.length+2<=s.length->fB (rec t).1/\(rec t).1.length<=1000000/\dO (rec t).1<=t.length/\wL (rec t).1<=42*t.length)(h:(jF rec w ahead s).2.2=0):
 uG (jF rec w ahead s).1/\wR (jF rec w ahead s).1+1<=(jF rec w ahead s).2.1/\(jF rec w ahead s).2.1<=s.length/\(jF rec w ahead s).1.tag=((aF s).1/4:Nat)/\wF (jF rec w ahead s).1<=42*(jF rec w ahead s).2.1:=by
 unfold jF at h⊢;by_cases a:(aF s).2.2=0;rotate_left
 ·simp only[au a]at h;exact absurd h a
 have d:=lN a;simp only[aj (λx=>x a:¬(aF s).2.2≠0)]at h⊢;by_cases g:(aF s).1/4=0
 ·simp only[au g]at h;exact absurd h aU
 simp only[aj g]at h⊢;by_cases i:4294967296<(aF s).1/4
 ·simp only[au i]at h;exact absurd h aU
 simp only[aj i]at h⊢;by_cases j:3<=(aF s).1%4
 ·simp only[au j]at h;exact absurd h aU
 simp only[aj j]at h⊢;by_cases k:(aF s).1/4<=ahead
 ·simp only[au k]at h;exact absurd h aU
 simp only[aj k]at h⊢;by_cases b:(aF (s.drop (aF s).2.1)).2.2=0;rotate_left
 ·simp only[au b]at h;exact absurd h b
 have e:=lN b;have v:=d.len;have y:=d.pos;have q:=e.len;have z:=e.pos;have A:=d.lt;have B:=e.lt;rw[fP]at q;simp only[aj (λx=>x b:¬(aF (s.drop (aF s).2.1)).2.2≠0)]at h⊢;by_cases l:(aF s).1%4=0
 ·simp only[au l]at h⊢;simp only[uG,fB,wR,dO,wF,wL,kF];refine⟨⟨⟨ah,ah,ah,ah,ah,ah,aA,aA⟩,trivial⟩,ah,ah,rfl,ah⟩
 simp only[aj l]at h⊢;by_cases c:s.length-((aF s).2.1+(aF (s.drop (aF s).2.1)).2.1)<(aF (s.drop (aF s).2.1)).1
 ·simp only[au c]at h;exact absurd h aU
 simp only[aj c]at h⊢;by_cases m:(aF s).1%4=1
 ·simp only[au m]at h⊢;simp only[uG,fB,wR,dO,wF,wL];refine⟨⟨⟨ah,ah,ah,ah,ah,ah,by rw[lZ,fP];omega,aA⟩,trivial⟩,ah,ah,rfl,by rw[lZ,fP];omega⟩
 simp only[aj m]at h⊢;by_cases n:8<=w
 ·simp only[au n]at h;exact absurd h aU
 simp only[aj n]at h⊢;have o:((s.drop ((aF s).2.1+(aF (s.drop (aF s).2.1)).2.1)).take (aF (s.drop (aF s).2.1)).1).length=(aF (s.drop (aF s).2.1)).1:=by rw[lZ,fP];omega
 obtain⟨r1,r2,r3,r⟩:=p ((s.drop ((aF s).2.1+(aF (s.drop (aF s).2.1)).2.1)).take (aF (s.drop (aF s).2.1)).1) (by rw[o];omega);rw[o]at r3 r;generalize(s.drop ((aF s).2.1+(aF (s.drop (aF s).2.1)).2.1)).take (aF (s.drop (aF s).2.1)).1=T at *;by_cases f:(rec T).2=0;rotate_left
 ·simp only[au f]at h;exact absurd h f
 simp only[aj (λx=>x f:¬(rec T).2≠0)]at h⊢;simp only[uG,wR,wF,kF];refine⟨⟨⟨ah,ah,ah,ah,ah,ah,aA,r2⟩,r1⟩,ah,ah,rfl,ah⟩
def ade:∀(N w ahead:Nat)(s:Q2),s.length<=1000000->fB (fF N w ahead s).1/\(fF N w ahead s).1.length<=1000000/\dO (fF N w ahead s).1<=s.length/\wL (fF N w ahead s).1<=42*s.length
 |0,w,ahead,s,_=>by simp only[fF,fB,dO,wL];simp
 |N+1,w,ahead,s,h=>by
  unfold fF;by_cases h1:s=[]
  ·rw[au h1];simp only[fB,dO,wL];simp
  rw[aj h1];by_cases a:(jF (λt=>fF N (w+1) 0 t) w ahead s).2.2=0;rotate_left
  ·rw[au a];simp only[fB,dO,wL];simp
  rw[aj (λx=>x a)];obtain⟨o1,i,j,k,m⟩:=aAy (rec:=λt=>fF N (w+1) 0 t) (w:=w) (ahead:=ahead) (s:=s) ah (λt n=>ade N (w+1) 0 t ah) a;have c:(s.drop (jF (λt=>fF N (w+1) 0 t) w ahead s).2.1).length=s.length-(jF (λt=>fF N (w+1) 0 t) w ahead s).2.1:=fP;obtain⟨d,o,e,g⟩:=ade N w ((aF s).1/4) (s.drop (jF (λt=>fF N (w+1) 0 t) w ahead s).2.1) ah;rw[c]at e g;split
  ·simp only[fB,dO,wL];simp
  ·simp only[fB,dO,wL];have:∀l:List aK,l.length<=dO l:=λl=>by
    induction l with
    |nil=>simp[dO]
    |cons f l p=>simp only[ig,dO];omega
   have q:=this (fF N w ((aF s).1/4) (s.drop (jF (λt=>fF N (w+1) 0 t) w ahead s).2.1)).1;refine⟨⟨o1,d⟩,?_,?_,?_⟩
   ·simp only[ig];omega
   ·omega
   ·omega
def ahM(s:Q2):fB (xE s).1/\(xE s).1.length<=1000000/\dO (xE s).1<=65536/\wL (xE s).1<=3000000:=by
 unfold xE;by_cases c:65536<s.length
 ·rw[au c];simp only[fB,dO,wL];simp
 ·rw[aj c];obtain⟨a,b,d,e⟩:=ade (s.length+1) 0 0 s ah;exact⟨a,b,ah,ah⟩
def aK.typ:aK->Int
 |.mk _ y _ _ _=>y
def aK.num:aK->Int
 |.mk _ _ n _ _=>n
def aK.txt:aK->List UInt8
 |.mk _ _ _ s _=>s
def qg(l:List eF):aQ->List aK->aQ×Int
 |b,[]=>(b,0)
 |b,f::r=>match l.find? (λs=>decide (s.tag=f.tag))with
  |some s=>(match placeOf s.name with
   |some p=>if mJ f.typ f.num f.txt p=0 then qg l (setB b f.num f.txt p) r else(gJ,mJ f.typ f.num f.txt p)
   |none=>(gJ,26))
  |none=>(gJ,26)
def agD(l:List eF)(L:l.Pairwise (λa b=>a.tag<b.tag))(w:∀s∈l,placeOf s.name≠none)(fs:List aK)(z:fB fs)(A:fs.length<=1000000)(D:∀f∈fs,hasTag l f.tag=true)(M N:GV):∀(m i:Nat)(b:aQ),i+m=fs.length->sF b []->
 TT.lim 185 ([M,N,.l (aI fs),.zq fs.length,.zq i]++(jc b []).cells++[.l (EU [] l)])=some (if(qg l b (fs.drop i)).2=0 then .zq 1::(jc (qg l b (fs.drop i)).1 []).cells else[.zq 0,.zq (qg l b (fs.drop i)).2])
 |0,i,b,hi,v=>by have h:¬((i:Int)<fs.length):=ah;have e:fs.drop i=[]:=iE;rw[e];unfold qg;rw[au rfl];rw[fD];simp only[bg,aW];refine aB ?_;simp[h]
 |m+1,i,b,hi,v=>by
  have h:((i:Int)<fs.length):=ah;obtain⟨t,y,n,s,k,g1,O,U,P⟩:=G7 (l:=fs) (i:=i) ah;have q:((i+1:Nat):Int)=(i:Int)+1:=ah;have W:=bI ((i:Int)+1);have o:=G8 z _ P;simp only[uG]at o;have E:=D _ P;have F:=ajV t l [] L;have fn:aI []=[]:=by simp only[aI]
  obtain⟨d,g⟩:∃d,l.find? (λs=>decide (s.tag=t))=some d:=by
   unfold hasTag at E;obtain⟨d,X,Y⟩:=List.any_eq_true.1 E;cases J:l.find? (λs=>decide (s.tag=t))with
   |some x=>exact⟨x,rfl⟩
   |none=>have:=(List.find?_eq_none.1 J) d X;have Z:t=d.tag:=Du Y;simp[Z]at this
  have j:=List.mem_of_find?_eq_some g;rw[g]at F;simp only at F;obtain⟨p,H⟩:∃p,placeOf d.name=some p:=by
   cases J:placeOf d.name with
   |some p=>exact⟨p,rfl⟩
   |none=>exact absurd J (w d j)
  have c:=axX (aI k) b [] (EC v.d) v.t (by simp[dO]) t y n s ⟨o.1.2.2.2.2.1,o.1.2.2.2.2.2.1⟩ o.1.2.2.2.2.2.2.1 d.name;rw[fn]at c;unfold aeb at c;rw[H]at c;simp only at c;unfold aec at c;rw[U];unfold qg;have e1:aK.tag (.mk t y n s k)=t:=rfl;have e2:aK.typ (.mk t y n s k)=y:=rfl;have e3:aK.num (.mk t y n s k)=n:=rfl;have e4:aK.txt (.mk t y n s k)=s:=rfl;rw[e1,g,e2,e3,e4];simp only[H];have r:GV.g [.zu t,.zq y,.zu n,.s s,.l (aI k)]=sZ t y n s k:=rfl;rw[r]at c;by_cases u:mJ y n s p=0
  ·rw[au u]at c;simp only[au u];obtain⟨Q,S,T⟩:=alI v.body v.d v.t ⟨o.1.2.2.2.2.1,o.1.2.2.2.2.2.1⟩ o.1.2.2.2.2.2.2.1 u;have I:=agD l L w fs z A D M N m (i+1) (setB b n s p) ah ⟨Q,S,T,by simp only[fB],aA⟩;rw[q]at I;generalize qg l (setB b n s p) (fs.drop (i+1))=R at *;generalize setB b n s p=B at *;clear Q S T u g j H E o;generalize EU [] l=MP,d.name=nm,aI fs=G at *;rw[fD]at I;rw[fD];simp only[bg,aW]at I⊢;refine aB ?_;simp[↓QY,h,O,r,F,lJ,c,W,I]
  ·rw[aj u]at c;simp only[aj u];generalize mJ y n s p=e at *;clear g j H E o;generalize EU [] l=MP,d.name=nm,aI fs=G at *;rw[fD];simp only[bg,aW];refine aB ?_;simp[↓QY,h,O,r,F,lJ,c,u]
def iW(s:Q2)(v:Int):aQ×List aK×Int:=
 if v<1 then(gJ,[],16)else if 3<v then(gJ,[],16)else
 if 65536<s.length then(gJ,[],4)else
 if(aF s).2.2≠0 then(gJ,[],(aF s).2.2)else
 if 8<(aF s).1 then(gJ,[],15)else
 if qj (aF s).1=0 then(gJ,[],15)else if v<qj (aF s).1 then(gJ,[],15)else
 if(xE (s.drop (aF s).2.1)).2≠0 then(gJ,[],(xE (s.drop (aF s).2.1)).2)else
 let l:=aZ (aF s).1 v
 let a:=(xE (s.drop (aF s).2.1)).1
 let r:=qg l {gJ with kind:=(aF s).1} (lX l a)
 if r.2≠0 then(gJ,[],r.2)else
 if gK r.1 (pJ l a) v≠0 then(gJ,[],gK r.1 (pJ l a) v)else(r.1,pJ l a,0)
def adP(p:aK->Bool):∀l:List aK,dO (l.filter p)<=dO l
 |[]=>by simp[dO]
 |f::l=>by
  have a:=adP p l;rw[Ub];split
  ·simp only[dO];omega
  ·simp only[dO];omega
def split_ok(l:List eF)(e:l.length<=1000)(fs:List aK)(a:fs.length<=1000000)(b:dO fs<=1000000):TT.lim 182 [.l (aI fs),.l (vM l)]=some [.l (aI (lX l fs)),.l (aI (pJ l fs))]:=by
 have d:=al0 l e (.l (aI fs)) l.length 0 [] ah;have c:=al1 l fs a fs.length 0 [] [] ah (by simp;omega);have fn:aI []=[]:=by simp only[aI]
 rw[dY]at d c;rw[aW,aW,fn]at c;simp only[rY]at d c;have f:=VP (lX l fs) (kR (adP _ fs) b);have g:=VP (pJ l fs) (kR (adP _ fs) b);have lt:(vM l).length=l.length:=by unfold vM;rw[gG]
 have h:=qh fs;generalize aI (lX l fs)=W,aI (pJ l fs)=O,aI fs=G,Em [] l=i,vM l=j at *;refine aV ?_;simp[lt,h,d,c,f,g]
def aas(l:List eF):∀(fs:List aK)(b:aQ),fB fs->sF b []->sF (qg l b fs).1 []
 |[],b,_,a=>a
 |f::fs,b,c,a=>by
  simp only[fB]at c;unfold qg;cases l.find? (λs=>decide (s.tag=f.tag))with
  |none=>exact Iy
  |some s=>
   simp only;cases placeOf s.name with
   |none=>exact Iy
   |some p=>
    simp only;by_cases d:mJ f.typ f.num f.txt p=0
    ·rw[au d];have h1:=c.1;cases f with
     |mk t y n s k=>simp only[uG]at h1;obtain⟨e,g,h⟩:=alI a.body a.d a.t ⟨h1.1.2.2.2.2.1,h1.1.2.2.2.2.2.1⟩ h1.1.2.2.2.2.2.2.1 d;exact aas l fs _ c.2 ⟨e,g,h,by simp only[fB],aA⟩
    ·rw[aj d];exact Iy
def aee(k:Int)(h: -9223372036854775808<=k/\k<=9223372036854775807):sF {gJ with kind:=k} []:=by have z:=Iy;exact⟨{z.body with kind:=h},z.d,z.t,z.f8,z.len⟩
def NJ(p:aK->Bool):∀{l:List aK},fB l->fB (l.filter p)
 |[],_=>by simp only[List.filter_nil,fB]
 |f::l,h=>by
  simp only[fB]at h;have a:=NJ p h.2;rw[Ub];split
  ·simp only[fB];exact⟨h.1,a⟩
  ·exact a
set_option maxHeartbeats 4000000 in
def decode_ok(s:Q2)(v:Int)(hs:s.length<=140737488351232):TT.lim 170 [.s s,.zq v]=some [jc (iW s v).1 (aI (iW s v).2.1),.zq (iW s v).2.2]:=by
 have fn:aI []=[]:=by simp only[aI]
 have i:GV.g [.zq 0,.zu 0,.zu 0,.zu 0,.zu 0,.zu 0,.zu 0,.zu 0,.zu 0,.zu 0,.zu 0,.zu 0,.zu 0,.zu 0,.zu 0,.zu 0,.zq 0,.b false,.s [],.s [],.s [],.l [],.l [],.l []]=jc gJ []:=rfl;unfold iW;by_cases d:v<1
 ·rw[au d];simp only;rw[fn,<-i];refine aV ?_;simp[d]
 rw[aj d];by_cases g:3<v
 ·rw[au g];simp only;rw[fn,<-i];refine aV ?_;simp[d,g]
 rw[aj g];by_cases U:65536<s.length
 ·rw[au U];have a:(65536:Int)<s.length:=ah;simp only;rw[fn,<-i];refine aV ?_;simp[d,g,a]
 rw[aj U];have a:¬(65536:Int)<s.length:=ah;have l:=wC s ah;by_cases w:(aF s).2.2=0;rotate_left
 ·rw[au w];simp only;rw[fn,<-i];generalize(aF s).2.2=e at *;refine aV ?_;simp[d,g,a,l,w]
 rw[aj (λx=>x w)];rw[w]at l;have J:=lN w;have l1:=J.len;have t1:=J.lt;have M:(s.drop (aF s).2.1).length=s.length-(aF s).2.1:=fP;have h:=aFC (s.drop (aF s).2.1) ah;obtain⟨F,G,g3,-⟩:=ahM (s.drop (aF s).2.1);clear J w M;generalize xE (s.drop (aF s).2.1)=b at *;generalize A:s.drop (aF s).2.1=T at *;generalize(aF s).1=n,(aF s).2.1=j at *;have c:(s.take s.length).drop j=T:=by rw[AP];exact A
 have H:(j:Int)<=s.length:=ah;have X:=abw 0;have N:qj 0=0:=rfl;rw[N]at X;by_cases Y:8<n
 ·rw[au Y];have m:¬(n:Int)<=8:=ah;simp only;rw[fn,<-i];refine aV ?_;simp[d,g,a,l,m,X]
 rw[aj Y];have m:(n:Int)<=8:=ah;have y:=bI ((n:Int));have p:=abw (n:Int);by_cases o:qj n=0
 ·rw[au o];rw[o]at p;simp only;rw[fn,<-i];refine aV ?_;simp[d,g,a,l,m,y,p]
 rw[aj o];by_cases q:v<qj n
 ·rw[au q];simp only;rw[fn,<-i];generalize qj n=Z at *;refine aV ?_;simp[d,g,a,l,m,y,p,o,q]
 rw[aj q];by_cases I:b.2=0;rotate_left
 ·rw[au I];simp only;rw[fn,<-i];generalize qj n=Z at *;refine aV ?_;simp[d,g,a,l,m,y,p,o,q,c,A,H,h,I]
 rw[aj (λx=>x I)];rw[I]at h;have P:=W9 n v ah ah ah;have Q:=awF n v ah ah ah;have k8:=Ht n v;have B:=agC (aZ n v) ah (.zq v) (.zq n) (.l (aI b.1)) (aZ n v).length 0 [] ah;rw[dY]at B;simp only[rY]at B;have S:=split_ok (aZ n v) ah b.1 G ah;have k:=agD (aZ n v) (JR n v).1 (aiW n v) (lX (aZ n v) b.1) (NJ _ F) (kR (Za _ _) G) (λf hf=>(BZ.1 hf).2) (.zq v) (.l (aI (pJ (aZ n v) b.1))) (lX (aZ n v) b.1).length 0 {gJ with kind:=n} ah (aee n ah);rw[dY]at k;simp only[rY]at k;have r:=aas (aZ n v) (lX (aZ n v) b.1) {gJ with kind:=n} (NJ _ F) (aee n ah);have kc:=abQ (qg (aZ n v) {gJ with kind:=n} (lX (aZ n v) b.1)).1 (pJ (aZ n v) b.1) v r.body r.t.few (NJ _ F) (kR (Za _ _) G);have t:(((aZ n v).map gB).length:Int)=((aZ n v).length:Int):=by rw[gG]
 have u:=qh (lX (aZ n v) b.1);have D:(jc {gJ with kind:=(n:Int)} []).cells=[.zq (n:Int),.zu 0,.zu 0,.zu 0,.zu 0,.zu 0,.zu 0,.zu 0,.zu 0,.zu 0,.zu 0,.zu 0,.zu 0,.zu 0,.zu 0,.zu 0,.zq 0,.b false,.s [],.s [],.s [],.l [],.l [],.l []]:=rfl;rw[D]at k;simp only[bg,aW]at k;simp only;clear r D F G g3 k8;generalize qg (aZ n v) {gJ with kind:=(n:Int)} (lX (aZ n v) b.1)=R,pJ (aZ n v) b.1=O,aI (lX (aZ n v) b.1)=W,(lX (aZ n v) b.1).length=WL,aI b.1=FG,EU [] (aZ n v)=MP,(aZ n v).map gB=SP,vM (aZ n v)=TG,((aZ n v).length:Int)=L,qj n=Z at *;by_cases z:R.2=0;rotate_left
 ·rw[aj z]at k;rw[au z];simp only;rw[fn,<-i];generalize aI O=OG at *;clear kc;refine aV ?_;simp -implicitDefEqProofs(maxSteps:=10000000) [↓QY,d,g,a,l,m,y,p,o,q,c,A,H,h,P,t,B,Q,S,u,k,z]
 rw[au z]at k;rw[aj (λx=>x z)];rw[fD]at k;by_cases E:gK R.1 O v=0
 ·rw[aj (λx=>x E)];rw[E]at kc;simp only;generalize aI O=OG at *;clear z E;refine aV ?_;simp -implicitDefEqProofs(maxSteps:=10000000) [↓QY,d,g,a,l,m,y,p,o,q,c,A,H,h,P,t,B,Q,S,u,k,lJ,kc]
 ·rw[au E];simp only;rw[fn,<-i];generalize aI O=OG,gK R.1 O v=ck at *;refine aV ?_;simp -implicitDefEqProofs(maxSteps:=10000000) [↓QY,d,g,a,l,m,y,p,o,q,c,A,H,h,P,t,B,Q,S,u,k,lJ,kc,E]
def TL(n:Nat)(x:Q2)(a:n<18446744073709551616):aF (aS n++x)=(n,(aS n).length,0):=FV n x a
def aFu(n:Nat):1<=(aS n).length:=D6 n
def adf:∀(N:Nat)(L:List aK)(w ahead:Nat),fB L->uK L->wL L<=1000000000000->jJ w (ahead:Int) L=0->w<=8->(dJ L).length<N->fF N w ahead (dJ L)=(L,0)
 |0,L,w,ahead,_,_,_,_,_,h=>ah
 |N+1,[],w,ahead,_,_,_,_,_,_=>by unfold fF;rw[au (by simp only[dJ])]
 |N+1,.mk t y n s k::L,w,ahead,d,b,G,a,I,u=>by
  have J:=G;simp only[wL,wF]at G;have M:=NK (dO k+1) k ah (by simp only[fB,uG]at d;exact d.1.2) (by simp only[uK,Io]at b;exact b.1.2.2) ah;obtain⟨S,T,U,W,O,P⟩:=aaL (TB b (.mk t y n s k) aA);simp only[fB,uG]at d;have p:=TB b (.mk t y n s k) aA;simp only[Io]at p;have v:uK L:=by simp only[uK]at b;exact b.2
  unfold jJ at a;by_cases z:(aK.mk t y n s k).tag=0
  ·rw[au z]at a;exact absurd a aU
  rw[aj z]at a;by_cases D:4294967296<(aK.mk t y n s k).tag
  ·rw[au D]at a;exact absurd a aU
  rw[aj D]at a;by_cases q:(aK.mk t y n s k).tag<=(ahead:Int)
  ·rw[au q]at a;exact absurd a aU
  rw[aj q]at a;by_cases f:zY w (.mk t y n s k)=0;rotate_left
  ·rw[au f]at a;exact absurd a f
  rw[aj (λe=>e f)]at a;have q:¬t<=(ahead:Int):=q;have a:jJ w t L=0:=a;clear z D;have r:((t.toNat:Nat):Int)=t:=ah;have X:(4*t+y).toNat=4*t.toNat+y.toNat:=ah;have i:∀x,aF (aS (4*t+y).toNat++x)=((4*t+y).toNat,(aS (4*t+y).toNat).length,0):=λx=>TL _ x ah;have j:(4*t+y).toNat/4=t.toNat:=ah;have E:(4*t+y).toNat%4=y.toNat:=ah;have Q:=adf N L w t.toNat d.2 v ah (by rw[r];exact a) I;simp only[dJ,QX]at u⊢;simp only[dM]at u;have Y:=aFu (4*t+y).toNat;have F:¬(aS (4*t+y).toNat++(if y=0 then aS n.toNat else if y=1 then aS s.length++s else aS (dJ k).length++dJ k)++dJ L=[]):=by intro e;have:=uD List.length e;simp only[dM,kF]at this;omega
  unfold fF;rw[aj F];have one:jF (λt=>fF N (w+1) 0 t) w ahead (aS (4*t+y).toNat++(if y=0 then aS n.toNat else if y=1 then aS s.length++s else aS (dJ k).length++dJ k)++dJ L)=(.mk t y n s k,(aS (4*t+y).toNat).length+(if y=0 then aS n.toNat else if y=1 then aS s.length++s else aS (dJ k).length++dJ k).length,0):=by
   unfold jF;rw[List.append_assoc,i];simp only[ne_eq,not_true_eq_false,if_false,j,E,uf];rw[dL,dL,dL,dL];rcases O with l|l|l
   ·subst l;have e:=p.2.1;obtain⟨m,o⟩:s=[]/\k=[]:=by
     rcases e with e|e|e
     ·exact e.2
     ·exact absurd e.1 aU
     ·exact absurd e.1 aU
    subst m;subst o;simp only[if_true];rw[TL _ _ ah];simp only[not_true_eq_false,if_false,Int.toNat_zero,if_true];rw[r,(ah:((n.toNat:Nat):Int)=n)]
   ·subst l;have e:=p.2.1;obtain⟨m,o⟩:n=0/\k=[]:=by
     rcases e with e|e|e
     ·exact absurd e.1 aU
     ·exact e.2
     ·exact absurd e.1 aU
    subst m;subst o;simp only[show((1:Int)=0)=False from aA,show((1:Int)=1)=True from aA,if_false,if_true];rw[List.append_assoc,TL _ _ ah];simp only[not_true_eq_false,if_false];rw[aj (show ¬Int.toNat 1=0 by decide),aj (by simp only[dM];omega),au (show Int.toNat 1=1 by decide)];rw[<-rZ,uf,uf,Ug];rw[r];simp only[dM,jV]
   ·subst l;have e:=p.2.1;obtain⟨m,o⟩:n=0/\s=[]:=by
     rcases e with e|e|e
     ·exact absurd e.1 aU
     ·exact absurd e.1 aU
     ·exact e.2
    subst m;subst o;have H:¬8<=w/\jJ (w+1) 0 k=0:=by
     unfold zY at f;rw[aj aU,aj aU,au rfl,au ⟨rfl,rfl⟩]at f;by_cases c:8<=w
     ·rw[au c]at f;exact absurd f aU
     ·rw[aj c]at f;exact⟨c,f⟩
    have R:=adf N k (w+1) 0 d.1.2 P ah H.2 ah (by simp only[aj (show ¬(2:Int)=0 by decide),aj (show ¬(2:Int)=1 by decide),dM]at u;omega)
    simp only[show((2:Int)=0)=False from aA,show((2:Int)=1)=False from aA,if_false];rw[List.append_assoc,TL _ _ ah];simp only[not_true_eq_false,if_false];rw[aj (show ¬Int.toNat 2=0 by decide),aj (by simp only[dM];omega),aj (show ¬Int.toNat 2=1 by decide),aj H.1];rw[<-rZ,uf,uf,Ug];rw[R];simp only[not_true_eq_false,if_false];rw[r];simp only[dM,jV]
  rw[one];simp only[ne_eq,not_true_eq_false,if_false];rw[List.append_assoc,i];simp only[j];have g:∀A B C:Q2,(A++(B++C)).drop (A.length+B.length)=C:=λA B C=>by rw[<-rZ,uf,uf]
  rw[g,Q ah];simp
def auY{L:List aK}(h:YW L)(a:(dJ L).length<=65536):xE (dJ L)=(L,0):=by unfold xE;rw[dL];exact adf ((dJ L).length+1) L 0 0 h.ok (Vm (dO L+1) L ah h.ok 0 0 h.chk ah) h.w h.chk ah ah
def asE{k w:Int}(f:1<=k/\k<=8)(h1:1<=w)(l:w<=3)(m:qj k<=w){L:List aK}(h:YW L)(g:(aS k.toNat++dJ L).length<=65536):
 iW (aS k.toNat++dJ L) w=(if(qg (aZ k w) {gJ with kind:=k} (lX (aZ k w) L)).2≠0 then(gJ,[],(qg (aZ k w) {gJ with kind:=k} (lX (aZ k w) L)).2)else
  if gK (qg (aZ k w) {gJ with kind:=k} (lX (aZ k w) L)).1 (pJ (aZ k w) L) w≠0 then(gJ,[],gK (qg (aZ k w) {gJ with kind:=k} (lX (aZ k w) L)).1 (pJ (aZ k w) L) w)else((qg (aZ k w) {gJ with kind:=k} (lX (aZ k w) L)).1,pJ (aZ k w) L,0)):=by
 have c:(dJ L).length<=65536:=by rw[dM]at g;omega
 have i:=TL k.toNat (dJ L) ah;have d:((k.toNat:Nat):Int)=k:=ah;have e:qj k≠0:=by unfold qj;obtain⟨a,b⟩:=f;rcases(ah:k=1\/k=2\/k=3\/k=4\/k=5\/k=6\/k=7\/k=8)with rfl|rfl|rfl|rfl|rfl|rfl|rfl|rfl<;>decide
 have j:=auY h c;unfold iW;rw[dL,dL,dL,i];simp only[ne_eq,not_true_eq_false,if_false,d,uf];rw[dL,aj e,dL,j];simp only[not_true_eq_false,if_false]
def uI(b c:aQ):List eF->aQ
 |[]=>c
 |s::l=>match placeOf s.name with
  |some p=>if(bC b p).1=0/\(bC b p).2=[]then uI b c l else uI b (zF b c p) l
  |none=>uI b c l
def VW(s:eF):∀l:List eF,l.Pairwise (λa b=>a.tag<b.tag)->s∈l->l.find? (λx=>decide (x.tag=s.tag))=some s
 |[],_,h=>by cases h
 |a::l,c,h=>by
  rw[jm]at c;rw[List.find?_cons];rcases bJ.1 h with e|h
  ·subst e;simp
  ·have:=c.1 s h;rw[Et (ah:¬a.tag=s.tag)];simp only;exact VW s l c.2 h
def agF{b:aQ}{j:List aK}{u:Int}(h:y7 b j)(k:gK b j u=0){l:List eF}(m:l.Pairwise (λa b=>a.tag<b.tag)):∀(f:List eF)(c:aQ),(∀s∈f,s∈l)->qg l c (nG b f)=(uI b c f,0)
 |[],c,_=>rfl
 |s::f,c,n=>by
  have i:=λc=>agF h k m f c (λx q=>n x (by simp[q]));rw[Hr];unfold uI Af;cases o:placeOf s.name with
  |none=>simp only[aW];exact i c
  |some p=>
   simp only;by_cases e:(bC b p).1=0/\(bC b p).2=[]
   ·rw[au e,au e];simp only[aW];exact i c
   ·rw[aj e,aj e];simp only[bg,aW];have g:=aoG k o e;obtain⟨r,-,-,t⟩:=aDl h.msg h.short p g e;have d:=VW s l m (n s aA);unfold qg;have v:aK.tag (.mk s.tag (dZ p) (bC b p).1 (bC b p).2 [])=s.tag:=rfl;have w:aK.typ (.mk s.tag (dZ p) (bC b p).1 (bC b p).2 [])=dZ p:=rfl;have y:aK.num (.mk s.tag (dZ p) (bC b p).1 (bC b p).2 [])=(bC b p).1:=rfl;have z:aK.txt (.mk s.tag (dZ p) (bC b p).1 (bC b p).2 [])=(bC b p).2:=rfl;rw[v,d,w,y,z];simp only[o];rw[au r,t];exact i _
def Xa(k:Int){w u:Int}(h:w<=u):aZ k w=(aZ k u).filter (λs=>decide (s.from_<=w)):=by
 unfold aZ;rw[List.filter_filter];congr 1;funext s;by_cases a:s.from_<=w
 ·have:s.from_<=u:=ah;simp[a,this]
 ·simp[a]
def avh{l:List eF}(g:l.Pairwise (λa b=>a.tag<b.tag))(q:eF->Bool){s:eF}(h:s∈l):hasTag (l.filter q) s.tag=q s:=by
 cases i:q s with
 |true=>unfold hasTag;exact List.any_eq_true.2 ⟨s,BZ.2 ⟨h,i⟩,aA⟩
 |false=>
  cases j:hasTag (l.filter q) s.tag with
  |false=>rfl
  |true=>
   unfold hasTag at j;obtain⟨x,k,e⟩:=List.any_eq_true.1 j;have e:s.tag=x.tag:=Du e;obtain⟨f,c⟩:=BZ.1 k;have m:=VW s l g h;have d:=VW x l g f;rw[<-e,m]at d;injection d with d
   rw[<-d,i]at c;cases c
def aiP(b:aQ)(P:Int->Bool)(q:eF->Bool):∀a:List eF,(∀s∈a,P s.tag=q s)->(nG b a).filter (λf=>P f.tag)=nG b (a.filter q)
 |[],_=>rfl
 |s::a,h=>by
  have i:=aiP b P q a (λx j=>h x (by simp[j]));have k:=h s aA;rw[Hr,aeF,i,Ub];cases d:Af b s with
  |none=>
   have e:∀z,nG b (s::z)=nG b z:=λz=>by rw[Hr,d];rfl
   cases g:q s with
   |true=>simp[e]
   |false=>simp
  |some f=>
   obtain⟨p,-,rfl,-⟩:=Rz d;have c:P (aK.mk s.tag (dZ p) (bC b p).1 (bC b p).2 []).tag=q s:=k;cases g:q s with
   |true=>rw[g]at c;simp only[Ub,c,if_true,List.filter_nil];rw[Hr,d]
   |false=>rw[g]at c;simp[Ub,c]
def aAM{b:aQ}{d:List aK}{u w:Int}(g:gK b d u=0)(h:w<=u):∀f∈d,hasTag (aZ b.kind w) f.tag=false:=λf i=>by
 have a:=(Jr g).2.2.2.2 f i;cases c:hasTag (aZ b.kind w) f.tag with
 |false=>rfl
 |true=>rw[Xa b.kind h]at c;unfold hasTag at c a;obtain⟨x,j,e⟩:=List.any_eq_true.1 c;have:(aZ b.kind u).any (λs=>decide (f.tag=s.tag))=true:=List.any_eq_true.2 ⟨x,(BZ.1 j).1,e⟩;rw[this]at a;exact a
def aFF{b:aQ}{a:List aK}{u w:Int}(d:gK b a u=0)(h:w<=u):lX (aZ b.kind w) (CP b a u)=nG b (aZ b.kind w):=by
 obtain⟨g,i⟩:=Xq (UO d);have c:=g.filter (λf=>hasTag (aZ b.kind w) f.tag);rw[aeF]at c;have j:a.filter (λf=>hasTag (aZ b.kind w) f.tag)=[]:=ane.2 λf k=>by rw[aAM d h f k];decide
 have e:=aiP b (hasTag (aZ b.kind w)) (λs=>decide (s.from_<=w)) (aZ b.kind u) (λs l=>by rw[Xa b.kind h];exact avh (JR b.kind u).1 _ l)
 rw[<-Xa b.kind h]at e;rw[j,e,lQ]at c;refine Yj _ _ c ?_ (Xb b _ (JR b.kind w).1);exact(i.sublist aeG).imp λh=>ah
def akZ(b c:aQ)(p:Pl):dw (zF b c p) b p:=by
 cases p with
 |num k=>rcases k with _|_|_|_|_|_|_|_|_|_|_|_|_|_|k<;>rfl
 |_=>rfl
def ac8(b c d:aQ)(p q:Pl)(f:Ia p)(g:Ia q)(a:q≠p):dw (zF b c p) d q↔dw c d q:=by
 cases p with
 |num k=>
  cases q with
  |num j=>
   show qp (zF b c (.num k)) j=qp d j↔qp c j=qp d j
   rw[azX b c j k f g (λe=>a (by rw[e]))]
  |_=>unfold zF;split<;>rename_i h<;>cases h<;>(split<;>exact Iff.rfl)
 |_=>
  cases q with
  |num j=>exact Iff.rfl
  |_=>first|exact Iff.rfl|exact absurd rfl a
def val_zero{b:aQ}(q:Pl)(f:nJ b q=0)(h:(bC b q).1=0/\(bC b q).2=[]):jk b q=true:=by
 have g:∀d:List dU,dN d≠[]:=λd e=>by have:=uD List.length e;unfold dN at this;have a:=D6 d.length;unfold fZ at a;simp only[dM,kF]at this;omega
 cases q with
 |rem=>simp only[bC]at h;simp only[jk,decide_eq_true_iff];have:=h.1;unfold zz at this;split at this<;>omega
 |allow=>
  simp only[bC]at h;simp only[jk];cases i:b.allowed with
  |false=>rfl
  |true=>rw[i]at h;simp at h
 |name=>simp only[bC]at h;simp only[jk,decide_eq_true_iff];exact h.2
 |region=>simp only[bC]at h;simp only[jk,decide_eq_true_iff];exact h.2
 |note=>simp only[bC]at h;simp only[jk,decide_eq_true_iff];exact h.2
 |d=>
  simp only[bC]at h;simp only[jk,decide_eq_true_iff];by_cases c:b.d=[]
  ·exact c
  ·rw[aj c]at h;exact absurd h.2 (g _)
 |t=>
  simp only[bC]at h;simp only[nJ]at f;simp only[jk,decide_eq_true_iff];by_cases c:b.t=[]
  ·exact c
  ·rw[aj c]at h;have j:E8 b.t=(qy b.t,0):=by unfold E8;rw[aj (λx=>x f)]
   rw[j]at h;have:=uD List.length h.2;unfold qy at this;have a:=D6 b.t.length;unfold fZ at a;simp only[dM,kF]at this;omega
 |num k=>simp only[bC]at h;simp only[jk,decide_eq_true_iff];exact h.1
def XP{b:aQ}{q:Pl}(i:Ia q)(a:nJ b q=0):∀(d:List eF)(c:aQ),(∃s∈d,placeOf s.name=some q)->(jk b q=true->dw c b q)->dw (uI b c d) b q
 |[],c,h,_=>by obtain⟨s,o,-⟩:=h;cases o
 |s::d,c,h,l=>by
  have f:∀(d:List eF)(c:aQ),dw c b q->dw (uI b c d) b q:=λd=>by
   induction d with
   |nil=>exact λc h=>h
   |cons s d m=>
    intro c h;unfold uI;cases j:placeOf s.name with
    |none=>exact m c h
    |some p=>
     simp only;split
     ·exact m c h
     ·refine m _ ?_;by_cases e:q=p
      ·rw[e];exact akZ b c p
      ·exact(ac8 b c b p q (Aj s.name p j).2.1 i e).2 h
  unfold uI;cases j:placeOf s.name with
  |none=>
   refine XP i a d c ?_ l;obtain⟨x,g,e⟩:=h;rcases bJ.1 g with rfl|g
   ·rw[j]at e;cases e
   ·exact⟨x,g,e⟩
  |some p=>
   simp only;by_cases e:q=p
   ·subst e;split
    ·rename_i r
     exact f d c (l (val_zero q a r))
    ·exact f d _ (akZ b c q)
   ·have n:∃s∈d,placeOf s.name=some q:=by
     obtain⟨x,g,k⟩:=h;rcases bJ.1 g with rfl|g
     ·rw[j]at k;injection k with k;exact absurd k.symm e
     ·exact⟨x,g,k⟩
    split
    ·exact XP i a d c n l
    ·exact XP i a d _ n λt=>(ac8 b c b p q (Aj s.name p j).2.1 i e).2 (l t)
def akX{b d:aQ}{q:Pl}(g:Ia q):∀(a:List eF)(c:aQ),(∀s∈a,placeOf s.name≠some q)->(dw (uI b c a) d q↔dw c d q)
 |[],c,_=>Iff.rfl
 |s::a,c,h=>by
  have f:=λc=>akX (b:=b) (d:=d) g a c (λx j=>h x (by simp[j]));unfold uI;cases i:placeOf s.name with
  |none=>exact f c
  |some p=>
   have e:q≠p:=λe=>h s aA (by rw[i,e]);simp only;split
   ·exact f c
   ·exact(f _).trans (ac8 b c d p q (Aj s.name p i).2.1 g e)
def XQ(b:aQ):∀(a:List eF)(c:aQ),(uI b c a).kind=c.kind
 |[],c=>rfl
 |s::a,c=>by
  unfold uI;cases placeOf s.name with
  |none=>exact XQ b a c
  |some p=>
   simp only;split
   ·exact XQ b a c
   ·rw[XQ b a,azW]
def abX{b:aQ}{k:Int}{q:Pl}(h:jk b q=true):dw {gJ with kind:=k} b q:=by
 cases q with
 |num j=>
  simp only[jk,decide_eq_true_iff]at h;show qp {gJ with kind:=k} j=qp b j
  rw[h];unfold qp gJ;split<;>rfl
 |allow=>simp only[jk,wU]at h;show false=b.allowed;rw[h]
 |rem=>simp only[jk,decide_eq_true_iff]at h;show(0:Int)=b.remaining;rw[h]
 |name=>simp only[jk,decide_eq_true_iff]at h;show([]:Q2)=b.name;rw[h]
 |region=>simp only[jk,decide_eq_true_iff]at h;show([]:Q2)=b.region;rw[h]
 |note=>simp only[jk,decide_eq_true_iff]at h;show([]:Q2)=b.note;rw[h]
 |d=>simp only[jk,decide_eq_true_iff]at h;show([]:List dU)=b.d;rw[h]
 |t=>simp only[jk,decide_eq_true_iff]at h;show([]:List Row)=b.t;rw[h]
def aFV{b:aQ}{k:Int}{q:Pl}(h:dw b {gJ with kind:=k} q):jk b q=true:=by
 cases q with
 |num j=>have h:qp b j=qp {gJ with kind:=k} j:=h;simp only[jk,decide_eq_true_iff];rw[h];unfold qp gJ;split<;>rfl
 |allow=>have h:b.allowed=false:=h;simp[jk,h]
 |rem=>have h:b.remaining=0:=h;simp[jk,h]
 |name=>have h:b.name=[]:=h;simp[jk,h]
 |region=>have h:b.region=[]:=h;simp[jk,h]
 |note=>have h:b.note=[]:=h;simp[jk,h]
 |d=>have h:b.d=[]:=h;simp[jk,h]
 |t=>have h:b.t=[]:=h;simp[jk,h]
def ayV(b:aQ)(q:Pl):dw b b q:=by cases q<;>simp[dw]
def aAF{b:aQ}{j:List aK}{u w:Int}(l:gK b j u=0)(h:w<=u):(∀s∈aZ b.kind w,∀q,placeOf s.name=some q->dw (uI b {gJ with kind:=b.kind} (aZ b.kind w)) b q/\nJ b q=0)/\
 (∀n q,placeOf n=some q->uZ (aZ b.kind w) n=false->jk (uI b {gJ with kind:=b.kind} (aZ b.kind w)) q=true):=by
 have g:∀s∈aZ b.kind w,yH b s.name=0:=λs d=>by
  have a:=l;unfold gK at a;split at a;· cases a
  split at a;· cases a
  split at a;· cases a
  split at a;· cases a
  split at a
  ·rename_i c;exact absurd a c
  rename_i c
  have c:oN b (aZ b.kind u)=0:=by simpa using c
  rw[Xa b.kind h]at d;exact abP b _ c s (BZ.1 d).1
 refine⟨λs d q f=>?_,λn q f i=>?_⟩
 ·have c:nJ b q=0:=by have:=g s d;unfold yH at this;rw[f]at this;exact this
  exact⟨XP (Aj s.name q f).2.1 c _ _ ⟨s,d,f⟩ λi=>abX i,c⟩
 ·refine aFV (k:=b.kind) ((akX (Aj n q f).2.1 (aZ b.kind w) _ λs d e=>?_).2 (ayV _ q));have:n=s.name:=akI f e;unfold uZ at i;have m:(aZ b.kind w).any (λs=>decide (s.name=n))=true:=List.any_eq_true.2 ⟨s,d,by simp[this]⟩;rw[m]at i;cases i
def aAG{b:aQ}{d:List aK}{u:Int}(g:gK b d u=0):uI b {gJ with kind:=b.kind} (aZ b.kind u)=b/\pJ (aZ b.kind u) (CP b d u)=d:=by
 have A:(uI b {gJ with kind:=b.kind} (aZ b.kind u)).kind=b.kind:=XQ b _ _;obtain⟨j,l⟩:=aAF g (gZ u);obtain⟨L,M,D,m,o⟩:=Jr g;obtain⟨E,F⟩:=Xq (UO g);constructor
 ·refine(parts_all _ b A).1 λn G q r=>?_
  cases i:uZ (aZ b.kind u) n with
  |true=>unfold uZ at i;obtain⟨s,t,e⟩:=List.any_eq_true.1 i;have e:s.name=n:=Du e;exact(j s t q (by rw[e];exact r)).1
  |false=>
   have H:=l n q r i;have v:jk b q=true:=by
    have a:=g;unfold gK at a;rw[dL,dL,aj D]at a;by_cases w:iR.all (λn=>uZ (aZ b.kind u) n ||qR b n)=false
    ·rw[au w]at a;exact absurd a aU
    rw[Y2]at w;have:=List.all_eq_true.1 w n G;rw[i,AA]at this;unfold qR at this;rw[r]at this;exact this
   have y:=abX (k:=0) H;have z:=abX (k:=0) v;generalize uI b {gJ with kind:=b.kind} (aZ b.kind u)=B at *;cases q<;>simp only[dw]at y z⊢<;>rw[<-y,<-z]
 ·have c:=E.filter (λf=>!hasTag (aZ b.kind u) f.tag);rw[aeF]at c;have I:d.filter (λf=>!hasTag (aZ b.kind u) f.tag)=d:=List.filter_eq_self.2 λf x=>by rw[o f x];rfl
  have J:(nG b (aZ b.kind u)).filter (λf=>!hasTag (aZ b.kind u) f.tag)=[]:=ane.2 λf x=>by
   obtain⟨s,t,p,-,rfl,-⟩:=RD x;have:hasTag (aZ b.kind u) s.tag=true:=by unfold hasTag;exact List.any_eq_true.2 ⟨s,t,aA⟩
   show ¬(!hasTag (aZ b.kind u) s.tag)=true
   rw[this];decide
  rw[I,J,aW]at c;exact Yj _ _ c ((F.sublist aeG).imp λh=>ah) (QB d 0 0 m).2
def agE(l:List eF):∀(fs:List aK)(b:aQ),(qg l b fs).2=0->(qg l b fs).1.kind=b.kind
 |[],b,_=>rfl
 |f::fs,b,h=>by
  unfold qg at h⊢;cases c:l.find? (λs=>decide (s.tag=f.tag))with
  |none=>rw[c]at h;exact absurd h aA
  |some s=>
   rw[c]at h;simp only at h⊢;cases d:placeOf s.name with
   |none=>rw[d]at h;exact absurd h aA
   |some p=>
    rw[d]at h;simp only at h⊢;by_cases a:mJ f.typ f.num f.txt p=0
    ·rw[au a]at h⊢;rw[agE l fs _ h,alJ]
    ·rw[aj a]at h;exact absurd h a
def Vw(s:Q2)(v:Int):sF (iW s v).1 (iW s v).2.1:=by
 unfold iW;obtain⟨a,b,-⟩:=ahM (s.drop (aF s).2.1);repeat' split
 all_goals first|exact Iy|skip
 have h:=aas (aZ (aF s).1 v) (lX (aZ (aF s).1 v) (xE (s.drop (aF s).2.1)).1) {gJ with kind:=(aF s).1} (NJ _ a) (aee (aF s).1 ah);simp only;split
 ·exact Iy
 ·split
  ·exact Iy
  ·exact⟨h.body,h.d,h.t,NJ _ a,kR (Za _ _) b⟩
def ayt(a b k:Nat)(h:a<2^k):a |||b*2^k=a+b*2^k:=by rw[Nat.or_comm,<-Nat.shiftLeft_eq,<-Nat.shiftLeft_add_eq_or_of_lt h,L8]
def Oq{a b k m:Nat}(c:m=2^k)(h:a<m)(g:a+b*m<4294967296):dh .or .u32 (a:Int) ((b*m:Nat):Int)=some (.i .u32 ((a+b*m:Nat):Int)):=by
 have d:∀y:Int,IntKind.u32.wrap y=y%4294967296:=λy=>by simp[IntKind.wrap,IntKind.signed,IntKind.bits]
 have e:(BitVec.ofInt 32 (a:Int)).toNat=a:=by rw[vS];omega
 have f:(BitVec.ofInt 32 ((b*m:Nat):Int)).toNat=b*m:=by rw[vS];omega
 show some (GV.i IntKind.u32 (IntKind.u32.wrap ((BitVec.ofInt 32 (a:Int) |||BitVec.ofInt 32 ((b*m:Nat):Int)).toNat:Int)))=_
 rw[aej,e,f,c,ayt a b k (by rw[<-c];exact h),<-c,d];congr 2;omega
def OZ{a:IntKind}{b k m B:Nat}(c:∀y:Int,a.wrap y=y%(B:Int))(d:m=2^k)(f:k<=a.bits)(h:b*m<B):kM .shl a (b:Int) (k:Int)=some (.i a ((b*m:Nat):Int)):=by
 unfold kM;rw[dL,tY,Mc f];simp only;have e:(b:Int)*2^k=((b*m:Nat):Int):=by rw[d];push_cast;rfl
 rw[e,c,Int.emod_eq_of_lt (Int.natCast_nonneg _) (Int.ofNat_lt.2 h)]
def aps(p:Q2)(N:p.length<=65536):TT.lim 167 [.s p,.s (le4 (ji p))]=some [.b true]:=by
 have F:=aap p ah;have v:=agw p;unfold le4;generalize ji p=n at *;have h:∀y:Int,IntKind.u32.wrap y=y%((4294967296:Nat):Int):=λy=>by simp[IntKind.wrap,IntKind.signed,IntKind.bits]
 obtain⟨f,i⟩:∃c,n%256=c:=⟨_,rfl⟩
 obtain⟨d,j⟩:∃c,n/256%256=c:=⟨_,rfl⟩
 obtain⟨e,l⟩:∃c,n/65536%256=c:=⟨_,rfl⟩
 obtain⟨g,o⟩:∃c,n/16777216%256=c:=⟨_,rfl⟩
 rw[i,j,l,o];have G:(UInt8.ofNat f).toNat=f:=FQ ah;have H:(UInt8.ofNat d).toNat=d:=FQ ah;have I:(UInt8.ofNat e).toNat=e:=FQ ah;have J:(UInt8.ofNat g).toNat=g:=FQ ah;have w:kM .shl .u32 (d:Int) 8=some (.i .u32 ((d*256:Nat):Int)):=OZ (k:=8) h rfl aU ah;have x:kM .shl .u32 (e:Int) 16=some (.i .u32 ((e*65536:Nat):Int)):=OZ (k:=16) h rfl aU ah;have z:kM .shl .u32 (g:Int) 24=some (.i .u32 ((g*16777216:Nat):Int)):=OZ (k:=24) h rfl aU ah;have o1:=Oq (a:=f) (b:=d) (k:=8) (m:=256) rfl ah ah;have t:=Oq (a:=f+d*256) (b:=e) (k:=16) (m:=65536) rfl ah ah;have u:=Oq (a:=f+d*256+e*65536) (b:=g) (k:=24) (m:=16777216) rfl ah ah;have A:f+d*256+e*65536+g*16777216=n:=ah;rw[A]at u;have w0:IntKind.u32.wrap (f:Int)=f:=by rw[h];omega
 have w1:IntKind.u32.wrap (d:Int)=d:=by rw[h];omega
 have L:IntKind.u32.wrap (e:Int)=e:=by rw[h];omega
 have M:IntKind.u32.wrap (g:Int)=g:=by rw[h];omega
 clear i j l o A v;obtain⟨O,B⟩:∃q:Int,((g*16777216:Nat):Int)=q:=⟨_,rfl⟩
 obtain⟨P,D⟩:∃q:Int,((f+d*256+e*65536:Nat):Int)=q:=⟨_,rfl⟩
 obtain⟨Q,r⟩:∃q:Int,((e*65536:Nat):Int)=q:=⟨_,rfl⟩
 obtain⟨R,E⟩:∃q:Int,((f+d*256:Nat):Int)=q:=⟨_,rfl⟩
 obtain⟨S,s⟩:∃q:Int,((d*256:Nat):Int)=q:=⟨_,rfl⟩
 rw[B]at z u;rw[D]at t u;rw[r]at x t;rw[E]at o1 t;rw[s]at w o1;clear B D r E s;refine aV ?_;simp -implicitDefEqProofs[F,G,H,I,J,w0,w1,L,M,w,x,z,o1,t,u]
def ahG(n:Nat)(f:n<=65536):TT.lim 168 [.zq n]=some [.zq ((2+fZ n+n+4:Nat):Int)]:=by have k:=O0 n ah;have g:=Pj 3 n ah ah;have a:¬((n:Int)<0):=ah;have b:¬(65536<(n:Int)):=ah;have w:=jL ((n:Int));have w1:=bI (2+(fZ n:Int));have c:=bI (2+(fZ n:Int)+n);have d:=bI (2+(fZ n:Int)+n+4);have e:((2+fZ n+n+4:Nat):Int)=2+(fZ n:Int)+n+4:=ah;rw[e];refine aV ?_;simp -implicitDefEqProofs[a,b,k,w,w1,c,d]
def aaN(p:Q2):(jw p).length=2+fZ p.length+p.length+4:=by unfold jw fZ;simp -implicitDefEqProofs[le4];omega
def axd(s:Q2):TT.lim 163 [.s ([81,70]++s)]=some [.zq 0]/\TT.lim 163 [.s []]=some [.zq 1]/\TT.lim 163 [.s [81]]=some [.zq 1]:=by
 have w1:=bI ((1:Int));have d:=bI ((2:Int));have e:¬(0:Int)=(s.length:Int)+1+1:=ah;have f:¬(1:Int)=(s.length:Int)+1+1:=ah;have a:TT.lim 164 [.s ([81,70]++s),.zq 2]=some [.zq 1]:=by refine aB ?_;simp
 have b:TT.lim 164 [.s ([81,70]++s),.zq 1]=some [.zq 1]:=by refine aB ?_;simp at a;simp -implicitDefEqProofs[f,d,a]
 have c:TT.lim 164 [.s ([81,70]++s),.zq 0]=some [.zq 1]:=by refine aB ?_;simp at b;simp -implicitDefEqProofs[e,w1,b]
 have g:TT.lim 164 [.s [],.zq 0]=some [.zq 0,.zq 1]:=by refine aB ?_;simp
 have h:TT.lim 164 [.s [81],.zq 1]=some [.zq 0,.zq 1]:=by refine aB ?_;simp
 have i:TT.lim 164 [.s [81],.zq 0]=some [.zq 0,.zq 1]:=by refine aB ?_;simp -implicitDefEqProofs[w1,h]
 refine⟨?_,?_,?_⟩
 ·refine aV ?_;simp at c;simp -implicitDefEqProofs[c]
 ·refine aV ?_;simp -implicitDefEqProofs[g]
 ·refine aV ?_;simp -implicitDefEqProofs[i]
def ayT{p:Q2}(h:p.length<=65536):TT.lim 162 [.s (jw p)]=some [.s p,.zq ((jw p).length:Nat),.zq 0]:=by
 have b:=aps p h;have c:=ahG p.length h;have d:=(axd (aS p.length++(p++le4 (ji p)))).1;have j:=Pj 3 p.length ah ah;have e:(p++le4 (ji p)).length=p.length+4:=by simp[le4]
 have i:(aS p.length++(p++le4 (ji p))).length=fZ p.length+(p.length+4):=by rw[dM,e];rfl
 have f:=wC (aS p.length++(p++le4 (ji p))) ah;rw[FV _ _ ah]at f;have k:jw p=81::70::(aS p.length++(p++le4 (ji p))):=by unfold jw;simp
 have l:List.take p.length (p++le4 (ji p))=p:=Ug;have m:List.drop p.length (List.take ((p.length:Int)+4).toNat (p++le4 (ji p)))=le4 (ji p):=by have:((p.length:Int)+4).toNat=p.length+4:=ah;rw[this,lS ah,uf]
 rw[aaN,k];have n:List.drop (2+(fZ p.length:Int)).toNat (List.take (((aS p.length++(p++le4 (ji p))).length:Int)+1+1).toNat (81::70::(aS p.length++(p++le4 (ji p)))))=p++le4 (ji p):=by have g:(((aS p.length++(p++le4 (ji p))).length:Int)+1+1).toNat=(aS p.length++(p++le4 (ji p))).length+2:=ah;have o:(2+(fZ p.length:Int)).toNat=fZ p.length+2:=ah;rw[g,o,lS aA];exact uf
 have q:List.drop 2 (List.take (((aS p.length++(p++le4 (ji p))).length:Int)+1+1).toNat (81::70::(aS p.length++(p++le4 (ji p)))))=aS p.length++(p++le4 (ji p)):=by have g:(((aS p.length++(p++le4 (ji p))).length:Int)+1+1).toNat=(aS p.length++(p++le4 (ji p))).length+2:=ah;rw[g,lS aA];rfl
 change TT.lim 165 [.s (aS p.length++(p++le4 (ji p)))]=some [.zu (p.length:Nat),.zq (fZ p.length:Nat),.zq 0]at f
 have d:TT.lim 163 [.s (81::70::(aS p.length++(p++le4 (ji p))))]=some [.zq 0]:=d;generalize p++le4 (ji p)=a at *;generalize le4 (ji p)=B,aS p.length++a=T at *;have r:¬(65536:Int)<(p.length:Int):=ah;generalize((2+fZ p.length+p.length+4:Nat):Int)=D at *;generalize fZ p.length=V at *;have w1:=bI (2+(V:Int));have s:=bI ((p.length:Int));have t:=bI ((p.length:Int)+4);have u:(2:Int)<=(T.length:Int)+1+1:=ah;have v:2+(V:Int)<=(T.length:Int)+1+1:=ah;have w:(0:Int)<=2+(V:Int):=ah;have x:¬(a.length:Int)<(p.length:Int)+4:=ah;have y:(p.length:Int)<=(a.length:Int):=ah;have z:(p.length:Int)+4<=(a.length:Int):=ah;have A:(p.length:Int)<=(p.length:Int)+4:=ah;refine aV ?_;simp -implicitDefEqProofs[d,f,r,w1,s,t,u,v,w,q,n,x,y,z,A,l,m,b,c]
