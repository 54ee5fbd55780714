/- What the trees compute: plain laws. -/
import Derived.Test.YtkoclengoeonnaaGreatDoorKQe5
set_option linter.all false
namespace Go.Proofs.YtkoclengoeonnaaGreatDoor
open Go Go.aP
set_option maxRecDepth 100000
namespace Q
def jB(rec:Q0->List aK×Int)(w:Nat)(ahead:Nat)(s:Q0):aK×Nat×Int:=
 if(aF s).2.2≠0 then(.mk 0 0 0 [] [],0,(aF s).2.2)
 else if(aF s).1/4=0 then(.mk 0 0 0 [] [],0,18)
 else if 4294967296<(aF s).1/4 then(.mk 0 0 0 [] [],0,18)
 else if 3<=(aF s).1%4 then(.mk 0 0 0 [] [],0,8)
 else if(aF s).1/4<=ahead then(.mk 0 0 0 [] [],0,7)
 else
  let r:=s.drop (aF s).2.1
  let k:=(aF s).2.1+(aF r).2.1
  if(aF r).2.2≠0 then(.mk 0 0 0 [] [],0,(aF r).2.2)
  else if(aF s).1%4=0 then(.mk ((aF s).1/4:Nat) 0 (aF r).1 [] [],k,0)
  else if s.length-k<(aF r).1 then(.mk 0 0 0 [] [],0,1)
  else if(aF s).1%4=1 then(.mk ((aF s).1/4:Nat) 1 0 ((s.drop k).take (aF r).1) [],k+(aF r).1,0)
  else if 8<=w then(.mk 0 0 0 [] [],0,9)
  else if(rec ((s.drop k).take (aF r).1)).2≠0 then(.mk 0 0 0 [] [],0,(rec ((s.drop k).take (aF r).1)).2)
  else(.mk ((aF s).1/4:Nat) 2 0 [] (rec ((s.drop k).take (aF r).1)).1,k+(aF r).1,0)
def fA:Nat->Nat->Nat->List UInt8->List aK×Int
 |0,_,_,_=>([],0)
 |N+1,w,ahead,s=>if s=[]then([],0)else
  if(jB (λt=>fA N (w+1) 0 t) w ahead s).2.2≠0 then([],(jB (λt=>fA N (w+1) 0 t) w ahead s).2.2)
  else if(fA N w ((aF s).1/4) (s.drop (jB (λt=>fA N (w+1) 0 t) w ahead s).2.1)).2≠0 then([],(fA N w ((aF s).1/4) (s.drop (jB (λt=>fA N (w+1) 0 t) w ahead s).2.1)).2)
  else((jB (λt=>fA N (w+1) 0 t) w ahead s).1::(fA N w ((aF s).1/4) (s.drop (jB (λt=>fA N (w+1) 0 t) w ahead s).2.1)).1,0)
def ali(n:Nat)(d:n<18446744073709551616):bV .and .u64 (n:Int) 3=some (.zu ((n:Int)%4)):=by
 have a:∀y:Int,IntKind.u64.wrap y=y%18446744073709551616:=λy=>by simp[IntKind.wrap,IntKind.signed,IntKind.bits]
 have e:n &&& 3=n%4:=adp n 2;have b:(BitVec.ofInt 64 (n:Int)).toNat=n:=by rw[tY];omega
 have c:(BitVec.ofInt 64 3).toNat=3:=aX;show some (GV.i IntKind.u64 (IntKind.u64.wrap ((BitVec.ofInt 64 (n:Int) &&& BitVec.ofInt 64 3).toNat:Int)))=_
 rw[Xq,b,c,e,a];congr 2;omega
def az4(n:Nat):jQ .shr .u64 (n:Int) 2=some (.zu ((n:Int)/4)):=by
 show some (GV.i IntKind.u64 ((n:Int).fdiv (2^2)))=_
 rw[EW _ aX];rfl
def axz(t y w:GV)(s:Q0)(a:Nat)(h:a<=s.length)(b:s.length<=100000000)(n x:GV):
 TT.lim 140 [t,y,w,.s s,.zq a,n,x]=some [.zq 0,.zq (aF (s.drop a)).2.2,.zu ((aF (s.drop a)).1:Nat),.s s,.zq ((a+(aF (s.drop a)).2.1:Nat):Int)]:=by
 have k:=CY s a h ah;refine aB ?_;simp[k]
def axB(t y w:GV)(s:Q0)(b:Nat)(h:b<=s.length)(E:s.length<=100000000)(n:GV):
 ∃a,TT.lim 141 [t,y,w,.s s,.zq b,n,.s []]=some
  (if(aF (s.drop b)).2.2≠0 then[.zq 0,.zq (aF (s.drop b)).2.2,.s [],.s s,.zq (a:Nat)]
  else if s.length-(b+(aF (s.drop b)).2.1)<(aF (s.drop b)).1 then[.zq 0,.zq 1,.s [],.s s,.zq (a:Nat)]
  else[.zq 0,.zq 0,.s ((s.drop (b+(aF (s.drop b)).2.1)).take (aF (s.drop b)).1),.s s,.zq ((b+(aF (s.drop b)).2.1+(aF (s.drop b)).1:Nat):Int)]):=by
 have k:=CY s b h ah;by_cases d:(aF (s.drop b)).2.2=0;rotate_left
 ·refine⟨b+(aF (s.drop b)).2.1,?_⟩;rw[au d];generalize(aF (s.drop b)).2.2=e at *;refine aB ?_;simp[k,d]
 have i:=kF d;have q:=i.len;have r:=i.lt;rw[fF]at q;rw[d]at k;refine⟨b+(aF (s.drop b)).2.1,?_⟩;rw[aj (λx=>x d)];clear d;generalize(aF (s.drop b)).1=m,(aF (s.drop b)).2.1=j at *;have w1:=bD ((s.length:Int)-((b+j:Nat):Int));have l:=jD ((s.length:Int)-((b+j:Nat):Int));by_cases c:s.length-(b+j)<m
 ·have f:(s.length:Int)-((b+j:Nat):Int)<(m:Int):=ah;rw[au c];generalize((b+j:Nat):Int)=A at *;refine aB ?_;simp[k,w1,l,f]
 ·have f:¬((s.length:Int)-((b+j:Nat):Int)<(m:Int)):=ah;rw[aj c];have u:=bD ((m:Int));have o:=bD (((b+j:Nat):Int)+(m:Int));have p:((b+j:Nat):Int)+(m:Int)=((b+j+m:Nat):Int):=ah;rw[p]at o;have v:(0:Int)<=((b+j:Nat):Int)/\((b+j:Nat):Int)<=((b+j+m:Nat):Int)/\((b+j+m:Nat):Int)<=s.length:=ah;have g:(s.take (b+j+m)).drop (b+j)=(s.drop (b+j)).take m:=by rw[Ku,(ah:b+j+m-(b+j)=m)]
  have z:(((b+j:Nat):Int)).toNat=b+j:=ah;have D:(((b+j+m:Nat):Int)).toNat=b+j+m:=ah;generalize F:((b+j:Nat):Int)=A at *;generalize G:((b+j+m:Nat):Int)=B at *;refine aB ?_;simp[k,w1,l,f,u,p,o,v,z,D,g]
def Oe(N:Nat):Prop:=∀(w ahead c:Nat)(s:Q0),c<=s.length->s.length<=100000000->(s.drop c).length<N->w<=8->ahead<18446744073709551616->∃a b,TT.lim 136 [.s s,.zq (w:Nat),.zu (ahead:Nat),.zq (c:Nat)]=some [.zq 0,.l (aI (fA N w ahead (s.drop c)).1),.zq (fA N w ahead (s.drop c)).2,.zu (a:Nat),.s s,.zq (b:Nat)]
def axw{N:Nat}(F:Oe N)(t y:GV)(w:Nat)(S:w<=8)(s:Q0)(d:Nat)(h:d<=s.length)(U:s.length<=100000000)(G:(s.drop d).length<=N)(n x:GV):
 ∃a,TT.lim 142 [t,y,.zq (w:Nat),.s s,.zq d,n,x]=some
  (if(aF (s.drop d)).2.2≠0 then[.zq 0,.zq (aF (s.drop d)).2.2,.l [],.s s,.zq (a:Nat)]
  else if s.length-(d+(aF (s.drop d)).2.1)<(aF (s.drop d)).1 then[.zq 0,.zq 1,.l [],.s s,.zq (a:Nat)]
  else if 8<=w then[.zq 0,.zq 9,.l [],.s s,.zq (a:Nat)]
  else[.zq 0,.zq (fA N (w+1) 0 ((s.drop (d+(aF (s.drop d)).2.1)).take (aF (s.drop d)).1)).2,.l (aI (fA N (w+1) 0 ((s.drop (d+(aF (s.drop d)).2.1)).take (aF (s.drop d)).1)).1),.s s,.zq ((d+(aF (s.drop d)).2.1+(aF (s.drop d)).1:Nat):Int)]):=by
 have k:=CY s d h ah;by_cases f:(aF (s.drop d)).2.2=0;rotate_left
 ·refine⟨d+(aF (s.drop d)).2.1,?_⟩;rw[au f];generalize(aF (s.drop d)).2.2=e at *;refine aB ?_;simp[k,f]
 have q:=kF f;have H:=q.len;have I:=q.lt;have V:=q.pos;rw[fF]at H G;rw[f]at k;by_cases c:s.length-(d+(aF (s.drop d)).2.1)<(aF (s.drop d)).1
 ·refine⟨d+(aF (s.drop d)).2.1,?_⟩;rw[aj (λx=>x f),au c];clear f;generalize(aF (s.drop d)).1=m,(aF (s.drop d)).2.1=j at *;have w1:=bD ((s.length:Int)-((d+j:Nat):Int));have i:=jD ((s.length:Int)-((d+j:Nat):Int));have l:(s.length:Int)-((d+j:Nat):Int)<(m:Int):=ah;generalize((d+j:Nat):Int)=A at *;refine aB ?_;simp[k,w1,i,l]
 by_cases D:8<=w
 ·refine⟨d+(aF (s.drop d)).2.1+(aF (s.drop d)).1,?_⟩;rw[aj (λx=>x f),aj c,au D];clear f;generalize(aF (s.drop d)).1=m,(aF (s.drop d)).2.1=j at *;have w1:=bD ((s.length:Int)-((d+j:Nat):Int));have i:=jD ((s.length:Int)-((d+j:Nat):Int));have l:¬((s.length:Int)-((d+j:Nat):Int)<(m:Int)):=ah;have r:=bD ((m:Int));have o:=bD (((d+j:Nat):Int)+(m:Int));have p:((d+j:Nat):Int)+(m:Int)=((d+j+m:Nat):Int):=ah;rw[p]at o;have u:(0:Int)<=((d+j:Nat):Int)/\((d+j:Nat):Int)<=((d+j+m:Nat):Int)/\((d+j+m:Nat):Int)<=s.length:=ah;have v:(8:Int)<=(w:Int):=ah;generalize J:((d+j:Nat):Int)=A at *;generalize L:((d+j+m:Nat):Int)=B at *;refine aB ?_;simp[k,w1,i,l,r,p,o,u,v]
 ·refine⟨0,?_⟩;rw[aj (λx=>x f),aj c,aj D];clear f;generalize(aF (s.drop d)).1=m,(aF (s.drop d)).2.1=j at *;have g:=F (w+1) 0 0 ((s.drop (d+j)).take m) ah (by rw[kG,fF];omega) (by rw[dD,kG,fF];omega) ah ah;obtain⟨a,b,g⟩:=g;rw[dD]at g;have w1:=bD ((s.length:Int)-((d+j:Nat):Int));have i:=jD ((s.length:Int)-((d+j:Nat):Int));have l:¬((s.length:Int)-((d+j:Nat):Int)<(m:Int)):=ah;have r:=bD ((m:Int));have o:=bD (((d+j:Nat):Int)+(m:Int));have p:((d+j:Nat):Int)+(m:Int)=((d+j+m:Nat):Int):=ah;rw[p]at o;have u:(0:Int)<=((d+j:Nat):Int)/\((d+j:Nat):Int)<=((d+j+m:Nat):Int)/\((d+j+m:Nat):Int)<=s.length:=ah;have z:(s.take (d+j+m)).drop (d+j)=(s.drop (d+j)).take m:=by rw[Ku,(ah:d+j+m-(d+j)=m)]
  have M:(((d+j:Nat):Int)).toNat=d+j:=ah;have O:(((d+j+m:Nat):Int)).toNat=d+j+m:=ah;have v:¬(8:Int)<=(w:Int):=ah;have P:=bD ((w:Int)+1);have E:(w:Int)+1=((w+1:Nat):Int):=ah;simp only[qX]at g;rw[<-E]at g;generalize(s.drop (d+j)).take m=T at *;generalize fA N (w+1) 0 T=R at *;generalize J:((d+j:Nat):Int)=A at *;generalize L:((d+j+m:Nat):Int)=B at *;generalize X:(w:Int)=W at *;clear E;refine aB ?_;simp[k,w1,i,l,r,p,o,u,M,O,z,v,P,g]
def axy{N:Nat}(hN:Oe N)(w ahead:Nat)(hw:w<=8)(ha:ahead<18446744073709551616)(s:Q0)(d:Nat)(h:d<=s.length)(V:s.length<=100000000)(Ze:(s.drop d).length<=N+1):
 ∃a b:Nat,TT.lim 138 [.zq (w:Nat),.zu (ahead:Nat),.s s,.zq d]=some (.zq 0::((pq (jB (λt=>fA N (w+1) 0 t) w ahead (s.drop d)).1).cells++[.zq (jB (λt=>fA N (w+1) 0 t) w ahead (s.drop d)).2.2,.zu (a:Nat),.s s,.zq (b:Nat)]))/\
  ((jB (λt=>fA N (w+1) 0 t) w ahead (s.drop d)).2.2=0->a=(aF (s.drop d)).1/4/\b=d+(jB (λt=>fA N (w+1) 0 t) w ahead (s.drop d)).2.1/\1<=(jB (λt=>fA N (w+1) 0 t) w ahead (s.drop d)).2.1/\b<=s.length):=by
 have k:=CY s d h ah;have fn:aI []=[]:=by simp only[aI]
 have v:(pq (.mk 0 0 0 [] [])).cells=[.zu 0,.zq 0,.zu 0,.s [],.l []]:=by rw[LJ,fn]
 unfold jB;by_cases F:(aF (s.drop d)).2.2=0;rotate_left
 ·refine⟨ahead,d+(aF (s.drop d)).2.1,?_,?_⟩
  ·simp only[au F];rw[v];generalize(aF (s.drop d)).2.2=e at *;refine aB ?_;simp[k,F]
  ·simp only[au F];exact λx=>absurd x F
 have P:=kF F;have hl:=P.len;have W:=P.lt;have hp:=P.pos;rw[fF]at hl Ze;have J:(s.drop d).drop (aF (s.drop d)).2.1=s.drop (d+(aF (s.drop d)).2.1):=by rw[uf]
 rw[J];have L:(s.drop d).length=s.length-d:=fF;rw[L];rw[F]at k;simp only[aj (λx=>x F:¬(aF (s.drop d)).2.2≠0)];have M:∀X:Nat,(s.drop d).drop ((aF (s.drop d)).2.1+X)=s.drop (d+(aF (s.drop d)).2.1+X):=λX=>by rw[uf,jY]
 rw[M];clear F P J L M;generalize(aF (s.drop d)).1=n,(aF (s.drop d)).2.1=j at *;have S:=az4 n;have A:=ali n W;have o:=bD ((n:Int)%4);by_cases Y:n/4=0
 ·refine⟨ahead,d+j,?_,?_⟩
  ·simp only[au Y];rw[v];have f:(n:Int)/4=0:=ah;generalize(n:Int)/4=q at *;refine aB ?_;simp[k,S,A,o,f]
  ·simp only[au Y];exact λx=>absurd x aX
 have f:¬(n:Int)/4=0:=ah;simp only[aj Y];by_cases Z:4294967296<n/4
 ·refine⟨ahead,d+j,?_,?_⟩
  ·simp only[au Z];rw[v];have g:4294967296<(n:Int)/4:=ah;generalize(n:Int)/4=q at *;refine aB ?_;simp[k,S,A,o,f,g]
  ·simp only[au Z];exact λx=>absurd x aX
 have g:¬4294967296<(n:Int)/4:=ah;simp only[aj Z];by_cases c3:3<=n%4
 ·refine⟨ahead,d+j,?_,?_⟩
  ·simp only[au c3];rw[v];have G:3<=(n:Int)%4:=ah;generalize(n:Int)/4=q,(n:Int)%4=y at *;refine aB ?_;simp[k,S,A,o,f,g,G]
  ·simp only[au c3];exact λx=>absurd x aX
 have G:¬3<=(n:Int)%4:=ah;simp only[aj c3];by_cases c4:n/4<=ahead
 ·refine⟨ahead,d+j,?_,?_⟩
  ·simp only[au c4];rw[v];have z:(n:Int)/4<=(ahead:Int):=ah;generalize(n:Int)/4=q,(n:Int)%4=y,(ahead:Int)=D at *;refine aB ?_;simp[k,S,A,o,f,g,G,z]
  ·simp only[au c4];exact λx=>absurd x aX
 have z:¬(n:Int)/4<=(ahead:Int):=ah;simp only[aj c4];have E:((n/4:Nat):Int)=(n:Int)/4:=ah;have hj:d+j<=s.length:=ah;rcases(ah:n%4=0\/n%4=1\/n%4=2)with H|y1|y2
 ·have O:(n:Int)%4=0:=ah;have l:=axz (.zu ((n:Int)/4)) (.zq 0) (.zq (w:Nat)) s (d+j) hj V (.zu 0) (.s []);rw[O]at A o;by_cases i:(aF (s.drop (d+j))).2.2=0
  ·have p:=kF i;have r:=p.len;rw[fF]at r;refine⟨n/4,d+j+(aF (s.drop (d+j))).2.1,?_,?_⟩
   ·simp only[aj (λx=>x i:¬(aF (s.drop (d+j))).2.2≠0),au H];rw[LJ,fn,E];rw[i]at l;clear p r i;generalize(aF (s.drop (d+j))).1=m,((d+j+(aF (s.drop (d+j))).2.1:Nat):Int)=B,((d+j:Nat):Int)=AT,(n:Int)/4=q,(ahead:Int)=D at *;refine aB ?_;simp[k,S,A,o,f,g,z,l]
   ·simp only[aj (λx=>x i:¬(aF (s.drop (d+j))).2.2≠0),au H];refine λ_=>⟨?_,?_,?_,?_⟩<;>first|trivial|rfl|omega
  ·refine⟨n/4,d+j+(aF (s.drop (d+j))).2.1,?_,?_⟩
   ·simp only[au i];rw[v,E];generalize(aF (s.drop (d+j))).1=m,((d+j+(aF (s.drop (d+j))).2.1:Nat):Int)=B,(aF (s.drop (d+j))).2.2=e,((d+j:Nat):Int)=AT,(n:Int)/4=q,(ahead:Int)=D at *;refine aB ?_;simp[k,S,A,o,f,g,z,l,i]
   ·simp only[au i];exact λx=>absurd x i
 ·have O:(n:Int)%4=1:=ah;have H:¬n%4=0:=ah;obtain⟨a,l⟩:=axB (.zu ((n:Int)/4)) (.zq 1) (.zq (w:Nat)) s (d+j) hj V (.zu 0);rw[O]at A o;have u:s.length-d-(j+(aF (s.drop (d+j))).2.1)=s.length-(d+j+(aF (s.drop (d+j))).2.1):=ah;by_cases i:(aF (s.drop (d+j))).2.2=0
  ·have p:=kF i;have r:=p.len;rw[fF]at r;rw[aj (λx=>x i)]at l;simp only[aj (λx=>x i:¬(aF (s.drop (d+j))).2.2≠0),aj H];rw[u];by_cases c:s.length-(d+j+(aF (s.drop (d+j))).2.1)<(aF (s.drop (d+j))).1
   ·rw[au c]at l;simp only[au c];refine⟨n/4,a,?_,λx=>absurd x aX⟩;rw[v,E];generalize((d+j:Nat):Int)=AT,(n:Int)/4=q,(ahead:Int)=D at *;refine aB ?_;simp[k,S,A,o,f,g,z,l]
   ·rw[aj c]at l;simp only[aj c,au y1];refine⟨n/4,d+j+(aF (s.drop (d+j))).2.1+(aF (s.drop (d+j))).1,?_,λ_=>⟨rfl,ah,ah,ah⟩⟩;rw[LJ,fn,E];generalize(s.drop (d+j+(aF (s.drop (d+j))).2.1)).take (aF (s.drop (d+j))).1=T,((d+j+(aF (s.drop (d+j))).2.1+(aF (s.drop (d+j))).1:Nat):Int)=B,((d+j:Nat):Int)=AT,(n:Int)/4=q,(ahead:Int)=D at *;refine aB ?_;simp[k,S,A,o,f,g,z,l]
  ·rw[au i]at l;simp only[au i];refine⟨n/4,a,?_,λx=>absurd x i⟩;rw[v,E];generalize(aF (s.drop (d+j))).2.2=e,((d+j:Nat):Int)=AT,(n:Int)/4=q,(ahead:Int)=D at *;refine aB ?_;simp[k,S,A,o,f,g,z,l,i]
 ·have O:(n:Int)%4=2:=ah;have H:¬n%4=0:=ah;have y1:¬n%4=1:=ah;obtain⟨a,l⟩:=axw hN (.zu ((n:Int)/4)) (.zq 2) w hw s (d+j) hj V (by rw[fF];omega) (.zu 0) (.s []);rw[O]at A o;have u:s.length-d-(j+(aF (s.drop (d+j))).2.1)=s.length-(d+j+(aF (s.drop (d+j))).2.1):=ah;by_cases i:(aF (s.drop (d+j))).2.2=0
  ·have p:=kF i;have r:=p.len;rw[fF]at r;rw[aj (λx=>x i)]at l;simp only[aj (λx=>x i:¬(aF (s.drop (d+j))).2.2≠0),aj H];rw[u];by_cases c:s.length-(d+j+(aF (s.drop (d+j))).2.1)<(aF (s.drop (d+j))).1
   ·rw[au c]at l;simp only[au c];refine⟨n/4,a,?_,λx=>absurd x aX⟩;rw[v,E];generalize((d+j:Nat):Int)=AT,(n:Int)/4=q,(ahead:Int)=D at *;refine aB ?_;simp[k,S,A,o,f,g,z,l]
   ·rw[aj c]at l;simp only[aj c,aj y1];by_cases U:8<=w
    ·rw[au U]at l;simp only[au U];refine⟨n/4,a,?_,λx=>absurd x aX⟩;rw[v,E];generalize((d+j:Nat):Int)=AT,(n:Int)/4=q,(ahead:Int)=D at *;refine aB ?_;simp[k,S,A,o,f,g,z,l]
    ·rw[aj U]at l;simp only[aj U];generalize(s.drop (d+j+(aF (s.drop (d+j))).2.1)).take (aF (s.drop (d+j))).1=T at *;by_cases I:(fA N (w+1) 0 T).2=0
     ·simp only[aj (λx=>x I:¬(fA N (w+1) 0 T).2≠0)];refine⟨n/4,d+j+(aF (s.drop (d+j))).2.1+(aF (s.drop (d+j))).1,?_,λ_=>⟨rfl,ah,ah,ah⟩⟩;rw[LJ,E];rw[I]at l;clear I c i p r u;generalize fA N (w+1) 0 T=R,((d+j+(aF (s.drop (d+j))).2.1+(aF (s.drop (d+j))).1:Nat):Int)=B,((d+j:Nat):Int)=AT,(n:Int)/4=q,(ahead:Int)=D at *;refine aB ?_;simp[k,S,A,o,f,g,z,l]
     ·simp only[au I];refine⟨n/4,d+j+(aF (s.drop (d+j))).2.1+(aF (s.drop (d+j))).1,?_,λx=>absurd x I⟩;rw[v,E];clear c i p r u;generalize fA N (w+1) 0 T=R,((d+j+(aF (s.drop (d+j))).2.1+(aF (s.drop (d+j))).1:Nat):Int)=B,((d+j:Nat):Int)=AT,(n:Int)/4=q,(ahead:Int)=D at *;refine aB ?_;simp[k,S,A,o,f,g,z,l,I]
  ·rw[au i]at l;simp only[au i];refine⟨n/4,a,?_,λx=>absurd x i⟩;rw[v,E];generalize(aF (s.drop (d+j))).2.2=e,((d+j:Nat):Int)=AT,(n:Int)/4=q,(ahead:Int)=D at *;refine aB ?_;simp[k,S,A,o,f,g,z,l,i]
def Rw(N:Nat):Prop:=∀(w:Nat)(d:List aK)(ahead c:Nat)(s:Q0),w<=8->d.length+(s.drop c).length<=200000000->c<=s.length->s.length<=100000000->(s.drop c).length<N->ahead<18446744073709551616->
    ∃a b:Nat,TT.lim 137 [.l (aI d),.zq (w:Nat),.zu (ahead:Nat),.s s,.zq (c:Nat)]=some (if(fA N w ahead (s.drop c)).2=0 then[.zq 1,.l (aI (d++(fA N w ahead (s.drop c)).1)),.zu (a:Nat),.s s,.zq (b:Nat)]else[.zq 0,.zq (fA N w ahead (s.drop c)).2,.zu (a:Nat),.s s,.zq (b:Nat)])
def axu:∀(N w ahead:Nat)(s:Q0),(fA N w ahead s).2≠0->(fA N w ahead s).1=[]
 |0,_,_,_,_=>rfl
 |N+1,w,ahead,s,h=>by
  unfold fA at h⊢;by_cases h1:s=[]
  ·rw[au h1]
  rw[aj h1]at h⊢;by_cases a:(jB (λt=>fA N (w+1) 0 t) w ahead s).2.2≠0
  ·rw[au a]
  rw[aj a]at h⊢;by_cases b:(fA N w ((aF s).1/4) (s.drop (jB (λt=>fA N (w+1) 0 t) w ahead s).2.1)).2≠0
  ·rw[au b]
  ·rw[aj b]at h;exact absurd rfl h
def axx{N:Nat}(Y:Oe N)(Z:Rw N):Rw (N+1):=by
 intro w g ahead d s S L h T hl ha;have p:(s.drop d).length=s.length-d:=fF;have J:=bD ((s.length:Int)-(d:Int));unfold fA;by_cases u:s.drop d=[]
 ·have aa:s.length-d=0:=by rw[<-p,u];rfl
  have v:¬d<s.length:=ah;refine⟨ahead,d,?_⟩;rw[au u];simp only[if_true,qZ];refine aB ?_;simp[J,v]
 have M:0<s.length-d:=by rw[<-p];exact Kw.2 u
 have v:d<s.length:=ah;simp only[aj u];obtain⟨a,b,l,z⟩:=axy Y w ahead S ha s d h T ah;have la:=oK g;by_cases j:(jB (λt=>fA N (w+1) 0 t) w ahead (s.drop d)).2.2=0;rotate_left
 ·refine⟨a,b,?_⟩;rw[au j];generalize jB (λt=>fA N (w+1) 0 t) w ahead (s.drop d)=o at *;obtain⟨f,B,e⟩:=o;obtain⟨t,y,n,i,k⟩:=f;simp only at *;rw[aj j];rw[LJ]at l;simp only[bI,bf]at l;refine aB ?_;simp[J,v,l,j]
 obtain⟨U,V,hu,W⟩:=z j;have D:(aF (s.drop d)).2.2=0:=by
  by_cases c:(aF (s.drop d)).2.2=0
  ·exact c
  ·exfalso;unfold jB at j;rw[au c]at j;exact c j
 have O:=(kF D).lt;simp only[aj (λx=>x j:¬(jB (λt=>fA N (w+1) 0 t) w ahead (s.drop d)).2.2≠0)];rw[j]at l;have F:(s.drop d).drop (jB (λt=>fA N (w+1) 0 t) w ahead (s.drop d)).2.1=s.drop b:=by rw[uf,<-V]
 rw[F];rw[<-U];clear F j z;have P:(s.drop b).length=s.length-b:=fF;obtain⟨a2,b2,q⟩:=Z w (g++[(jB (λt=>fA N (w+1) 0 t) w ahead (s.drop d)).1]) a b s S (by rw[gu,E5];omega) W T ah ah;refine⟨a2,b2,?_⟩;generalize jB (λt=>fA N (w+1) 0 t) w ahead (s.drop d)=o at *;obtain⟨f,B,e⟩:=o;obtain⟨t,y,n,i,k⟩:=f;simp only at *;rw[LJ]at l;simp only[bI,bf]at l;have G:aI (g++[.mk t y n i k])=aI g++[qO t y n i k]:=by rw[Uh];simp only[aI,pq];rfl
 have H:(qO t y n i k).fQ 5=true:=rfl;have I:GV.g [.zu t,.zq y,.zu n,.s i,.l (aI k)]=qO t y n i k:=rfl;have X:2*((aI g).length+1)*64<=281474976710656/\(aI g).length+1<=281474976710656:=ah;rw[G]at q;clear G U V O D hu W p P L M u la;by_cases r:(fA N w a (s.drop b)).2=0
 ·rw[au r]at q;simp only[aj (λx=>x r:¬(fA N w a (s.drop b)).2≠0)];simp only[if_true];have m:g++[aK.mk t y n i k]++(fA N w a (s.drop b)).1=g++(aK.mk t y n i k::(fA N w a (s.drop b)).1):=aA;rw[m]at q;clear m r;generalize aI (g++(aK.mk t y n i k::(fA N w a (s.drop b)).1))=R,qO t y n i k=E,aI g=A at *;refine aB ?_;simp[J,v,l,I,H,X,q]
 ·rw[aj r]at q;simp only[au r];rw[aj r];generalize fA N w a (s.drop b)=RR,qO t y n i k=E,aI g=A at *;refine aB ?_;simp[J,v,l,I,H,X,q]
def axA{N:Nat}(g:Rw N):Oe N:=by
 intro w ahead c s h i j k l;have m:(s.drop c).length=s.length-c:=fF;obtain⟨a,b,d⟩:=g w [] ahead c s k (by simp only[mZ];omega) h i j l;have fn:aI []=[]:=by simp only[aI]
 refine⟨a,b,?_⟩;rw[fn,bf]at d;have e:=axu N w ahead (s.drop c);generalize fA N w ahead (s.drop c)=R at *;by_cases f:R.2=0
 ·rw[au f]at d;rw[f];refine aB ?_;simp[d]
 ·rw[aj f]at d;rw[e f,fn];refine aB ?_;simp[d]
def aiU:∀N:Nat,Oe N/\Rw N
 |0=>⟨λw ahead b s _ _ a _ _=>absurd a ah,λw d ahead b s _ _ _ _ a _=>absurd a ah⟩
 |N+1=>by have c:=aiU N;have a:=axx c.1 c.2;exact⟨axA a,a⟩
def yt(s:Q0):List aK×Int:=if 65536<s.length then([],4)else fA (s.length+1) 0 0 s
def aB5(s:Q0)(f:s.length<=140737488351232):TT.lim 135 [.s s]=some [.l (aI (yt s).1),.zq (yt s).2]:=by
 unfold yt;have fn:aI []=[]:=by simp only[aI]
 by_cases c:65536<s.length
 ·have d:(65536:Int)<s.length:=ah;rw[au c,fn];refine aQ ?_;simp[d]
 ·have d:¬(65536:Int)<s.length:=ah;obtain⟨a,b,e⟩:=(aiU (s.length+1)).1 0 0 0 s ah ah (by rw[dD];omega) ah ah;rw[dD]at e;rw[aj c];simp only[qX]at e;generalize fA (s.length+1) 0 0 s=R at *;refine aQ ?_;simp[d,e]
def tK(l:List fP):Q1:=l.map λs=>GV.zu s.tag
def ag6(l:List fP)(k:l.length<=1000):∀(m i:Nat)(a:Q1),i+m=l.length->a.length+m<=2000->TT.lim 145 [.l a,.l (l.map fM),.zq l.length,.zq i]=some [.zq 0,.l (a++tK (l.drop i))]
 |0,i,a,hi,n=>by
  have h:¬((i:Int)<l.length):=ah;have e:l.drop i=[]:=gJ;rw[e];show _=some [GV.zq 0,.l (a++[])]
  rw[qZ];refine aB ?_;simp[h]
 |m+1,i,a,hi,n=>by
  have c:i<l.length:=ah;have h:((i:Int)<l.length):=ah;have d:(l.map fM)[i]? =some (fM l[i]):=by rw[jf,bT c];rfl
  have b:((i+1:Nat):Int)=(i:Int)+1:=ah;have o:=bD ((i:Int)+1);have f:l.drop i=l[i]::l.drop (i+1):=gW c;have g:=ag6 l k m (i+1) (a++[.zu l[i].tag]) ah (by rw[gu,E5];omega);rw[f];have j:a++tK (l[i]::l.drop (i+1))=a++[GV.zu l[i].tag]++tK (l.drop (i+1)):=by rw[show tK (l[i]::l.drop (i+1))=GV.zu l[i].tag::tK (l.drop (i+1))from rfl,List.append_assoc];rfl
  rw[j];rw[b]at g;have p:2*(a.length+1)*8<=281474976710656/\a.length+1<=281474976710656:=ah;clear j f;generalize a++[GV.zu l[i].tag]++tK (l.drop (i+1))=R at *;generalize l[i]=s,l.map fM=q at *;refine aB ?_;simp[h,d,p,GV.fQ,o,g]
def atv(k v:Int)(h1:1<=v)(d:v<=3)(e:rJ k<=v):TT.lim 144 [.zq k,.zq v]=some [.l (tK (bU k v))]:=by
 have a:=U4 k v h1 d e;have f:=Gg k v;have b:=ag6 (bU k v) ah (bU k v).length 0 [] ah (by simp;omega);rw[dD,bf]at b;simp only[qX]at b;have c:(((bU k v).map fM).length:Int)=((bU k v).length:Int):=by rw[iw]
 generalize tK (bU k v)=g,(bU k v).map fM=h,((bU k v).length:Int)=L at *;refine aQ ?_;simp[a,c,b]
def Ei(xs:Q1)(l:List fP):Q1:=l.foldl (λm s=>lQ (.zu s.tag) (.s s.name) m) xs
def ae0(l:List fP)(k:l.length<=1000)(d f g:GV):∀(m i:Nat)(xs:Q1),i+m=l.length->TT.lim 143 [d,f,g,.l (l.map fM),.zq l.length,.zq i,.l xs]=some [.zq 0,.l (Ei xs (l.drop i))]
 |0,i,xs,hi=>by
  have h:¬((i:Int)<l.length):=ah;have e:l.drop i=[]:=gJ;rw[e];show _=some [GV.zq 0,.l xs]
  refine aB ?_;simp[h]
 |m+1,i,xs,hi=>by
  have b:i<l.length:=ah;have h:((i:Int)<l.length):=ah;have c:(l.map fM)[i]? =some (fM l[i]):=by rw[jf,bT b];rfl
  have a:((i+1:Nat):Int)=(i:Int)+1:=ah;have n:=bD ((i:Int)+1);have o:l.drop i=l[i]::l.drop (i+1):=gW b;have j:=ae0 l k d f g m (i+1) (lQ (.zu l[i].tag) (.s l[i].name) xs) ah;rw[o];show _=some [GV.zq 0,.l (Ei (lQ (.zu l[i].tag) (.s l[i].name) xs) (l.drop (i+1)))]
  rw[a]at j;generalize Ei (lQ (.zu l[i].tag) (.s l[i].name) xs) (l.drop (i+1))=R at *;generalize l[i]=s,l.map fM=p at *;refine aB ?_;simp[h,c,n,j]
def ahW(t:Int):∀(l:List fP)(xs:Q1),l.Pairwise (λa b=>a.tag<b.tag)->iK (.zu t) (Ei xs l)=(match l.find? (λs=>decide (s.tag=t))with
 |some s=>some (.s s.name)
 |none=>iK (.zu t) xs)
 |[],xs,_=>rfl
 |s::l,xs,c=>by
  rw[jm]at c;have f:=ahW t l (lQ (.zu s.tag) (.s s.name) xs) c.2;show iK (.zu t) (Ei (lQ (.zu s.tag) (.s s.name) xs) l)=_
  rw[f,List.find?_cons];by_cases h:s.tag=t
  ·have d:l.find? (λs=>decide (s.tag=t))=none:=by rw[List.find?_eq_none];intro x g;have:=c.1 x g;simp;omega
   rw[d];simp only[h,decide_true];rw[zU,au rfl]
  ·simp only[h,decide_false];cases i:l.find? (λs=>decide (s.tag=t))with
   |some x=>rfl
   |none=>simp only;rw[zU,aj (λe=>h e.symm)]
def DC(xs:Q1)(l:List fP):Q1:=l.foldl (λm s=>lQ (.zu s.tag) (.b true) m) xs
def ajG(l:List fP)(g:l.length<=1000)(d:GV):∀(m i:Nat)(xs:Q1),i+m=l.length->TT.lim 147 [d,.l (tK l),.zq l.length,.zq i,.l xs]=some [.zq 0,.l (DC xs (l.drop i))]
 |0,i,xs,hi=>by
  have h:¬((i:Int)<l.length):=ah;have e:l.drop i=[]:=gJ;rw[e];show _=some [GV.zq 0,.l xs]
  refine aB ?_;simp[h]
 |m+1,i,xs,hi=>by
  have b:i<l.length:=ah;have h:((i:Int)<l.length):=ah;have c:(tK l)[i]? =some (.zu l[i].tag):=by unfold tK;rw[jf,bT b];rfl
  have a:((i+1:Nat):Int)=(i:Int)+1:=ah;have j:=bD ((i:Int)+1);have k:l.drop i=l[i]::l.drop (i+1):=gW b;have f:=ajG l g d m (i+1) (lQ (.zu l[i].tag) (.b true) xs) ah;rw[k];show _=some [GV.zq 0,.l (DC (lQ (.zu l[i].tag) (.b true) xs) (l.drop (i+1)))]
  rw[a]at f;generalize DC (lQ (.zu l[i].tag) (.b true) xs) (l.drop (i+1))=R at *;generalize l[i]=s,tK l=n at *;refine aB ?_;simp[h,c,j,f]
def ad5(t:Int):∀(l:List fP)(xs:Q1),iK (.zu t) (DC xs l)=if hasTag l t=true then some (.b true)else iK (.zu t) xs
 |[],xs=>rfl
 |s::l,xs=>by
  have a:=ad5 t l (lQ (.zu s.tag) (.b true) xs);show iK (.zu t) (DC (lQ (.zu s.tag) (.b true) xs) l)=_
  rw[a,zU];unfold hasTag;rw[ac4];by_cases h:t=s.tag
  ·simp[h]
  ·simp[h]
def oq(l:List fP)(fs:List aK):List aK:=fs.filter λf=>hasTag l f.tag
def qR(l:List fP)(fs:List aK):List aK:=fs.filter λf=>!hasTag l f.tag
def ajH(l:List fP)(fs:List aK)(u:fs.length<=1000000):∀(m i:Nat)(a b:List aK),i+m=fs.length->a.length+b.length+m<=3000000->TT.lim 148 [.l (aI fs),.l (aI a),.l (aI b),.zq fs.length,.zq i,.l (DC [] l)]=some [.zq 0,.l (aI (a++oq l (fs.drop i))),.l (aI (b++qR l (fs.drop i)))]
 |0,i,a,b,hi,v=>by have h:¬((i:Int)<fs.length):=ah;have e:fs.drop i=[]:=gJ;rw[e];have f:oq l []=[]:=rfl;have g:qR l []=[]:=rfl;rw[f,g,qZ,qZ];refine aB ?_;simp[h]
 |m+1,i,a,b,hi,v=>by
  have h:((i:Int)<fs.length):=ah;obtain⟨t,y,n,s,k,L,D,g3,g4⟩:=FY (l:=fs) (i:=i) ah;have j:((i+1:Nat):Int)=(i:Int)+1:=ah;have E:=bD ((i:Int)+1);have r:=ad5 t l [];have c:∀z:List aK,aI (z++[.mk t y n s k])=aI z++[qO t y n s k]:=λz=>by rw[Uh];simp only[aI,pq];rfl
  have p:(qO t y n s k).fQ 5=true:=rfl;have q:GV.g [.zu t,.zq y,.zu n,.s s,.l (aI k)]=qO t y n s k:=rfl;have F:=oK a;have G:=oK b;have d:=λa b v=>ajH l fs u m (i+1) a b ah v;simp only[j]at d;rw[g3];have w:iK (.zu t) []=none:=rfl;cases o:hasTag l t with
  |true=>
   have f:oq l (.mk t y n s k::fs.drop (i+1))=.mk t y n s k::oq l (fs.drop (i+1)):=by unfold oq;rw[akO (by exact o)]
   have g:qR l (.mk t y n s k::fs.drop (i+1))=qR l (fs.drop (i+1)):=by unfold qR;rw[akN (by show ¬(!hasTag l t)=true;rw[o];decide)]
   rw[f,g];have d:=d (a++[.mk t y n s k]) b (by rw[gu,E5];omega);rw[c,List.append_assoc,N8]at d;rw[o,au rfl]at r;have x:2*((aI a).length+1)*64<=281474976710656/\(aI a).length+1<=281474976710656:=ah;generalize aI (a++.mk t y n s k::oq l (fs.drop (i+1)))=H,aI (b++qR l (fs.drop (i+1)))=I at *;clear c F G f g;generalize DC [] l=J,aI a=A,aI b=B at *;refine aB ?_;simp[h,D,r,q,p,x,E,d]
  |false=>
   have f:oq l (.mk t y n s k::fs.drop (i+1))=oq l (fs.drop (i+1)):=by unfold oq;rw[akN (by show ¬hasTag l t=true;rw[o];decide)]
   have g:qR l (.mk t y n s k::fs.drop (i+1))=.mk t y n s k::qR l (fs.drop (i+1)):=by unfold qR;rw[akO (by show(!hasTag l t)=true;rw[o];rfl)]
   rw[f,g];have d:=d a (b++[.mk t y n s k]) (by rw[gu,E5];omega);rw[c,List.append_assoc,N8]at d;rw[o,aj aX,w]at r;have x:2*((aI b).length+1)*64<=281474976710656/\(aI b).length+1<=281474976710656:=ah;generalize aI (a++oq l (fs.drop (i+1)))=H,aI (b++.mk t y n s k::qR l (fs.drop (i+1)))=I at *;clear c F G f g;generalize DC [] l=J,aI a=A,aI b=B at *;refine aB ?_;simp[h,D,r,q,p,x,E,d]
def axv{rec:Q0->List aK×Int}{w ahead:Nat}{s:Q0}(u:s.length<=100000000)(p:∀t:Q0,t.length+2<=s.length->dX (rec t).1/\(rec t).1.length<=1000000/\dA (rec t).1<=t.length/\wL (rec t).1<=42*t.length)(h:(jB rec w ahead s).2.2=0):
 uK (jB rec w ahead s).1/\uZ (jB rec w ahead s).1+1<=(jB rec w ahead s).2.1/\(jB rec w ahead s).2.1<=s.length/\(jB rec w ahead s).1.tag=((aF s).1/4:Nat)/\wF (jB rec w ahead s).1<=42*(jB rec w ahead s).2.1:=by
 unfold jB at h⊢;by_cases a:(aF s).2.2=0;rotate_left
 ·simp only[au a]at h;exact absurd h a
 have d:=kF a;simp only[aj (λx=>x a:¬(aF s).2.2≠0)]at h⊢;by_cases g:(aF s).1/4=0
 ·simp only[au g]at h;exact absurd h aX
 simp only[aj g]at h⊢;by_cases i:4294967296<(aF s).1/4
 ·simp only[au i]at h;exact absurd h aX
 simp only[aj i]at h⊢;by_cases j:3<=(aF s).1%4
 ·simp only[au j]at h;exact absurd h aX
 simp only[aj j]at h⊢;by_cases k:(aF s).1/4<=ahead
 ·simp only[au k]at h;exact absurd h aX
 simp only[aj k]at h⊢;by_cases b:(aF (s.drop (aF s).2.1)).2.2=0;rotate_left
 ·simp only[au b]at h;exact absurd h b
 have e:=kF b;have v:=d.len;have y:=d.pos;have q:=e.len;have z:=e.pos;have A:=d.lt;have B:=e.lt;rw[fF]at q;simp only[aj (λx=>x b:¬(aF (s.drop (aF s).2.1)).2.2≠0)]at h⊢;by_cases l:(aF s).1%4=0
 ·simp only[au l]at h⊢;simp only[uK,dX,uZ,dA,wF,wL,mZ];refine⟨⟨⟨ah,ah,ah,ah,ah,ah,aA,aA⟩,trivial⟩,ah,ah,rfl,ah⟩
 simp only[aj l]at h⊢;by_cases c:s.length-((aF s).2.1+(aF (s.drop (aF s).2.1)).2.1)<(aF (s.drop (aF s).2.1)).1
 ·simp only[au c]at h;exact absurd h aX
 simp only[aj c]at h⊢;by_cases m:(aF s).1%4=1
 ·simp only[au m]at h⊢;simp only[uK,dX,uZ,dA,wF,wL];refine⟨⟨⟨ah,ah,ah,ah,ah,ah,by rw[kG,fF];omega,aA⟩,trivial⟩,ah,ah,rfl,by rw[kG,fF];omega⟩
 simp only[aj m]at h⊢;by_cases n:8<=w
 ·simp only[au n]at h;exact absurd h aX
 simp only[aj n]at h⊢;have o:((s.drop ((aF s).2.1+(aF (s.drop (aF s).2.1)).2.1)).take (aF (s.drop (aF s).2.1)).1).length=(aF (s.drop (aF s).2.1)).1:=by rw[kG,fF];omega
 obtain⟨r1,r2,r3,r⟩:=p ((s.drop ((aF s).2.1+(aF (s.drop (aF s).2.1)).2.1)).take (aF (s.drop (aF s).2.1)).1) (by rw[o];omega);rw[o]at r3 r;generalize(s.drop ((aF s).2.1+(aF (s.drop (aF s).2.1)).2.1)).take (aF (s.drop (aF s).2.1)).1=T at *;by_cases f:(rec T).2=0;rotate_left
 ·simp only[au f]at h;exact absurd h f
 simp only[aj (λx=>x f:¬(rec T).2≠0)]at h⊢;simp only[uK,uZ,wF,mZ];refine⟨⟨⟨ah,ah,ah,ah,ah,ah,aA,r2⟩,r1⟩,ah,ah,rfl,ah⟩
def abB:∀(N w ahead:Nat)(s:Q0),s.length<=1000000->dX (fA N w ahead s).1/\(fA N w ahead s).1.length<=1000000/\dA (fA N w ahead s).1<=s.length/\wL (fA N w ahead s).1<=42*s.length
 |0,w,ahead,s,_=>by simp only[fA,dX,dA,wL];simp
 |N+1,w,ahead,s,h=>by
  unfold fA;by_cases h1:s=[]
  ·rw[au h1];simp only[dX,dA,wL];simp
  rw[aj h1];by_cases a:(jB (λt=>fA N (w+1) 0 t) w ahead s).2.2=0;rotate_left
  ·rw[au a];simp only[dX,dA,wL];simp
  rw[aj (λx=>x a)];obtain⟨o1,i,j,k,m⟩:=axv (rec:=λt=>fA N (w+1) 0 t) (w:=w) (ahead:=ahead) (s:=s) ah (λt n=>abB N (w+1) 0 t ah) a;have c:(s.drop (jB (λt=>fA N (w+1) 0 t) w ahead s).2.1).length=s.length-(jB (λt=>fA N (w+1) 0 t) w ahead s).2.1:=fF;obtain⟨d,o,e,g⟩:=abB N w ((aF s).1/4) (s.drop (jB (λt=>fA N (w+1) 0 t) w ahead s).2.1) ah;rw[c]at e g;split
  ·simp only[dX,dA,wL];simp
  ·simp only[dX,dA,wL];have:∀l:List aK,l.length<=dA l:=λl=>by
    induction l with
    |nil=>simp[dA]
    |cons f l p=>simp only[iF,dA];omega
   have q:=this (fA N w ((aF s).1/4) (s.drop (jB (λt=>fA N (w+1) 0 t) w ahead s).2.1)).1;refine⟨⟨o1,d⟩,?_,?_,?_⟩
   ·simp only[iF];omega
   ·omega
   ·omega
def af7(s:Q0):dX (yt s).1/\(yt s).1.length<=1000000/\dA (yt s).1<=65536/\wL (yt s).1<=3000000:=by
 unfold yt;by_cases c:65536<s.length
 ·rw[au c];simp only[dX,dA,wL];simp
 ·rw[aj c];obtain⟨a,b,d,e⟩:=abB (s.length+1) 0 0 s ah;exact⟨a,b,ah,ah⟩
def aK.typ:aK->Int
 |.mk _ y _ _ _=>y
def aK.num:aK->Int
 |.mk _ _ n _ _=>n
def aK.txt:aK->List UInt8
 |.mk _ _ _ s _=>s
def vJ(l:List fP):aW->List aK->aW×Int
 |b,[]=>(b,0)
 |b,f::r=>match l.find? (λs=>decide (s.tag=f.tag))with
  |some s=>(match placeOf s.name with
   |some p=>if qU f.typ f.num f.txt p=0 then vJ l (setB b f.num f.txt p) r else(jl,qU f.typ f.num f.txt p)
   |none=>(jl,26))
  |none=>(jl,26)
def ae1(l:List fP)(L:l.Pairwise (λa b=>a.tag<b.tag))(w:∀s∈l,placeOf s.name≠none)(fs:List aK)(z:dX fs)(A:fs.length<=1000000)(D:∀f∈fs,hasTag l f.tag=true)(M N:GV):∀(m i:Nat)(b:aW),i+m=fs.length->ru b []->
 TT.lim 149 ([M,N,.l (aI fs),.zq fs.length,.zq i]++(iH b []).cells++[.l (Ei [] l)])=some (if(vJ l b (fs.drop i)).2=0 then .zq 1::(iH (vJ l b (fs.drop i)).1 []).cells else[.zq 0,.zq (vJ l b (fs.drop i)).2])
 |0,i,b,hi,v=>by have h:¬((i:Int)<fs.length):=ah;have e:fs.drop i=[]:=gJ;rw[e];unfold vJ;rw[au rfl];rw[dS];simp only[bI,bf];refine aB ?_;simp[h]
 |m+1,i,b,hi,v=>by
  have h:((i:Int)<fs.length):=ah;obtain⟨t,y,n,s,k,g1,O,g3,g4⟩:=FY (l:=fs) (i:=i) ah;have q:((i+1:Nat):Int)=(i:Int)+1:=ah;have U:=bD ((i:Int)+1);have o:=FZ z _ g4;simp only[uK]at o;have E:=D _ g4;have F:=ahW t l [] L;have fn:aI []=[]:=by simp only[aI]
  obtain⟨d,g⟩:∃d,l.find? (λs=>decide (s.tag=t))=some d:=by
   unfold hasTag at E;obtain⟨d,V,W⟩:=List.any_eq_true.1 E;cases J:l.find? (λs=>decide (s.tag=t))with
   |some x=>exact⟨x,rfl⟩
   |none=>have:=(List.find?_eq_none.1 J) d V;have X:t=d.tag:=Em W;simp[X]at this
  have j:=List.mem_of_find?_eq_some g;rw[g]at F;simp only at F;obtain⟨p,H⟩:∃p,placeOf d.name=some p:=by
   cases J:placeOf d.name with
   |some p=>exact⟨p,rfl⟩
   |none=>exact absurd J (w d j)
  have c:=auZ (aI k) b [] (DW v.d) v.t (by simp[dA]) t y n s ⟨o.1.2.2.2.2.1,o.1.2.2.2.2.2.1⟩ o.1.2.2.2.2.2.2.1 d.name;rw[fn]at c;unfold acH at c;rw[H]at c;simp only at c;unfold acI at c;rw[g3];unfold vJ;have Y:aK.tag (.mk t y n s k)=t:=rfl;have Z:aK.typ (.mk t y n s k)=y:=rfl;have e3:aK.num (.mk t y n s k)=n:=rfl;have e4:aK.txt (.mk t y n s k)=s:=rfl;rw[Y,g,Z,e3,e4];simp only[H];have r:GV.g [.zu t,.zq y,.zu n,.s s,.l (aI k)]=qO t y n s k:=rfl;rw[r]at c;by_cases u:qU y n s p=0
  ·rw[au u]at c;simp only[au u];obtain⟨P,S,T⟩:=ajp v.body v.d v.t ⟨o.1.2.2.2.2.1,o.1.2.2.2.2.2.1⟩ o.1.2.2.2.2.2.2.1 u;have I:=ae1 l L w fs z A D M N m (i+1) (setB b n s p) ah ⟨P,S,T,by simp only[dX],aA⟩;rw[q]at I;generalize vJ l (setB b n s p) (fs.drop (i+1))=R at *;generalize setB b n s p=B at *;clear P S T u g j H E o;generalize Ei [] l=MP,d.name=nm,aI fs=G at *;rw[dS]at I;rw[dS];simp only[bI,bf]at I⊢;refine aB ?_;simp[↓Pj,h,O,r,F,kM,c,U,I]
  ·rw[aj u]at c;simp only[aj u];generalize qU y n s p=e at *;clear g j H E o;generalize Ei [] l=MP,d.name=nm,aI fs=G at *;rw[dS];simp only[bI,bf];refine aB ?_;simp[↓Pj,h,O,r,F,kM,c,u]
def kH(s:Q0)(v:Int):aW×List aK×Int:=
 if v<1 then(jl,[],16)else if 3<v then(jl,[],16)else
 if 65536<s.length then(jl,[],4)else
 if(aF s).2.2≠0 then(jl,[],(aF s).2.2)else
 if 8<(aF s).1 then(jl,[],15)else
 if rJ (aF s).1=0 then(jl,[],15)else if v<rJ (aF s).1 then(jl,[],15)else
 if(yt (s.drop (aF s).2.1)).2≠0 then(jl,[],(yt (s.drop (aF s).2.1)).2)else
 let l:=bU (aF s).1 v
 let a:=(yt (s.drop (aF s).2.1)).1
 let r:=vJ l {jl with kind:=(aF s).1} (oq l a)
 if r.2≠0 then(jl,[],r.2)else
 if je r.1 (qR l a) v≠0 then(jl,[],je r.1 (qR l a) v)else(r.1,qR l a,0)
def acf(p:aK->Bool):∀l:List aK,dA (l.filter p)<=dA l
 |[]=>by simp[dA]
 |f::l=>by
  have a:=acf p l;rw[List.filter_cons];split
  ·simp only[dA];omega
  ·simp only[dA];omega
def split_ok(l:List fP)(e:l.length<=1000)(fs:List aK)(a:fs.length<=1000000)(b:dA fs<=1000000):TT.lim 146 [.l (aI fs),.l (tK l)]=some [.l (aI (oq l fs)),.l (aI (qR l fs))]:=by
 have d:=ajG l e (.l (aI fs)) l.length 0 [] ah;have c:=ajH l fs a fs.length 0 [] [] ah (by simp;omega);have fn:aI []=[]:=by simp only[aI]
 rw[dD]at d c;rw[bf,bf,fn]at c;simp only[qX]at d c;have f:=Ub (oq l fs) (kR (acf _ fs) b);have g:=Ub (qR l fs) (kR (acf _ fs) b);have lt:(tK l).length=l.length:=by unfold tK;rw[iw]
 have h:=oK fs;generalize aI (oq l fs)=W,aI (qR l fs)=O,aI fs=G,DC [] l=i,tK l=j at *;refine aQ ?_;simp[lt,h,d,c,f,g]
def YI(l:List fP):∀(fs:List aK)(b:aW),dX fs->ru b []->ru (vJ l b fs).1 []
 |[],b,_,a=>a
 |f::fs,b,c,a=>by
  simp only[dX]at c;unfold vJ;cases l.find? (λs=>decide (s.tag=f.tag))with
  |none=>exact G8
  |some s=>
   simp only;cases placeOf s.name with
   |none=>exact G8
   |some p=>
    simp only;by_cases d:qU f.typ f.num f.txt p=0
    ·rw[au d];have h1:=c.1;cases f with
     |mk t y n s k=>simp only[uK]at h1;obtain⟨e,g,h⟩:=ajp a.body a.d a.t ⟨h1.1.2.2.2.2.1,h1.1.2.2.2.2.2.1⟩ h1.1.2.2.2.2.2.2.1 d;exact YI l fs _ c.2 ⟨e,g,h,by simp only[dX],aA⟩
    ·rw[aj d];exact G8
def acL(k:Int)(h: -9223372036854775808<=k/\k<=9223372036854775807):ru {jl with kind:=k} []:=by have z:=G8;exact⟨{z.body with kind:=h},z.d,z.t,z.f8,z.len⟩
def LK(p:aK->Bool):∀{l:List aK},dX l->dX (l.filter p)
 |[],_=>by simp only[List.filter_nil,dX]
 |f::l,h=>by
  simp only[dX]at h;have a:=LK p h.2;rw[List.filter_cons];split
  ·simp only[dX];exact⟨h.1,a⟩
  ·exact a
set_option maxHeartbeats 4000000 in
def decode_ok(s:Q0)(v:Int)(hs:s.length<=140737488351232):TT.lim 134 [.s s,.zq v]=some [iH (kH s v).1 (aI (kH s v).2.1),.zq (kH s v).2.2]:=by
 have fn:aI []=[]:=by simp only[aI]
 have i:GV.g [.zq 0,.zu 0,.zu 0,.zu 0,.zu 0,.zu 0,.zu 0,.zu 0,.zu 0,.zu 0,.zu 0,.zu 0,.zu 0,.zu 0,.zu 0,.zu 0,.zq 0,.b false,.s [],.s [],.s [],.l [],.l [],.l []]=iH jl []:=rfl;unfold kH;by_cases d:v<1
 ·rw[au d];simp only;rw[fn,<-i];refine aQ ?_;simp[d]
 rw[aj d];by_cases g:3<v
 ·rw[au g];simp only;rw[fn,<-i];refine aQ ?_;simp[d,g]
 rw[aj g];by_cases V:65536<s.length
 ·rw[au V];have a:(65536:Int)<s.length:=ah;simp only;rw[fn,<-i];refine aQ ?_;simp[d,g,a]
 rw[aj V];have a:¬(65536:Int)<s.length:=ah;have l:=uM s ah;by_cases w:(aF s).2.2=0;rotate_left
 ·rw[au w];simp only;rw[fn,<-i];generalize(aF s).2.2=e at *;refine aQ ?_;simp[d,g,a,l,w]
 rw[aj (λx=>x w)];rw[w]at l;have J:=kF w;have l1:=J.len;have t1:=J.lt;have M:(s.drop (aF s).2.1).length=s.length-(aF s).2.1:=fF;have h:=aB5 (s.drop (aF s).2.1) ah;obtain⟨F,G,g3,-⟩:=af7 (s.drop (aF s).2.1);clear J w M;generalize yt (s.drop (aF s).2.1)=b at *;generalize A:s.drop (aF s).2.1=T at *;generalize(aF s).1=n,(aF s).2.1=j at *;have c:(s.take s.length).drop j=T:=by rw[zL];exact A
 have H:(j:Int)<=s.length:=ah;have X:=ZR 0;have N:rJ 0=0:=rfl;rw[N]at X;by_cases Y:8<n
 ·rw[au Y];have m:¬(n:Int)<=8:=ah;simp only;rw[fn,<-i];refine aQ ?_;simp[d,g,a,l,m,X]
 rw[aj Y];have m:(n:Int)<=8:=ah;have y:=bD ((n:Int));have p:=ZR (n:Int);by_cases o:rJ n=0
 ·rw[au o];rw[o]at p;simp only;rw[fn,<-i];refine aQ ?_;simp[d,g,a,l,m,y,p]
 rw[aj o];by_cases q:v<rJ n
 ·rw[au q];simp only;rw[fn,<-i];generalize rJ n=Z at *;refine aQ ?_;simp[d,g,a,l,m,y,p,o,q]
 rw[aj q];by_cases I:b.2=0;rotate_left
 ·rw[au I];simp only;rw[fn,<-i];generalize rJ n=Z at *;refine aQ ?_;simp[d,g,a,l,m,y,p,o,q,c,A,H,h,I]
 rw[aj (λx=>x I)];rw[I]at h;have P:=U4 n v ah ah ah;have S:=atv n v ah ah ah;have k8:=Gg n v;have B:=ae0 (bU n v) ah (.zq v) (.zq n) (.l (aI b.1)) (bU n v).length 0 [] ah;rw[dD]at B;simp only[qX]at B;have U:=split_ok (bU n v) ah b.1 G ah;have k:=ae1 (bU n v) (U5 n v).1 (ag4 n v) (oq (bU n v) b.1) (LK _ F) (kR (XA _ _) G) (λf hf=>(Ky.1 hf).2) (.zq v) (.l (aI (qR (bU n v) b.1))) (oq (bU n v) b.1).length 0 {jl with kind:=n} ah (acL n ah);rw[dD]at k;simp only[qX]at k;have r:=YI (bU n v) (oq (bU n v) b.1) {jl with kind:=n} (LK _ F) (acL n ah);have kc:=aak (vJ (bU n v) {jl with kind:=n} (oq (bU n v) b.1)).1 (qR (bU n v) b.1) v r.body r.t.few (LK _ F) (kR (XA _ _) G);have t:(((bU n v).map fM).length:Int)=((bU n v).length:Int):=by rw[iw]
 have u:=oK (oq (bU n v) b.1);have D:(iH {jl with kind:=(n:Int)} []).cells=[.zq (n:Int),.zu 0,.zu 0,.zu 0,.zu 0,.zu 0,.zu 0,.zu 0,.zu 0,.zu 0,.zu 0,.zu 0,.zu 0,.zu 0,.zu 0,.zu 0,.zq 0,.b false,.s [],.s [],.s [],.l [],.l [],.l []]:=rfl;rw[D]at k;simp only[bI,bf]at k;simp only;clear r D F G g3 k8;generalize vJ (bU n v) {jl with kind:=(n:Int)} (oq (bU n v) b.1)=R,qR (bU n v) b.1=O,aI (oq (bU n v) b.1)=W,(oq (bU n v) b.1).length=WL,aI b.1=FG,Ei [] (bU n v)=MP,(bU n v).map fM=SP,tK (bU n v)=TG,((bU n v).length:Int)=L,rJ n=Z at *;by_cases z:R.2=0;rotate_left
 ·rw[aj z]at k;rw[au z];simp only;rw[fn,<-i];generalize aI O=OG at *;clear kc;refine aQ ?_;simp -implicitDefEqProofs(maxSteps:=10000000) [↓Pj,d,g,a,l,m,y,p,o,q,c,A,H,h,P,t,B,S,U,u,k,z]
 rw[au z]at k;rw[aj (λx=>x z)];rw[dS]at k;by_cases E:je R.1 O v=0
 ·rw[aj (λx=>x E)];rw[E]at kc;simp only;generalize aI O=OG at *;clear z E;refine aQ ?_;simp -implicitDefEqProofs(maxSteps:=10000000) [↓Pj,d,g,a,l,m,y,p,o,q,c,A,H,h,P,t,B,S,U,u,k,kM,kc]
 ·rw[au E];simp only;rw[fn,<-i];generalize aI O=OG,je R.1 O v=ck at *;refine aQ ?_;simp -implicitDefEqProofs(maxSteps:=10000000) [↓Pj,d,g,a,l,m,y,p,o,q,c,A,H,h,P,t,B,S,U,u,k,kM,kc,E]
def ae2(l:List fP):∀(fs:List aK)(b:aW),(vJ l b fs).2=0->(vJ l b fs).1.kind=b.kind
 |[],b,_=>rfl
 |f::fs,b,h=>by
  unfold vJ at h⊢;cases c:l.find? (λs=>decide (s.tag=f.tag))with
  |none=>rw[c]at h;exact absurd h aA
  |some s=>
   rw[c]at h;simp only at h⊢;cases d:placeOf s.name with
   |none=>rw[d]at h;exact absurd h aA
   |some p=>
    rw[d]at h;simp only at h⊢;by_cases a:qU f.typ f.num f.txt p=0
    ·rw[au a]at h⊢;rw[ae2 l fs _ h,ajq]
    ·rw[aj a]at h;exact absurd h a
def YG(s:Q0)(v:Int):ru (kH s v).1 (kH s v).2.1:=by
 unfold kH;obtain⟨a,b,-⟩:=af7 (s.drop (aF s).2.1);repeat' split
 all_goals first|exact G8|skip
 have h:=YI (bU (aF s).1 v) (oq (bU (aF s).1 v) (yt (s.drop (aF s).2.1)).1) {jl with kind:=(aF s).1} (LK _ a) (acL (aF s).1 ah);simp only;split
 ·exact G8
 ·split
  ·exact G8
  ·exact⟨h.body,h.d,h.t,LK _ a,kR (XA _ _) b⟩
def avx(a b k:Nat)(h:a<2^k):a |||b*2^k=a+b*2^k:=by rw[Nat.or_comm,<-Nat.shiftLeft_eq,<-Nat.shiftLeft_add_eq_or_of_lt h,KC]
def MJ{a b k m:Nat}(c:m=2^k)(h:a<m)(g:a+b*m<4294967296):bV .or .u32 (a:Int) ((b*m:Nat):Int)=some (.i .u32 ((a+b*m:Nat):Int)):=by
 have d:∀y:Int,IntKind.u32.wrap y=y%4294967296:=λy=>by simp[IntKind.wrap,IntKind.signed,IntKind.bits]
 have e:(BitVec.ofInt 32 (a:Int)).toNat=a:=by rw[tY];omega
 have f:(BitVec.ofInt 32 ((b*m:Nat):Int)).toNat=b*m:=by rw[tY];omega
 show some (GV.i IntKind.u32 (IntKind.u32.wrap ((BitVec.ofInt 32 (a:Int) |||BitVec.ofInt 32 ((b*m:Nat):Int)).toNat:Int)))=_
 rw[acR,e,f,c,avx a b k (by rw[<-c];exact h),<-c,d];congr 2;omega
def Nv{a:IntKind}{b k m B:Nat}(c:∀y:Int,a.wrap y=y%(B:Int))(d:m=2^k)(f:k<=a.bits)(h:b*m<B):jQ .shl a (b:Int) (k:Int)=some (.i a ((b*m:Nat):Int)):=by
 unfold jQ;rw[eX,xO,KE f];simp only;have e:(b:Int)*2^k=((b*m:Nat):Int):=by rw[d];push_cast;rfl
 rw[e,c,Int.emod_eq_of_lt (Kt _) (Int.ofNat_lt.2 h)]
def amU(p:Q0)(N:p.length<=65536):TT.lim 131 [.s p,.s (le4 (iR p))]=some [.b true]:=by
 have F:=YE p ah;have v:=aeU p;unfold le4;generalize iR p=n at *;have h:∀y:Int,IntKind.u32.wrap y=y%((4294967296:Nat):Int):=λy=>by simp[IntKind.wrap,IntKind.signed,IntKind.bits]
 obtain⟨f,i⟩:∃c,n%256=c:=⟨_,rfl⟩
 obtain⟨d,j⟩:∃c,n/256%256=c:=⟨_,rfl⟩
 obtain⟨e,l⟩:∃c,n/65536%256=c:=⟨_,rfl⟩
 obtain⟨g,o⟩:∃c,n/16777216%256=c:=⟨_,rfl⟩
 rw[i,j,l,o];have G:(UInt8.ofNat f).toNat=f:=EP ah;have H:(UInt8.ofNat d).toNat=d:=EP ah;have I:(UInt8.ofNat e).toNat=e:=EP ah;have J:(UInt8.ofNat g).toNat=g:=EP ah;have w:jQ .shl .u32 (d:Int) 8=some (.i .u32 ((d*256:Nat):Int)):=Nv (k:=8) h rfl aX ah;have x:jQ .shl .u32 (e:Int) 16=some (.i .u32 ((e*65536:Nat):Int)):=Nv (k:=16) h rfl aX ah;have z:jQ .shl .u32 (g:Int) 24=some (.i .u32 ((g*16777216:Nat):Int)):=Nv (k:=24) h rfl aX ah;have o1:=MJ (a:=f) (b:=d) (k:=8) (m:=256) rfl ah ah;have t:=MJ (a:=f+d*256) (b:=e) (k:=16) (m:=65536) rfl ah ah;have u:=MJ (a:=f+d*256+e*65536) (b:=g) (k:=24) (m:=16777216) rfl ah ah;have A:f+d*256+e*65536+g*16777216=n:=ah;rw[A]at u;have w0:IntKind.u32.wrap (f:Int)=f:=by rw[h];omega
 have w1:IntKind.u32.wrap (d:Int)=d:=by rw[h];omega
 have L:IntKind.u32.wrap (e:Int)=e:=by rw[h];omega
 have M:IntKind.u32.wrap (g:Int)=g:=by rw[h];omega
 clear i j l o A v;obtain⟨O,B⟩:∃q:Int,((g*16777216:Nat):Int)=q:=⟨_,rfl⟩
 obtain⟨P,D⟩:∃q:Int,((f+d*256+e*65536:Nat):Int)=q:=⟨_,rfl⟩
 obtain⟨R,r⟩:∃q:Int,((e*65536:Nat):Int)=q:=⟨_,rfl⟩
 obtain⟨S,E⟩:∃q:Int,((f+d*256:Nat):Int)=q:=⟨_,rfl⟩
 obtain⟨T,s⟩:∃q:Int,((d*256:Nat):Int)=q:=⟨_,rfl⟩
 rw[B]at z u;rw[D]at t u;rw[r]at x t;rw[E]at o1 t;rw[s]at w o1;clear B D r E s;refine aQ ?_;simp -implicitDefEqProofs[F,G,H,I,J,w0,w1,L,M,w,x,z,o1,t,u]
def afZ(n:Nat)(f:n<=65536):TT.lim 132 [.zq n]=some [.zq ((2+fJ n+n+4:Nat):Int)]:=by have k:=Nw n ah;have g:=NP 3 n ah ah;have a:¬((n:Int)<0):=ah;have b:¬(65536<(n:Int)):=ah;have w:=jD ((n:Int));have w1:=bD (2+(fJ n:Int));have c:=bD (2+(fJ n:Int)+n);have d:=bD (2+(fJ n:Int)+n+4);have e:((2+fJ n+n+4:Nat):Int)=2+(fJ n:Int)+n+4:=ah;rw[e];refine aQ ?_;simp -implicitDefEqProofs[a,b,k,w,w1,c,d]
def Y3(p:Q0):(fG p).length=2+fJ p.length+p.length+4:=by unfold fG fJ;simp -implicitDefEqProofs[le4];omega
def aud(s:Q0):TT.lim 127 [.s ([81,70]++s)]=some [.zq 0]/\TT.lim 127 [.s []]=some [.zq 1]/\TT.lim 127 [.s [81]]=some [.zq 1]:=by
 have w1:=bD ((1:Int));have d:=bD ((2:Int));have e:¬(0:Int)=(s.length:Int)+1+1:=ah;have f:¬(1:Int)=(s.length:Int)+1+1:=ah;have a:TT.lim 128 [.s ([81,70]++s),.zq 2]=some [.zq 1]:=by refine aB ?_;simp
 have b:TT.lim 128 [.s ([81,70]++s),.zq 1]=some [.zq 1]:=by refine aB ?_;simp at a;simp -implicitDefEqProofs[f,d,a]
 have c:TT.lim 128 [.s ([81,70]++s),.zq 0]=some [.zq 1]:=by refine aB ?_;simp at b;simp -implicitDefEqProofs[e,w1,b]
 have g:TT.lim 128 [.s [],.zq 0]=some [.zq 0,.zq 1]:=by refine aB ?_;simp
 have h:TT.lim 128 [.s [81],.zq 1]=some [.zq 0,.zq 1]:=by refine aB ?_;simp
 have i:TT.lim 128 [.s [81],.zq 0]=some [.zq 0,.zq 1]:=by refine aB ?_;simp -implicitDefEqProofs[w1,h]
 refine⟨?_,?_,?_⟩
 ·refine aQ ?_;simp at c;simp -implicitDefEqProofs[c]
 ·refine aQ ?_;simp -implicitDefEqProofs[g]
 ·refine aQ ?_;simp -implicitDefEqProofs[i]
def avX{p:Q0}(h:p.length<=65536):TT.lim 126 [.s (fG p)]=some [.s p,.zq ((fG p).length:Nat),.zq 0]:=by
 have b:=amU p h;have c:=afZ p.length h;have d:=(aud (bg p.length++(p++le4 (iR p)))).1;have j:=NP 3 p.length ah ah;have e:(p++le4 (iR p)).length=p.length+4:=by simp[le4]
 have i:(bg p.length++(p++le4 (iR p))).length=fJ p.length+(p.length+4):=by rw[gu,e];rfl
 have f:=uM (bg p.length++(p++le4 (iR p))) ah;rw[aku _ _ ah]at f;have k:fG p=81::70::(bg p.length++(p++le4 (iR p))):=by unfold fG;simp
 have l:List.take p.length (p++le4 (iR p))=p:=List.take_left;have m:List.drop p.length (List.take ((p.length:Int)+4).toNat (p++le4 (iR p)))=le4 (iR p):=by have:((p.length:Int)+4).toNat=p.length+4:=ah;rw[this,kQ ah,List.drop_left]
 rw[Y3,k];have n:List.drop (2+(fJ p.length:Int)).toNat (List.take (((bg p.length++(p++le4 (iR p))).length:Int)+1+1).toNat (81::70::(bg p.length++(p++le4 (iR p)))))=p++le4 (iR p):=by have g:(((bg p.length++(p++le4 (iR p))).length:Int)+1+1).toNat=(bg p.length++(p++le4 (iR p))).length+2:=ah;have o:(2+(fJ p.length:Int)).toNat=fJ p.length+2:=ah;rw[g,o,kQ aA];exact List.drop_left
 have q:List.drop 2 (List.take (((bg p.length++(p++le4 (iR p))).length:Int)+1+1).toNat (81::70::(bg p.length++(p++le4 (iR p)))))=bg p.length++(p++le4 (iR p)):=by have g:(((bg p.length++(p++le4 (iR p))).length:Int)+1+1).toNat=(bg p.length++(p++le4 (iR p))).length+2:=ah;rw[g,kQ aA];rfl
 change TT.lim 129 [.s (bg p.length++(p++le4 (iR p)))]=some [.zu (p.length:Nat),.zq (fJ p.length:Nat),.zq 0]at f
 have d:TT.lim 127 [.s (81::70::(bg p.length++(p++le4 (iR p))))]=some [.zq 0]:=d;generalize p++le4 (iR p)=a at *;generalize le4 (iR p)=B,bg p.length++a=T at *;have r:¬(65536:Int)<(p.length:Int):=ah;generalize((2+fJ p.length+p.length+4:Nat):Int)=D at *;generalize fJ p.length=V at *;have w1:=bD (2+(V:Int));have s:=bD ((p.length:Int));have t:=bD ((p.length:Int)+4);have u:(2:Int)<=(T.length:Int)+1+1:=ah;have v:2+(V:Int)<=(T.length:Int)+1+1:=ah;have w:(0:Int)<=2+(V:Int):=ah;have x:¬(a.length:Int)<(p.length:Int)+4:=ah;have y:(p.length:Int)<=(a.length:Int):=ah;have z:(p.length:Int)+4<=(a.length:Int):=ah;have A:(p.length:Int)<=(p.length:Int)+4:=ah;refine aQ ?_;simp -implicitDefEqProofs[d,f,r,w1,s,t,u,v,w,q,n,x,y,z,A,l,m,b,c]
