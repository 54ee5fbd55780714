/- What the trees compute: plain laws. -/
import Derived.Test.YthchhlenbkefnaaGreatDoorKUe5
set_option linter.all false
namespace Go.Proofs.YthchhlenbkefnaaGreatDoor
open Go Go.aN
set_option maxRecDepth 100000
namespace U
def jr(rec:Q0->List aI×Int)(w:Nat)(ahead:Nat)(s:Q0):aI×Nat×Int:=
 if(aB s).2.2≠0 then(.mk 0 0 0 [] [],0,(aB s).2.2)
 else if(aB s).1/4=0 then(.mk 0 0 0 [] [],0,18)
 else if 4294967296<(aB s).1/4 then(.mk 0 0 0 [] [],0,18)
 else if 3<=(aB s).1%4 then(.mk 0 0 0 [] [],0,8)
 else if(aB s).1/4<=ahead then(.mk 0 0 0 [] [],0,7)
 else
  let r:=s.drop (aB s).2.1
  let k:=(aB s).2.1+(aB r).2.1
  if(aB r).2.2≠0 then(.mk 0 0 0 [] [],0,(aB r).2.2)
  else if(aB s).1%4=0 then(.mk ((aB s).1/4:Nat) 0 (aB r).1 [] [],k,0)
  else if s.length-k<(aB r).1 then(.mk 0 0 0 [] [],0,1)
  else if(aB s).1%4=1 then(.mk ((aB s).1/4:Nat) 1 0 ((s.drop k).take (aB r).1) [],k+(aB r).1,0)
  else if 8<=w then(.mk 0 0 0 [] [],0,9)
  else if(rec ((s.drop k).take (aB r).1)).2≠0 then(.mk 0 0 0 [] [],0,(rec ((s.drop k).take (aB r).1)).2)
  else(.mk ((aB s).1/4:Nat) 2 0 [] (rec ((s.drop k).take (aB r).1)).1,k+(aB r).1,0)
def fA:Nat->Nat->Nat->List UInt8->List aI×Int
 |0,_,_,_=>([],0)
 |N+1,w,ahead,s=>if s=[]then([],0)else
  if(jr (λt=>fA N (w+1) 0 t) w ahead s).2.2≠0 then([],(jr (λt=>fA N (w+1) 0 t) w ahead s).2.2)
  else if(fA N w ((aB s).1/4) (s.drop (jr (λt=>fA N (w+1) 0 t) w ahead s).2.1)).2≠0 then([],(fA N w ((aB s).1/4) (s.drop (jr (λt=>fA N (w+1) 0 t) w ahead s).2.1)).2)
  else((jr (λt=>fA N (w+1) 0 t) w ahead s).1::(fA N w ((aB s).1/4) (s.drop (jr (λt=>fA N (w+1) 0 t) w ahead s).2.1)).1,0)
def ane(n:Nat)(d:n<18446744073709551616):bV .and .u64 (n:Int) 3=some (.zu ((n:Int)%4)):=by
 have a:∀y:Int,IntKind.u64.wrap y=y%18446744073709551616:=λy=>by simp[IntKind.wrap,IntKind.signed,IntKind.bits]
 have e:n &&& 3=n%4:=aen n 2;have b:(BitVec.ofInt 64 (n:Int)).toNat=n:=by rw[vw];omega
 have c:(BitVec.ofInt 64 3).toNat=3:=by decide
 show some (GV.i IntKind.u64 (IntKind.u64.wrap ((BitVec.ofInt 64 (n:Int) &&& BitVec.ofInt 64 3).toNat:Int)))=_
 rw[Yn,b,c,e,a];congr 2;omega
def aDK(n:Nat):kD .shr .u64 (n:Int) 2=some (.zu ((n:Int)/4)):=by
 show some (GV.i IntKind.u64 ((n:Int).fdiv (2^2)))=_
 rw[FN _ (by decide)];rfl
def aAE(t y w:GV)(s:Q0)(a:Nat)(h:a<=s.length)(b:s.length<=100000000)(n x:GV):
 TT.lim 290 [t,y,w,.s s,.zq a,n,x]=some [.zq 0,.zq (aB (s.drop a)).2.2,.zu ((aB (s.drop a)).1:Nat),.s s,.zq ((a+(aB (s.drop a)).2.1:Nat):Int)]:=by
 have k:=DI s a h (by omega);refine au ?_;simp[k]
def aAG(t y w:GV)(s:Q0)(b:Nat)(h:b<=s.length)(E:s.length<=100000000)(n:GV):
 ∃a,TT.lim 291 [t,y,w,.s s,.zq b,n,.s []]=some
  (if(aB (s.drop b)).2.2≠0 then[.zq 0,.zq (aB (s.drop b)).2.2,.s [],.s s,.zq (a:Nat)]
  else if s.length-(b+(aB (s.drop b)).2.1)<(aB (s.drop b)).1 then[.zq 0,.zq 1,.s [],.s s,.zq (a:Nat)]
  else[.zq 0,.zq 0,.s ((s.drop (b+(aB (s.drop b)).2.1)).take (aB (s.drop b)).1),.s s,.zq ((b+(aB (s.drop b)).2.1+(aB (s.drop b)).1:Nat):Int)]):=by
 have k:=DI s b h (by omega);by_cases d:(aB (s.drop b)).2.2=0;rotate_left
 ·refine⟨b+(aB (s.drop b)).2.1,?_⟩;rw[aj d];generalize(aB (s.drop b)).2.2=e at *;refine au ?_;simp[k,d]
 have i:=lF d;have q:=i.len;have r:=i.lt;rw[fH]at q;rw[d]at k;refine⟨b+(aB (s.drop b)).2.1,?_⟩;rw[ah (λx=>x d)];clear d;generalize(aB (s.drop b)).1=m,(aB (s.drop b)).2.1=j at *;have w1:=bF ((s.length:Int)-((b+j:Nat):Int));have l:=jA ((s.length:Int)-((b+j:Nat):Int));by_cases c:s.length-(b+j)<m
 ·have f:(s.length:Int)-((b+j:Nat):Int)<(m:Int):=by omega
  rw[aj c];generalize((b+j:Nat):Int)=A at *;refine au ?_;simp[k,w1,l,f]
 ·have f:¬((s.length:Int)-((b+j:Nat):Int)<(m:Int)):=by omega
  rw[ah c];have u:=bF ((m:Int));have o:=bF (((b+j:Nat):Int)+(m:Int));have p:((b+j:Nat):Int)+(m:Int)=((b+j+m:Nat):Int):=by omega
  rw[p]at o;have v:(0:Int)<=((b+j:Nat):Int)/\((b+j:Nat):Int)<=((b+j+m:Nat):Int)/\((b+j+m:Nat):Int)<=s.length:=by omega
  have g:(s.take (b+j+m)).drop (b+j)=(s.drop (b+j)).take m:=by rw[Lp,show b+j+m-(b+j)=m by omega]
  have z:(((b+j:Nat):Int)).toNat=b+j:=by omega
  have D:(((b+j+m:Nat):Int)).toNat=b+j+m:=by omega
  generalize F:((b+j:Nat):Int)=A at *;generalize G:((b+j+m:Nat):Int)=B at *;refine au ?_;simp[k,w1,l,f,u,p,o,v,z,D,g]
def O9(N:Nat):Prop:=∀(w ahead c:Nat)(s:Q0),c<=s.length->s.length<=100000000->(s.drop c).length<N->w<=8->ahead<18446744073709551616->∃a b,TT.lim 286 [.s s,.zq (w:Nat),.zu (ahead:Nat),.zq (c:Nat)]=some [.zq 0,.l (aG (fA N w ahead (s.drop c)).1),.zq (fA N w ahead (s.drop c)).2,.zu (a:Nat),.s s,.zq (b:Nat)]
def aAB{N:Nat}(G:O9 N)(t y:GV)(w:Nat)(Q:w<=8)(s:Q0)(d:Nat)(h:d<=s.length)(S:s.length<=100000000)(q:(s.drop d).length<=N)(n x:GV):
 ∃a,TT.lim 292 [t,y,.zq (w:Nat),.s s,.zq d,n,x]=some
  (if(aB (s.drop d)).2.2≠0 then[.zq 0,.zq (aB (s.drop d)).2.2,.l [],.s s,.zq (a:Nat)]
  else if s.length-(d+(aB (s.drop d)).2.1)<(aB (s.drop d)).1 then[.zq 0,.zq 1,.l [],.s s,.zq (a:Nat)]
  else if 8<=w then[.zq 0,.zq 9,.l [],.s s,.zq (a:Nat)]
  else[.zq 0,.zq (fA N (w+1) 0 ((s.drop (d+(aB (s.drop d)).2.1)).take (aB (s.drop d)).1)).2,.l (aG (fA N (w+1) 0 ((s.drop (d+(aB (s.drop d)).2.1)).take (aB (s.drop d)).1)).1),.s s,.zq ((d+(aB (s.drop d)).2.1+(aB (s.drop d)).1:Nat):Int)]):=by
 have k:=DI s d h (by omega);by_cases f:(aB (s.drop d)).2.2=0;rotate_left
 ·refine⟨d+(aB (s.drop d)).2.1,?_⟩;rw[aj f];generalize(aB (s.drop d)).2.2=e at *;refine au ?_;simp[k,f]
 have r:=lF f;have H:=r.len;have I:=r.lt;have V:=r.pos;rw[fH]at H q;rw[f]at k;by_cases c:s.length-(d+(aB (s.drop d)).2.1)<(aB (s.drop d)).1
 ·refine⟨d+(aB (s.drop d)).2.1,?_⟩;rw[ah (λx=>x f),aj c];clear f;generalize(aB (s.drop d)).1=m,(aB (s.drop d)).2.1=j at *;have w1:=bF ((s.length:Int)-((d+j:Nat):Int));have i:=jA ((s.length:Int)-((d+j:Nat):Int));have l:(s.length:Int)-((d+j:Nat):Int)<(m:Int):=by omega
  generalize((d+j:Nat):Int)=A at *;refine au ?_;simp[k,w1,i,l]
 by_cases E:8<=w
 ·refine⟨d+(aB (s.drop d)).2.1+(aB (s.drop d)).1,?_⟩;rw[ah (λx=>x f),ah c,aj E];clear f;generalize(aB (s.drop d)).1=m,(aB (s.drop d)).2.1=j at *;have w1:=bF ((s.length:Int)-((d+j:Nat):Int));have i:=jA ((s.length:Int)-((d+j:Nat):Int));have l:¬((s.length:Int)-((d+j:Nat):Int)<(m:Int)):=by omega
  have u:=bF ((m:Int));have o:=bF (((d+j:Nat):Int)+(m:Int));have p:((d+j:Nat):Int)+(m:Int)=((d+j+m:Nat):Int):=by omega
  rw[p]at o;have v:(0:Int)<=((d+j:Nat):Int)/\((d+j:Nat):Int)<=((d+j+m:Nat):Int)/\((d+j+m:Nat):Int)<=s.length:=by omega
  have z:(8:Int)<=(w:Int):=by omega
  generalize J:((d+j:Nat):Int)=A at *;generalize L:((d+j+m:Nat):Int)=B at *;refine au ?_;simp[k,w1,i,l,u,p,o,v,z]
 ·refine⟨0,?_⟩;rw[ah (λx=>x f),ah c,ah E];clear f;generalize(aB (s.drop d)).1=m,(aB (s.drop d)).2.1=j at *;have g:=G (w+1) 0 0 ((s.drop (d+j)).take m) (by omega) (by rw[lN,fH];omega) (by rw[dN,lN,fH];omega) (by omega) (by omega);obtain⟨a,b,g⟩:=g;rw[dN]at g;have w1:=bF ((s.length:Int)-((d+j:Nat):Int));have i:=jA ((s.length:Int)-((d+j:Nat):Int));have l:¬((s.length:Int)-((d+j:Nat):Int)<(m:Int)):=by omega
  have u:=bF ((m:Int));have o:=bF (((d+j:Nat):Int)+(m:Int));have p:((d+j:Nat):Int)+(m:Int)=((d+j+m:Nat):Int):=by omega
  rw[p]at o;have v:(0:Int)<=((d+j:Nat):Int)/\((d+j:Nat):Int)<=((d+j+m:Nat):Int)/\((d+j+m:Nat):Int)<=s.length:=by omega
  have D:(s.take (d+j+m)).drop (d+j)=(s.drop (d+j)).take m:=by rw[Lp,show d+j+m-(d+j)=m by omega]
  have M:(((d+j:Nat):Int)).toNat=d+j:=by omega
  have O:(((d+j+m:Nat):Int)).toNat=d+j+m:=by omega
  have z:¬(8:Int)<=(w:Int):=by omega
  have P:=bF ((w:Int)+1);have F:(w:Int)+1=((w+1:Nat):Int):=by omega
  simp only[sW]at g;rw[<-F]at g;generalize(s.drop (d+j)).take m=T at *;generalize fA N (w+1) 0 T=R at *;generalize J:((d+j:Nat):Int)=A at *;generalize L:((d+j+m:Nat):Int)=B at *;generalize X:(w:Int)=W at *;clear F;refine au ?_;simp[k,w1,i,l,u,p,o,v,M,O,D,z,P,g]
def aAD{N:Nat}(hN:O9 N)(w ahead:Nat)(hw:w<=8)(ha:ahead<18446744073709551616)(s:Q0)(d:Nat)(h:d<=s.length)(V:s.length<=100000000)(W:(s.drop d).length<=N+1):
 ∃a b:Nat,TT.lim 288 [.zq (w:Nat),.zu (ahead:Nat),.s s,.zq d]=some (.zq 0::((qC (jr (λt=>fA N (w+1) 0 t) w ahead (s.drop d)).1).cells++[.zq (jr (λt=>fA N (w+1) 0 t) w ahead (s.drop d)).2.2,.zu (a:Nat),.s s,.zq (b:Nat)]))/\
  ((jr (λt=>fA N (w+1) 0 t) w ahead (s.drop d)).2.2=0->a=(aB (s.drop d)).1/4/\b=d+(jr (λt=>fA N (w+1) 0 t) w ahead (s.drop d)).2.1/\1<=(jr (λt=>fA N (w+1) 0 t) w ahead (s.drop d)).2.1/\b<=s.length):=by
 have k:=DI s d h (by omega);have fn:aG []=[]:=by simp only[aG]
 have v:(qC (.mk 0 0 0 [] [])).cells=[.zu 0,.zq 0,.zu 0,.s [],.l []]:=by rw[MZ,fn]
 unfold jr;by_cases F:(aB (s.drop d)).2.2=0;rotate_left
 ·refine⟨ahead,d+(aB (s.drop d)).2.1,?_,?_⟩
  ·simp only[aj F];rw[v];generalize(aB (s.drop d)).2.2=e at *;refine au ?_;simp[k,F]
  ·simp only[aj F];exact λx=>absurd x F
 have P:=lF F;have hl:=P.len;have X:=P.lt;have hp:=P.pos;rw[fH]at hl W;have J:(s.drop d).drop (aB (s.drop d)).2.1=s.drop (d+(aB (s.drop d)).2.1):=by rw[rJ]
 rw[J];have L:(s.drop d).length=s.length-d:=fH;rw[L];rw[F]at k;simp only[ah (λx=>x F:¬(aB (s.drop d)).2.2≠0)];have M:∀Y:Nat,(s.drop d).drop ((aB (s.drop d)).2.1+Y)=s.drop (d+(aB (s.drop d)).2.1+Y):=λY=>by rw[rJ,jL]
 rw[M];clear F P J L M;generalize(aB (s.drop d)).1=n,(aB (s.drop d)).2.1=j at *;have S:=aDK n;have A:=ane n X;have o:=bF ((n:Int)%4);by_cases Z:n/4=0
 ·refine⟨ahead,d+j,?_,?_⟩
  ·simp only[aj Z];rw[v];have f:(n:Int)/4=0:=by omega
   generalize(n:Int)/4=q at *;refine au ?_;simp[k,S,A,o,f]
  ·simp only[aj Z];exact λx=>absurd x (by decide)
 have f:¬(n:Int)/4=0:=by omega
 simp only[ah Z];by_cases c2:4294967296<n/4
 ·refine⟨ahead,d+j,?_,?_⟩
  ·simp only[aj c2];rw[v];have g:4294967296<(n:Int)/4:=by omega
   generalize(n:Int)/4=q at *;refine au ?_;simp[k,S,A,o,f,g]
  ·simp only[aj c2];exact λx=>absurd x (by decide)
 have g:¬4294967296<(n:Int)/4:=by omega
 simp only[ah c2];by_cases c3:3<=n%4
 ·refine⟨ahead,d+j,?_,?_⟩
  ·simp only[aj c3];rw[v];have G:3<=(n:Int)%4:=by omega
   generalize(n:Int)/4=q,(n:Int)%4=y at *;refine au ?_;simp[k,S,A,o,f,g,G]
  ·simp only[aj c3];exact λx=>absurd x (by decide)
 have G:¬3<=(n:Int)%4:=by omega
 simp only[ah c3];by_cases c4:n/4<=ahead
 ·refine⟨ahead,d+j,?_,?_⟩
  ·simp only[aj c4];rw[v];have z:(n:Int)/4<=(ahead:Int):=by omega
   generalize(n:Int)/4=q,(n:Int)%4=y,(ahead:Int)=D at *;refine au ?_;simp[k,S,A,o,f,g,G,z]
  ·simp only[aj c4];exact λx=>absurd x (by decide)
 have z:¬(n:Int)/4<=(ahead:Int):=by omega
 simp only[ah c4];have E:((n/4:Nat):Int)=(n:Int)/4:=by omega
 have hj:d+j<=s.length:=by omega
 rcases(show n%4=0\/n%4=1\/n%4=2 by omega)with H|y1|y2
 ·have O:(n:Int)%4=0:=by omega
  have l:=aAE (.zu ((n:Int)/4)) (.zq 0) (.zq (w:Nat)) s (d+j) hj V (.zu 0) (.s []);rw[O]at A o;by_cases i:(aB (s.drop (d+j))).2.2=0
  ·have p:=lF i;have r:=p.len;rw[fH]at r;refine⟨n/4,d+j+(aB (s.drop (d+j))).2.1,?_,?_⟩
   ·simp only[ah (λx=>x i:¬(aB (s.drop (d+j))).2.2≠0),aj H];rw[MZ,fn,E];rw[i]at l;clear p r i;generalize(aB (s.drop (d+j))).1=m,((d+j+(aB (s.drop (d+j))).2.1:Nat):Int)=B,((d+j:Nat):Int)=AT,(n:Int)/4=q,(ahead:Int)=D at *;refine au ?_;simp[k,S,A,o,f,g,z,l]
   ·simp only[ah (λx=>x i:¬(aB (s.drop (d+j))).2.2≠0),aj H];refine λ_=>⟨?_,?_,?_,?_⟩<;>first|trivial|rfl|omega
  ·refine⟨n/4,d+j+(aB (s.drop (d+j))).2.1,?_,?_⟩
   ·simp only[aj i];rw[v,E];generalize(aB (s.drop (d+j))).1=m,((d+j+(aB (s.drop (d+j))).2.1:Nat):Int)=B,(aB (s.drop (d+j))).2.2=e,((d+j:Nat):Int)=AT,(n:Int)/4=q,(ahead:Int)=D at *;refine au ?_;simp[k,S,A,o,f,g,z,l,i]
   ·simp only[aj i];exact λx=>absurd x i
 ·have O:(n:Int)%4=1:=by omega
  have H:¬n%4=0:=by omega
  obtain⟨a,l⟩:=aAG (.zu ((n:Int)/4)) (.zq 1) (.zq (w:Nat)) s (d+j) hj V (.zu 0);rw[O]at A o;have u:s.length-d-(j+(aB (s.drop (d+j))).2.1)=s.length-(d+j+(aB (s.drop (d+j))).2.1):=by omega
  by_cases i:(aB (s.drop (d+j))).2.2=0
  ·have p:=lF i;have r:=p.len;rw[fH]at r;rw[ah (λx=>x i)]at l;simp only[ah (λx=>x i:¬(aB (s.drop (d+j))).2.2≠0),ah H];rw[u];by_cases c:s.length-(d+j+(aB (s.drop (d+j))).2.1)<(aB (s.drop (d+j))).1
   ·rw[aj c]at l;simp only[aj c];refine⟨n/4,a,?_,λx=>absurd x (by decide)⟩;rw[v,E];generalize((d+j:Nat):Int)=AT,(n:Int)/4=q,(ahead:Int)=D at *;refine au ?_;simp[k,S,A,o,f,g,z,l]
   ·rw[ah c]at l;simp only[ah c,aj y1];refine⟨n/4,d+j+(aB (s.drop (d+j))).2.1+(aB (s.drop (d+j))).1,?_,λ_=>⟨rfl,by omega,by omega,by omega⟩⟩;rw[MZ,fn,E];generalize(s.drop (d+j+(aB (s.drop (d+j))).2.1)).take (aB (s.drop (d+j))).1=T,((d+j+(aB (s.drop (d+j))).2.1+(aB (s.drop (d+j))).1:Nat):Int)=B,((d+j:Nat):Int)=AT,(n:Int)/4=q,(ahead:Int)=D at *;refine au ?_;simp[k,S,A,o,f,g,z,l]
  ·rw[aj i]at l;simp only[aj i];refine⟨n/4,a,?_,λx=>absurd x i⟩;rw[v,E];generalize(aB (s.drop (d+j))).2.2=e,((d+j:Nat):Int)=AT,(n:Int)/4=q,(ahead:Int)=D at *;refine au ?_;simp[k,S,A,o,f,g,z,l,i]
 ·have O:(n:Int)%4=2:=by omega
  have H:¬n%4=0:=by omega
  have y1:¬n%4=1:=by omega
  obtain⟨a,l⟩:=aAB hN (.zu ((n:Int)/4)) (.zq 2) w hw s (d+j) hj V (by rw[fH];omega) (.zu 0) (.s []);rw[O]at A o;have u:s.length-d-(j+(aB (s.drop (d+j))).2.1)=s.length-(d+j+(aB (s.drop (d+j))).2.1):=by omega
  by_cases i:(aB (s.drop (d+j))).2.2=0
  ·have p:=lF i;have r:=p.len;rw[fH]at r;rw[ah (λx=>x i)]at l;simp only[ah (λx=>x i:¬(aB (s.drop (d+j))).2.2≠0),ah H];rw[u];by_cases c:s.length-(d+j+(aB (s.drop (d+j))).2.1)<(aB (s.drop (d+j))).1
   ·rw[aj c]at l;simp only[aj c];refine⟨n/4,a,?_,λx=>absurd x (by decide)⟩;rw[v,E];generalize((d+j:Nat):Int)=AT,(n:Int)/4=q,(ahead:Int)=D at *;refine au ?_;simp[k,S,A,o,f,g,z,l]
   ·rw[ah c]at l;simp only[ah c,ah y1];by_cases Q:8<=w
    ·rw[aj Q]at l;simp only[aj Q];refine⟨n/4,a,?_,λx=>absurd x (by decide)⟩;rw[v,E];generalize((d+j:Nat):Int)=AT,(n:Int)/4=q,(ahead:Int)=D at *;refine au ?_;simp[k,S,A,o,f,g,z,l]
    ·rw[ah Q]at l;simp only[ah Q];generalize(s.drop (d+j+(aB (s.drop (d+j))).2.1)).take (aB (s.drop (d+j))).1=T at *;by_cases I:(fA N (w+1) 0 T).2=0
     ·simp only[ah (λx=>x I:¬(fA N (w+1) 0 T).2≠0)];refine⟨n/4,d+j+(aB (s.drop (d+j))).2.1+(aB (s.drop (d+j))).1,?_,λ_=>⟨rfl,by omega,by omega,by omega⟩⟩;rw[MZ,E];rw[I]at l;clear I c i p r u;generalize fA N (w+1) 0 T=R,((d+j+(aB (s.drop (d+j))).2.1+(aB (s.drop (d+j))).1:Nat):Int)=B,((d+j:Nat):Int)=AT,(n:Int)/4=q,(ahead:Int)=D at *;refine au ?_;simp[k,S,A,o,f,g,z,l]
     ·simp only[aj I];refine⟨n/4,d+j+(aB (s.drop (d+j))).2.1+(aB (s.drop (d+j))).1,?_,λx=>absurd x I⟩;rw[v,E];clear c i p r u;generalize fA N (w+1) 0 T=R,((d+j+(aB (s.drop (d+j))).2.1+(aB (s.drop (d+j))).1:Nat):Int)=B,((d+j:Nat):Int)=AT,(n:Int)/4=q,(ahead:Int)=D at *;refine au ?_;simp[k,S,A,o,f,g,z,l,I]
  ·rw[aj i]at l;simp only[aj i];refine⟨n/4,a,?_,λx=>absurd x i⟩;rw[v,E];generalize(aB (s.drop (d+j))).2.2=e,((d+j:Nat):Int)=AT,(n:Int)/4=q,(ahead:Int)=D at *;refine au ?_;simp[k,S,A,o,f,g,z,l,i]
def Tv(N:Nat):Prop:=∀(w:Nat)(d:List aI)(ahead c:Nat)(s:Q0),w<=8->d.length+(s.drop c).length<=200000000->c<=s.length->s.length<=100000000->(s.drop c).length<N->ahead<18446744073709551616->
    ∃a b:Nat,TT.lim 287 [.l (aG d),.zq (w:Nat),.zu (ahead:Nat),.s s,.zq (c:Nat)]=some (if(fA N w ahead (s.drop c)).2=0 then[.zq 1,.l (aG (d++(fA N w ahead (s.drop c)).1)),.zu (a:Nat),.s s,.zq (b:Nat)]else[.zq 0,.zq (fA N w ahead (s.drop c)).2,.zu (a:Nat),.s s,.zq (b:Nat)])
def aAz:∀(N w ahead:Nat)(s:Q0),(fA N w ahead s).2≠0->(fA N w ahead s).1=[]
 |0,_,_,_,_=>rfl
 |N+1,w,ahead,s,h=>by
  unfold fA at h⊢;by_cases h1:s=[]
  ·rw[aj h1]
  rw[ah h1]at h⊢;by_cases a:(jr (λt=>fA N (w+1) 0 t) w ahead s).2.2≠0
  ·rw[aj a]
  rw[ah a]at h⊢;by_cases b:(fA N w ((aB s).1/4) (s.drop (jr (λt=>fA N (w+1) 0 t) w ahead s).2.1)).2≠0
  ·rw[aj b]
  ·rw[ah b]at h;exact absurd rfl h
def aAC{N:Nat}(Y:O9 N)(Z:Tv N):Tv (N+1):=by
 intro w g ahead d s Q L h S hl ha;have p:(s.drop d).length=s.length-d:=fH;have J:=bF ((s.length:Int)-(d:Int));unfold fA;by_cases u:s.drop d=[]
 ·have aa:s.length-d=0:=by rw[<-p,u];rfl
  have v:¬d<s.length:=by omega
  refine⟨ahead,d,?_⟩;rw[aj u];simp only[if_true,qp];refine au ?_;simp[J,v]
 have M:0<s.length-d:=by rw[<-p];exact Ls.2 u
 have v:d<s.length:=by omega
 simp only[ah u];obtain⟨a,b,l,z⟩:=aAD Y w ahead Q ha s d h S (by omega);have la:=pR g;by_cases j:(jr (λt=>fA N (w+1) 0 t) w ahead (s.drop d)).2.2=0;rotate_left
 ·refine⟨a,b,?_⟩;rw[aj j];generalize jr (λt=>fA N (w+1) 0 t) w ahead (s.drop d)=o at *;obtain⟨f,B,e⟩:=o;obtain⟨t,y,n,i,k⟩:=f;simp only at *;rw[ah j];rw[MZ]at l;simp only[bg,aX]at l;refine au ?_;simp[J,v,l,j]
 obtain⟨T,V,hu,W⟩:=z j;have D:(aB (s.drop d)).2.2=0:=by
  by_cases c:(aB (s.drop d)).2.2=0
  ·exact c
  ·exfalso;unfold jr at j;rw[aj c]at j;exact c j
 have O:=(lF D).lt;simp only[ah (λx=>x j:¬(jr (λt=>fA N (w+1) 0 t) w ahead (s.drop d)).2.2≠0)];rw[j]at l;have F:(s.drop d).drop (jr (λt=>fA N (w+1) 0 t) w ahead (s.drop d)).2.1=s.drop b:=by rw[rJ,<-V]
 rw[F];rw[<-T];clear F j z;have P:(s.drop b).length=s.length-b:=fH;obtain⟨a2,b2,q⟩:=Z w (g++[(jr (λt=>fA N (w+1) 0 t) w ahead (s.drop d)).1]) a b s Q (by rw[eP,FT];omega) W S (by omega) (by omega);refine⟨a2,b2,?_⟩;generalize jr (λt=>fA N (w+1) 0 t) w ahead (s.drop d)=o at *;obtain⟨f,B,e⟩:=o;obtain⟨t,y,n,i,k⟩:=f;simp only at *;rw[MZ]at l;simp only[bg,aX]at l;have G:aG (g++[.mk t y n i k])=aG g++[sD t y n i k]:=by rw[Vp];simp only[aG,qC];rfl
 have H:(sD t y n i k).fP 5=true:=rfl;have I:GV.g [.zu t,.zq y,.zu n,.s i,.l (aG k)]=sD t y n i k:=rfl;have X:2*((aG g).length+1)*64<=281474976710656/\(aG g).length+1<=281474976710656:=by omega
 rw[G]at q;clear G T V O D hu W p P L M u la;by_cases r:(fA N w a (s.drop b)).2=0
 ·rw[aj r]at q;simp only[ah (λx=>x r:¬(fA N w a (s.drop b)).2≠0)];simp only[if_true];have m:g++[aI.mk t y n i k]++(fA N w a (s.drop b)).1=g++(aI.mk t y n i k::(fA N w a (s.drop b)).1):=by simp
  rw[m]at q;clear m r;generalize aG (g++(aI.mk t y n i k::(fA N w a (s.drop b)).1))=R,sD t y n i k=E,aG g=A at *;refine au ?_;simp[J,v,l,I,H,X,q]
 ·rw[ah r]at q;simp only[aj r];rw[ah r];generalize fA N w a (s.drop b)=RR,sD t y n i k=E,aG g=A at *;refine au ?_;simp[J,v,l,I,H,X,q]
def aAF{N:Nat}(g:Tv N):O9 N:=by
 intro w ahead c s h i j k l;have m:(s.drop c).length=s.length-c:=fH;obtain⟨a,b,d⟩:=g w [] ahead c s k (by simp only[kY];omega) h i j l;have fn:aG []=[]:=by simp only[aG]
 refine⟨a,b,?_⟩;rw[fn,aX]at d;have e:=aAz N w ahead (s.drop c);generalize fA N w ahead (s.drop c)=R at *;by_cases f:R.2=0
 ·rw[aj f]at d;rw[f];refine au ?_;simp[d]
 ·rw[ah f]at d;rw[e f,fn];refine au ?_;simp[d]
def aky:∀N:Nat,O9 N/\Tv N
 |0=>⟨λw ahead b s _ _ a _ _=>absurd a (by omega),λw d ahead b s _ _ _ _ a _=>absurd a (by omega)⟩
 |N+1=>by have c:=aky N;have a:=aAC c.1 c.2;exact⟨aAF a,a⟩
def wX(s:Q0):List aI×Int:=if 65536<s.length then([],4)else fA (s.length+1) 0 0 s
def aFN(s:Q0)(f:s.length<=140737488351232):TT.lim 285 [.s s]=some [.l (aG (wX s).1),.zq (wX s).2]:=by
 unfold wX;have fn:aG []=[]:=by simp only[aG]
 by_cases c:65536<s.length
 ·have d:(65536:Int)<s.length:=by omega
  rw[aj c,fn];refine aT ?_;simp[d]
 ·have d:¬(65536:Int)<s.length:=by omega
  obtain⟨a,b,e⟩:=(aky (s.length+1)).1 0 0 0 s (by omega) (by omega) (by rw[dN];omega) (by omega) (by omega);rw[dN]at e;rw[ah c];simp only[sW]at e;generalize fA (s.length+1) 0 0 s=R at *;refine aT ?_;simp[d,e]
def uY(l:List dQ):Q1:=l.map λs=>GV.zu s.tag
def ait(l:List dQ)(k:l.length<=1000):∀(m i:Nat)(a:Q1),i+m=l.length->a.length+m<=2000->TT.lim 295 [.l a,.l (l.map fU),.zq l.length,.zq i]=some [.zq 0,.l (a++uY (l.drop i))]
 |0,i,a,hi,n=>by
  have h:¬((i:Int)<l.length):=by omega
  have e:l.drop i=[]:=ig;rw[e];show _=some [GV.zq 0,.l (a++[])]
  rw[qp];refine au ?_;simp[h]
 |m+1,i,a,hi,n=>by
  have c:i<l.length:=by omega
  have h:((i:Int)<l.length):=by omega
  have d:(l.map fU)[i]? =some (fU l[i]):=by rw[iY,bT c];rfl
  have b:((i+1:Nat):Int)=(i:Int)+1:=by omega
  have o:=bF ((i:Int)+1);have f:l.drop i=l[i]::l.drop (i+1):=iC c;have g:=ait l k m (i+1) (a++[.zu l[i].tag]) (by omega) (by rw[eP,FT];omega);rw[f];have j:a++uY (l[i]::l.drop (i+1))=a++[GV.zu l[i].tag]++uY (l.drop (i+1)):=by rw[show uY (l[i]::l.drop (i+1))=GV.zu l[i].tag::uY (l.drop (i+1))from rfl,List.append_assoc];rfl
  rw[j];rw[b]at g;have p:2*(a.length+1)*8<=281474976710656/\a.length+1<=281474976710656:=by omega
  clear j f;generalize a++[GV.zu l[i].tag]++uY (l.drop (i+1))=R at *;generalize l[i]=s,l.map fU=q at *;refine au ?_;simp[h,d,p,GV.fP,o,g]
def awF(k v:Int)(h1:1<=v)(d:v<=3)(e:pU k<=v):TT.lim 294 [.zq k,.zq v]=some [.l (uY (aW k v))]:=by
 have a:=Wi k v h1 d e;have f:=G5 k v;have b:=ait (aW k v) (by omega) (aW k v).length 0 [] (by omega) (by simp;omega);rw[dN,aX]at b;simp only[sW]at b;have c:(((aW k v).map fU).length:Int)=((aW k v).length:Int):=by rw[gG]
 generalize uY (aW k v)=g,(aW k v).map fU=h,((aW k v).length:Int)=L at *;refine aT ?_;simp[a,c,b]
def EJ(xs:Q1)(l:List dQ):Q1:=l.foldl (λm s=>ku (.zu s.tag) (.s s.name) m) xs
def af6(l:List dQ)(k:l.length<=1000)(d f g:GV):∀(m i:Nat)(xs:Q1),i+m=l.length->TT.lim 293 [d,f,g,.l (l.map fU),.zq l.length,.zq i,.l xs]=some [.zq 0,.l (EJ xs (l.drop i))]
 |0,i,xs,hi=>by
  have h:¬((i:Int)<l.length):=by omega
  have e:l.drop i=[]:=ig;rw[e];show _=some [GV.zq 0,.l xs]
  refine au ?_;simp[h]
 |m+1,i,xs,hi=>by
  have b:i<l.length:=by omega
  have h:((i:Int)<l.length):=by omega
  have c:(l.map fU)[i]? =some (fU l[i]):=by rw[iY,bT b];rfl
  have a:((i+1:Nat):Int)=(i:Int)+1:=by omega
  have n:=bF ((i:Int)+1);have o:l.drop i=l[i]::l.drop (i+1):=iC b;have j:=af6 l k d f g m (i+1) (ku (.zu l[i].tag) (.s l[i].name) xs) (by omega);rw[o];show _=some [GV.zq 0,.l (EJ (ku (.zu l[i].tag) (.s l[i].name) xs) (l.drop (i+1)))]
  rw[a]at j;generalize EJ (ku (.zu l[i].tag) (.s l[i].name) xs) (l.drop (i+1))=R at *;generalize l[i]=s,l.map fU=p at *;refine au ?_;simp[h,c,n,j]
def ajq(t:Int):∀(l:List dQ)(xs:Q1),l.Pairwise (λa b=>a.tag<b.tag)->fZ (.zu t) (EJ xs l)=(match l.find? (λs=>decide (s.tag=t))with
 |some s=>some (.s s.name)
 |none=>fZ (.zu t) xs)
 |[],xs,_=>rfl
 |s::l,xs,c=>by
  rw[iZ]at c;have f:=ajq t l (ku (.zu s.tag) (.s s.name) xs) c.2;show fZ (.zu t) (EJ (ku (.zu s.tag) (.s s.name) xs) l)=_
  rw[f,List.find?_cons];by_cases h:s.tag=t
  ·have d:l.find? (λs=>decide (s.tag=t))=none:=by rw[List.find?_eq_none];intro x g;have:=c.1 x g;simp;omega
   rw[d];simp only[h,decide_true];rw[tN,aj rfl]
  ·simp only[h,decide_false];cases i:l.find? (λs=>decide (s.tag=t))with
   |some x=>rfl
   |none=>simp only;rw[tN,ah (λe=>h e.symm)]
def D8(xs:Q1)(l:List dQ):Q1:=l.foldl (λm s=>ku (.zu s.tag) (.b true) m) xs
def alx(l:List dQ)(g:l.length<=1000)(d:GV):∀(m i:Nat)(xs:Q1),i+m=l.length->TT.lim 297 [d,.l (uY l),.zq l.length,.zq i,.l xs]=some [.zq 0,.l (D8 xs (l.drop i))]
 |0,i,xs,hi=>by
  have h:¬((i:Int)<l.length):=by omega
  have e:l.drop i=[]:=ig;rw[e];show _=some [GV.zq 0,.l xs]
  refine au ?_;simp[h]
 |m+1,i,xs,hi=>by
  have b:i<l.length:=by omega
  have h:((i:Int)<l.length):=by omega
  have c:(uY l)[i]? =some (.zu l[i].tag):=by unfold uY;rw[iY,bT b];rfl
  have a:((i+1:Nat):Int)=(i:Int)+1:=by omega
  have j:=bF ((i:Int)+1);have k:l.drop i=l[i]::l.drop (i+1):=iC b;have f:=alx l g d m (i+1) (ku (.zu l[i].tag) (.b true) xs) (by omega);rw[k];show _=some [GV.zq 0,.l (D8 (ku (.zu l[i].tag) (.b true) xs) (l.drop (i+1)))]
  rw[a]at f;generalize D8 (ku (.zu l[i].tag) (.b true) xs) (l.drop (i+1))=R at *;generalize l[i]=s,uY l=n at *;refine au ?_;simp[h,c,j,f]
def afa(t:Int):∀(l:List dQ)(xs:Q1),fZ (.zu t) (D8 xs l)=if hasTag l t=true then some (.b true)else fZ (.zu t) xs
 |[],xs=>rfl
 |s::l,xs=>by
  have a:=afa t l (ku (.zu s.tag) (.b true) xs);show fZ (.zu t) (D8 (ku (.zu s.tag) (.b true) xs) l)=_
  rw[a,tN];unfold hasTag;rw[ad5];by_cases h:t=s.tag
  ·simp[h]
  ·simp[h]
def lM(l:List dQ)(fs:List aI):List aI:=fs.filter λf=>hasTag l f.tag
def oV(l:List dQ)(fs:List aI):List aI:=fs.filter λf=>!hasTag l f.tag
def aly(l:List dQ)(fs:List aI)(u:fs.length<=1000000):∀(m i:Nat)(a b:List aI),i+m=fs.length->a.length+b.length+m<=3000000->TT.lim 298 [.l (aG fs),.l (aG a),.l (aG b),.zq fs.length,.zq i,.l (D8 [] l)]=some [.zq 0,.l (aG (a++lM l (fs.drop i))),.l (aG (b++oV l (fs.drop i)))]
 |0,i,a,b,hi,v=>by
  have h:¬((i:Int)<fs.length):=by omega
  have e:fs.drop i=[]:=ig;rw[e];have f:lM l []=[]:=rfl;have g:oV l []=[]:=rfl;rw[f,g,qp,qp];refine au ?_;simp[h]
 |m+1,i,a,b,hi,v=>by
  have h:((i:Int)<fs.length):=by omega
  obtain⟨t,y,n,s,k,M,D,H,N⟩:=GH (l:=fs) (i:=i) (by omega);have j:((i+1:Nat):Int)=(i:Int)+1:=by omega
  have E:=bF ((i:Int)+1);have r:=afa t l [];have c:∀z:List aI,aG (z++[.mk t y n s k])=aG z++[sD t y n s k]:=λz=>by rw[Vp];simp only[aG,qC];rfl
  have p:(sD t y n s k).fP 5=true:=rfl;have q:GV.g [.zu t,.zq y,.zu n,.s s,.l (aG k)]=sD t y n s k:=rfl;have F:=pR a;have G:=pR b;have d:=λa b v=>aly l fs u m (i+1) a b (by omega) v;simp only[j]at d;rw[H];have w:fZ (.zu t) []=none:=rfl;cases o:hasTag l t with
  |true=>
   have f:lM l (.mk t y n s k::fs.drop (i+1))=.mk t y n s k::lM l (fs.drop (i+1)):=by unfold lM;rw[amD (by exact o)]
   have g:oV l (.mk t y n s k::fs.drop (i+1))=oV l (fs.drop (i+1)):=by unfold oV;rw[amC (by show ¬(!hasTag l t)=true;rw[o];decide)]
   rw[f,g];have d:=d (a++[.mk t y n s k]) b (by rw[eP,FT];omega);rw[c,List.append_assoc,O1]at d;rw[o,aj rfl]at r;have x:2*((aG a).length+1)*64<=281474976710656/\(aG a).length+1<=281474976710656:=by omega
   generalize aG (a++.mk t y n s k::lM l (fs.drop (i+1)))=I,aG (b++oV l (fs.drop (i+1)))=J at *;clear c F G f g;generalize D8 [] l=L,aG a=A,aG b=B at *;refine au ?_;simp[h,D,r,q,p,x,E,d]
  |false=>
   have f:lM l (.mk t y n s k::fs.drop (i+1))=lM l (fs.drop (i+1)):=by unfold lM;rw[amC (by show ¬hasTag l t=true;rw[o];decide)]
   have g:oV l (.mk t y n s k::fs.drop (i+1))=.mk t y n s k::oV l (fs.drop (i+1)):=by unfold oV;rw[amD (by show(!hasTag l t)=true;rw[o];rfl)]
   rw[f,g];have d:=d a (b++[.mk t y n s k]) (by rw[eP,FT];omega);rw[c,List.append_assoc,O1]at d;rw[o,ah (by decide),w]at r;have x:2*((aG b).length+1)*64<=281474976710656/\(aG b).length+1<=281474976710656:=by omega
   generalize aG (a++lM l (fs.drop (i+1)))=I,aG (b++.mk t y n s k::oV l (fs.drop (i+1)))=J at *;clear c F G f g;generalize D8 [] l=L,aG a=A,aG b=B at *;refine au ?_;simp[h,D,r,q,p,x,E,d]
def aAA{rec:Q0->List aI×Int}{w ahead:Nat}{s:Q0}(u:s.length<=100000000)(p:∀t:Q0,t.length+2<=s.length->eU (rec t).1/\(rec t).1.length<=1000000/\dH (rec t).1<=t.length/\wL (rec t).1<=42*t.length)(h:(jr rec w ahead s).2.2=0):
 uj (jr rec w ahead s).1/\wB (jr rec w ahead s).1+1<=(jr rec w ahead s).2.1/\(jr rec w ahead s).2.1<=s.length/\(jr rec w ahead s).1.tag=((aB s).1/4:Nat)/\wF (jr rec w ahead s).1<=42*(jr rec w ahead s).2.1:=by
 unfold jr at h⊢;by_cases a:(aB s).2.2=0;rotate_left
 ·simp only[aj a]at h;exact absurd h a
 have d:=lF a;simp only[ah (λx=>x a:¬(aB s).2.2≠0)]at h⊢;by_cases g:(aB s).1/4=0
 ·simp only[aj g]at h;exact absurd h (by decide)
 simp only[ah g]at h⊢;by_cases i:4294967296<(aB s).1/4
 ·simp only[aj i]at h;exact absurd h (by decide)
 simp only[ah i]at h⊢;by_cases j:3<=(aB s).1%4
 ·simp only[aj j]at h;exact absurd h (by decide)
 simp only[ah j]at h⊢;by_cases k:(aB s).1/4<=ahead
 ·simp only[aj k]at h;exact absurd h (by decide)
 simp only[ah k]at h⊢;by_cases b:(aB (s.drop (aB s).2.1)).2.2=0;rotate_left
 ·simp only[aj b]at h;exact absurd h b
 have e:=lF b;have v:=d.len;have y:=d.pos;have q:=e.len;have z:=e.pos;have A:=d.lt;have B:=e.lt;rw[fH]at q;simp only[ah (λx=>x b:¬(aB (s.drop (aB s).2.1)).2.2≠0)]at h⊢;by_cases l:(aB s).1%4=0
 ·simp only[aj l]at h⊢;simp only[uj,eU,wB,dH,wF,wL,kY];refine⟨⟨⟨by omega,by omega,by omega,by omega,by omega,by omega,by simp,by simp⟩,trivial⟩,by omega,by omega,rfl,by omega⟩
 simp only[ah l]at h⊢;by_cases c:s.length-((aB s).2.1+(aB (s.drop (aB s).2.1)).2.1)<(aB (s.drop (aB s).2.1)).1
 ·simp only[aj c]at h;exact absurd h (by decide)
 simp only[ah c]at h⊢;by_cases m:(aB s).1%4=1
 ·simp only[aj m]at h⊢;simp only[uj,eU,wB,dH,wF,wL];refine⟨⟨⟨by omega,by omega,by omega,by omega,by omega,by omega,by rw[lN,fH];omega,by simp⟩,trivial⟩,by omega,by omega,rfl,by rw[lN,fH];omega⟩
 simp only[ah m]at h⊢;by_cases n:8<=w
 ·simp only[aj n]at h;exact absurd h (by decide)
 simp only[ah n]at h⊢;have o:((s.drop ((aB s).2.1+(aB (s.drop (aB s).2.1)).2.1)).take (aB (s.drop (aB s).2.1)).1).length=(aB (s.drop (aB s).2.1)).1:=by rw[lN,fH];omega
 obtain⟨r1,r2,r3,r⟩:=p ((s.drop ((aB s).2.1+(aB (s.drop (aB s).2.1)).2.1)).take (aB (s.drop (aB s).2.1)).1) (by rw[o];omega);rw[o]at r3 r;generalize(s.drop ((aB s).2.1+(aB (s.drop (aB s).2.1)).2.1)).take (aB (s.drop (aB s).2.1)).1=T at *;by_cases f:(rec T).2=0;rotate_left
 ·simp only[aj f]at h;exact absurd h f
 simp only[ah (λx=>x f:¬(rec T).2≠0)]at h⊢;simp only[uj,wB,wF,kY];refine⟨⟨⟨by omega,by omega,by omega,by omega,by omega,by omega,by simp,r2⟩,r1⟩,by omega,by omega,rfl,by omega⟩
def acI:∀(N w ahead:Nat)(s:Q0),s.length<=1000000->eU (fA N w ahead s).1/\(fA N w ahead s).1.length<=1000000/\dH (fA N w ahead s).1<=s.length/\wL (fA N w ahead s).1<=42*s.length
 |0,w,ahead,s,_=>by simp only[fA,eU,dH,wL];simp
 |N+1,w,ahead,s,h=>by
  unfold fA;by_cases h1:s=[]
  ·rw[aj h1];simp only[eU,dH,wL];simp
  rw[ah h1];by_cases a:(jr (λt=>fA N (w+1) 0 t) w ahead s).2.2=0;rotate_left
  ·rw[aj a];simp only[eU,dH,wL];simp
  rw[ah (λx=>x a)];obtain⟨o1,i,j,k,m⟩:=aAA (rec:=λt=>fA N (w+1) 0 t) (w:=w) (ahead:=ahead) (s:=s) (by omega) (λt n=>acI N (w+1) 0 t (by omega)) a;have c:(s.drop (jr (λt=>fA N (w+1) 0 t) w ahead s).2.1).length=s.length-(jr (λt=>fA N (w+1) 0 t) w ahead s).2.1:=fH;obtain⟨d,o,e,g⟩:=acI N w ((aB s).1/4) (s.drop (jr (λt=>fA N (w+1) 0 t) w ahead s).2.1) (by omega);rw[c]at e g;split
  ·simp only[eU,dH,wL];simp
  ·simp only[eU,dH,wL];have:∀l:List aI,l.length<=dH l:=λl=>by
    induction l with
    |nil=>simp[dH]
    |cons f l p=>simp only[gV,dH];omega
   have q:=this (fA N w ((aB s).1/4) (s.drop (jr (λt=>fA N (w+1) 0 t) w ahead s).2.1)).1;refine⟨⟨o1,d⟩,?_,?_,?_⟩
   ·simp only[gV];omega
   ·omega
   ·omega
def ahh(s:Q0):eU (wX s).1/\(wX s).1.length<=1000000/\dH (wX s).1<=65536/\wL (wX s).1<=3000000:=by
 unfold wX;by_cases c:65536<s.length
 ·rw[aj c];simp only[eU,dH,wL];simp
 ·rw[ah c];obtain⟨a,b,d,e⟩:=acI (s.length+1) 0 0 s (by omega);exact⟨a,b,by omega,by omega⟩
def aI.typ:aI->Int
 |.mk _ y _ _ _=>y
def aI.num:aI->Int
 |.mk _ _ n _ _=>n
def aI.txt:aI->List UInt8
 |.mk _ _ _ s _=>s
def pO(l:List dQ):aO->List aI->aO×Int
 |b,[]=>(b,0)
 |b,f::r=>match l.find? (λs=>decide (s.tag=f.tag))with
  |some s=>(match placeOf s.name with
   |some p=>if lW f.typ f.num f.txt p=0 then pO l (setB b f.num f.txt p) r else(fV,lW f.typ f.num f.txt p)
   |none=>(fV,26))
  |none=>(fV,26)
def af7(l:List dQ)(L:l.Pairwise (λa b=>a.tag<b.tag))(w:∀s∈l,placeOf s.name≠none)(fs:List aI)(z:eU fs)(A:fs.length<=1000000)(D:∀f∈fs,hasTag l f.tag=true)(M N:GV):∀(m i:Nat)(b:aO),i+m=fs.length->rU b []->
 TT.lim 299 ([M,N,.l (aG fs),.zq fs.length,.zq i]++(iM b []).cells++[.l (EJ [] l)])=some (if(pO l b (fs.drop i)).2=0 then .zq 1::(iM (pO l b (fs.drop i)).1 []).cells else[.zq 0,.zq (pO l b (fs.drop i)).2])
 |0,i,b,hi,v=>by
  have h:¬((i:Int)<fs.length):=by omega
  have e:fs.drop i=[]:=ig;rw[e];unfold pO;rw[aj rfl];rw[eY];simp only[bg,aX];refine au ?_;simp[h]
 |m+1,i,b,hi,v=>by
  have h:((i:Int)<fs.length):=by omega
  obtain⟨t,y,n,s,k,g1,O,V,P⟩:=GH (l:=fs) (i:=i) (by omega);have q:((i+1:Nat):Int)=(i:Int)+1:=by omega
  have W:=bF ((i:Int)+1);have o:=GI z _ P;simp only[uj]at o;have E:=D _ P;have F:=ajq t l [] L;have fn:aG []=[]:=by simp only[aG]
  obtain⟨d,g⟩:∃d,l.find? (λs=>decide (s.tag=t))=some d:=by
   unfold hasTag at E;obtain⟨d,X,Y⟩:=List.any_eq_true.1 E;cases J:l.find? (λs=>decide (s.tag=t))with
   |some x=>exact⟨x,rfl⟩
   |none=>have:=(List.find?_eq_none.1 J) d X;have Z:t=d.tag:=Bq Y;simp[Z]at this
  have j:=List.mem_of_find?_eq_some g;rw[g]at F;simp only at F;obtain⟨p,H⟩:∃p,placeOf d.name=some p:=by
   cases J:placeOf d.name with
   |some p=>exact⟨p,rfl⟩
   |none=>exact absurd J (w d j)
  have c:=axZ (aG k) b [] (Ej v.d) v.t (by simp[dH]) t y n s ⟨o.1.2.2.2.2.1,o.1.2.2.2.2.2.1⟩ o.1.2.2.2.2.2.2.1 d.name;rw[fn]at c;unfold adH at c;rw[H]at c;simp only at c;unfold adI at c;rw[V];unfold pO;have e1:aI.tag (.mk t y n s k)=t:=rfl;have e2:aI.typ (.mk t y n s k)=y:=rfl;have e3:aI.num (.mk t y n s k)=n:=rfl;have e4:aI.txt (.mk t y n s k)=s:=rfl;rw[e1,g,e2,e3,e4];simp only[H];have r:GV.g [.zu t,.zq y,.zu n,.s s,.l (aG k)]=sD t y n s k:=rfl;rw[r]at c;by_cases u:lW y n s p=0
  ·rw[aj u]at c;simp only[aj u];obtain⟨Q,S,T⟩:=ak9 v.body v.d v.t ⟨o.1.2.2.2.2.1,o.1.2.2.2.2.2.1⟩ o.1.2.2.2.2.2.2.1 u;have I:=af7 l L w fs z A D M N m (i+1) (setB b n s p) (by omega) ⟨Q,S,T,by simp only[eU],by simp⟩;rw[q]at I;generalize pO l (setB b n s p) (fs.drop (i+1))=R at *;generalize setB b n s p=B at *;clear Q S T u g j H E o;generalize EJ [] l=MP,d.name=nm,aG fs=G at *;rw[eY]at I;rw[eY];simp only[bg,aX]at I⊢;refine au ?_;simp[↓Qn,h,O,r,F,lC,c,W,I]
  ·rw[ah u]at c;simp only[ah u];generalize lW y n s p=e at *;clear g j H E o;generalize EJ [] l=MP,d.name=nm,aG fs=G at *;rw[eY];simp only[bg,aX];refine au ?_;simp[↓Qn,h,O,r,F,lC,c,u]
def iK(s:Q0)(v:Int):aO×List aI×Int:=
 if v<1 then(fV,[],16)else if 3<v then(fV,[],16)else
 if 65536<s.length then(fV,[],4)else
 if(aB s).2.2≠0 then(fV,[],(aB s).2.2)else
 if 8<(aB s).1 then(fV,[],15)else
 if pU (aB s).1=0 then(fV,[],15)else if v<pU (aB s).1 then(fV,[],15)else
 if(wX (s.drop (aB s).2.1)).2≠0 then(fV,[],(wX (s.drop (aB s).2.1)).2)else
 let l:=aW (aB s).1 v
 let a:=(wX (s.drop (aB s).2.1)).1
 let r:=pO l {fV with kind:=(aB s).1} (lM l a)
 if r.2≠0 then(fV,[],r.2)else
 if gq r.1 (oV l a) v≠0 then(fV,[],gq r.1 (oV l a) v)else(r.1,oV l a,0)
def adi(p:aI->Bool):∀l:List aI,dH (l.filter p)<=dH l
 |[]=>by simp[dH]
 |f::l=>by
  have a:=adi p l;rw[SS];split
  ·simp only[dH];omega
  ·simp only[dH];omega
def split_ok(l:List dQ)(e:l.length<=1000)(fs:List aI)(a:fs.length<=1000000)(b:dH fs<=1000000):TT.lim 296 [.l (aG fs),.l (uY l)]=some [.l (aG (lM l fs)),.l (aG (oV l fs))]:=by
 have d:=alx l e (.l (aG fs)) l.length 0 [] (by omega);have c:=aly l fs a fs.length 0 [] [] (by omega) (by simp;omega);have fn:aG []=[]:=by simp only[aG]
 rw[dN]at d c;rw[aX,aX,fn]at c;simp only[sW]at d c;have f:=Vh (lM l fs) (kF (adi _ fs) b);have g:=Vh (oV l fs) (kF (adi _ fs) b);have lt:(uY l).length=l.length:=by unfold uY;rw[gG]
 have h:=pR fs;generalize aG (lM l fs)=W,aG (oV l fs)=O,aG fs=G,D8 [] l=i,uY l=j at *;refine aT ?_;simp[lt,h,d,c,f,g]
def ZJ(l:List dQ):∀(fs:List aI)(b:aO),eU fs->rU b []->rU (pO l b fs).1 []
 |[],b,_,a=>a
 |f::fs,b,c,a=>by
  simp only[eU]at c;unfold pO;cases l.find? (λs=>decide (s.tag=f.tag))with
  |none=>exact Ih
  |some s=>
   simp only;cases placeOf s.name with
   |none=>exact Ih
   |some p=>
    simp only;by_cases d:lW f.typ f.num f.txt p=0
    ·rw[aj d];have h1:=c.1;cases f with
     |mk t y n s k=>simp only[uj]at h1;obtain⟨e,g,h⟩:=ak9 a.body a.d a.t ⟨h1.1.2.2.2.2.1,h1.1.2.2.2.2.2.1⟩ h1.1.2.2.2.2.2.2.1 d;exact ZJ l fs _ c.2 ⟨e,g,h,by simp only[eU],by simp⟩
    ·rw[ah d];exact Ih
def adK(k:Int)(h: -9223372036854775808<=k/\k<=9223372036854775807):rU {fV with kind:=k} []:=by have z:=Ih;exact⟨{z.body with kind:=h},z.d,z.t,z.f8,z.len⟩
def Na(p:aI->Bool):∀{l:List aI},eU l->eU (l.filter p)
 |[],_=>by simp only[List.filter_nil,eU]
 |f::l,h=>by
  simp only[eU]at h;have a:=Na p h.2;rw[SS];split
  ·simp only[eU];exact⟨h.1,a⟩
  ·exact a
set_option maxHeartbeats 4000000 in
def decode_ok(s:Q0)(v:Int)(hs:s.length<=140737488351232):TT.lim 284 [.s s,.zq v]=some [iM (iK s v).1 (aG (iK s v).2.1),.zq (iK s v).2.2]:=by
 have fn:aG []=[]:=by simp only[aG]
 have i:GV.g [.zq 0,.zu 0,.zu 0,.zu 0,.zu 0,.zu 0,.zu 0,.zu 0,.zu 0,.zu 0,.zu 0,.zu 0,.zu 0,.zu 0,.zu 0,.zu 0,.zq 0,.b false,.s [],.s [],.s [],.l [],.l [],.l []]=iM fV []:=rfl;unfold iK;by_cases d:v<1
 ·rw[aj d];simp only;rw[fn,<-i];refine aT ?_;simp[d]
 rw[ah d];by_cases g:3<v
 ·rw[aj g];simp only;rw[fn,<-i];refine aT ?_;simp[d,g]
 rw[ah g];by_cases V:65536<s.length
 ·rw[aj V];have a:(65536:Int)<s.length:=by omega
  simp only;rw[fn,<-i];refine aT ?_;simp[d,g,a]
 rw[ah V];have a:¬(65536:Int)<s.length:=by omega
 have l:=vP s (by omega);by_cases w:(aB s).2.2=0;rotate_left
 ·rw[aj w];simp only;rw[fn,<-i];generalize(aB s).2.2=e at *;refine aT ?_;simp[d,g,a,l,w]
 rw[ah (λx=>x w)];rw[w]at l;have J:=lF w;have l1:=J.len;have t1:=J.lt;have M:(s.drop (aB s).2.1).length=s.length-(aB s).2.1:=fH;have h:=aFN (s.drop (aB s).2.1) (by omega);obtain⟨F,G,g3,-⟩:=ahh (s.drop (aB s).2.1);clear J w M;generalize wX (s.drop (aB s).2.1)=b at *;generalize A:s.drop (aB s).2.1=T at *;generalize(aB s).1=n,(aB s).2.1=j at *;have c:(s.take s.length).drop j=T:=by rw[Ak];exact A
 have H:(j:Int)<=s.length:=by omega
 have X:=aaX 0;have N:pU 0=0:=rfl;rw[N]at X;by_cases Y:8<n
 ·rw[aj Y];have m:¬(n:Int)<=8:=by omega
  simp only;rw[fn,<-i];refine aT ?_;simp[d,g,a,l,m,X]
 rw[ah Y];have m:(n:Int)<=8:=by omega
 have y:=bF ((n:Int));have p:=aaX (n:Int);by_cases o:pU n=0
 ·rw[aj o];rw[o]at p;simp only;rw[fn,<-i];refine aT ?_;simp[d,g,a,l,m,y,p]
 rw[ah o];by_cases q:v<pU n
 ·rw[aj q];simp only;rw[fn,<-i];generalize pU n=Z at *;refine aT ?_;simp[d,g,a,l,m,y,p,o,q]
 rw[ah q];by_cases I:b.2=0;rotate_left
 ·rw[aj I];simp only;rw[fn,<-i];generalize pU n=Z at *;refine aT ?_;simp[d,g,a,l,m,y,p,o,q,c,A,H,h,I]
 rw[ah (λx=>x I)];rw[I]at h;have P:=Wi n v (by omega) (by omega) (by omega);have Q:=awF n v (by omega) (by omega) (by omega);have k8:=G5 n v;have B:=af6 (aW n v) (by omega) (.zq v) (.zq n) (.l (aG b.1)) (aW n v).length 0 [] (by omega);rw[dN]at B;simp only[sW]at B;have S:=split_ok (aW n v) (by omega) b.1 G (by omega);have k:=af7 (aW n v) (JE n v).1 (aiq n v) (lM (aW n v) b.1) (Na _ F) (kF (Yy _ _) G) (λf hf=>(BM.1 hf).2) (.zq v) (.l (aG (oV (aW n v) b.1))) (lM (aW n v) b.1).length 0 {fV with kind:=n} (by omega) (adK n (by omega));rw[dN]at k;simp only[sW]at k;have r:=ZJ (aW n v) (lM (aW n v) b.1) {fV with kind:=n} (Na _ F) (adK n (by omega));have kc:=abk (pO (aW n v) {fV with kind:=n} (lM (aW n v) b.1)).1 (oV (aW n v) b.1) v r.body r.t.few (Na _ F) (kF (Yy _ _) G);have t:(((aW n v).map fU).length:Int)=((aW n v).length:Int):=by rw[gG]
 have u:=pR (lM (aW n v) b.1);have D:(iM {fV with kind:=(n:Int)} []).cells=[.zq (n:Int),.zu 0,.zu 0,.zu 0,.zu 0,.zu 0,.zu 0,.zu 0,.zu 0,.zu 0,.zu 0,.zu 0,.zu 0,.zu 0,.zu 0,.zu 0,.zq 0,.b false,.s [],.s [],.s [],.l [],.l [],.l []]:=rfl;rw[D]at k;simp only[bg,aX]at k;simp only;clear r D F G g3 k8;generalize pO (aW n v) {fV with kind:=(n:Int)} (lM (aW n v) b.1)=R,oV (aW n v) b.1=O,aG (lM (aW n v) b.1)=W,(lM (aW n v) b.1).length=WL,aG b.1=FG,EJ [] (aW n v)=MP,(aW n v).map fU=SP,uY (aW n v)=TG,((aW n v).length:Int)=L,pU n=Z at *;by_cases z:R.2=0;rotate_left
 ·rw[ah z]at k;rw[aj z];simp only;rw[fn,<-i];generalize aG O=OG at *;clear kc;refine aT ?_;simp -implicitDefEqProofs(maxSteps:=10000000) [↓Qn,d,g,a,l,m,y,p,o,q,c,A,H,h,P,t,B,Q,S,u,k,z]
 rw[aj z]at k;rw[ah (λx=>x z)];rw[eY]at k;by_cases E:gq R.1 O v=0
 ·rw[ah (λx=>x E)];rw[E]at kc;simp only;generalize aG O=OG at *;clear z E;refine aT ?_;simp -implicitDefEqProofs(maxSteps:=10000000) [↓Qn,d,g,a,l,m,y,p,o,q,c,A,H,h,P,t,B,Q,S,u,k,lC,kc]
 ·rw[aj E];simp only;rw[fn,<-i];generalize aG O=OG,gq R.1 O v=ck at *;refine aT ?_;simp -implicitDefEqProofs(maxSteps:=10000000) [↓Qn,d,g,a,l,m,y,p,o,q,c,A,H,h,P,t,B,Q,S,u,k,lC,kc,E]
def Sz(n:Nat)(x:Q0)(a:n<18446744073709551616):aB (aQ n++x)=(n,(aQ n).length,0):=FD n x a
def aFG(n:Nat):1<=(aQ n).length:=DK n
def acJ:∀(N:Nat)(L:List aI)(w ahead:Nat),eU L->uq L->wL L<=1000000000000->jy w (ahead:Int) L=0->w<=8->(dw L).length<N->fA N w ahead (dw L)=(L,0)
 |0,L,w,ahead,_,_,_,_,_,h=>by omega
 |N+1,[],w,ahead,_,_,_,_,_,_=>by unfold fA;rw[aj (by simp only[dw])]
 |N+1,.mk t y n s k::L,w,ahead,d,b,G,a,I,u=>by
  have J:=G;simp only[wL,wF]at G;have M:=Nb (dH k+1) k (by omega) (by simp only[eU,uj]at d;exact d.1.2) (by simp only[uq,H8]at b;exact b.1.2.2) (by omega);obtain⟨S,T,V,W,O,P⟩:=aaf (Si b (.mk t y n s k) (by simp));simp only[eU,uj]at d;have p:=Si b (.mk t y n s k) (by simp);simp only[H8]at p;have v:uq L:=by simp only[uq]at b;exact b.2
  unfold jy at a;by_cases z:(aI.mk t y n s k).tag=0
  ·rw[aj z]at a;exact absurd a (by decide)
  rw[ah z]at a;by_cases D:4294967296<(aI.mk t y n s k).tag
  ·rw[aj D]at a;exact absurd a (by decide)
  rw[ah D]at a;by_cases q:(aI.mk t y n s k).tag<=(ahead:Int)
  ·rw[aj q]at a;exact absurd a (by decide)
  rw[ah q]at a;by_cases f:zL w (.mk t y n s k)=0;rotate_left
  ·rw[aj f]at a;exact absurd a f
  rw[ah (λe=>e f)]at a;have q:¬t<=(ahead:Int):=q;have a:jy w t L=0:=a;clear z D;have r:((t.toNat:Nat):Int)=t:=by omega
  have X:(4*t+y).toNat=4*t.toNat+y.toNat:=by omega
  have i:∀x,aB (aQ (4*t+y).toNat++x)=((4*t+y).toNat,(aQ (4*t+y).toNat).length,0):=λx=>Sz _ x (by omega);have j:(4*t+y).toNat/4=t.toNat:=by omega
  have E:(4*t+y).toNat%4=y.toNat:=by omega
  have Q:=acJ N L w t.toNat d.2 v (by omega) (by rw[r];exact a) I;simp only[dw,Qm]at u⊢;simp only[eP]at u;have Y:=aFG (4*t+y).toNat;have F:¬(aQ (4*t+y).toNat++(if y=0 then aQ n.toNat else if y=1 then aQ s.length++s else aQ (dw k).length++dw k)++dw L=[]):=by intro e;have:=uf List.length e;simp only[eP,kY]at this;omega
  unfold fA;rw[ah F];have one:jr (λt=>fA N (w+1) 0 t) w ahead (aQ (4*t+y).toNat++(if y=0 then aQ n.toNat else if y=1 then aQ s.length++s else aQ (dw k).length++dw k)++dw L)=(.mk t y n s k,(aQ (4*t+y).toNat).length+(if y=0 then aQ n.toNat else if y=1 then aQ s.length++s else aQ (dw k).length++dw k).length,0):=by
   unfold jr;rw[List.append_assoc,i];simp only[ne_eq,not_true_eq_false,if_false,j,E,tu];rw[dA,dA,dA,dA];rcases O with l|l|l
   ·subst l;have e:=p.2.1;obtain⟨m,o⟩:s=[]/\k=[]:=by
     rcases e with e|e|e
     ·exact e.2
     ·exact absurd e.1 (by decide)
     ·exact absurd e.1 (by decide)
    subst m;subst o;simp only[if_true];rw[Sz _ _ (by omega)];simp only[not_true_eq_false,if_false,Int.toNat_zero,if_true];rw[r,show((n.toNat:Nat):Int)=n by omega]
   ·subst l;have e:=p.2.1;obtain⟨m,o⟩:n=0/\k=[]:=by
     rcases e with e|e|e
     ·exact absurd e.1 (by decide)
     ·exact e.2
     ·exact absurd e.1 (by decide)
    subst m;subst o;simp only[show((1:Int)=0)=False from by simp,show((1:Int)=1)=True from by simp,if_false,if_true];rw[List.append_assoc,Sz _ _ (by omega)];simp only[not_true_eq_false,if_false];rw[ah (show ¬Int.toNat 1=0 by decide),ah (by simp only[eP];omega),aj (show Int.toNat 1=1 by decide)];rw[<-rJ,tu,tu,Tc];rw[r];simp only[eP,jL]
   ·subst l;have e:=p.2.1;obtain⟨m,o⟩:n=0/\s=[]:=by
     rcases e with e|e|e
     ·exact absurd e.1 (by decide)
     ·exact absurd e.1 (by decide)
     ·exact e.2
    subst m;subst o;have H:¬8<=w/\jy (w+1) 0 k=0:=by
     unfold zL at f;rw[ah (by decide),ah (by decide),aj rfl,aj ⟨rfl,rfl⟩]at f;by_cases c:8<=w
     ·rw[aj c]at f;exact absurd f (by decide)
     ·rw[ah c]at f;exact⟨c,f⟩
    have R:=acJ N k (w+1) 0 d.1.2 P (by omega) H.2 (by omega) (by simp only[ah (show ¬(2:Int)=0 by decide),ah (show ¬(2:Int)=1 by decide),eP]at u;omega)
    simp only[show((2:Int)=0)=False from by simp,show((2:Int)=1)=False from by simp,if_false];rw[List.append_assoc,Sz _ _ (by omega)];simp only[not_true_eq_false,if_false];rw[ah (show ¬Int.toNat 2=0 by decide),ah (by simp only[eP];omega),ah (show ¬Int.toNat 2=1 by decide),ah H.1];rw[<-rJ,tu,tu,Tc];rw[R];simp only[not_true_eq_false,if_false];rw[r];simp only[eP,jL]
  rw[one];simp only[ne_eq,not_true_eq_false,if_false];rw[List.append_assoc,i];simp only[j];have g:∀A B C:Q0,(A++(B++C)).drop (A.length+B.length)=C:=λA B C=>by rw[<-rJ,tu,tu]
  rw[g,Q (by omega)];simp
def auW{L:List aI}(h:Yk L)(a:(dw L).length<=65536):wX (dw L)=(L,0):=by unfold wX;rw[dA];exact acJ ((dw L).length+1) L 0 0 h.ok (UO (dH L+1) L (by omega) h.ok 0 0 h.chk (by omega)) h.w h.chk (by omega) (by omega)
def asq{k w:Int}(f:1<=k/\k<=8)(h1:1<=w)(l:w<=3)(m:pU k<=w){L:List aI}(h:Yk L)(g:(aQ k.toNat++dw L).length<=65536):
 iK (aQ k.toNat++dw L) w=(if(pO (aW k w) {fV with kind:=k} (lM (aW k w) L)).2≠0 then(fV,[],(pO (aW k w) {fV with kind:=k} (lM (aW k w) L)).2)else
  if gq (pO (aW k w) {fV with kind:=k} (lM (aW k w) L)).1 (oV (aW k w) L) w≠0 then(fV,[],gq (pO (aW k w) {fV with kind:=k} (lM (aW k w) L)).1 (oV (aW k w) L) w)else((pO (aW k w) {fV with kind:=k} (lM (aW k w) L)).1,oV (aW k w) L,0)):=by
 have c:(dw L).length<=65536:=by rw[eP]at g;omega
 have i:=Sz k.toNat (dw L) (by omega);have d:((k.toNat:Nat):Int)=k:=by omega
 have e:pU k≠0:=by unfold pU;obtain⟨a,b⟩:=f;rcases(show k=1\/k=2\/k=3\/k=4\/k=5\/k=6\/k=7\/k=8 by omega)with rfl|rfl|rfl|rfl|rfl|rfl|rfl|rfl<;>decide
 have j:=auW h c;unfold iK;rw[dA,dA,dA,i];simp only[ne_eq,not_true_eq_false,if_false,d,tu];rw[dA,ah e,dA,j];simp only[not_true_eq_false,if_false]
def um(b c:aO):List dQ->aO
 |[]=>c
 |s::l=>match placeOf s.name with
  |some p=>if(aZ b p).1=0/\(aZ b p).2=[]then um b c l else um b (zh b c p) l
  |none=>um b c l
def Vm(s:dQ):∀l:List dQ,l.Pairwise (λa b=>a.tag<b.tag)->s∈l->l.find? (λx=>decide (x.tag=s.tag))=some s
 |[],_,h=>by cases h
 |a::l,c,h=>by
  rw[iZ]at c;rw[List.find?_cons];rcases bH.1 h with e|h
  ·subst e;simp
  ·have:=c.1 s h;rw[Ed (show ¬a.tag=s.tag by omega)];simp only;exact Vm s l c.2 h
def af9{b:aO}{j:List aI}{u:Int}(h:yQ b j)(k:gq b j u=0){l:List dQ}(m:l.Pairwise (λa b=>a.tag<b.tag)):∀(f:List dQ)(c:aO),(∀s∈f,s∈l)->pO l c (mW b f)=(um b c f,0)
 |[],c,_=>rfl
 |s::f,c,n=>by
  have i:=λc=>af9 h k m f c (λx q=>n x (by simp[q]));rw[GZ];unfold um zT;cases o:placeOf s.name with
  |none=>simp only[aX];exact i c
  |some p=>
   simp only;by_cases e:(aZ b p).1=0/\(aZ b p).2=[]
   ·rw[aj e,aj e];simp only[aX];exact i c
   ·rw[ah e,ah e];simp only[bg,aX];have g:=aoe k o e;obtain⟨r,-,-,t⟩:=aDB h.msg h.short p g e;have d:=Vm s l m (n s (by simp));unfold pO;have v:aI.tag (.mk s.tag (dP p) (aZ b p).1 (aZ b p).2 [])=s.tag:=rfl;have w:aI.typ (.mk s.tag (dP p) (aZ b p).1 (aZ b p).2 [])=dP p:=rfl;have y:aI.num (.mk s.tag (dP p) (aZ b p).1 (aZ b p).2 [])=(aZ b p).1:=rfl;have z:aI.txt (.mk s.tag (dP p) (aZ b p).1 (aZ b p).2 [])=(aZ b p).2:=rfl;rw[v,d,w,y,z];simp only[o];rw[aj r,t];exact i _
def Wj(k:Int){w u:Int}(h:w<=u):aW k w=(aW k u).filter (λs=>decide (s.from_<=w)):=by
 unfold aW;rw[List.filter_filter];congr 1;funext s;by_cases a:s.from_<=w
 ·have:s.from_<=u:=by omega
  simp[a,this]
 ·simp[a]
def avg{l:List dQ}(g:l.Pairwise (λa b=>a.tag<b.tag))(q:dQ->Bool){s:dQ}(h:s∈l):hasTag (l.filter q) s.tag=q s:=by
 cases i:q s with
 |true=>unfold hasTag;exact List.any_eq_true.2 ⟨s,BM.2 ⟨h,i⟩,by simp⟩
 |false=>
  cases j:hasTag (l.filter q) s.tag with
  |false=>rfl
  |true=>
   unfold hasTag at j;obtain⟨x,k,e⟩:=List.any_eq_true.1 j;have e:s.tag=x.tag:=Bq e;obtain⟨f,c⟩:=BM.1 k;have m:=Vm s l g h;have d:=Vm x l g f;rw[<-e,m]at d;injection d with d
   rw[<-d,i]at c;cases c
def aii(b:aO)(P:Int->Bool)(q:dQ->Bool):∀a:List dQ,(∀s∈a,P s.tag=q s)->(mW b a).filter (λf=>P f.tag)=mW b (a.filter q)
 |[],_=>rfl
 |s::a,h=>by
  have i:=aii b P q a (λx j=>h x (by simp[j]));have k:=h s (by simp);rw[GZ,aea,i,SS];cases d:zT b s with
  |none=>
   have e:∀z,mW b (s::z)=mW b z:=λz=>by rw[GZ,d];rfl
   cases g:q s with
   |true=>simp[e]
   |false=>simp
  |some f=>
   obtain⟨p,-,rfl,-⟩:=QI d;have c:P (aI.mk s.tag (dP p) (aZ b p).1 (aZ b p).2 []).tag=q s:=k;cases g:q s with
   |true=>rw[g]at c;simp only[SS,c,if_true,List.filter_nil];rw[GZ,d]
   |false=>rw[g]at c;simp[SS,c]
def aAO{b:aO}{d:List aI}{u w:Int}(g:gq b d u=0)(h:w<=u):∀f∈d,hasTag (aW b.kind w) f.tag=false:=λf i=>by
 have a:=(Jf g).2.2.2.2 f i;cases c:hasTag (aW b.kind w) f.tag with
 |false=>rfl
 |true=>rw[Wj b.kind h]at c;unfold hasTag at c a;obtain⟨x,j,e⟩:=List.any_eq_true.1 c;have:(aW b.kind u).any (λs=>decide (f.tag=s.tag))=true:=List.any_eq_true.2 ⟨x,(BM.1 j).1,e⟩;rw[this]at a;exact a
def aFQ{b:aO}{a:List aI}{u w:Int}(d:gq b a u=0)(h:w<=u):lM (aW b.kind w) (BZ b a u)=mW b (aW b.kind w):=by
 obtain⟨g,i⟩:=WH (Uc d);have c:=g.filter (λf=>hasTag (aW b.kind w) f.tag);rw[aea]at c;have j:a.filter (λf=>hasTag (aW b.kind w) f.tag)=[]:=amE.2 λf k=>by rw[aAO d h f k];decide
 have e:=aii b (hasTag (aW b.kind w)) (λs=>decide (s.from_<=w)) (aW b.kind u) (λs l=>by rw[Wj b.kind h];exact avg (JE b.kind u).1 _ l)
 rw[<-Wj b.kind h]at e;rw[j,e,qp]at c;refine XC _ _ c ?_ (Wl b _ (JE b.kind w).1);exact(i.sublist aeb).imp λh=>by omega
def aks(b c:aO)(p:Pl):bY (zh b c p) b p:=by
 cases p with
 |num k=>rcases k with _|_|_|_|_|_|_|_|_|_|_|_|_|_|k<;>rfl
 |_=>rfl
def acE(b c d:aO)(p q:Pl)(f:Hq p)(g:Hq q)(a:q≠p):bY (zh b c p) d q↔bY c d q:=by
 cases p with
 |num k=>
  cases q with
  |num j=>
   show pW (zh b c (.num k)) j=pW d j↔pW c j=pW d j
   rw[azZ b c j k f g (λe=>a (by rw[e]))]
  |_=>unfold zh;split<;>rename_i h<;>cases h<;>(split<;>exact Iff.rfl)
 |_=>
  cases q with
  |num j=>exact Iff.rfl
  |_=>first|exact Iff.rfl|exact absurd rfl a
def val_zero{b:aO}(q:Pl)(f:mZ b q=0)(h:(aZ b q).1=0/\(aZ b q).2=[]):iV b q=true:=by
 have g:∀d:List dK,dG d≠[]:=λd e=>by have:=uf List.length e;unfold dG at this;have a:=DK d.length;unfold fO at a;simp only[eP,kY]at this;omega
 cases q with
 |rem=>simp only[aZ]at h;simp only[iV,decide_eq_true_iff];have:=h.1;unfold zz at this;split at this<;>omega
 |allow=>
  simp only[aZ]at h;simp only[iV];cases i:b.allowed with
  |false=>rfl
  |true=>rw[i]at h;simp at h
 |name=>simp only[aZ]at h;simp only[iV,decide_eq_true_iff];exact h.2
 |region=>simp only[aZ]at h;simp only[iV,decide_eq_true_iff];exact h.2
 |note=>simp only[aZ]at h;simp only[iV,decide_eq_true_iff];exact h.2
 |d=>
  simp only[aZ]at h;simp only[iV,decide_eq_true_iff];by_cases c:b.d=[]
  ·exact c
  ·rw[ah c]at h;exact absurd h.2 (g _)
 |t=>
  simp only[aZ]at h;simp only[mZ]at f;simp only[iV,decide_eq_true_iff];by_cases c:b.t=[]
  ·exact c
  ·rw[ah c]at h;have j:EP b.t=(pY b.t,0):=by unfold EP;rw[ah (λx=>x f)]
   rw[j]at h;have:=uf List.length h.2;unfold pY at this;have a:=DK b.t.length;unfold fO at a;simp only[eP,kY]at this;omega
 |num k=>simp only[aZ]at h;simp only[iV,decide_eq_true_iff];exact h.1
def Xf{b:aO}{q:Pl}(i:Hq q)(a:mZ b q=0):∀(d:List dQ)(c:aO),(∃s∈d,placeOf s.name=some q)->(iV b q=true->bY c b q)->bY (um b c d) b q
 |[],c,h,_=>by obtain⟨s,o,-⟩:=h;cases o
 |s::d,c,h,l=>by
  have f:∀(d:List dQ)(c:aO),bY c b q->bY (um b c d) b q:=λd=>by
   induction d with
   |nil=>exact λc h=>h
   |cons s d m=>
    intro c h;unfold um;cases j:placeOf s.name with
    |none=>exact m c h
    |some p=>
     simp only;split
     ·exact m c h
     ·refine m _ ?_;by_cases e:q=p
      ·rw[e];exact aks b c p
      ·exact(acE b c b p q (zX s.name p j).2.1 i e).2 h
  unfold um;cases j:placeOf s.name with
  |none=>
   refine Xf i a d c ?_ l;obtain⟨x,g,e⟩:=h;rcases bH.1 g with rfl|g
   ·rw[j]at e;cases e
   ·exact⟨x,g,e⟩
  |some p=>
   simp only;by_cases e:q=p
   ·subst e;split
    ·rename_i r
     exact f d c (l (val_zero q a r))
    ·exact f d _ (aks b c q)
   ·have n:∃s∈d,placeOf s.name=some q:=by
     obtain⟨x,g,k⟩:=h;rcases bH.1 g with rfl|g
     ·rw[j]at k;injection k with k;exact absurd k.symm e
     ·exact⟨x,g,k⟩
    split
    ·exact Xf i a d c n l
    ·exact Xf i a d _ n λt=>(acE b c b p q (zX s.name p j).2.1 i e).2 (l t)
def akq{b d:aO}{q:Pl}(g:Hq q):∀(a:List dQ)(c:aO),(∀s∈a,placeOf s.name≠some q)->(bY (um b c a) d q↔bY c d q)
 |[],c,_=>Iff.rfl
 |s::a,c,h=>by
  have f:=λc=>akq (b:=b) (d:=d) g a c (λx j=>h x (by simp[j]));unfold um;cases i:placeOf s.name with
  |none=>exact f c
  |some p=>
   have e:q≠p:=λe=>h s (by simp) (by rw[i,e]);simp only;split
   ·exact f c
   ·exact(f _).trans (acE b c d p q (zX s.name p i).2.1 g e)
def Xg(b:aO):∀(a:List dQ)(c:aO),(um b c a).kind=c.kind
 |[],c=>rfl
 |s::a,c=>by
  unfold um;cases placeOf s.name with
  |none=>exact Xg b a c
  |some p=>
   simp only;split
   ·exact Xg b a c
   ·rw[Xg b a,azY]
def abr{b:aO}{k:Int}{q:Pl}(h:iV b q=true):bY {fV with kind:=k} b q:=by
 cases q with
 |num j=>
  simp only[iV,decide_eq_true_iff]at h;show pW {fV with kind:=k} j=pW b j
  rw[h];unfold pW fV;split<;>rfl
 |allow=>simp only[iV,wC]at h;show false=b.allowed;rw[h]
 |rem=>simp only[iV,decide_eq_true_iff]at h;show(0:Int)=b.remaining;rw[h]
 |name=>simp only[iV,decide_eq_true_iff]at h;show([]:Q0)=b.name;rw[h]
 |region=>simp only[iV,decide_eq_true_iff]at h;show([]:Q0)=b.region;rw[h]
 |note=>simp only[iV,decide_eq_true_iff]at h;show([]:Q0)=b.note;rw[h]
 |d=>simp only[iV,decide_eq_true_iff]at h;show([]:List dK)=b.d;rw[h]
 |t=>simp only[iV,decide_eq_true_iff]at h;show([]:List Row)=b.t;rw[h]
def aF6{b:aO}{k:Int}{q:Pl}(h:bY b {fV with kind:=k} q):iV b q=true:=by
 cases q with
 |num j=>have h:pW b j=pW {fV with kind:=k} j:=h;simp only[iV,decide_eq_true_iff];rw[h];unfold pW fV;split<;>rfl
 |allow=>have h:b.allowed=false:=h;simp[iV,h]
 |rem=>have h:b.remaining=0:=h;simp[iV,h]
 |name=>have h:b.name=[]:=h;simp[iV,h]
 |region=>have h:b.region=[]:=h;simp[iV,h]
 |note=>have h:b.note=[]:=h;simp[iV,h]
 |d=>have h:b.d=[]:=h;simp[iV,h]
 |t=>have h:b.t=[]:=h;simp[iV,h]
def ayY(b:aO)(q:Pl):bY b b q:=by cases q<;>simp[bY]
def aAH{b:aO}{j:List aI}{u w:Int}(l:gq b j u=0)(h:w<=u):(∀s∈aW b.kind w,∀q,placeOf s.name=some q->bY (um b {fV with kind:=b.kind} (aW b.kind w)) b q/\mZ b q=0)/\
 (∀n q,placeOf n=some q->uJ (aW b.kind w) n=false->iV (um b {fV with kind:=b.kind} (aW b.kind w)) q=true):=by
 have g:∀s∈aW b.kind w,yu b s.name=0:=λs d=>by
  have a:=l;unfold gq at a;split at a;· cases a
  split at a;· cases a
  split at a;· cases a
  split at a;· cases a
  split at a
  ·rename_i c;exact absurd a c
  rename_i c
  have c:oG b (aW b.kind u)=0:=by simpa using c
  rw[Wj b.kind h]at d;exact abj b _ c s (BM.1 d).1
 refine⟨λs d q f=>?_,λn q f i=>?_⟩
 ·have c:mZ b q=0:=by have:=g s d;unfold yu at this;rw[f]at this;exact this
  exact⟨Xf (zX s.name q f).2.1 c _ _ ⟨s,d,f⟩ λi=>abr i,c⟩
 ·refine aF6 (k:=b.kind) ((akq (zX n q f).2.1 (aW b.kind w) _ λs d e=>?_).2 (ayY _ q));have:n=s.name:=akb f e;unfold uJ at i;have m:(aW b.kind w).any (λs=>decide (s.name=n))=true:=List.any_eq_true.2 ⟨s,d,by simp[this]⟩;rw[m]at i;cases i
def aAI{b:aO}{d:List aI}{u:Int}(g:gq b d u=0):um b {fV with kind:=b.kind} (aW b.kind u)=b/\oV (aW b.kind u) (BZ b d u)=d:=by
 have A:(um b {fV with kind:=b.kind} (aW b.kind u)).kind=b.kind:=Xg b _ _;obtain⟨j,l⟩:=aAH g (gW u);obtain⟨L,M,D,m,o⟩:=Jf g;obtain⟨E,F⟩:=WH (Uc g);constructor
 ·refine(parts_all _ b A).1 λn G q r=>?_
  cases i:uJ (aW b.kind u) n with
  |true=>unfold uJ at i;obtain⟨s,t,e⟩:=List.any_eq_true.1 i;have e:s.name=n:=Bq e;exact(j s t q (by rw[e];exact r)).1
  |false=>
   have H:=l n q r i;have v:iV b q=true:=by
    have a:=g;unfold gq at a;rw[dA,dA,ah D]at a;by_cases w:iH.all (λn=>uJ (aW b.kind u) n ||qL b n)=false
    ·rw[aj w]at a;exact absurd a (by decide)
    rw[Yp]at w;have:=List.all_eq_true.1 w n G;rw[i,Ag]at this;unfold qL at this;rw[r]at this;exact this
   have y:=abr (k:=0) H;have z:=abr (k:=0) v;generalize um b {fV with kind:=b.kind} (aW b.kind u)=B at *;cases q<;>simp only[bY]at y z⊢<;>rw[<-y,<-z]
 ·have c:=E.filter (λf=>!hasTag (aW b.kind u) f.tag);rw[aea]at c;have I:d.filter (λf=>!hasTag (aW b.kind u) f.tag)=d:=List.filter_eq_self.2 λf x=>by rw[o f x];rfl
  have J:(mW b (aW b.kind u)).filter (λf=>!hasTag (aW b.kind u) f.tag)=[]:=amE.2 λf x=>by
   obtain⟨s,t,p,-,rfl,-⟩:=QJ x;have:hasTag (aW b.kind u) s.tag=true:=by unfold hasTag;exact List.any_eq_true.2 ⟨s,t,by simp⟩
   show ¬(!hasTag (aW b.kind u) s.tag)=true
   rw[this];decide
  rw[I,J,aX]at c;exact XC _ _ c ((F.sublist aeb).imp λh=>by omega) (P6 d 0 0 m).2
def af8(l:List dQ):∀(fs:List aI)(b:aO),(pO l b fs).2=0->(pO l b fs).1.kind=b.kind
 |[],b,_=>rfl
 |f::fs,b,h=>by
  unfold pO at h⊢;cases c:l.find? (λs=>decide (s.tag=f.tag))with
  |none=>rw[c]at h;exact absurd h (by simp)
  |some s=>
   rw[c]at h;simp only at h⊢;cases d:placeOf s.name with
   |none=>rw[d]at h;exact absurd h (by simp)
   |some p=>
    rw[d]at h;simp only at h⊢;by_cases a:lW f.typ f.num f.txt p=0
    ·rw[aj a]at h⊢;rw[af8 l fs _ h,ala]
    ·rw[ah a]at h;exact absurd h a
def U1(s:Q0)(v:Int):rU (iK s v).1 (iK s v).2.1:=by
 unfold iK;obtain⟨a,b,-⟩:=ahh (s.drop (aB s).2.1);repeat' split
 all_goals first|exact Ih|skip
 have h:=ZJ (aW (aB s).1 v) (lM (aW (aB s).1 v) (wX (s.drop (aB s).2.1)).1) {fV with kind:=(aB s).1} (Na _ a) (adK (aB s).1 (by omega));simp only;split
 ·exact Ih
 ·split
  ·exact Ih
  ·exact⟨h.body,h.d,h.t,Na _ a,kF (Yy _ _) b⟩
def ayw(a b k:Nat)(h:a<2^k):a |||b*2^k=a+b*2^k:=by rw[Nat.or_comm,<-Nat.shiftLeft_eq,<-Nat.shiftLeft_add_eq_or_of_lt h,LD]
def NR{a b k m:Nat}(c:m=2^k)(h:a<m)(g:a+b*m<4294967296):bV .or .u32 (a:Int) ((b*m:Nat):Int)=some (.i .u32 ((a+b*m:Nat):Int)):=by
 have d:∀y:Int,IntKind.u32.wrap y=y%4294967296:=λy=>by simp[IntKind.wrap,IntKind.signed,IntKind.bits]
 have e:(BitVec.ofInt 32 (a:Int)).toNat=a:=by rw[vw];omega
 have f:(BitVec.ofInt 32 ((b*m:Nat):Int)).toNat=b*m:=by rw[vw];omega
 show some (GV.i IntKind.u32 (IntKind.u32.wrap ((BitVec.ofInt 32 (a:Int) |||BitVec.ofInt 32 ((b*m:Nat):Int)).toNat:Int)))=_
 rw[adP,e,f,c,ayw a b k (by rw[<-c];exact h),<-c,d];congr 2;omega
def Ov{a:IntKind}{b k m B:Nat}(c:∀y:Int,a.wrap y=y%(B:Int))(d:m=2^k)(f:k<=a.bits)(h:b*m<B):kD .shl a (b:Int) (k:Int)=some (.i a ((b*m:Nat):Int)):=by
 unfold kD;rw[dA,xG,LJ f];simp only;have e:(b:Int)*2^k=((b*m:Nat):Int):=by rw[d];push_cast;rfl
 rw[e,c,Int.emod_eq_of_lt (Int.natCast_nonneg _) (Int.ofNat_lt.2 h)]
def aoY(p:Q0)(N:p.length<=65536):TT.lim 279 [.s p,.s (le4 (iU p))]=some [.b true]:=by
 have F:=ZF p (by omega);have v:=afY p;unfold le4;generalize iU p=n at *;have h:∀y:Int,IntKind.u32.wrap y=y%((4294967296:Nat):Int):=λy=>by simp[IntKind.wrap,IntKind.signed,IntKind.bits]
 obtain⟨f,i⟩:∃c,n%256=c:=⟨_,rfl⟩
 obtain⟨d,j⟩:∃c,n/256%256=c:=⟨_,rfl⟩
 obtain⟨e,l⟩:∃c,n/65536%256=c:=⟨_,rfl⟩
 obtain⟨g,o⟩:∃c,n/16777216%256=c:=⟨_,rfl⟩
 rw[i,j,l,o];have G:(UInt8.ofNat f).toNat=f:=Fv (by omega);have H:(UInt8.ofNat d).toNat=d:=Fv (by omega);have I:(UInt8.ofNat e).toNat=e:=Fv (by omega);have J:(UInt8.ofNat g).toNat=g:=Fv (by omega);have w:kD .shl .u32 (d:Int) 8=some (.i .u32 ((d*256:Nat):Int)):=Ov (k:=8) h rfl (by decide) (by omega);have x:kD .shl .u32 (e:Int) 16=some (.i .u32 ((e*65536:Nat):Int)):=Ov (k:=16) h rfl (by decide) (by omega);have z:kD .shl .u32 (g:Int) 24=some (.i .u32 ((g*16777216:Nat):Int)):=Ov (k:=24) h rfl (by decide) (by omega);have o1:=NR (a:=f) (b:=d) (k:=8) (m:=256) rfl (by omega) (by omega);have t:=NR (a:=f+d*256) (b:=e) (k:=16) (m:=65536) rfl (by omega) (by omega);have u:=NR (a:=f+d*256+e*65536) (b:=g) (k:=24) (m:=16777216) rfl (by omega) (by omega);have A:f+d*256+e*65536+g*16777216=n:=by omega
 rw[A]at u;have w0:IntKind.u32.wrap (f:Int)=f:=by rw[h];omega
 have w1:IntKind.u32.wrap (d:Int)=d:=by rw[h];omega
 have L:IntKind.u32.wrap (e:Int)=e:=by rw[h];omega
 have M:IntKind.u32.wrap (g:Int)=g:=by rw[h];omega
 clear i j l o A v;obtain⟨O,B⟩:∃q:Int,((g*16777216:Nat):Int)=q:=⟨_,rfl⟩
 obtain⟨P,D⟩:∃q:Int,((f+d*256+e*65536:Nat):Int)=q:=⟨_,rfl⟩
 obtain⟨Q,r⟩:∃q:Int,((e*65536:Nat):Int)=q:=⟨_,rfl⟩
 obtain⟨R,E⟩:∃q:Int,((f+d*256:Nat):Int)=q:=⟨_,rfl⟩
 obtain⟨S,s⟩:∃q:Int,((d*256:Nat):Int)=q:=⟨_,rfl⟩
 rw[B]at z u;rw[D]at t u;rw[r]at x t;rw[E]at o1 t;rw[s]at w o1;clear B D r E s;refine aT ?_;simp -implicitDefEqProofs[F,G,H,I,J,w0,w1,L,M,w,x,z,o1,t,u]
def ahb(n:Nat)(f:n<=65536):TT.lim 280 [.zq n]=some [.zq ((2+fO n+n+4:Nat):Int)]:=by
 have k:=Ox n (by omega);have g:=OO 3 n (by omega) (by omega);have a:¬((n:Int)<0):=by omega
 have b:¬(65536<(n:Int)):=by omega
 have w:=jA ((n:Int));have w1:=bF (2+(fO n:Int));have c:=bF (2+(fO n:Int)+n);have d:=bF (2+(fO n:Int)+n+4);have e:((2+fO n+n+4:Nat):Int)=2+(fO n:Int)+n+4:=by omega
 rw[e];refine aT ?_;simp -implicitDefEqProofs[a,b,k,w,w1,c,d]
def aah(p:Q0):(jf p).length=2+fO p.length+p.length+4:=by unfold jf fO;simp -implicitDefEqProofs[le4];omega
def axf(s:Q0):TT.lim 275 [.s ([81,70]++s)]=some [.zq 0]/\TT.lim 275 [.s []]=some [.zq 1]/\TT.lim 275 [.s [81]]=some [.zq 1]:=by
 have w1:=bF ((1:Int));have d:=bF ((2:Int));have e:¬(0:Int)=(s.length:Int)+1+1:=by omega
 have f:¬(1:Int)=(s.length:Int)+1+1:=by omega
 have a:TT.lim 276 [.s ([81,70]++s),.zq 2]=some [.zq 1]:=by refine au ?_;simp
 have b:TT.lim 276 [.s ([81,70]++s),.zq 1]=some [.zq 1]:=by refine au ?_;simp at a;simp -implicitDefEqProofs[f,d,a]
 have c:TT.lim 276 [.s ([81,70]++s),.zq 0]=some [.zq 1]:=by refine au ?_;simp at b;simp -implicitDefEqProofs[e,w1,b]
 have g:TT.lim 276 [.s [],.zq 0]=some [.zq 0,.zq 1]:=by refine au ?_;simp
 have h:TT.lim 276 [.s [81],.zq 1]=some [.zq 0,.zq 1]:=by refine au ?_;simp
 have i:TT.lim 276 [.s [81],.zq 0]=some [.zq 0,.zq 1]:=by refine au ?_;simp -implicitDefEqProofs[w1,h]
 refine⟨?_,?_,?_⟩
 ·refine aT ?_;simp at c;simp -implicitDefEqProofs[c]
 ·refine aT ?_;simp -implicitDefEqProofs[g]
 ·refine aT ?_;simp -implicitDefEqProofs[i]
def ayW{p:Q0}(f:p.length<=65536):TT.lim 274 [.s (jf p)]=some [.s p,.zq ((jf p).length:Nat),.zq 0]:=by
 have a:=aoY p f;have b:=ahb p.length f;have c:=(axf (aQ p.length++(p++le4 (iU p)))).1;have h:=OO 3 p.length (by omega) (by omega);have i:(p++le4 (iU p)).length=p.length+4:=by simp[le4]
 have g:(aQ p.length++(p++le4 (iU p))).length=fO p.length+(p.length+4):=by rw[eP,i];rfl
 have d:=vP (aQ p.length++(p++le4 (iU p))) (by omega);rw[FD _ _ (by omega)]at d;have j:jf p=81::70::(aQ p.length++(p++le4 (iU p))):=by unfold jf;simp
 have k:List.take p.length (p++le4 (iU p))=p:=Tc;have l:List.drop p.length (List.take ((p.length:Int)+4).toNat (p++le4 (iU p)))=le4 (iU p):=by
  have:((p.length:Int)+4).toNat=p.length+4:=by omega
  rw[this,lG (by omega),tu]
 rw[aah,j];have m:List.drop (2+(fO p.length:Int)).toNat (List.take (((aQ p.length++(p++le4 (iU p))).length:Int)+1+1).toNat (81::70::(aQ p.length++(p++le4 (iU p)))))=p++le4 (iU p):=by
  have e:(((aQ p.length++(p++le4 (iU p))).length:Int)+1+1).toNat=(aQ p.length++(p++le4 (iU p))).length+2:=by omega
  have n:(2+(fO p.length:Int)).toNat=fO p.length+2:=by omega
  rw[e,n,lG (by simp)];exact tu
 have o:List.drop 2 (List.take (((aQ p.length++(p++le4 (iU p))).length:Int)+1+1).toNat (81::70::(aQ p.length++(p++le4 (iU p)))))=aQ p.length++(p++le4 (iU p)):=by
  have e:(((aQ p.length++(p++le4 (iU p))).length:Int)+1+1).toNat=(aQ p.length++(p++le4 (iU p))).length+2:=by omega
  rw[e,lG (by simp)];rfl
 change TT.lim 277 [.s (aQ p.length++(p++le4 (iU p)))]=some [.zu (p.length:Nat),.zq (fO p.length:Nat),.zq 0]at d
 have c:TT.lim 275 [.s (81::70::(aQ p.length++(p++le4 (iU p))))]=some [.zq 0]:=c;generalize p++le4 (iU p)=U at *;generalize le4 (iU p)=A,aQ p.length++U=T at *;have q:¬(65536:Int)<(p.length:Int):=by omega
 generalize((2+fO p.length+p.length+4:Nat):Int)=B at *;generalize fO p.length=V at *;have w1:=bF (2+(V:Int));have r:=bF ((p.length:Int));have s:=bF ((p.length:Int)+4);have t:(2:Int)<=(T.length:Int)+1+1:=by omega
 have u:2+(V:Int)<=(T.length:Int)+1+1:=by omega
 have v:(0:Int)<=2+(V:Int):=by omega
 have w:¬(U.length:Int)<(p.length:Int)+4:=by omega
 have x:(p.length:Int)<=(U.length:Int):=by omega
 have y:(p.length:Int)+4<=(U.length:Int):=by omega
 have z:(p.length:Int)<=(p.length:Int)+4:=by omega
 refine aT ?_;simp -implicitDefEqProofs[c,d,q,w1,r,s,t,u,v,o,m,w,x,y,z,k,l,a,b]
