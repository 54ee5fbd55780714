/- What the trees compute: plain laws. -/
import Derived.Test.YtmkkknckcnpljaaGreatDoorKRe7
set_option linter.all false
namespace Go.Proofs.YtmkkknckcnpljaaGreatDoor
open Go Go.aO
set_option maxRecDepth 100000
namespace R
def gI(rec:Q0->List aH×Int)(w:Nat)(ahead:Nat)(s:Q0):aH×Nat×Int:=
 if(ay s).2.2≠0 then(.mk 0 0 0 [] [],0,(ay s).2.2)
 else if(ay s).1/4=0 then(.mk 0 0 0 [] [],0,18)
 else if 4294967296<(ay s).1/4 then(.mk 0 0 0 [] [],0,18)
 else if 3<=(ay s).1%4 then(.mk 0 0 0 [] [],0,8)
 else if(ay s).1/4<=ahead then(.mk 0 0 0 [] [],0,7)
 else
  let r:=s.drop (ay s).2.1
  let k:=(ay s).2.1+(ay r).2.1
  if(ay r).2.2≠0 then(.mk 0 0 0 [] [],0,(ay r).2.2)
  else if(ay s).1%4=0 then(.mk ((ay s).1/4:Nat) 0 (ay r).1 [] [],k,0)
  else if s.length-k<(ay r).1 then(.mk 0 0 0 [] [],0,1)
  else if(ay s).1%4=1 then(.mk ((ay s).1/4:Nat) 1 0 ((s.drop k).take (ay r).1) [],k+(ay r).1,0)
  else if 8<=w then(.mk 0 0 0 [] [],0,9)
  else if(rec ((s.drop k).take (ay r).1)).2≠0 then(.mk 0 0 0 [] [],0,(rec ((s.drop k).take (ay r).1)).2)
  else(.mk ((ay s).1/4:Nat) 2 0 [] (rec ((s.drop k).take (ay r).1)).1,k+(ay r).1,0)
def bU:Nat->Nat->Nat->List UInt8->List aH×Int
 |0,_,_,_=>([],0)
 |N+1,w,ahead,s=>if s=[]then([],0)else
  if(gI (λt=>bU N (w+1) 0 t) w ahead s).2.2≠0 then([],(gI (λt=>bU N (w+1) 0 t) w ahead s).2.2)
  else if(bU N w ((ay s).1/4) (s.drop (gI (λt=>bU N (w+1) 0 t) w ahead s).2.1)).2≠0 then([],(bU N w ((ay s).1/4) (s.drop (gI (λt=>bU N (w+1) 0 t) w ahead s).2.1)).2)
  else((gI (λt=>bU N (w+1) 0 t) w ahead s).1::(bU N w ((ay s).1/4) (s.drop (gI (λt=>bU N (w+1) 0 t) w ahead s).2.1)).1,0)
def akX(n:Nat)(d:n<18446744073709551616):gG .and .u64 (n:Int) 3=some (.i .u64 ((n:Int)%4)):=by
 have a:∀y:Int,IntKind.u64.wrap y=y%18446744073709551616:=λy=>by simp[IntKind.wrap,IntKind.signed,IntKind.bits]
 have e:n &&& 3=n%4:=aky n 2;have b:(BitVec.ofInt 64 (n:Int)).toNat=n:=by rw[xB];omega
 have c:(BitVec.ofInt 64 3).toNat=3:=by decide
 show some (GV.i IntKind.u64 (IntKind.u64.wrap ((BitVec.ofInt 64 (n:Int) &&& BitVec.ofInt 64 3).toNat:Int)))=_
 rw[ach,b,c,e,a];congr 2;omega
def aBo(n:Nat):oW .shr .u64 (n:Int) 2=some (.i .u64 ((n:Int)/4)):=by
 show some (GV.i IntKind.u64 ((n:Int).fdiv (2^2)))=_
 rw[QG _ (by decide)];rfl
def ax7(t y w:GV)(s:Q0)(a:Nat)(h:a<=s.length)(b:s.length<=100000000)(n x:GV):
 TT.lim 228 [t,y,w,.s s,.i .i64 a,n,x]=some [.i .i64 0,.i .i64 (ay (s.drop a)).2.2,.i .u64 ((ay (s.drop a)).1:Nat),.s s,.i .i64 ((a+(ay (s.drop a)).2.1:Nat):Int)]:=by
 have k:=Ci s a h (by omega);refine au rfl rfl ?_;simp[k]
def ax9(t y w:GV)(s:Q0)(b:Nat)(h:b<=s.length)(E:s.length<=100000000)(n:GV):
 ∃a,TT.lim 229 [t,y,w,.s s,.i .i64 b,n,.s []]=some
  (if(ay (s.drop b)).2.2≠0 then[.i .i64 0,.i .i64 (ay (s.drop b)).2.2,.s [],.s s,.i .i64 (a:Nat)]
  else if s.length-(b+(ay (s.drop b)).2.1)<(ay (s.drop b)).1 then[.i .i64 0,.i .i64 1,.s [],.s s,.i .i64 (a:Nat)]
  else[.i .i64 0,.i .i64 0,.s ((s.drop (b+(ay (s.drop b)).2.1)).take (ay (s.drop b)).1),.s s,.i .i64 ((b+(ay (s.drop b)).2.1+(ay (s.drop b)).1:Nat):Int)]):=by
 have k:=Ci s b h (by omega);by_cases d:(ay (s.drop b)).2.2=0;rotate_left
 ·refine⟨b+(ay (s.drop b)).2.1,?_⟩;rw[aj d];generalize(ay (s.drop b)).2.2=e at *;refine au rfl rfl ?_;simp[k,d]
 have i:=iQ d;have q:=i.len;have r:=i.lt;rw[dH]at q;rw[d]at k;refine⟨b+(ay (s.drop b)).2.1,?_⟩;rw[ah (λx=>x d)];clear d;generalize(ay (s.drop b)).1=m at *;generalize(ay (s.drop b)).2.1=j at *;have w1:=wrap64 (n:=(s.length:Int)-((b+j:Nat):Int)) (by omega) (by omega);have l:=dn (n:=(s.length:Int)-((b+j:Nat):Int)) (by omega) (by omega);by_cases c:s.length-(b+j)<m
 ·have f:(s.length:Int)-((b+j:Nat):Int)<(m:Int):=by omega
  rw[aj c];generalize((b+j:Nat):Int)=A at *;refine au rfl rfl ?_;simp[k,w1,l,f]
 ·have f:¬((s.length:Int)-((b+j:Nat):Int)<(m:Int)):=by omega
  rw[ah c];have u:=wrap64 (n:=(m:Int)) (by omega) (by omega);have o:=wrap64 (n:=((b+j:Nat):Int)+(m:Int)) (by omega) (by omega);have p:((b+j:Nat):Int)+(m:Int)=((b+j+m:Nat):Int):=by omega
  rw[p]at o;have v:(0:Int)<=((b+j:Nat):Int)/\((b+j:Nat):Int)<=((b+j+m:Nat):Int)/\((b+j+m:Nat):Int)<=s.length:=by omega
  have g:(s.take (b+j+m)).drop (b+j)=(s.drop (b+j)).take m:=by rw[Aw,show b+j+m-(b+j)=m by omega]
  have z:(((b+j:Nat):Int)).toNat=b+j:=by omega
  have D:(((b+j+m:Nat):Int)).toNat=b+j+m:=by omega
  generalize F:((b+j:Nat):Int)=A at *;generalize G:((b+j+m:Nat):Int)=B at *;refine au rfl rfl ?_;simp[k,w1,l,f,u,p,o,v,z,D,g]
def NP(N:Nat):Prop:=∀(w ahead c:Nat)(s:Q0),c<=s.length->s.length<=100000000->(s.drop c).length<N->w<=8->ahead<18446744073709551616->∃a b,TT.lim 224 [.s s,.i .i64 (w:Nat),.i .u64 (ahead:Nat),.i .i64 (c:Nat)]=some [.i .i64 0,.l (aC (bU N w ahead (s.drop c)).1),.i .i64 (bU N w ahead (s.drop c)).2,.i .u64 (a:Nat),.s s,.i .i64 (b:Nat)]
def ax4{N:Nat}(F:NP N)(t y:GV)(w:Nat)(Q:w<=8)(s:Q0)(d:Nat)(h:d<=s.length)(S:s.length<=100000000)(G:(s.drop d).length<=N)(n x:GV):
 ∃a,TT.lim 230 [t,y,.i .i64 (w:Nat),.s s,.i .i64 d,n,x]=some
  (if(ay (s.drop d)).2.2≠0 then[.i .i64 0,.i .i64 (ay (s.drop d)).2.2,.l [],.s s,.i .i64 (a:Nat)]
  else if s.length-(d+(ay (s.drop d)).2.1)<(ay (s.drop d)).1 then[.i .i64 0,.i .i64 1,.l [],.s s,.i .i64 (a:Nat)]
  else if 8<=w then[.i .i64 0,.i .i64 9,.l [],.s s,.i .i64 (a:Nat)]
  else[.i .i64 0,.i .i64 (bU N (w+1) 0 ((s.drop (d+(ay (s.drop d)).2.1)).take (ay (s.drop d)).1)).2,.l (aC (bU N (w+1) 0 ((s.drop (d+(ay (s.drop d)).2.1)).take (ay (s.drop d)).1)).1),.s s,.i .i64 ((d+(ay (s.drop d)).2.1+(ay (s.drop d)).1:Nat):Int)]):=by
 have k:=Ci s d h (by omega);by_cases f:(ay (s.drop d)).2.2=0;rotate_left
 ·refine⟨d+(ay (s.drop d)).2.1,?_⟩;rw[aj f];generalize(ay (s.drop d)).2.2=e at *;refine au rfl rfl ?_;simp[k,f]
 have q:=iQ f;have H:=q.len;have I:=q.lt;have U:=q.pos;rw[dH]at H G;rw[f]at k;by_cases c:s.length-(d+(ay (s.drop d)).2.1)<(ay (s.drop d)).1
 ·refine⟨d+(ay (s.drop d)).2.1,?_⟩;rw[ah (λx=>x f),aj c];clear f;generalize(ay (s.drop d)).1=m at *;generalize(ay (s.drop d)).2.1=j at *;have w1:=wrap64 (n:=(s.length:Int)-((d+j:Nat):Int)) (by omega) (by omega);have i:=dn (n:=(s.length:Int)-((d+j:Nat):Int)) (by omega) (by omega);have l:(s.length:Int)-((d+j:Nat):Int)<(m:Int):=by omega
  generalize((d+j:Nat):Int)=A at *;refine au rfl rfl ?_;simp[k,w1,i,l]
 by_cases D:8<=w
 ·refine⟨d+(ay (s.drop d)).2.1+(ay (s.drop d)).1,?_⟩;rw[ah (λx=>x f),ah c,aj D];clear f;generalize(ay (s.drop d)).1=m at *;generalize(ay (s.drop d)).2.1=j at *;have w1:=wrap64 (n:=(s.length:Int)-((d+j:Nat):Int)) (by omega) (by omega);have i:=dn (n:=(s.length:Int)-((d+j:Nat):Int)) (by omega) (by omega);have l:¬((s.length:Int)-((d+j:Nat):Int)<(m:Int)):=by omega
  have r:=wrap64 (n:=(m:Int)) (by omega) (by omega);have o:=wrap64 (n:=((d+j:Nat):Int)+(m:Int)) (by omega) (by omega);have p:((d+j:Nat):Int)+(m:Int)=((d+j+m:Nat):Int):=by omega
  rw[p]at o;have u:(0:Int)<=((d+j:Nat):Int)/\((d+j:Nat):Int)<=((d+j+m:Nat):Int)/\((d+j+m:Nat):Int)<=s.length:=by omega
  have v:(8:Int)<=(w:Int):=by omega
  generalize J:((d+j:Nat):Int)=A at *;generalize L:((d+j+m:Nat):Int)=B at *;refine au rfl rfl ?_;simp[k,w1,i,l,r,p,o,u,v]
 ·refine⟨0,?_⟩;rw[ah (λx=>x f),ah c,ah D];clear f;generalize(ay (s.drop d)).1=m at *;generalize(ay (s.drop d)).2.1=j at *;have g:=F (w+1) 0 0 ((s.drop (d+j)).take m) (by omega) (by rw[kN,dH];omega) (by rw[bK,kN,dH];omega) (by omega) (by omega);obtain⟨a,b,g⟩:=g;rw[bK]at g;have w1:=wrap64 (n:=(s.length:Int)-((d+j:Nat):Int)) (by omega) (by omega);have i:=dn (n:=(s.length:Int)-((d+j:Nat):Int)) (by omega) (by omega);have l:¬((s.length:Int)-((d+j:Nat):Int)<(m:Int)):=by omega
  have r:=wrap64 (n:=(m:Int)) (by omega) (by omega);have o:=wrap64 (n:=((d+j:Nat):Int)+(m:Int)) (by omega) (by omega);have p:((d+j:Nat):Int)+(m:Int)=((d+j+m:Nat):Int):=by omega
  rw[p]at o;have u:(0:Int)<=((d+j:Nat):Int)/\((d+j:Nat):Int)<=((d+j+m:Nat):Int)/\((d+j+m:Nat):Int)<=s.length:=by omega
  have z:(s.take (d+j+m)).drop (d+j)=(s.drop (d+j)).take m:=by rw[Aw,show d+j+m-(d+j)=m by omega]
  have M:(((d+j:Nat):Int)).toNat=d+j:=by omega
  have O:(((d+j+m:Nat):Int)).toNat=d+j+m:=by omega
  have v:¬(8:Int)<=(w:Int):=by omega
  have P:=wrap64 (n:=(w:Int)+1) (by omega) (by omega);have E:(w:Int)+1=((w+1:Nat):Int):=by omega
  simp only[mZ]at g;rw[<-E]at g;generalize(s.drop (d+j)).take m=T at *;generalize bU N (w+1) 0 T=R at *;generalize J:((d+j:Nat):Int)=A at *;generalize L:((d+j+m:Nat):Int)=B at *;generalize V:(w:Int)=W at *;clear E;refine au rfl rfl ?_;simp[k,w1,i,l,r,p,o,u,M,O,z,v,P,g]
def ax6{N:Nat}(hN:NP N)(w ahead:Nat)(hw:w<=8)(ha:ahead<18446744073709551616)(s:Q0)(d:Nat)(h:d<=s.length)(U:s.length<=100000000)(Ud:(s.drop d).length<=N+1):
 ∃a b:Nat,TT.lim 226 [.i .i64 (w:Nat),.i .u64 (ahead:Nat),.s s,.i .i64 d]=some (.i .i64 0::((iE (gI (λt=>bU N (w+1) 0 t) w ahead (s.drop d)).1).cells++[.i .i64 (gI (λt=>bU N (w+1) 0 t) w ahead (s.drop d)).2.2,.i .u64 (a:Nat),.s s,.i .i64 (b:Nat)]))/\
  ((gI (λt=>bU N (w+1) 0 t) w ahead (s.drop d)).2.2=0->a=(ay (s.drop d)).1/4/\b=d+(gI (λt=>bU N (w+1) 0 t) w ahead (s.drop d)).2.1/\1<=(gI (λt=>bU N (w+1) 0 t) w ahead (s.drop d)).2.1/\b<=s.length):=by
 have k:=Ci s d h (by omega);have fn:aC []=[]:=by simp only[aC]
 have v:(iE (.mk 0 0 0 [] [])).cells=[.i .u64 0,.i .i64 0,.i .u64 0,.s [],.l []]:=by rw[Le,fn]
 unfold gI;by_cases F:(ay (s.drop d)).2.2=0;rotate_left
 ·refine⟨ahead,d+(ay (s.drop d)).2.1,?_,?_⟩
  ·simp only[aj F];rw[v];generalize(ay (s.drop d)).2.2=e at *;refine au rfl rfl ?_;simp[k,F]
  ·simp only[aj F];exact λx=>absurd x F
 have P:=iQ F;have hl:=P.len;have V:=P.lt;have hp:=P.pos;rw[dH]at hl Ud;have J:(s.drop d).drop (ay (s.drop d)).2.1=s.drop (d+(ay (s.drop d)).2.1):=by rw[nP]
 rw[J];have L:(s.drop d).length=s.length-d:=dH;rw[L];rw[F]at k;simp only[ah (λx=>x F:¬(ay (s.drop d)).2.2≠0)];have M:∀W:Nat,(s.drop d).drop ((ay (s.drop d)).2.1+W)=s.drop (d+(ay (s.drop d)).2.1+W):=λW=>by rw[nP,jH]
 rw[M];clear F P J L M;generalize(ay (s.drop d)).1=n at *;generalize(ay (s.drop d)).2.1=j at *;have S:=aBo n;have A:=akX n V;have o:=wrap64 (n:=(n:Int)%4) (by omega) (by omega);by_cases X:n/4=0
 ·refine⟨ahead,d+j,?_,?_⟩
  ·simp only[aj X];rw[v];have f:(n:Int)/4=0:=by omega
   generalize(n:Int)/4=q at *;refine au rfl rfl ?_;simp[k,S,A,o,f]
  ·simp only[aj X];exact λx=>absurd x (by decide)
 have f:¬(n:Int)/4=0:=by omega
 simp only[ah X];by_cases Y:4294967296<n/4
 ·refine⟨ahead,d+j,?_,?_⟩
  ·simp only[aj Y];rw[v];have g:4294967296<(n:Int)/4:=by omega
   generalize(n:Int)/4=q at *;refine au rfl rfl ?_;simp[k,S,A,o,f,g]
  ·simp only[aj Y];exact λx=>absurd x (by decide)
 have g:¬4294967296<(n:Int)/4:=by omega
 simp only[ah Y];by_cases Z:3<=n%4
 ·refine⟨ahead,d+j,?_,?_⟩
  ·simp only[aj Z];rw[v];have G:3<=(n:Int)%4:=by omega
   generalize(n:Int)/4=q at *;generalize(n:Int)%4=y at *;refine au rfl rfl ?_;simp[k,S,A,o,f,g,G]
  ·simp only[aj Z];exact λx=>absurd x (by decide)
 have G:¬3<=(n:Int)%4:=by omega
 simp only[ah Z];by_cases c4:n/4<=ahead
 ·refine⟨ahead,d+j,?_,?_⟩
  ·simp only[aj c4];rw[v];have z:(n:Int)/4<=(ahead:Int):=by omega
   generalize(n:Int)/4=q at *;generalize(n:Int)%4=y at *;generalize(ahead:Int)=D at *;refine au rfl rfl ?_;simp[k,S,A,o,f,g,G,z]
  ·simp only[aj c4];exact λx=>absurd x (by decide)
 have z:¬(n:Int)/4<=(ahead:Int):=by omega
 simp only[ah c4];have E:((n/4:Nat):Int)=(n:Int)/4:=by omega
 have hj:d+j<=s.length:=by omega
 rcases(show n%4=0\/n%4=1\/n%4=2 by omega)with H|y1|y2
 ·have O:(n:Int)%4=0:=by omega
  have l:=ax7 (.i .u64 ((n:Int)/4)) (.i .i64 0) (.i .i64 (w:Nat)) s (d+j) hj U (.i .u64 0) (.s []);rw[O]at A o;by_cases i:(ay (s.drop (d+j))).2.2=0
  ·have p:=iQ i;have r:=p.len;rw[dH]at r;refine⟨n/4,d+j+(ay (s.drop (d+j))).2.1,?_,?_⟩
   ·simp only[ah (λx=>x i:¬(ay (s.drop (d+j))).2.2≠0),aj H];rw[Le,fn,E];rw[i]at l;clear p r i;generalize(ay (s.drop (d+j))).1=m at *;generalize((d+j+(ay (s.drop (d+j))).2.1:Nat):Int)=B at *;generalize((d+j:Nat):Int)=AT at *;generalize(n:Int)/4=q at *;generalize(ahead:Int)=D at *;refine au rfl rfl ?_;simp[k,S,A,o,f,g,z,l]
   ·simp only[ah (λx=>x i:¬(ay (s.drop (d+j))).2.2≠0),aj H];refine λ_=>⟨?_,?_,?_,?_⟩<;>first|trivial|rfl|omega
  ·refine⟨n/4,d+j+(ay (s.drop (d+j))).2.1,?_,?_⟩
   ·simp only[aj i];rw[v,E];generalize(ay (s.drop (d+j))).1=m at *;generalize((d+j+(ay (s.drop (d+j))).2.1:Nat):Int)=B at *;generalize(ay (s.drop (d+j))).2.2=e at *;generalize((d+j:Nat):Int)=AT at *;generalize(n:Int)/4=q at *;generalize(ahead:Int)=D at *;refine au rfl rfl ?_;simp[k,S,A,o,f,g,z,l,i]
   ·simp only[aj i];exact λx=>absurd x i
 ·have O:(n:Int)%4=1:=by omega
  have H:¬n%4=0:=by omega
  obtain⟨a,l⟩:=ax9 (.i .u64 ((n:Int)/4)) (.i .i64 1) (.i .i64 (w:Nat)) s (d+j) hj U (.i .u64 0);rw[O]at A o;have u:s.length-d-(j+(ay (s.drop (d+j))).2.1)=s.length-(d+j+(ay (s.drop (d+j))).2.1):=by omega
  by_cases i:(ay (s.drop (d+j))).2.2=0
  ·have p:=iQ i;have r:=p.len;rw[dH]at r;rw[ah (λx=>x i)]at l;simp only[ah (λx=>x i:¬(ay (s.drop (d+j))).2.2≠0),ah H];rw[u];by_cases c:s.length-(d+j+(ay (s.drop (d+j))).2.1)<(ay (s.drop (d+j))).1
   ·rw[aj c]at l;simp only[aj c];refine⟨n/4,a,?_,λx=>absurd x (by decide)⟩;rw[v,E];generalize((d+j:Nat):Int)=AT at *;generalize(n:Int)/4=q at *;generalize(ahead:Int)=D at *;refine au rfl rfl ?_;simp[k,S,A,o,f,g,z,l]
   ·rw[ah c]at l;simp only[ah c,aj y1];refine⟨n/4,d+j+(ay (s.drop (d+j))).2.1+(ay (s.drop (d+j))).1,?_,λ_=>⟨rfl,by omega,by omega,by omega⟩⟩;rw[Le,fn,E];generalize(s.drop (d+j+(ay (s.drop (d+j))).2.1)).take (ay (s.drop (d+j))).1=T at *;generalize((d+j+(ay (s.drop (d+j))).2.1+(ay (s.drop (d+j))).1:Nat):Int)=B at *;generalize((d+j:Nat):Int)=AT at *;generalize(n:Int)/4=q at *;generalize(ahead:Int)=D at *;refine au rfl rfl ?_;simp[k,S,A,o,f,g,z,l]
  ·rw[aj i]at l;simp only[aj i];refine⟨n/4,a,?_,λx=>absurd x i⟩;rw[v,E];generalize(ay (s.drop (d+j))).2.2=e at *;generalize((d+j:Nat):Int)=AT at *;generalize(n:Int)/4=q at *;generalize(ahead:Int)=D at *;refine au rfl rfl ?_;simp[k,S,A,o,f,g,z,l,i]
 ·have O:(n:Int)%4=2:=by omega
  have H:¬n%4=0:=by omega
  have y1:¬n%4=1:=by omega
  obtain⟨a,l⟩:=ax4 hN (.i .u64 ((n:Int)/4)) (.i .i64 2) w hw s (d+j) hj U (by rw[dH];omega) (.i .u64 0) (.s []);rw[O]at A o;have u:s.length-d-(j+(ay (s.drop (d+j))).2.1)=s.length-(d+j+(ay (s.drop (d+j))).2.1):=by omega
  by_cases i:(ay (s.drop (d+j))).2.2=0
  ·have p:=iQ i;have r:=p.len;rw[dH]at r;rw[ah (λx=>x i)]at l;simp only[ah (λx=>x i:¬(ay (s.drop (d+j))).2.2≠0),ah H];rw[u];by_cases c:s.length-(d+j+(ay (s.drop (d+j))).2.1)<(ay (s.drop (d+j))).1
   ·rw[aj c]at l;simp only[aj c];refine⟨n/4,a,?_,λx=>absurd x (by decide)⟩;rw[v,E];generalize((d+j:Nat):Int)=AT at *;generalize(n:Int)/4=q at *;generalize(ahead:Int)=D at *;refine au rfl rfl ?_;simp[k,S,A,o,f,g,z,l]
   ·rw[ah c]at l;simp only[ah c,ah y1];by_cases Q:8<=w
    ·rw[aj Q]at l;simp only[aj Q];refine⟨n/4,a,?_,λx=>absurd x (by decide)⟩;rw[v,E];generalize((d+j:Nat):Int)=AT at *;generalize(n:Int)/4=q at *;generalize(ahead:Int)=D at *;refine au rfl rfl ?_;simp[k,S,A,o,f,g,z,l]
    ·rw[ah Q]at l;simp only[ah Q];generalize(s.drop (d+j+(ay (s.drop (d+j))).2.1)).take (ay (s.drop (d+j))).1=T at *;by_cases I:(bU N (w+1) 0 T).2=0
     ·simp only[ah (λx=>x I:¬(bU N (w+1) 0 T).2≠0)];refine⟨n/4,d+j+(ay (s.drop (d+j))).2.1+(ay (s.drop (d+j))).1,?_,λ_=>⟨rfl,by omega,by omega,by omega⟩⟩;rw[Le,E];rw[I]at l;clear I c i p r u;generalize bU N (w+1) 0 T=R at *;generalize((d+j+(ay (s.drop (d+j))).2.1+(ay (s.drop (d+j))).1:Nat):Int)=B at *;generalize((d+j:Nat):Int)=AT at *;generalize(n:Int)/4=q at *;generalize(ahead:Int)=D at *;refine au rfl rfl ?_;simp[k,S,A,o,f,g,z,l]
     ·simp only[aj I];refine⟨n/4,d+j+(ay (s.drop (d+j))).2.1+(ay (s.drop (d+j))).1,?_,λx=>absurd x I⟩;rw[v,E];clear c i p r u;generalize bU N (w+1) 0 T=R at *;generalize((d+j+(ay (s.drop (d+j))).2.1+(ay (s.drop (d+j))).1:Nat):Int)=B at *;generalize((d+j:Nat):Int)=AT at *;generalize(n:Int)/4=q at *;generalize(ahead:Int)=D at *;refine au rfl rfl ?_;simp[k,S,A,o,f,g,z,l,I]
  ·rw[aj i]at l;simp only[aj i];refine⟨n/4,a,?_,λx=>absurd x i⟩;rw[v,E];generalize(ay (s.drop (d+j))).2.2=e at *;generalize((d+j:Nat):Int)=AT at *;generalize(n:Int)/4=q at *;generalize(ahead:Int)=D at *;refine au rfl rfl ?_;simp[k,S,A,o,f,g,z,l,i]
def QX(N:Nat):Prop:=∀(w:Nat)(d:List aH)(ahead c:Nat)(s:Q0),w<=8->d.length+(s.drop c).length<=200000000->c<=s.length->s.length<=100000000->(s.drop c).length<N->ahead<18446744073709551616->
    ∃a b:Nat,TT.lim 225 [.l (aC d),.i .i64 (w:Nat),.i .u64 (ahead:Nat),.s s,.i .i64 (c:Nat)]=some (if(bU N w ahead (s.drop c)).2=0 then[.i .i64 1,.l (aC (d++(bU N w ahead (s.drop c)).1)),.i .u64 (a:Nat),.s s,.i .i64 (b:Nat)]else[.i .i64 0,.i .i64 (bU N w ahead (s.drop c)).2,.i .u64 (a:Nat),.s s,.i .i64 (b:Nat)])
def air:∀(N w ahead:Nat)(s:Q0),(bU N w ahead s).2≠0->(bU N w ahead s).1=[]
 |0,_,_,_,_=>rfl
 |N+1,w,ahead,s,h=>by
  unfold bU at h⊢;by_cases h1:s=[]
  ·rw[aj h1]
  rw[ah h1]at h⊢;by_cases a:(gI (λt=>bU N (w+1) 0 t) w ahead s).2.2≠0
  ·rw[aj a]
  rw[ah a]at h⊢;by_cases b:(bU N w ((ay s).1/4) (s.drop (gI (λt=>bU N (w+1) 0 t) w ahead s).2.1)).2≠0
  ·rw[aj b]
  ·rw[ah b]at h;exact absurd rfl h
def ax5{N:Nat}(W:NP N)(X:QX N):QX (N+1):=by
 intro w g ahead d s P L h Q hl Y;have p:(s.drop d).length=s.length-d:=dH;have J:=wrap64 (n:=(s.length:Int)-(d:Int)) (by omega) (by omega);unfold bU;by_cases u:s.drop d=[]
 ·have Z:s.length-d=0:=by rw[<-p,u];rfl
  have v:¬d<s.length:=by omega
  refine⟨ahead,d,?_⟩;rw[aj u];simp only[if_true,ng];refine au rfl rfl ?_;simp[J,v]
 have M:0<s.length-d:=by rw[<-p];exact EC.2 u
 have v:d<s.length:=by omega
 simp only[ah u];obtain⟨a,b,l,z⟩:=ax6 W w ahead P Y s d h Q (by omega);have la:=jg g;by_cases j:(gI (λt=>bU N (w+1) 0 t) w ahead (s.drop d)).2.2=0;rotate_left
 ·refine⟨a,b,?_⟩;rw[aj j];generalize gI (λt=>bU N (w+1) 0 t) w ahead (s.drop d)=o at *;obtain⟨f,B,e⟩:=o;obtain⟨t,y,n,i,k⟩:=f;simp only at *;rw[ah j];rw[Le]at l;simp only[bJ,aW]at l;refine au rfl rfl ?_;simp[J,v,l,j]
 obtain⟨S,T,hu,U⟩:=z j;have D:(ay (s.drop d)).2.2=0:=by
  by_cases c:(ay (s.drop d)).2.2=0
  ·exact c
  ·exfalso;unfold gI at j;rw[aj c]at j;exact c j
 have Zi:=(iQ D).lt;simp only[ah (λx=>x j:¬(gI (λt=>bU N (w+1) 0 t) w ahead (s.drop d)).2.2≠0)];rw[j]at l;have F:(s.drop d).drop (gI (λt=>bU N (w+1) 0 t) w ahead (s.drop d)).2.1=s.drop b:=by rw[nP,<-T]
 rw[F];rw[<-S];clear F j z;have O:(s.drop b).length=s.length-b:=dH;obtain⟨a2,b2,q⟩:=X w (g++[(gI (λt=>bU N (w+1) 0 t) w ahead (s.drop d)).1]) a b s P (by rw[eX,uI];omega) U Q (by omega) (by omega);refine⟨a2,b2,?_⟩;generalize gI (λt=>bU N (w+1) 0 t) w ahead (s.drop d)=o at *;obtain⟨f,B,e⟩:=o;obtain⟨t,y,n,i,k⟩:=f;simp only at *;rw[Le]at l;simp only[bJ,aW]at l;have G:aC (g++[.mk t y n i k])=aC g++[ig t y n i k]:=by rw[Fp];simp only[aC,iE];rfl
 have H:(ig t y n i k).dZ 5=true:=rfl;have I:GV.g [.i .u64 t,.i .i64 y,.i .u64 n,.s i,.l (aC k)]=ig t y n i k:=rfl;have V:2*((aC g).length+1)*64<=281474976710656/\(aC g).length+1<=281474976710656:=by omega
 rw[G]at q;clear G S T Zi D hu U p O L M u la;by_cases r:(bU N w a (s.drop b)).2=0
 ·rw[aj r]at q;simp only[ah (λx=>x r:¬(bU N w a (s.drop b)).2≠0)];simp only[if_true];have m:g++[aH.mk t y n i k]++(bU N w a (s.drop b)).1=g++(aH.mk t y n i k::(bU N w a (s.drop b)).1):=by simp
  rw[m]at q;clear m r;generalize aC (g++(aH.mk t y n i k::(bU N w a (s.drop b)).1))=R at *;generalize ig t y n i k=E at *;generalize aC g=A at *;refine au rfl rfl ?_;simp[J,v,l,I,H,V,q]
 ·rw[ah r]at q;simp only[aj r];rw[ah r];generalize bU N w a (s.drop b)=RR at *;generalize ig t y n i k=E at *;generalize aC g=A at *;refine au rfl rfl ?_;simp[J,v,l,I,H,V,q]
def ax8{N:Nat}(g:QX N):NP N:=by
 intro w ahead c s h i j k l;have m:(s.drop c).length=s.length-c:=dH;obtain⟨a,b,d⟩:=g w [] ahead c s k (by simp only[nZ];omega) h i j l;have fn:aC []=[]:=by simp only[aC]
 refine⟨a,b,?_⟩;rw[fn,aW]at d;have e:=air N w ahead (s.drop c);generalize bU N w ahead (s.drop c)=R at *;by_cases f:R.2=0
 ·rw[aj f]at d;rw[f];refine au rfl rfl ?_;simp[d]
 ·rw[ah f]at d;rw[e f,fn];refine au rfl rfl ?_;simp[d]
def ait:∀N:Nat,NP N/\QX N
 |0=>⟨λw ahead b s _ _ a _ _=>absurd a (by omega),λw d ahead b s _ _ _ _ a _=>absurd a (by omega)⟩
 |N+1=>by have c:=ait N;have a:=ax5 c.1 c.2;exact⟨ax8 a,a⟩
def rX(s:Q0):List aH×Int:=if 65536<s.length then([],4)else bU (s.length+1) 0 0 s
def aC2(s:Q0)(f:s.length<=140737488351232):TT.lim 223 [.s s]=some [.l (aC (rX s).1),.i .i64 (rX s).2]:=by
 unfold rX;have fn:aC []=[]:=by simp only[aC]
 by_cases c:65536<s.length
 ·have d:(65536:Int)<s.length:=by omega
  rw[aj c,fn];refine aG rfl rfl ?_ rfl;simp[d]
 ·have d:¬(65536:Int)<s.length:=by omega
  obtain⟨a,b,e⟩:=(ait (s.length+1)).1 0 0 0 s (by omega) (by omega) (by rw[bK];omega) (by omega) (by omega);rw[bK]at e;rw[ah c];simp only[mZ]at e;generalize bU (s.length+1) 0 0 s=R at *;refine aG rfl rfl ?_ rfl;simp[d,e]
def sU(l:List dh):Q1:=l.map λs=>GV.i .u64 s.tag
def af0(l:List dh)(k:l.length<=1000):∀(m i:Nat)(a:Q1),i+m=l.length->a.length+m<=2000->TT.lim 233 [.l a,.l (l.map bI),.i .i64 l.length,.i .i64 i]=some [.i .i64 0,.l (a++sU (l.drop i))]
 |0,i,a,hi,o=>by
  have h:¬((i:Int)<l.length):=by omega
  have e:l.drop i=[]:=cO (by omega);rw[e];show _=some [GV.i .i64 0,.l (a++[])]
  rw[ng];refine au rfl rfl ?_;simp[h]
 |m+1,i,a,hi,o=>by
  have c:i<l.length:=by omega
  have h:((i:Int)<l.length):=by omega
  have d:(l.map bI)[i]? =some (bI l[i]):=by rw[iw,bP c];rfl
  have b:((i+1:Nat):Int)=(i:Int)+1:=by omega
  have p:=wrap64 (n:=(i:Int)+1) (by omega) (by omega);have f:l.drop i=l[i]::l.drop (i+1):=dF c;have g:=af0 l k m (i+1) (a++[.i .u64 l[i].tag]) (by omega) (by rw[eX,uI];omega);rw[f];have j:a++sU (l[i]::l.drop (i+1))=a++[GV.i .u64 l[i].tag]++sU (l.drop (i+1)):=by rw[show sU (l[i]::l.drop (i+1))=GV.i .u64 l[i].tag::sU (l.drop (i+1))from rfl,List.append_assoc];rfl
  rw[j];rw[b]at g;have q:2*(a.length+1)*8<=281474976710656/\a.length+1<=281474976710656:=by omega
  clear j f;generalize a++[GV.i .u64 l[i].tag]++sU (l.drop (i+1))=R at *;generalize l[i]=s at *;generalize l.map bI=r at *;refine au rfl rfl ?_;simp[h,d,q,GV.dZ,p,g]
def auB(k v:Int)(h1:1<=v)(d:v<=3)(e:oL k<=v):TT.lim 232 [.i .i64 k,.i .i64 v]=some [.l (sU (aS k v))]:=by
 have a:=UC k v h1 d e;have f:=yN k v;have b:=af0 (aS k v) (by omega) (aS k v).length 0 [] (by omega) (by simp;omega);rw[bK,aW]at b;simp only[mZ]at b;have c:(((aS k v).map bI).length:Int)=((aS k v).length:Int):=by rw[je]
 generalize sU (aS k v)=g at *;generalize(aS k v).map bI=h at *;generalize((aS k v).length:Int)=L at *;refine aG rfl rfl ?_ rfl;simp[a,c,b]
def DV(xs:Q1)(l:List dh):Q1:=l.foldl (λm s=>lQ (.i .u64 s.tag) (.s s.name) m) xs
def aep(l:List dh)(k:l.length<=1000)(d f g:GV):∀(m i:Nat)(xs:Q1),i+m=l.length->TT.lim 231 [d,f,g,.l (l.map bI),.i .i64 l.length,.i .i64 i,.l xs]=some [.i .i64 0,.l (DV xs (l.drop i))]
 |0,i,xs,hi=>by
  have h:¬((i:Int)<l.length):=by omega
  have e:l.drop i=[]:=cO (by omega);rw[e];show _=some [GV.i .i64 0,.l xs]
  refine au rfl rfl ?_;simp[h]
 |m+1,i,xs,hi=>by
  have b:i<l.length:=by omega
  have h:((i:Int)<l.length):=by omega
  have c:(l.map bI)[i]? =some (bI l[i]):=by rw[iw,bP b];rfl
  have a:((i+1:Nat):Int)=(i:Int)+1:=by omega
  have o:=wrap64 (n:=(i:Int)+1) (by omega) (by omega);have p:l.drop i=l[i]::l.drop (i+1):=dF b;have j:=aep l k d f g m (i+1) (lQ (.i .u64 l[i].tag) (.s l[i].name) xs) (by omega);rw[p];show _=some [GV.i .i64 0,.l (DV (lQ (.i .u64 l[i].tag) (.s l[i].name) xs) (l.drop (i+1)))]
  rw[a]at j;generalize DV (lQ (.i .u64 l[i].tag) (.s l[i].name) xs) (l.drop (i+1))=R at *;generalize l[i]=s at *;generalize l.map bI=q at *;refine au rfl rfl ?_;simp[h,c,o,j]
def ahe(t:Int):∀(l:List dh)(xs:Q1),l.Pairwise (λa b=>a.tag<b.tag)->iI (.i .u64 t) (DV xs l)=(match l.find? (λs=>decide (s.tag=t))with
 |some s=>some (.s s.name)
 |none=>iI (.i .u64 t) xs)
 |[],xs,_=>rfl
 |s::l,xs,c=>by
  rw[iK]at c;have f:=ahe t l (lQ (.i .u64 s.tag) (.s s.name) xs) c.2;show iI (.i .u64 t) (DV (lQ (.i .u64 s.tag) (.s s.name) xs) l)=_
  rw[f,acC];by_cases h:s.tag=t
  ·have d:l.find? (λs=>decide (s.tag=t))=none:=by rw[acD];intro x g;have:=c.1 x g;simp;omega
   rw[d];simp only[h,decide_true];rw[zx,aj rfl]
  ·simp only[h,decide_false];cases i:l.find? (λs=>decide (s.tag=t))with
   |some x=>rfl
   |none=>simp only;rw[zx,ah (λe=>h e.symm)]
def Df(xs:Q1)(l:List dh):Q1:=l.foldl (λm s=>lQ (.i .u64 s.tag) (.b true) m) xs
def ajp(l:List dh)(g:l.length<=1000)(d:GV):∀(m i:Nat)(xs:Q1),i+m=l.length->TT.lim 235 [d,.l (sU l),.i .i64 l.length,.i .i64 i,.l xs]=some [.i .i64 0,.l (Df xs (l.drop i))]
 |0,i,xs,hi=>by
  have h:¬((i:Int)<l.length):=by omega
  have e:l.drop i=[]:=cO (by omega);rw[e];show _=some [GV.i .i64 0,.l xs]
  refine au rfl rfl ?_;simp[h]
 |m+1,i,xs,hi=>by
  have b:i<l.length:=by omega
  have h:((i:Int)<l.length):=by omega
  have c:(sU l)[i]? =some (.i .u64 l[i].tag):=by unfold sU;rw[iw,bP b];rfl
  have a:((i+1:Nat):Int)=(i:Int)+1:=by omega
  have j:=wrap64 (n:=(i:Int)+1) (by omega) (by omega);have k:l.drop i=l[i]::l.drop (i+1):=dF b;have f:=ajp l g d m (i+1) (lQ (.i .u64 l[i].tag) (.b true) xs) (by omega);rw[k];show _=some [GV.i .i64 0,.l (Df (lQ (.i .u64 l[i].tag) (.b true) xs) (l.drop (i+1)))]
  rw[a]at f;generalize Df (lQ (.i .u64 l[i].tag) (.b true) xs) (l.drop (i+1))=R at *;generalize l[i]=s at *;generalize sU l=o at *;refine au rfl rfl ?_;simp[h,c,j,f]
def ady(t:Int):∀(l:List dh)(xs:Q1),iI (.i .u64 t) (Df xs l)=if hasTag l t=true then some (.b true)else iI (.i .u64 t) xs
 |[],xs=>rfl
 |s::l,xs=>by
  have a:=ady t l (lQ (.i .u64 s.tag) (.b true) xs);show iI (.i .u64 t) (Df (lQ (.i .u64 s.tag) (.b true) xs) l)=_
  rw[a,zx];unfold hasTag;rw[WH];by_cases h:t=s.tag
  ·simp[h]
  ·simp[h]
def iO(l:List dh)(fs:List aH):List aH:=fs.filter λf=>hasTag l f.tag
def jZ(l:List dh)(fs:List aH):List aH:=fs.filter λf=>!hasTag l f.tag
def ajq(l:List dh)(fs:List aH)(u:fs.length<=1000000):∀(m i:Nat)(a b:List aH),i+m=fs.length->a.length+b.length+m<=3000000->TT.lim 236 [.l (aC fs),.l (aC a),.l (aC b),.i .i64 fs.length,.i .i64 i,.l (Df [] l)]=some [.i .i64 0,.l (aC (a++iO l (fs.drop i))),.l (aC (b++jZ l (fs.drop i)))]
 |0,i,a,b,hi,v=>by
  have h:¬((i:Int)<fs.length):=by omega
  have e:fs.drop i=[]:=cO (by omega);rw[e];have f:iO l []=[]:=rfl;have g:jZ l []=[]:=rfl;rw[f,g,ng,ng];refine au rfl rfl ?_;simp[h]
 |m+1,i,a,b,hi,v=>by
  have h:((i:Int)<fs.length):=by omega
  obtain⟨t,y,n,s,k,g1,g2,G,L⟩:=yK (l:=fs) (i:=i) (by omega);have j:((i+1:Nat):Int)=(i:Int)+1:=by omega
  have D:=wrap64 (n:=(i:Int)+1) (by omega) (by omega);have r:=ady t l [];have c:∀z:List aH,aC (z++[.mk t y n s k])=aC z++[ig t y n s k]:=λz=>by rw[Fp];simp only[aC,iE];rfl
  have p:(ig t y n s k).dZ 5=true:=rfl;have q:GV.g [.i .u64 t,.i .i64 y,.i .u64 n,.s s,.l (aC k)]=ig t y n s k:=rfl;have E:=jg a;have F:=jg b;have d:=λa b v=>ajq l fs u m (i+1) a b (by omega) v;simp only[j]at d;rw[G];have w:iI (.i .u64 t) []=none:=rfl;cases o:hasTag l t with
  |true=>
   have f:iO l (.mk t y n s k::fs.drop (i+1))=.mk t y n s k::iO l (fs.drop (i+1)):=by unfold iO;rw[WQ (by exact o)]
   have g:jZ l (.mk t y n s k::fs.drop (i+1))=jZ l (fs.drop (i+1)):=by unfold jZ;rw[WO (by show ¬(!hasTag l t)=true;rw[o];decide)]
   rw[f,g];have d:=d (a++[.mk t y n s k]) b (by rw[eX,uI];omega);rw[c,List.append_assoc,Az]at d;rw[o,aj rfl]at r;have x:2*((aC a).length+1)*64<=281474976710656/\(aC a).length+1<=281474976710656:=by omega
   generalize aC (a++.mk t y n s k::iO l (fs.drop (i+1)))=H at *;generalize aC (b++jZ l (fs.drop (i+1)))=I at *;clear c E F f g;generalize Df [] l=J at *;generalize aC a=A at *;generalize aC b=B at *;refine au rfl rfl ?_;simp[h,g2,r,q,p,x,D,d]
  |false=>
   have f:iO l (.mk t y n s k::fs.drop (i+1))=iO l (fs.drop (i+1)):=by unfold iO;rw[WO (by show ¬hasTag l t=true;rw[o];decide)]
   have g:jZ l (.mk t y n s k::fs.drop (i+1))=.mk t y n s k::jZ l (fs.drop (i+1)):=by unfold jZ;rw[WQ (by show(!hasTag l t)=true;rw[o];rfl)]
   rw[f,g];have d:=d a (b++[.mk t y n s k]) (by rw[eX,uI];omega);rw[c,List.append_assoc,Az]at d;rw[o,ah (by decide),w]at r;have x:2*((aC b).length+1)*64<=281474976710656/\(aC b).length+1<=281474976710656:=by omega
   generalize aC (a++iO l (fs.drop (i+1)))=H at *;generalize aC (b++.mk t y n s k::jZ l (fs.drop (i+1)))=I at *;clear c E F f g;generalize Df [] l=J at *;generalize aC a=A at *;generalize aC b=B at *;refine au rfl rfl ?_;simp[h,g2,r,q,p,x,D,d]
def ais{rec:Q0->List aH×Int}{w ahead:Nat}{s:Q0}(u:s.length<=100000000)(p:∀t:Q0,t.length+2<=s.length->dO (rec t).1/\(rec t).1.length<=1000000/\cZ (rec t).1<=t.length/\wL (rec t).1<=42*t.length)(h:(gI rec w ahead s).2.2=0):
 qF (gI rec w ahead s).1/\qZ (gI rec w ahead s).1+1<=(gI rec w ahead s).2.1/\(gI rec w ahead s).2.1<=s.length/\(gI rec w ahead s).1.tag=((ay s).1/4:Nat)/\wF (gI rec w ahead s).1<=42*(gI rec w ahead s).2.1:=by
 unfold gI at h⊢;by_cases a:(ay s).2.2=0;rotate_left
 ·simp only[aj a]at h;exact absurd h a
 have d:=iQ a;simp only[ah (λx=>x a:¬(ay s).2.2≠0)]at h⊢;by_cases g:(ay s).1/4=0
 ·simp only[aj g]at h;exact absurd h (by decide)
 simp only[ah g]at h⊢;by_cases i:4294967296<(ay s).1/4
 ·simp only[aj i]at h;exact absurd h (by decide)
 simp only[ah i]at h⊢;by_cases j:3<=(ay s).1%4
 ·simp only[aj j]at h;exact absurd h (by decide)
 simp only[ah j]at h⊢;by_cases k:(ay s).1/4<=ahead
 ·simp only[aj k]at h;exact absurd h (by decide)
 simp only[ah k]at h⊢;by_cases b:(ay (s.drop (ay s).2.1)).2.2=0;rotate_left
 ·simp only[aj b]at h;exact absurd h b
 have e:=iQ b;have v:=d.len;have y:=d.pos;have q:=e.len;have z:=e.pos;have A:=d.lt;have B:=e.lt;rw[dH]at q;simp only[ah (λx=>x b:¬(ay (s.drop (ay s).2.1)).2.2≠0)]at h⊢;by_cases l:(ay s).1%4=0
 ·simp only[aj l]at h⊢;simp only[qF,dO,qZ,cZ,wF,wL,nZ];refine⟨⟨⟨by omega,by omega,by omega,by omega,by omega,by omega,by simp,by simp⟩,trivial⟩,by omega,by omega,rfl,by omega⟩
 simp only[ah l]at h⊢;by_cases c:s.length-((ay s).2.1+(ay (s.drop (ay s).2.1)).2.1)<(ay (s.drop (ay s).2.1)).1
 ·simp only[aj c]at h;exact absurd h (by decide)
 simp only[ah c]at h⊢;by_cases m:(ay s).1%4=1
 ·simp only[aj m]at h⊢;simp only[qF,dO,qZ,cZ,wF,wL];refine⟨⟨⟨by omega,by omega,by omega,by omega,by omega,by omega,by rw[kN,dH];omega,by simp⟩,trivial⟩,by omega,by omega,rfl,by rw[kN,dH];omega⟩
 simp only[ah m]at h⊢;by_cases n:8<=w
 ·simp only[aj n]at h;exact absurd h (by decide)
 simp only[ah n]at h⊢;have o:((s.drop ((ay s).2.1+(ay (s.drop (ay s).2.1)).2.1)).take (ay (s.drop (ay s).2.1)).1).length=(ay (s.drop (ay s).2.1)).1:=by rw[kN,dH];omega
 obtain⟨r1,r2,r3,r⟩:=p ((s.drop ((ay s).2.1+(ay (s.drop (ay s).2.1)).2.1)).take (ay (s.drop (ay s).2.1)).1) (by rw[o];omega);rw[o]at r3 r;generalize(s.drop ((ay s).2.1+(ay (s.drop (ay s).2.1)).2.1)).take (ay (s.drop (ay s).2.1)).1=T at *;by_cases f:(rec T).2=0;rotate_left
 ·simp only[aj f]at h;exact absurd h f
 simp only[ah (λx=>x f:¬(rec T).2≠0)]at h⊢;simp only[qF,qZ,wF,nZ];refine⟨⟨⟨by omega,by omega,by omega,by omega,by omega,by omega,by simp,r2⟩,r1⟩,by omega,by omega,rfl,by omega⟩
def Vq:∀(N w ahead:Nat)(s:Q0),s.length<=1000000->dO (bU N w ahead s).1/\(bU N w ahead s).1.length<=1000000/\cZ (bU N w ahead s).1<=s.length/\wL (bU N w ahead s).1<=42*s.length
 |0,w,ahead,s,_=>by simp only[bU,dO,cZ,wL];simp
 |N+1,w,ahead,s,h=>by
  unfold bU;by_cases h1:s=[]
  ·rw[aj h1];simp only[dO,cZ,wL];simp
  rw[ah h1];by_cases a:(gI (λt=>bU N (w+1) 0 t) w ahead s).2.2=0;rotate_left
  ·rw[aj a];simp only[dO,cZ,wL];simp
  rw[ah (λx=>x a)];obtain⟨o1,i,j,k,m⟩:=ais (rec:=λt=>bU N (w+1) 0 t) (w:=w) (ahead:=ahead) (s:=s) (by omega) (λt n=>Vq N (w+1) 0 t (by omega)) a;have c:(s.drop (gI (λt=>bU N (w+1) 0 t) w ahead s).2.1).length=s.length-(gI (λt=>bU N (w+1) 0 t) w ahead s).2.1:=dH;obtain⟨d,o,e,g⟩:=Vq N w ((ay s).1/4) (s.drop (gI (λt=>bU N (w+1) 0 t) w ahead s).2.1) (by omega);rw[c]at e g;split
  ·simp only[dO,cZ,wL];simp
  ·simp only[dO,cZ,wL];have:∀l:List aH,l.length<=cZ l:=λl=>by
    induction l with
    |nil=>simp[cZ]
    |cons f l p=>simp only[jw,cZ];omega
   have q:=this (bU N w ((ay s).1/4) (s.drop (gI (λt=>bU N (w+1) 0 t) w ahead s).2.1)).1;refine⟨⟨o1,d⟩,?_,?_,?_⟩
   ·simp only[jw];omega
   ·omega
   ·omega
def YJ(s:Q0):dO (rX s).1/\(rX s).1.length<=1000000/\cZ (rX s).1<=65536/\wL (rX s).1<=3000000:=by
 unfold rX;by_cases c:65536<s.length
 ·rw[aj c];simp only[dO,cZ,wL];simp
 ·rw[ah c];obtain⟨a,b,d,e⟩:=Vq (s.length+1) 0 0 s (by omega);exact⟨a,b,by omega,by omega⟩
def aH.typ:aH->Int
 |.mk _ y _ _ _=>y
def aH.num:aH->Int
 |.mk _ _ n _ _=>n
def aH.txt:aH->List UInt8
 |.mk _ _ _ s _=>s
def lI(l:List dh):aN->List aH->aN×Int
 |b,[]=>(b,0)
 |b,f::r=>match l.find? (λs=>decide (s.tag=f.tag))with
  |some s=>(match placeOf s.name with
   |some p=>if fF f.typ f.num f.txt p=0 then lI l (setB b f.num f.txt p) r else(gU,fF f.typ f.num f.txt p)
   |none=>(gU,26))
  |none=>(gU,26)
def aer(l:List dh)(L:l.Pairwise (λa b=>a.tag<b.tag))(w:∀s∈l,placeOf s.name≠none)(fs:List aH)(z:dO fs)(A:fs.length<=1000000)(D:∀f∈fs,hasTag l f.tag=true)(M N:GV):∀(m i:Nat)(b:aN),i+m=fs.length->qw b []->
 TT.lim 237 ([M,N,.l (aC fs),.i .i64 fs.length,.i .i64 i]++(dU b []).cells++[.l (DV [] l)])=some (if(lI l b (fs.drop i)).2=0 then .i .i64 1::(dU (lI l b (fs.drop i)).1 []).cells else[.i .i64 0,.i .i64 (lI l b (fs.drop i)).2])
 |0,i,b,hi,v=>by
  have h:¬((i:Int)<fs.length):=by omega
  have e:fs.drop i=[]:=cO (by omega);rw[e];unfold lI;rw[aj rfl];rw[dK];simp only[bJ,aW];refine au rfl rfl ?_;simp[h]
 |m+1,i,b,hi,v=>by
  have h:((i:Int)<fs.length):=by omega
  obtain⟨t,y,n,s,k,g1,g2,T,O⟩:=yK (l:=fs) (i:=i) (by omega);have q:((i+1:Nat):Int)=(i:Int)+1:=by omega
  have U:=wrap64 (n:=(i:Int)+1) (by omega) (by omega);have o:=zK z _ O;simp only[qF]at o;have E:=D _ O;have F:=ahe t l [] L;have fn:aC []=[]:=by simp only[aC]
  obtain⟨d,g⟩:∃d,l.find? (λs=>decide (s.tag=t))=some d:=by
   unfold hasTag at E;obtain⟨d,V,W⟩:=List.any_eq_true.1 E;cases J:l.find? (λs=>decide (s.tag=t))with
   |some x=>exact⟨x,rfl⟩
   |none=>have:=(acD.1 J) d V;have X:t=d.tag:=LX W;simp[X]at this
  have j:=akv g;rw[g]at F;simp only at F;obtain⟨p,H⟩:∃p,placeOf d.name=some p:=by
   cases J:placeOf d.name with
   |some p=>exact⟨p,rfl⟩
   |none=>exact absurd J (w d j)
  have c:=avN (aC k) b [] (zI v.d) v.t (by simp[cZ]) t y n s ⟨o.1.2.2.2.2.1,o.1.2.2.2.2.2.1⟩ o.1.2.2.2.2.2.2.1 d.name;rw[fn]at c;unfold ab7 at c;rw[H]at c;simp only at c;unfold ab8 at c;rw[T];unfold lI;have Y:aH.tag (.mk t y n s k)=t:=rfl;have Z:aH.typ (.mk t y n s k)=y:=rfl;have e3:aH.num (.mk t y n s k)=n:=rfl;have e4:aH.txt (.mk t y n s k)=s:=rfl;rw[Y,g,Z,e3,e4];simp only[H];have r:GV.g [.i .u64 t,.i .i64 y,.i .u64 n,.s s,.l (aC k)]=ig t y n s k:=rfl;rw[r]at c;by_cases u:fF y n s p=0
  ·rw[aj u]at c;simp only[aj u];obtain⟨P,Q,S⟩:=ajc v.body v.d v.t ⟨o.1.2.2.2.2.1,o.1.2.2.2.2.2.1⟩ o.1.2.2.2.2.2.2.1 u;have I:=aer l L w fs z A D M N m (i+1) (setB b n s p) (by omega) ⟨P,Q,S,by simp only[dO],by simp⟩;rw[q]at I;generalize lI l (setB b n s p) (fs.drop (i+1))=R at *;generalize setB b n s p=B at *;clear P Q S u g j H E o;generalize DV [] l=MP at *;generalize d.name=nm at *;generalize aC fs=G at *;rw[dK]at I;rw[dK];simp only[bJ,aW]at I⊢;refine au rfl rfl ?_;simp[↓uh,h,g2,r,F,eF,c,U,I]
  ·rw[ah u]at c;simp only[ah u];generalize fF y n s p=e at *;clear g j H E o;generalize DV [] l=MP at *;generalize d.name=nm at *;generalize aC fs=G at *;rw[dK];simp only[bJ,aW];refine au rfl rfl ?_;simp[↓uh,h,g2,r,F,eF,c,u]
def ou(s:Q0)(v:Int):aN×List aH×Int:=
 if v<1 then(gU,[],16)else if 3<v then(gU,[],16)else
 if 65536<s.length then(gU,[],4)else
 if(ay s).2.2≠0 then(gU,[],(ay s).2.2)else
 if 8<(ay s).1 then(gU,[],15)else
 if oL (ay s).1=0 then(gU,[],15)else if v<oL (ay s).1 then(gU,[],15)else
 if(rX (s.drop (ay s).2.1)).2≠0 then(gU,[],(rX (s.drop (ay s).2.1)).2)else
 let l:=aS (ay s).1 v
 let a:=(rX (s.drop (ay s).2.1)).1
 let r:=lI l {gU with kind:=(ay s).1} (iO l a)
 if r.2≠0 then(gU,[],r.2)else
 if fH r.1 (jZ l a) v≠0 then(gU,[],fH r.1 (jZ l a) v)else(r.1,jZ l a,0)
def abO(p:aH->Bool):∀l:List aH,cZ (l.filter p)<=cZ l
 |[]=>by simp[cZ]
 |f::l=>by
  have a:=abO p l;rw[acB];split
  ·simp only[cZ];omega
  ·simp only[cZ];omega
def split_ok(l:List dh)(e:l.length<=1000)(fs:List aH)(a:fs.length<=1000000)(b:cZ fs<=1000000):TT.lim 234 [.l (aC fs),.l (sU l)]=some [.l (aC (iO l fs)),.l (aC (jZ l fs))]:=by
 have d:=ajp l e (.l (aC fs)) l.length 0 [] (by omega);have c:=ajq l fs a fs.length 0 [] [] (by omega) (by simp;omega);have fn:aC []=[]:=by simp only[aC]
 rw[bK]at d c;rw[aW,aW,fn]at c;simp only[mZ]at d c;have f:=TB (iO l fs) (jP (abO _ fs) b);have g:=TB (jZ l fs) (jP (abO _ fs) b);have lt:(sU l).length=l.length:=by unfold sU;rw[je]
 have h:=jg fs;generalize aC (iO l fs)=W at *;generalize aC (jZ l fs)=O at *;generalize aC fs=G at *;generalize Df [] l=i at *;generalize sU l=j at *;refine aG rfl rfl ?_ rfl;simp[lt,h,d,c,f,g]
def Tc(l:List dh):∀(fs:List aH)(b:aN),dO fs->qw b []->qw (lI l b fs).1 []
 |[],b,_,a=>a
 |f::fs,b,c,a=>by
  simp only[dO]at c;unfold lI;cases l.find? (λs=>decide (s.tag=f.tag))with
  |none=>exact G6
  |some s=>
   simp only;cases placeOf s.name with
   |none=>exact G6
   |some p=>
    simp only;by_cases d:fF f.typ f.num f.txt p=0
    ·rw[aj d];have h1:=c.1;cases f with
     |mk t y n s k=>simp only[qF]at h1;obtain⟨e,g,h⟩:=ajc a.body a.d a.t ⟨h1.1.2.2.2.2.1,h1.1.2.2.2.2.2.1⟩ h1.1.2.2.2.2.2.2.1 d;exact Tc l fs _ c.2 ⟨e,g,h,by simp only[dO],by simp⟩
    ·rw[ah d];exact G6
def WA(k:Int)(h: -9223372036854775808<=k/\k<=9223372036854775807):qw {gU with kind:=k} []:=by have z:=G6;exact⟨{z.body with kind:=h},z.d,z.t,z.f8,z.len⟩
def Fq(p:aH->Bool):∀{l:List aH},dO l->dO (l.filter p)
 |[],_=>by simp only[List.filter_nil,dO]
 |f::l,h=>by
  simp only[dO]at h;have a:=Fq p h.2;rw[acB];split
  ·simp only[dO];exact⟨h.1,a⟩
  ·exact a
set_option maxHeartbeats 4000000 in
def decode_ok(s:Q0)(v:Int)(hs:s.length<=140737488351232):TT.lim 220 [.s s,.i .i64 v]=some [dU (ou s v).1 (aC (ou s v).2.1),.i .i64 (ou s v).2.2]:=by
 have fn:aC []=[]:=by simp only[aC]
 have h:GV.g [.i .i64 0,.i .u64 0,.i .u64 0,.i .u64 0,.i .u64 0,.i .u64 0,.i .u64 0,.i .u64 0,.i .u64 0,.i .u64 0,.i .u64 0,.i .u64 0,.i .u64 0,.i .u64 0,.i .u64 0,.i .u64 0,.i .i64 0,.b false,.s [],.s [],.s [],.l [],.l [],.l []]=dU gU []:=rfl;unfold ou;by_cases c:v<1
 ·rw[aj c];simp only;rw[fn,<-h];refine aG rfl rfl ?_ rfl;simp[c]
 rw[ah c];by_cases d:3<v
 ·rw[aj d];simp only;rw[fn,<-h];refine aG rfl rfl ?_ rfl;simp[c,d]
 rw[ah d];by_cases Q:65536<s.length
 ·rw[aj Q];have a:(65536:Int)<s.length:=by omega
  simp only;rw[fn,<-h];refine aG rfl rfl ?_ rfl;simp[c,d,a]
 rw[ah Q];have a:¬(65536:Int)<s.length:=by omega
 have k:=wO s (by omega);by_cases u:(ay s).2.2=0;rotate_left
 ·rw[aj u];simp only;rw[fn,<-h];generalize(ay s).2.2=e at *;refine aG rfl rfl ?_ rfl;simp[c,d,a,k,u]
 rw[ah (λx=>x u)];rw[u]at k;have H:=iQ u;have l1:=H.len;have t1:=H.lt;have I:(s.drop (ay s).2.1).length=s.length-(ay s).2.1:=dH;have g:=aC2 (s.drop (ay s).2.1) (by omega);obtain⟨g1,g2,Y,-⟩:=YJ (s.drop (ay s).2.1);clear H u I;generalize rX (s.drop (ay s).2.1)=F at *;generalize z:s.drop (ay s).2.1=T at *;generalize(ay s).1=n at *;generalize(ay s).2.1=j at *;have b:(s.take s.length).drop j=T:=by rw[pq];exact z
 have E:(j:Int)<=s.length:=by omega
 have S:=Zu 0;have J:oL 0=0:=rfl;rw[J]at S;by_cases U:8<n
 ·rw[aj U];have l:¬(n:Int)<=8:=by omega
  simp only;rw[fn,<-h];refine aG rfl rfl ?_ rfl;simp[c,d,a,k,l,S]
 rw[ah U];have l:(n:Int)<=8:=by omega
 have w:=wrap64 (n:=(n:Int)) (by omega) (by omega);have o:=Zu (n:Int);by_cases m:oL n=0
 ·rw[aj m];rw[m]at o;simp only;rw[fn,<-h];refine aG rfl rfl ?_ rfl;simp[c,d,a,k,l,w,o]
 rw[ah m];by_cases p:v<oL n
 ·rw[aj p];simp only;rw[fn,<-h];generalize oL n=V at *;refine aG rfl rfl ?_ rfl;simp[c,d,a,k,l,w,o,m,p]
 rw[ah p];by_cases G:F.2=0;rotate_left
 ·rw[aj G];simp only;rw[fn,<-h];generalize oL n=V at *;refine aG rfl rfl ?_ rfl;simp[c,d,a,k,l,w,o,m,p,b,z,E,g,G]
 rw[ah (λx=>x G)];rw[G]at g;have M:=UC n v (by omega) (by omega) (by omega);have N:=auB n v (by omega) (by omega) (by omega);have Z:=yN n v;have A:=aep (aS n v) (by omega) (.i .i64 v) (.i .i64 n) (.l (aC F.1)) (aS n v).length 0 [] (by omega);rw[bK]at A;simp only[mZ]at A;have P:=split_ok (aS n v) (by omega) F.1 g2 (by omega);have i:=aer (aS n v) (Pv n v).1 (UE n v) (iO (aS n v) F.1) (Fq _ g1) (jP (Ny _ _) g2) (λf hf=>(ED.1 hf).2) (.i .i64 v) (.l (aC (jZ (aS n v) F.1))) (iO (aS n v) F.1).length 0 {gU with kind:=n} (by omega) (WA n (by omega));rw[bK]at i;simp only[mZ]at i;have q:=Tc (aS n v) (iO (aS n v) F.1) {gU with kind:=n} (Fq _ g1) (WA n (by omega));have kc:=Z4 (lI (aS n v) {gU with kind:=n} (iO (aS n v) F.1)).1 (jZ (aS n v) F.1) v q.body q.t.few (Fq _ g1) (jP (Ny _ _) g2);have r:(((aS n v).map bI).length:Int)=((aS n v).length:Int):=by rw[je]
 have t:=jg (iO (aS n v) F.1);have B:(dU {gU with kind:=(n:Int)} []).cells=[.i .i64 (n:Int),.i .u64 0,.i .u64 0,.i .u64 0,.i .u64 0,.i .u64 0,.i .u64 0,.i .u64 0,.i .u64 0,.i .u64 0,.i .u64 0,.i .u64 0,.i .u64 0,.i .u64 0,.i .u64 0,.i .u64 0,.i .i64 0,.b false,.s [],.s [],.s [],.l [],.l [],.l []]:=rfl;rw[B]at i;simp only[bJ,aW]at i;simp only;clear q B g1 g2 Y Z;generalize lI (aS n v) {gU with kind:=(n:Int)} (iO (aS n v) F.1)=R at *;generalize jZ (aS n v) F.1=O at *;generalize aC (iO (aS n v) F.1)=W at *;generalize(iO (aS n v) F.1).length=WL at *;generalize aC F.1=FG at *;generalize DV [] (aS n v)=MP at *;generalize(aS n v).map bI=SP at *;generalize sU (aS n v)=TG at *;generalize((aS n v).length:Int)=L at *;generalize oL n=V at *;by_cases y:R.2=0;rotate_left
 ·rw[ah y]at i;rw[aj y];simp only;rw[fn,<-h];generalize aC O=X at *;clear kc;refine aG rfl rfl ?_ rfl;simp -implicitDefEqProofs(maxSteps:=10000000) [↓uh,c,d,a,k,l,w,o,m,p,b,z,E,g,M,r,A,N,P,t,i,y]
 rw[aj y]at i;rw[ah (λx=>x y)];rw[dK]at i;by_cases D:fH R.1 O v=0
 ·rw[ah (λx=>x D)];rw[D]at kc;simp only;generalize aC O=X at *;clear y D;refine aG rfl rfl ?_ rfl;simp -implicitDefEqProofs(maxSteps:=10000000) [↓uh,c,d,a,k,l,w,o,m,p,b,z,E,g,M,r,A,N,P,t,i,eF,kc]
 ·rw[aj D];simp only;rw[fn,<-h];generalize aC O=X at *;generalize fH R.1 O v=ck at *;refine aG rfl rfl ?_ rfl;simp -implicitDefEqProofs(maxSteps:=10000000) [↓uh,c,d,a,k,l,w,o,m,p,b,z,E,g,M,r,A,N,P,t,i,eF,kc,D]
def RAll(N:Nat):Prop:=∀(w:Nat)(s:Q0),w<=8->s.length<=1000000->s.length<N->TT.lim 286 [.s s,.i .i64 (w:Nat)]=some [.l (aC (bU N w 0 s).1),.i .i64 (bU N w 0 s).2]
set_option maxHeartbeats 4000000 in
def ayz{N:Nat}(hN:RAll N)(w ahead:Nat)(hw:w<=8)(s:Q0)(hs:s.length<=1000000)(Ud:s.length<=N+1):
 TT.lim 288 [.s s,.i .i64 (w:Nat),.i .u64 (ahead:Nat)]=some [iE (gI (λt=>bU N (w+1) 0 t) w ahead s).1,.i .i64 ((gI (λt=>bU N (w+1) 0 t) w ahead s).2.1:Nat),.i .i64 (gI (λt=>bU N (w+1) 0 t) w ahead s).2.2]:=by
 have k:=Eb s (by omega);have fn:aC []=[]:=by simp only[aC]
 have o:iE (.mk 0 0 0 [] [])=.g [.i .u64 0,.i .i64 0,.i .u64 0,.s [],.l []]:=by simp only[iE,fn]
 unfold gI;by_cases L:(ay s).2.2=0;rotate_left
 ·simp only[aj L];rw[o];generalize(ay s).2.2=e at *;refine aG rfl rfl ?_ rfl;simp[k,L]
 have Y:=iQ L;have hl:=Y.len;have af:=Y.lt;have ag:=Y.pos;have aa:(s.drop (ay s).2.1).length=s.length-(ay s).2.1:=dH;have A:=Eb (s.drop (ay s).2.1) (by omega);rw[L]at k;simp only[ah (λx=>x L:¬(ay s).2.2≠0)];clear L Y;generalize(ay s).1=n at *;generalize(ay s).2.1=j at *;have g:(n:Int).tdiv 4=(n:Int)/4:=acs (by omega);have p:(n:Int).tmod 4=(n:Int)%4:=QI (by omega);have h:=dn (n:=(n:Int)/4) (by omega) (by omega);have r:=dn (n:=(n:Int)%4) (by omega) (by omega);have u:=wrap64 (n:=(n:Int)%4) (by omega) (by omega);have B:IntKind.u64.wrap 0=0:=dn (by decide) (by decide);have D:IntKind.u64.wrap 1=1:=dn (by decide) (by decide);have E:IntKind.u64.wrap 2=2:=dn (by decide) (by decide);have z3:IntKind.u64.wrap 3=3:=dn (by decide) (by decide);have F:IntKind.i64.wrap 2=2:=wrap64 (by decide) (by decide);have y3:IntKind.i64.wrap 3=3:=wrap64 (by decide) (by decide);by_cases c1:n/4=0
 ·simp only[aj c1];rw[o];have a:(n:Int)/4=0:=by omega
  generalize(n:Int)/4=q at *;refine aG rfl rfl ?_ rfl;simp[k,g,h,a,B]
 have a:¬(n:Int)/4=0:=by omega
 simp only[ah c1];by_cases c2:4294967296<n/4
 ·simp only[aj c2];rw[o];have b:4294967296<(n:Int)/4:=by omega
  generalize(n:Int)/4=q at *;refine aG rfl rfl ?_ rfl;simp[k,g,h,a,b]
 have b:¬4294967296<(n:Int)/4:=by omega
 simp only[ah c2];by_cases c3:3<=n%4
 ·simp only[aj c3];rw[o];have i:(n:Int)%4=3:=by omega
  generalize(n:Int)/4=q at *;generalize(n:Int)%4=y at *;refine aG rfl rfl ?_ rfl;simp[k,g,p,h,r,u,a,b,i,z3,y3]
 have i:¬(n:Int)%4=3:=by omega
 simp only[ah c3];by_cases c4:n/4<=ahead
 ·simp only[aj c4];rw[o];have v:(n:Int)/4<=(ahead:Int):=by omega
  generalize(n:Int)/4=q at *;generalize(n:Int)%4=y at *;generalize(ahead:Int)=G at *;refine aG rfl rfl ?_ rfl;simp[k,g,p,h,r,u,a,b,i,v]
 have v:¬(n:Int)/4<=(ahead:Int):=by omega
 simp only[ah c4];have qn:((n/4:Nat):Int)=(n:Int)/4:=by omega
 have H:j<=s.length:=by omega
 by_cases O:(ay (s.drop j)).2.2=0;rotate_left
 ·simp only[aj O];rw[o];generalize(ay (s.drop j)).2.2=e at *;generalize(ay (s.drop j)).2.1=j2 at *;generalize(ay (s.drop j)).1=m at *;generalize(n:Int)/4=q at *;generalize(n:Int)%4=y at *;generalize(ahead:Int)=G at *;refine aG rfl rfl ?_ rfl;simp -implicitDefEqProofs(maxSteps:=10000000) [k,A,kE,kF,B,D,E,F,H,g,p,h,r,u,a,b,i,v,O]
 have z:=iQ O;have ab:=z.len;have ad:=z.lt;have ai:=z.pos;rw[O]at A;simp only[ah (λx=>x O:¬(ay (s.drop j)).2.2≠0)];clear O z;generalize(ay (s.drop j)).1=m at *;generalize(ay (s.drop j)).2.1=j2 at *;rw[aa]at ab;obtain⟨c,hJ⟩:∃c,c=j+j2:=⟨_,rfl⟩
 rw[<-hJ];have w1:=wrap64 (n:=(c:Int)) (by omega) (by omega);have f:((j:Int)+j2)=(c:Int):=by omega
 by_cases y0:n%4=0
 ·have I:(n:Int)%4=0:=by omega
  simp only[aj y0];simp only[iE,fn];rw[qn];generalize(n:Int)/4=q at *;generalize(n:Int)%4=y at *;generalize(ahead:Int)=G at *;subst I;refine aG rfl rfl ?_ rfl;simp -implicitDefEqProofs(maxSteps:=10000000) [k,A,kE,kF,B,D,E,F,H,g,p,h,r,u,a,b,v,f,w1]
 have I:¬(n:Int)%4=0:=by omega
 simp only[ah y0];have Q:=wrap64 (n:=(s.length:Int)-(c:Int)) (by omega) (by omega);have S:=dn (n:=(s.length:Int)-(c:Int)) (by omega) (by omega);by_cases c5:s.length-c<m
 ·simp only[aj c5];rw[o];have P:(s.length:Int)-(c:Int)<(m:Int):=by omega
  generalize(n:Int)/4=q at *;generalize(n:Int)%4=y at *;generalize(ahead:Int)=G at *;refine aG rfl rfl ?_ rfl;simp -implicitDefEqProofs(maxSteps:=10000000) [k,A,kE,kF,B,D,E,F,H,g,p,h,r,u,a,b,i,v,f,w1,Q,S,I,P]
 have P:¬(s.length:Int)-(c:Int)<(m:Int):=by omega
 simp only[ah c5];have Z:=wrap64 (n:=(m:Int)) (by omega) (by omega);have T:=wrap64 (n:=(c:Int)+m) (by omega) (by omega);obtain⟨M,hM⟩:∃M,M=c+m:=⟨_,rfl⟩
 simp only[<-hM];have l:(c:Int)+m=(M:Int):=by omega
 rw[l]at T;have b1:c<=M:=by omega
 have b2:M<=s.length:=by omega
 have d:M-c=m:=by omega
 have U:(s.drop c).take m=(s.take M).drop c:=by rw[Aw,d]
 by_cases y1:n%4=1
 ·have V:(n:Int)%4=1:=by omega
  simp only[aj y1];simp only[iE,fn];rw[qn,U];generalize(n:Int)/4=q at *;generalize(n:Int)%4=y at *;generalize(ahead:Int)=G at *;subst V;refine aG rfl rfl ?_ rfl;simp -implicitDefEqProofs(maxSteps:=10000000) [k,A,kE,kF,B,D,E,F,H,g,p,h,r,u,a,b,v,f,w1,Q,S,Z,T,l,P,b1,b2,d]
 have V:¬(n:Int)%4=1:=by omega
 have J:(n:Int)%4=2:=by omega
 simp only[ah y1];by_cases c6:8<=w
 ·simp only[aj c6];rw[o];have wH:(w:Int)=8:=by omega
  generalize(n:Int)/4=q at *;generalize(n:Int)%4=y at *;generalize(ahead:Int)=G at *;subst J;refine aG rfl rfl ?_ rfl;simp -implicitDefEqProofs(maxSteps:=10000000) [k,A,kE,kF,B,D,E,F,H,g,p,h,r,u,a,b,v,f,w1,Q,S,Z,T,l,P,b1,b2,d,wH]
 have wH:¬(w:Int)=8:=by omega
 simp only[ah c6];have ae:((s.drop c).take m).length=m:=by rw[kN,dH];omega
 have W:=hN (w+1) ((s.drop c).take m) (by omega) (by omega) (by omega);have w6:=wrap64 (n:=(w:Int)+1) (by omega) (by omega);have ac:((w+1:Nat):Int)=(w:Int)+1:=by omega
 rw[ac]at W;rw[U]at W⊢;generalize bU N (w+1) 0 ((s.take M).drop c)=X at *;by_cases c7:X.2=0
 ·rw[c7]at W;simp only[ah (λx=>x c7:¬X.2≠0)];simp only[iE];rw[qn];generalize aC X.1=RG at *;generalize(n:Int)/4=q at *;generalize(n:Int)%4=y at *;generalize(ahead:Int)=G at *;subst J;refine aG rfl rfl ?_ rfl;simp -implicitDefEqProofs(maxSteps:=10000000) [k,A,kE,kF,B,D,E,F,H,g,p,h,r,u,a,b,v,f,w1,Q,S,Z,T,l,P,b1,b2,d,wH,w6,W]
 ·simp only[aj c7];rw[o];generalize aC X.1=RG at *;generalize X.2=e at *;generalize(n:Int)/4=q at *;generalize(n:Int)%4=y at *;generalize(ahead:Int)=G at *;subst J;refine aG rfl rfl ?_ rfl;simp -implicitDefEqProofs(maxSteps:=10000000) [k,A,kE,kF,B,D,E,F,H,g,p,h,r,u,a,b,v,f,w1,Q,S,Z,T,l,P,b1,b2,d,wH,w6,W,c7]
def QW(N:Nat):Prop:=∀(w:Nat)(a:List aH)(ahead:Nat)(s:Q0),w<=8->s.length<=1000000->a.length+s.length<=200000000->s.length<N->ahead<18446744073709551616->
    TT.lim 287 [.s s,.i .i64 (w:Nat),.l (aC a),.i .u64 (ahead:Nat)]=some (if(bU N w ahead s).2=0 then[.i .i64 1,.l (aC (a++(bU N w ahead s).1))]else[.i .i64 0,.i .i64 (bU N w ahead s).2])
def axX{N:Nat}(H:RAll N)(I:QW N):QW (N+1):=by
 intro w b ahead s B J z Q S;unfold bU;by_cases i:s=[]
 ·subst i;rw[aj rfl];simp only[if_true,ng];refine au rfl rfl ?_;simp
 have h:0<s.length:=EC.2 i;have L:(0:Int)<s.length:=by omega
 simp only[ah i];have m:=ayz H w ahead B s J (by omega);have M:=jg b;by_cases f:(gI (λt=>bU N (w+1) 0 t) w ahead s).2.2=0;rotate_left
 ·rw[aj f];generalize gI (λt=>bU N (w+1) 0 t) w ahead s=o at *;simp only[ah f];obtain⟨⟨t,y,n,d,k⟩,a,e⟩:=o;simp only[iE]at *;refine au rfl rfl ?_;simp[h,i,m,f]
 have p:(ay s).2.2=0:=by
  by_cases c:(ay s).2.2=0
  ·exact c
  ·exfalso;unfold gI at f;rw[aj c]at f;exact c f
 have O:=(iQ p).lt;obtain⟨r1,r2,r3,D,-⟩:=ais (rec:=λt=>bU N (w+1) 0 t) (w:=w) (ahead:=ahead) (s:=s) (by omega) (λt U=>Vq N (w+1) 0 t (by omega)) f;simp only[ah (λx=>x f:¬(gI (λt=>bU N (w+1) 0 t) w ahead s).2.2≠0)];rw[f]at m;have q:(s.drop (gI (λt=>bU N (w+1) 0 t) w ahead s).2.1).length=s.length-(gI (λt=>bU N (w+1) 0 t) w ahead s).2.1:=dH;have j:=I w (b++[(gI (λt=>bU N (w+1) 0 t) w ahead s).1]) ((ay s).1/4) (s.drop (gI (λt=>bU N (w+1) 0 t) w ahead s).2.1) B (by omega) (by rw[eX,uI];omega) (by omega) (by omega);clear q;generalize gI (λt=>bU N (w+1) 0 t) w ahead s=o at *;obtain⟨⟨t,y,n,d,k⟩,a,e⟩:=o;simp only at *;have q:(s.drop a).length=s.length-a:=dH;have r:aC (b++[.mk t y n d k])=aC b++[ig t y n d k]:=by rw[Fp];simp only[aC,iE];rfl
 have u:(ig t y n d k).dZ 5=true:=rfl;have F:=YD t y n d k;have v:GV.g [.i .u64 t,.i .i64 y,.i .u64 n,.s d,.l (aC k)]=ig t y n d k:=rfl;simp only[iE]at m;have G:2*((aC b).length+1)*64<=281474976710656/\(aC b).length+1<=281474976710656:=by omega
 simp only[aH.tag]at D;subst D;rw[r]at j;clear r O p z M r1 r2 f;by_cases l:(bU N w ((ay s).1/4) (s.drop a)).2=0
 ·rw[aj l]at j;simp only[ah (λx=>x l:¬(bU N w ((ay s).1/4) (s.drop a)).2≠0)];simp only[if_true];have g:b++[aH.mk ((ay s).1/4:Nat) y n d k]++(bU N w ((ay s).1/4) (s.drop a)).1=b++(aH.mk ((ay s).1/4:Nat) y n d k::(bU N w ((ay s).1/4) (s.drop a)).1):=by simp
  rw[g]at j;clear g l;generalize aC (b++(aH.mk ((ay s).1/4:Nat) y n d k::(bU N w ((ay s).1/4) (s.drop a)).1))=R at *;generalize ig ((ay s).1/4:Nat) y n d k=E at *;generalize aC b=A at *;generalize(((ay s).1/4:Nat):Int)=T at *;refine au rfl rfl ?_;simp[h,i,m,r3,v,u,F,G,j]
 ·rw[ah l]at j;simp only[aj l];rw[ah l];generalize bU N w ((ay s).1/4) (s.drop a)=V at *;generalize ig ((ay s).1/4:Nat) y n d k=E at *;generalize aC b=A at *;generalize(((ay s).1/4:Nat):Int)=T at *;refine au rfl rfl ?_;simp[h,i,m,r3,v,u,F,G,j]
def axY{N:Nat}(d:QW N):RAll N:=by
 intro w s e f g;have a:=d w [] 0 s e f (by simp only[nZ];omega) g (by omega);have fn:aC []=[]:=by simp only[aC]
 rw[fn,aW]at a;have b:=air N w 0 s;simp only[mZ]at a;generalize bU N w 0 s=R at *;by_cases c:R.2=0
 ·rw[aj c]at a;rw[c];refine aG rfl rfl ?_ rfl;simp[a]
 ·rw[ah c]at a;rw[b c,fn];refine aG rfl rfl ?_ rfl;simp[a]
def aic:∀N:Nat,RAll N/\QW N
 |0=>⟨λw s _ _ a=>absurd a (by omega),λw c ahead s _ _ _ a _=>absurd a (by omega)⟩
 |N+1=>by have b:=aic N;have a:=axX b.1 b.2;exact⟨axY a,a⟩
def azi(s:Q0)(d:s.length<=1000000):TT.lim 285 [.s s]=some [.l (aC (rX s).1),.i .i64 (rX s).2]:=by
 unfold rX;have fn:aC []=[]:=by simp only[aC]
 by_cases c:65536<s.length
 ·have a:(65536:Int)<s.length:=by omega
  rw[aj c,fn];refine aG rfl rfl ?_ rfl;simp[a]
 ·have a:¬(65536:Int)<s.length:=by omega
  have b:=(aic (s.length+1)).1 0 s (by omega) d (by omega);rw[ah c];simp only[mZ]at b;generalize bU (s.length+1) 0 0 s=R at *;refine aG rfl rfl ?_ rfl;simp[a,b]
def Xh(b:aN)(L:GV)(ty n:Int)(s a:Q0)(p:Pl):Prop:=TT.lim 302 (.i .i64 b.kind::(fP b++[L,.s a,.i .i64 ty,.i .u64 n,.s s]))=some (if fF ty n s p=0 then .i .i64 1::fP (setB b n s p)else[.i .i64 0,.i .i64 (fF ty n s p)])
def azk(b:aN)(L:GV)(n:Int)(s:Q0)(c:¬n=0)(a:Q0)(k:Nat)(f:k<15)(e:a=nameOf (.num k))(d:TT.lim 181 [.s a]=some [.i .i64 0]):
 TT.lim 302 (.i .i64 b.kind::(fP b++[L,.s a,.i .i64 0,.i .u64 n,.s s]))=some (.i .i64 1::fP (setB b n s (.num k))):=by
 rcases(show k=0\/k=1\/k=2\/k=3\/k=4\/k=5\/k=6\/k=7\/k=8\/k=9\/k=10\/k=11\/k=12\/k=13\/k=14 by omega)with rfl|rfl|rfl|rfl|rfl|rfl|rfl|rfl|rfl|rfl|rfl|rfl|rfl|rfl|rfl
 all_goals
  simp only[nameOf,F8,Gg,Gf,FY,F7,FZ,Gi,F5,Gl,yQ,FX,F6,F9,yP,zX]at e;subst e;refine au rfl rfl ?_;simp -implicitDefEqProofs[fP,setB,kE,kF,d,c]
def azj(b:aN)(L:GV)(ty n:Int)(s:Q0)(q:0<=n/\n<18446744073709551616)(r:s.length<=100000000){j:Q0}{p:Pl}(m:placeOf j=some p):Xh b L ty n s j p:=by
 obtain⟨e,v,-⟩:=D7 j p m;have f:=aj6 m;unfold Xh;by_cases g:ty=bQ p;rotate_left
 ·have h:fF ty n s p=8:=by unfold fF;rw[ah g]
  rw[h,ah (by decide)];have⟨g1,g2,F⟩:0<=kC p/\(kC p).tdiv 3=bQ p/\kC p<=5:=by cases p<;>simp[kC,bQ]
  have B:¬kC p<0:=by omega
  have D:(ty=bQ p)=False:=eq_false g;have E:=wrap64 (n:=bQ p) (by cases p<;>simp[bQ]) (by cases p<;>simp[bQ]);generalize bQ p=t at *;generalize kC p=u at *;clear v e m;refine au rfl rfl ?_;simp[fP,f,g2,B,D,E]
 cases p with
 |num k=>
  have g:ty=0:=g;subst g;simp only[kC]at f;by_cases a:n=0
  ·have h:fF 0 n s (.num k)=17:=by unfold fF;simp[bQ,a]
   rw[h,ah (by decide)];refine au rfl rfl ?_;simp[fP,kE,kF,f,a]
  have h:fF 0 n s (.num k)=0:=by unfold fF;simp[bQ,a,qY]
  rw[aj h];exact azk b L n s a j k v e f
 |rem=>
  have g:ty=0:=g;subst g;simp only[kC]at f;by_cases a:n=0
  ·have h:fF 0 n s .rem=17:=by unfold fF;simp[bQ,a]
   rw[h,ah (by decide)];refine au rfl rfl ?_;simp[fP,kE,kF,f,a]
  have h:fF 0 n s .rem=0:=by unfold fF;simp[bQ,a,qY]
  rw[aj h];have w1:=wrap64 (n:=n/2) (by omega) (by omega);have w:n.tdiv 2=n/2:=acs q.1;have x:n.tmod 2=n%2:=QI q.1;have y:=dn (n:=n/2) (by omega) (by omega);simp only[setB,G7,fP];by_cases c:n%2=0
  ·rw[aj c];refine au rfl rfl ?_;simp[kE,kF,f,a,w,x,c,w1,y]
  ·have z:=wrap64 (n:=0-n/2) (by omega) (by omega);have A:=wrap64 (n:=0-n/2-1) (by omega) (by omega);simp only[Int.zero_sub]at z A;rw[ah c];refine au rfl rfl ?_;simp[kE,kF,f,a,w,x,c,w1,z,A,y]
 |allow=>
  have g:ty=0:=g;subst g;simp only[kC]at f;by_cases a:n=0
  ·have h:fF 0 n s .allow=17:=by unfold fF;simp[bQ,a]
   rw[h,ah (by decide)];refine au rfl rfl ?_;simp[fP,kE,kF,f,a]
  by_cases c:n=1
  ·have h:fF 0 n s .allow=0:=by unfold fF;simp[bQ,a,qY,c]
   rw[aj h];simp only[setB,fP];refine au rfl rfl ?_;simp[kE,kF,f,a,c]
  ·have h:fF 0 n s .allow=18:=by unfold fF;simp[bQ,a,qY,c]
   rw[h,ah (by decide)];refine au rfl rfl ?_;simp[fP,kE,kF,f,a,c]
 |name=>
  have g:ty=1:=g;subst g;have i:=Iw s 0 256 (by omega);simp only[kC]at f;simp only[nameOf,Gh]at e;subst e;have h:fF 1 n s .name=if s=[]then 17 else iV s 0 256:=by unfold fF;simp[bQ,qY]
  rw[h];generalize iV s 0 256=u at *;simp only[setB,fP];by_cases a:s=[]
  ·rw[aj a,ah (by decide)];refine au rfl rfl ?_;simp[kE,kF,f,a]
  rw[ah a];by_cases c:u=0
  ·rw[aj c];refine au rfl rfl ?_;simp[kE,kF,f,a,i,c]
  ·rw[ah c];refine au rfl rfl ?_;simp[kE,kF,f,a,i,c]
 |region=>
  have g:ty=1:=g;subst g;have i:=Iw s 0 256 (by omega);simp only[kC]at f;simp only[nameOf,Gj]at e;subst e;have h:fF 1 n s .region=if s=[]then 17 else iV s 0 256:=by unfold fF;simp[bQ,qY]
  rw[h];generalize iV s 0 256=u at *;simp only[setB,fP];by_cases a:s=[]
  ·rw[aj a,ah (by decide)];refine au rfl rfl ?_;simp[kE,kF,f,a]
  rw[ah a];by_cases c:u=0
  ·rw[aj c];refine au rfl rfl ?_;simp[kE,kF,f,a,i,c]
  ·rw[ah c];refine au rfl rfl ?_;simp[kE,kF,f,a,i,c]
 |note=>
  have g:ty=1:=g;subst g;have i:=Iw s 0 256 (by omega);simp only[kC]at f;simp only[nameOf,BL]at e;subst e;have h:fF 1 n s .note=if s=[]then 17 else iV s 0 256:=by unfold fF;simp[bQ,qY]
  rw[h];generalize iV s 0 256=u at *;simp only[setB,fP];by_cases a:s=[]
  ·rw[aj a,ah (by decide)];refine au rfl rfl ?_;simp[kE,kF,f,a]
  rw[ah a];by_cases c:u=0
  ·rw[aj c];refine au rfl rfl ?_;simp[kE,kF,f,a,i,c]
  ·rw[ah c];refine au rfl rfl ?_;simp[kE,kF,f,a,i,c]
 |d=>
  have g:ty=1:=g;subst g;have i:=aiv s r;simp only[kC]at f;have h:fF 1 n s .d=if s=[]then 17 else(jS s).2:=by unfold fF;simp[bQ,qY]
  rw[h];simp only[setB,fP];generalize jS s=u at *;by_cases a:s=[]
  ·rw[aj a,ah (by decide)];refine au rfl rfl ?_;simp[kE,kF,f,a]
  rw[ah a];by_cases c:u.2=0
  ·rw[aj c];refine au rfl rfl ?_;simp[kE,kF,f,a,i,c]
  ·rw[ah c];refine au rfl rfl ?_;simp[kE,kF,f,a,i,c]
 |t=>
  have g:ty=1:=g;subst g;have i:=ayN s r;simp only[kC]at f;have h:fF 1 n s .t=if s=[]then 17 else if(nO s).2=0 then(if(nO s).1.length=0 then 17 else 0)else(nO s).2:=by unfold fF;simp[bQ,qY]
  rw[h];simp only[setB,fP];generalize nO s=u at *;by_cases a:s=[]
  ·rw[aj a,ah (by decide)];refine au rfl rfl ?_;simp[kE,kF,f,a]
  rw[ah a];by_cases c:u.2=0
  ·rw[aj c];by_cases l:u.1.length=0
   ·rw[aj l,ah (by decide)];have o:=jl l;refine au rfl rfl ?_;simp[kE,kF,f,a,i,c,o]
   ·rw[ah l,aj rfl];have o:u.1≠[]:=λe=>l (by rw[e];rfl);refine au rfl rfl ?_;simp[kE,kF,f,a,i,c,o]
  ·rw[ah c,ah c];refine au rfl rfl ?_;simp[kE,kF,f,a,i,c]
def arD{l:List dh}(d:l.Pairwise (λa b=>a.tag<b.tag)){i:Nat}(hi:i<l.length){t:Int}(f:l[i].tag=t):(l.drop (i+1)).find? (λx=>decide (x.tag=t))=none:=by rw[acD];intro x e;have c:(l.drop i).Pairwise (λa b=>a.tag<b.tag):=d.sublist (WJ _ _);rw[dF hi,iK]at c;have:=c.1 x e;simp only[decide_eq_true_iff];omega
def aa6(l:List dh)(u:l.length<=1000)(z:l.Pairwise (λa b=>a.tag<b.tag))(k:∀s∈l,placeOf s.name≠none)(t y n:Int)(s:Q0)(A:0<=n/\n<18446744073709551616)(D:s.length<=100000000)(E F G H I K R:GV):∀(m i:Nat)(b:aN)(r:Bool),i+m=l.length->
 TT.lim 290 ([E,F,.b r,G,H,I,.l (l.map bI),.i .i64 l.length,.i .i64 i,.i .u64 t,.i .i64 y,.i .u64 n,.s s,K,.i .i64 b.kind]++fP b++[R])=some (match(l.drop i).find? (λx=>decide (x.tag=t))with
  |none=>.i .i64 1::.b r::.i .i64 b.kind::(fP b++[R])
  |some x=>match placeOf x.name with
   |some p=>if fF y n s p=0 then .i .i64 1::.b true::.i .i64 b.kind::(fP (setB b n s p)++[R])else[.i .i64 0,.i .i64 (fF y n s p)]
   |none=>[])
 |0,i,b,r,hi=>by
  have h:¬((i:Int)<l.length):=by omega
  have e:l.drop i=[]:=cO (by omega);rw[e,List.find?_nil];simp only[fP,bJ,aW];refine au rfl rfl ?_;simp[h]
 |m+1,i,b,r,hi=>by
  have g:i<l.length:=by omega
  have h:((i:Int)<l.length):=by omega
  have J:=wrap64 (n:=(i:Int)+1) (by omega) (by omega);have d:((i+1:Nat):Int)=(i:Int)+1:=by omega
  have v:=dF g;have f:(l.map bI)[i]? =some (.g [.i .u64 l[i].tag,.i .i64 l[i].use,.i .i64 l[i].from_,.s l[i].name]):=by rw[iw,bP g];rfl
  by_cases o:l[i].tag=t;rotate_left
  ·have j:=aa6 l u z k t y n s A D E F G H I K R m (i+1) b r (by omega);rw[v,List.find?_cons_of_neg (by simpa using o)];rw[d]at j;generalize(match(l.drop (i+1)).find? (λx=>decide (x.tag=t))with
   |none=>GV.i .i64 1::.b r::.i .i64 b.kind::(fP b++[R])
   |some x=>match placeOf x.name with
    |some p=>if fF y n s p=0 then .i .i64 1::.b true::.i .i64 b.kind::(fP (setB b n s p)++[R])else[.i .i64 0,.i .i64 (fF y n s p)]
    |none=>[])=U at *
   simp only[fP,bJ,aW]at j⊢;generalize l.map bI=N at *;generalize(l.length:Int)=O at *;generalize l[i].tag=L at *;generalize l[i].use=P at *;generalize l[i].from_=Q at *;generalize l[i].name=S at *;have M:(L=t)=False:=eq_false o;clear o v;refine au rfl rfl ?_;simp[h,f,M,J,j]
  ·rw[v,List.find?_cons_of_pos (by simpa using o)];have q:=arD z g o;obtain⟨p,T⟩:∃p,placeOf l[i].name=some p:=by
    cases V:placeOf l[i].name with
    |some p=>exact⟨p,rfl⟩
    |none=>exact absurd V (k _ (dW g))
   have c:=azj b R y n s A D T;unfold Xh at c;simp only[T];by_cases w:fF y n s p=0
   ·rw[aj w]at c⊢;have j:=aa6 l u z k t y n s A D E F G H I K R m (i+1) (setB b n s p) true (by omega);rw[q]at j;rw[d,VB]at j;simp only at j;generalize setB b n s p=B at *;simp only[fP,bJ,aW]at j c⊢;generalize l.map bI=N at *;generalize(l.length:Int)=O at *;generalize l[i].tag=L at *;generalize l[i].use=P at *;generalize l[i].from_=Q at *;generalize l[i].name=S at *;subst o;clear v q w;refine au rfl rfl ?_;simp[h,f,J,c,j]
   ·rw[ah w]at c⊢;generalize fF y n s p=e at *;simp only[fP,bJ,aW]at c⊢;generalize l.map bI=N at *;generalize(l.length:Int)=O at *;generalize l[i].tag=L at *;generalize l[i].use=P at *;generalize l[i].from_=Q at *;generalize l[i].name=S at *;subst o;clear v q;refine au rfl rfl ?_;simp[h,f,J,c,w]
def aes(l:List dh):∀(fs:List aH)(b:aN),(lI l b fs).2=0->(lI l b fs).1.kind=b.kind
 |[],b,_=>rfl
 |f::fs,b,h=>by
  unfold lI at h⊢;cases c:l.find? (λs=>decide (s.tag=f.tag))with
  |none=>rw[c]at h;exact absurd h (by simp)
  |some s=>
   rw[c]at h;simp only at h⊢;cases d:placeOf s.name with
   |none=>rw[d]at h;exact absurd h (by simp)
   |some p=>
    rw[d]at h;simp only at h⊢;by_cases a:fF f.typ f.num f.txt p=0
    ·rw[aj a]at h⊢;rw[aes l fs _ h,VB]
    ·rw[ah a]at h;exact absurd h a
def afv(t:Int):∀l:List dh,hasTag l t=(l.find? (λx=>decide (x.tag=t))).isSome
 |[]=>rfl
 |x::l=>by
  have a:=afv t l;unfold hasTag at a⊢;rw[WH,acC,a];by_cases h:t=x.tag
  ·subst h;simp
  ·have b:¬x.tag=t:=λe=>h e.symm;simp[h,b]
def aC6{l:List dh}{f:aH}{r:List aH}(h:hasTag l f.tag=true):iO l (f::r)=f::iO l r:=by unfold iO;rw[WQ (by rw[h])]
def awo{l:List dh}{f:aH}{r:List aH}(h:hasTag l f.tag=true):jZ l (f::r)=jZ l r:=by unfold jZ;rw[WO (by rw[h];simp)]
def aC5{l:List dh}{f:aH}{r:List aH}(h:hasTag l f.tag=false):iO l (f::r)=iO l r:=by unfold iO;rw[WO (by rw[h];simp)]
def awn{l:List dh}{f:aH}{r:List aH}(h:hasTag l f.tag=false):jZ l (f::r)=f::jZ l r:=by unfold jZ;rw[WQ (by rw[h];rfl)]
def rd0(v k:Int)(h3:v<=3)(hk:0<=k/\k<=8)(fs:List aH)(F:dO fs)(w:fs.length<=1000000):∀(m i:Nat)(b:aN)(a:List aH),i+m=fs.length->a.length<=i->
 TT.lim 289 ([.i .i64 v,.i .u64 k,.l (aC fs),.i .i64 fs.length,.i .i64 i,.i .i64 b.kind]++fP b++[.l (aC a)])=some (if(lI (aS k v) b (iO (aS k v) (fs.drop i))).2=0 then .i .i64 1::.i .i64 (lI (aS k v) b (iO (aS k v) (fs.drop i))).1.kind::(fP (lI (aS k v) b (iO (aS k v) (fs.drop i))).1++[.l (aC (a++jZ (aS k v) (fs.drop i)))])else[.i .i64 0,.i .i64 (lI (aS k v) b (iO (aS k v) (fs.drop i))).2])
 |0,i,b,a,hi,ha=>by
  have h:¬((i:Int)<fs.length):=by omega
  have e:fs.drop i=[]:=cO (by omega);rw[e];simp only[iO,jZ,List.filter_nil,ng,lI,if_true];simp only[fP,bJ,aW];refine au rfl rfl ?_;simp[h]
 |m+1,i,b,a,hi,ha=>by
  have h:((i:Int)<fs.length):=by omega
  have M:=wrap64 (n:=(i:Int)+1) (by omega) (by omega);have o:((i+1:Nat):Int)=(i:Int)+1:=by omega
  obtain⟨t,y,n,s,c,g1,g2,U,V⟩:=yK (l:=fs) (i:=i) (by omega);have G:=zK F _ V;simp only[qF]at G;have q:=abe k v h3;have N:=wrap64 (n:=k) (by omega) (by omega);have k8:=yN k v;have g:=λ(b:aN)=>aa6 (aS k v) (by omega) (Pv k v).1 (UE k v) t y n s ⟨G.1.2.2.2.2.1,G.1.2.2.2.2.2.1⟩ G.1.2.2.2.2.2.2.1 (.i .i64 v) (.i .u64 k) (.l (aC fs)) (.i .i64 fs.length) (.i .i64 i) (.l (aC c)) (.l (aC a)) (aS k v).length 0 b false (by omega);have g:=g b;rw[bK]at g;simp only[mZ]at g;have u:(((aS k v).map bI).length:Int)=((aS k v).length:Int):=by rw[je]
  have d:=afv t (aS k v);have la:=jg a;rw[U];have W:aH.tag (.mk t y n s c)=t:=rfl;have X:aH.typ (.mk t y n s c)=y:=rfl;have Y:aH.num (.mk t y n s c)=n:=rfl;have Z:aH.txt (.mk t y n s c)=s:=rfl;cases H:(aS k v).find? (λx=>decide (x.tag=t))with
  |none=>
   rw[H]at g d;simp only[acS]at d;have j:=rd0 v k h3 hk fs F w m (i+1) b (a++[.mk t y n s c]) (by omega) (by rw[eX,uI];omega);rw[aC5 (f:=.mk t y n s c) d,awn (f:=.mk t y n s c) d];have D:∀z:List aH,a++[aH.mk t y n s c]++z=a++(aH.mk t y n s c::z):=λz=>by simp
   rw[D,o]at j;have P:aC (a++[.mk t y n s c])=aC a++[ig t y n s c]:=by rw[Fp];simp only[aC,iE];rfl
   rw[P]at j;have Q:(ig t y n s c).dZ 5=true:=rfl;have L:=YD t y n s c;have I:GV.g [.i .u64 t,.i .i64 y,.i .u64 n,.s s,.l (aC c)]=ig t y n s c:=rfl;have c1:2*((aC a).length+1)*64<=281474976710656/\(aC a).length+1<=281474976710656:=by omega
   generalize aC (a++(aH.mk t y n s c::jZ (aS k v) (fs.drop (i+1))))=O at *;generalize lI (aS k v) b (iO (aS k v) (fs.drop (i+1)))=R at *;generalize(aS k v).map bI=SP at *;generalize((aS k v).length:Int)=LL at *;generalize ig t y n s c=E at *;generalize aC a=A at *;generalize aC fs=FS at *;generalize(fs.length:Int)=FL at *;simp only[fP,bJ,aW]at g j⊢;clear d H D P g1 U V G k8 W X Y Z;by_cases S:R.2=0
   ·rw[aj S]at j⊢;refine au rfl rfl ?_;simp -implicitDefEqProofs(maxSteps:=10000000) [↓uh,h,M,N,q,u,g2,L,g,Q,I,c1,j]
   ·rw[ah S]at j⊢;refine au rfl rfl ?_;simp -implicitDefEqProofs(maxSteps:=10000000) [↓uh,h,M,N,q,u,g2,L,g,Q,I,c1,j]
  |some x=>
   rw[H]at g d;simp only[Option.isSome_some]at d;rw[aC6 (f:=.mk t y n s c) d,awo (f:=.mk t y n s c) d];have T:=akv H;obtain⟨p,hp⟩:∃p,placeOf x.name=some p:=by
    cases aa:placeOf x.name with
    |some p=>exact⟨p,rfl⟩
    |none=>exact absurd aa (UE k v x T)
   simp only[hp]at g;have J:∀r,lI (aS k v) b (.mk t y n s c::r)=if fF y n s p=0 then lI (aS k v) (setB b n s p) r else(gU,fF y n s p):=λr=>by rw[lI,W,H,X,Y,Z];simp only[hp]
   rw[J];have L:=YD t y n s c;have I:GV.g [.i .u64 t,.i .i64 y,.i .u64 n,.s s,.l (aC c)]=ig t y n s c:=rfl;by_cases hc:fF y n s p=0
   ·rw[aj hc]at g;simp only[aj hc];have j:=rd0 v k h3 hk fs F w m (i+1) (setB b n s p) a (by omega) (by omega);rw[o,VB]at j;generalize aC (a++jZ (aS k v) (fs.drop (i+1)))=O at *;generalize lI (aS k v) (setB b n s p) (iO (aS k v) (fs.drop (i+1)))=R at *;generalize setB b n s p=B at *;generalize(aS k v).map bI=SP at *;generalize((aS k v).length:Int)=LL at *;generalize ig t y n s c=E at *;generalize aC a=A at *;generalize aC fs=FS at *;generalize(fs.length:Int)=FL at *;simp only[fP,bJ,aW]at g j⊢;clear d H J g1 U V G k8 W X Y Z;by_cases S:R.2=0
    ·rw[aj S]at j⊢;refine au rfl rfl ?_;simp -implicitDefEqProofs(maxSteps:=10000000) [↓uh,h,M,N,q,u,g2,L,g,j]
    ·rw[ah S]at j⊢;refine au rfl rfl ?_;simp -implicitDefEqProofs(maxSteps:=10000000) [↓uh,h,M,N,q,u,g2,L,g,j]
   ·rw[ah hc]at g;simp only[ah hc];generalize fF y n s p=e at *;generalize(aS k v).map bI=SP at *;generalize((aS k v).length:Int)=LL at *;generalize ig t y n s c=E at *;generalize aC a=A at *;generalize aC fs=FS at *;generalize(fs.length:Int)=FL at *;simp only[fP,bJ,aW]at g⊢;clear d H J g1 U V G k8 W X Y Z;refine au rfl rfl ?_;simp -implicitDefEqProofs(maxSteps:=10000000) [↓uh,h,M,N,q,u,g2,L,g]
set_option maxHeartbeats 4000000 in
def aya(s:Q0)(v:Int)(X:s.length<=1000000):TT.lim 281 [.s s,.i .i64 v]=some [dU (ou s v).1 (aC (ou s v).2.1),.i .i64 (ou s v).2.2]:=by
 have fn:aC []=[]:=by simp only[aC]
 have p:GV.g [.i .i64 0,.i .u64 0,.i .u64 0,.i .u64 0,.i .u64 0,.i .u64 0,.i .u64 0,.i .u64 0,.i .u64 0,.i .u64 0,.i .u64 0,.i .u64 0,.i .u64 0,.i .u64 0,.i .u64 0,.i .u64 0,.i .i64 0,.b false,.s [],.s [],.s [],.l [],.l [],.l []]=dU gU []:=rfl;unfold ou;by_cases f:v<1
 ·rw[aj f];simp only;rw[fn,<-p];refine aG rfl rfl ?_ rfl;simp[f]
 rw[ah f];by_cases g:3<v
 ·rw[aj g];simp only;rw[fn,<-p];refine aG rfl rfl ?_ rfl;simp[f,g]
 rw[ah g];by_cases S:65536<s.length
 ·rw[aj S];have a:(65536:Int)<s.length:=by omega
  simp only;rw[fn,<-p];refine aG rfl rfl ?_ rfl;simp[f,g,a]
 rw[ah S];have a:¬(65536:Int)<s.length:=by omega
 have k:=Eb s (by omega);by_cases E:(ay s).2.2=0;rotate_left
 ·rw[aj E];simp only;rw[fn,<-p];generalize(ay s).2.2=e at *;refine aG rfl rfl ?_ rfl;simp[f,g,a,k,E]
 rw[ah (λx=>x E)];rw[E]at k;have M:=iQ E;have Y:=M.len;have Z:=M.lt;have N:(s.drop (ay s).2.1).length=s.length-(ay s).2.1:=dH;have d:=azi (s.drop (ay s).2.1) (by omega);obtain⟨g1,g2,V,-⟩:=YJ (s.drop (ay s).2.1);clear M E N;generalize rX (s.drop (ay s).2.1)=F at *;generalize r:s.drop (ay s).2.1=T at *;generalize(ay s).1=n at *;generalize(ay s).2.1=j at *;have b:(s.take s.length).drop j=T:=by rw[pq];exact r
 have z:(j:Int)<=s.length:=by omega
 by_cases P:8<n
 ·rw[aj P];have Q:¬(n:Int)=0:=by omega
  have o:(8:Int)<n:=by omega
  simp only;rw[fn,<-p];refine aG rfl rfl ?_ rfl;simp[f,g,a,k,Q,o]
 rw[ah P];have o:¬(8:Int)<n:=by omega
 by_cases G:oL n=0
 ·rw[aj G];have Q:(n:Int)=0:=by
   by_cases U:n=0
   ·omega
   ·exfalso;rcases(show n=1\/n=2\/n=3\/n=4\/n=5\/n=6\/n=7\/n=8 by omega)with rfl|rfl|rfl|rfl|rfl|rfl|rfl|rfl<;>exact absurd G (by decide)
  simp only;rw[fn,<-p];refine aG rfl rfl ?_ rfl;simp[f,g,a,k,Q]
 rw[ah G];have t:¬(n:Int)=0:=by intro U;rw[U]at G;exact G rfl
 have L:¬(n:Int)<1:=by omega
 have A:oL n=if(n:Int)=6 then 2 else 1:=by rcases(show n=1\/n=2\/n=3\/n=4\/n=5\/n=6\/n=7\/n=8 by omega)with rfl|rfl|rfl|rfl|rfl|rfl|rfl|rfl<;>decide
 have u:=wrap64 (n:=(n:Int)) (by omega) (by omega);have w:IntKind.i64.wrap 6=6:=wrap64 (by decide) (by decide);have y:¬n=0:=by omega
 by_cases q:v<oL n
 ·rw[aj q];simp only;rw[fn,<-p];rw[A]at q;by_cases c:(n:Int)=6
  ·rw[aj c]at q;refine aG rfl rfl ?_ rfl;simp[f,g,a,k,t,y,o,u,w,c,q]
  ·rw[ah c]at q;exact absurd q f
 rw[ah q];have m:(n:Int)=6->¬v<2:=λh=>by rw[A,aj h]at q;exact q
 clear q A G P;by_cases H:F.2=0;rotate_left
 ·rw[aj H];simp only;rw[fn,<-p];by_cases c:(n:Int)=6
  ·have m:=m c;refine aG rfl rfl ?_ rfl;simp[f,g,a,k,t,y,o,u,w,c,m,b,r,z,d,H]
  ·refine aG rfl rfl ?_ rfl;simp[f,g,a,k,t,y,L,o,u,w,c,b,r,z,d,H]
 rw[ah (λx=>x H)];rw[H]at d;have i:=rd0 v n (by omega) (by omega) F.1 g1 g2 F.1.length 0 {gU with kind:=n} [] (by omega) (by simp);rw[bK,aW,fn]at i;simp only[mZ]at i;have B:=Tc (aS n v) (iO (aS n v) F.1) {gU with kind:=n} (Fq _ g1) (WA n (by omega));have D:=aes (aS n v) (iO (aS n v) F.1) {gU with kind:=n};have kc:=Vo (lI (aS n v) {gU with kind:=n} (iO (aS n v) F.1)).1 (jZ (aS n v) F.1) v B.body B.t.few (Fq _ g1) (jP (Ny _ _) g2);have l:=jg F.1;clear B g1 g2 V;simp only;generalize lI (aS n v) {gU with kind:=(n:Int)} (iO (aS n v) F.1)=R at *;simp only[fP,gU,bJ,aW,jO]at i;simp only[gU]at D;generalize jZ (aS n v) F.1=O at *;generalize aC F.1=FG at *;by_cases I:R.2=0;rotate_left
 ·rw[ah I]at i;rw[aj I];simp only;rw[fn,<-p];by_cases c:(n:Int)=6
  ·have m:=m c;rw[c]at i;refine aG rfl rfl ?_ rfl;simp -implicitDefEqProofs(maxSteps:=10000000) [↓uh,f,g,a,k,t,y,o,u,w,c,m,b,r,z,d,l,i]
  ·refine aG rfl rfl ?_ rfl;simp -implicitDefEqProofs(maxSteps:=10000000) [↓uh,f,g,a,k,t,y,L,o,u,w,c,b,r,z,d,l,i]
 rw[aj I]at i;rw[ah (λx=>x I)];have D:=D I;by_cases J:fH R.1 O v=0
 ·rw[J]at kc;rw[ah (λx=>x J)];simp only;generalize aC O=W at *;unfold dU at kc⊢;by_cases c:(n:Int)=6
  ·have m:=m c;rw[c]at i;refine aG rfl rfl ?_ rfl;simp -implicitDefEqProofs(maxSteps:=10000000) [↓uh,f,g,a,k,t,y,o,u,w,c,m,b,r,z,d,l,i,kc]
  ·refine aG rfl rfl ?_ rfl;simp -implicitDefEqProofs(maxSteps:=10000000) [↓uh,f,g,a,k,t,y,L,o,u,w,c,b,r,z,d,l,i,kc]
 ·rw[aj J];simp only;rw[fn,<-p];generalize aC O=W at *;generalize fH R.1 O v=e at *;unfold dU at kc;by_cases c:(n:Int)=6
  ·have m:=m c;rw[c]at i;refine aG rfl rfl ?_ rfl;simp -implicitDefEqProofs(maxSteps:=10000000) [↓uh,f,g,a,k,t,y,o,u,w,c,m,b,r,z,d,l,i,kc,J]
  ·refine aG rfl rfl ?_ rfl;simp -implicitDefEqProofs(maxSteps:=10000000) [↓uh,f,g,a,k,t,y,L,o,u,w,c,b,r,z,d,l,i,kc,J]
def S9(s:Q0)(v:Int):qw (ou s v).1 (ou s v).2.1:=by
 unfold ou;obtain⟨g1,g2,-⟩:=YJ (s.drop (ay s).2.1);repeat' split
 all_goals first|exact G6|skip
 have h:=Tc (aS (ay s).1 v) (iO (aS (ay s).1 v) (rX (s.drop (ay s).2.1)).1) {gU with kind:=(ay s).1} (Fq _ g1) (WA (ay s).1 (by omega));simp only;split
 ·exact G6
 ·split
  ·exact G6
  ·exact⟨h.body,h.d,h.t,Fq _ g1,jP (Ny _ _) g2⟩
