/- What the trees compute: plain laws. -/
import Derived.Test.YteenmipdepcibaaGreatDoorKPe5
set_option linter.unusedSimpArgs false
set_option linter.unusedVariables false
namespace Go.Proofs.YteenmipdepcibaaGreatDoor
open Go Go.aN
set_option maxRecDepth 100000
namespace P
def ji(rec:Q0->List aI×Int)(w:Nat)(ahead:Nat)(s:Q0):aI×Nat×Int:=
 if(aB s).2.2≠0 then(.mk 0 0 0 [] [],0,(aB s).2.2)
 else if(aB s).1/4=0 then(.mk 0 0 0 [] [],0,18)
 else if 4294967296<(aB s).1/4 then(.mk 0 0 0 [] [],0,18)
 else if 3<=(aB s).1%4 then(.mk 0 0 0 [] [],0,8)
 else if(aB s).1/4<=ahead then(.mk 0 0 0 [] [],0,7)
 else
  let r:=s.drop (aB s).2.1
  let k:=(aB s).2.1+(aB r).2.1
  if(aB r).2.2≠0 then(.mk 0 0 0 [] [],0,(aB r).2.2)
  else if(aB s).1%4=0 then(.mk ((aB s).1/4:Nat) 0 (aB r).1 [] [],k,0)
  else if s.length-k<(aB r).1 then(.mk 0 0 0 [] [],0,1)
  else if(aB s).1%4=1 then(.mk ((aB s).1/4:Nat) 1 0 ((s.drop k).take (aB r).1) [],k+(aB r).1,0)
  else if 8<=w then(.mk 0 0 0 [] [],0,9)
  else if(rec ((s.drop k).take (aB r).1)).2≠0 then(.mk 0 0 0 [] [],0,(rec ((s.drop k).take (aB r).1)).2)
  else(.mk ((aB s).1/4:Nat) 2 0 [] (rec ((s.drop k).take (aB r).1)).1,k+(aB r).1,0)
def eF:Nat->Nat->Nat->List UInt8->List aI×Int
 |0,_,_,_=>([],0)
 |N+1,w,ahead,s=>if s=[]then([],0)else
  if(ji (λt=>eF N (w+1) 0 t) w ahead s).2.2≠0 then([],(ji (λt=>eF N (w+1) 0 t) w ahead s).2.2)
  else if(eF N w ((aB s).1/4) (s.drop (ji (λt=>eF N (w+1) 0 t) w ahead s).2.1)).2≠0 then([],(eF N w ((aB s).1/4) (s.drop (ji (λt=>eF N (w+1) 0 t) w ahead s).2.1)).2)
  else((ji (λt=>eF N (w+1) 0 t) w ahead s).1::(eF N w ((aB s).1/4) (s.drop (ji (λt=>eF N (w+1) 0 t) w ahead s).2.1)).1,0)
theorem akq(n:Nat)(hn:n<18446744073709551616):bQ .and .u64 (n:Int) 3=some (.i .u64 ((n:Int)%4)):=by
 have wu:∀y:Int,IntKind.u64.wrap y=y%18446744073709551616:=λy=>by simp[IntKind.wrap,IntKind.signed,IntKind.bits]
 have e:n &&& 3=n%4:=acu n 2;have h1:(BitVec.ofInt 64 (n:Int)).toNat=n:=by rw[sJ];omega
 have h3:(BitVec.ofInt 64 3).toNat=3:=by decide
 show some (GV.i IntKind.u64 (IntKind.u64.wrap ((BitVec.ofInt 64 (n:Int) &&& BitVec.ofInt 64 3).toNat:Int)))=_
 rw[Wy,h1,h3,e,wu];congr 2;omega
theorem ay8(n:Nat):jB .shr .u64 (n:Int) 2=some (.i .u64 ((n:Int)/4)):=by
 show some (GV.i IntKind.u64 ((n:Int).fdiv (2^2)))=_
 rw[Ea _ (by decide)];rfl
theorem awG(t y w:GV)(s:Q0)(at':Nat)(h:at'<=s.length)(hs:s.length<=100000000)(n x:GV):
 TT.lim 183 [t,y,w,.s s,.i .i64 at',n,x]=some [.i .i64 0,.i .i64 (aB (s.drop at')).2.2,.i .u64 ((aB (s.drop at')).1:Nat),.s s,.i .i64 ((at'+(aB (s.drop at')).2.1:Nat):Int)]:=by
 have k:=Bz s at' h (by omega);refine au rfl rfl ?_;simp -implicitDefEqProofs[k]
theorem awI(t y w:GV)(s:Q0)(at':Nat)(h:at'<=s.length)(hs:s.length<=100000000)(n:GV):
 ∃a,TT.lim 184 [t,y,w,.s s,.i .i64 at',n,.s []]=some
  (if(aB (s.drop at')).2.2≠0 then[.i .i64 0,.i .i64 (aB (s.drop at')).2.2,.s [],.s s,.i .i64 (a:Nat)]
  else if s.length-(at'+(aB (s.drop at')).2.1)<(aB (s.drop at')).1 then[.i .i64 0,.i .i64 1,.s [],.s s,.i .i64 (a:Nat)]
  else[.i .i64 0,.i .i64 0,.s ((s.drop (at'+(aB (s.drop at')).2.1)).take (aB (s.drop at')).1),.s s,.i .i64 ((at'+(aB (s.drop at')).2.1+(aB (s.drop at')).1:Nat):Int)]):=by
 have k:=Bz s at' h (by omega);by_cases he:(aB (s.drop at')).2.2=0;rotate_left
 ·refine⟨at'+(aB (s.drop at')).2.1,?_⟩;rw[aj he];generalize(aB (s.drop at')).2.2=e at *;refine au rfl rfl ?_;simp -implicitDefEqProofs[k,he]
 have hv:=jY he;have hl:=hv.len;have hlt:=hv.lt;rw[eX]at hl;rw[he]at k;refine⟨at'+(aB (s.drop at')).2.1,?_⟩;rw[ah (λx=>x he)];clear he;generalize(aB (s.drop at')).1=m at *;generalize(aB (s.drop at')).2.1=j at *;have w1:=wrap64 (n:=(s.length:Int)-((at'+j:Nat):Int)) (by omega) (by omega);have w2:=gJ (n:=(s.length:Int)-((at'+j:Nat):Int)) (by omega) (by omega);by_cases c:s.length-(at'+j)<m
 ·have c':(s.length:Int)-((at'+j:Nat):Int)<(m:Int):=by omega
  rw[aj c];generalize((at'+j:Nat):Int)=A at *;refine au rfl rfl ?_;simp -implicitDefEqProofs[k,w1,w2,c']
 ·have c':¬((s.length:Int)-((at'+j:Nat):Int)<(m:Int)):=by omega
  rw[ah c];have w3:=wrap64 (n:=(m:Int)) (by omega) (by omega);have w4:=wrap64 (n:=((at'+j:Nat):Int)+(m:Int)) (by omega) (by omega);have e4:((at'+j:Nat):Int)+(m:Int)=((at'+j+m:Nat):Int):=by omega
  rw[e4]at w4;have b1:(0:Int)<=((at'+j:Nat):Int)/\((at'+j:Nat):Int)<=((at'+j+m:Nat):Int)/\((at'+j+m:Nat):Int)<=s.length:=by omega
  have hsl:(s.take (at'+j+m)).drop (at'+j)=(s.drop (at'+j)).take m:=by rw[JF,show at'+j+m-(at'+j)=m by omega]
  have t1:(((at'+j:Nat):Int)).toNat=at'+j:=by omega
  have t2:(((at'+j+m:Nat):Int)).toNat=at'+j+m:=by omega
  generalize hA:((at'+j:Nat):Int)=A at *;generalize hB:((at'+j+m:Nat):Int)=B at *;refine au rfl rfl ?_;simp -implicitDefEqProofs[k,w1,w2,c',w3,e4,w4,b1,t1,t2,hsl]
def NC(N:Nat):Prop:=∀(w ahead at':Nat)(s:Q0),at'<=s.length->s.length<=100000000->(s.drop at').length<N->w<=8->ahead<18446744073709551616->∃a b,TT.lim 179 [.s s,.i .i64 (w:Nat),.i .u64 (ahead:Nat),.i .i64 (at':Nat)]=some [.i .i64 0,.l (aG (eF N w ahead (s.drop at')).1),.i .i64 (eF N w ahead (s.drop at')).2,.i .u64 (a:Nat),.s s,.i .i64 (b:Nat)]
theorem awD{N:Nat}(hN:NC N)(t y:GV)(w:Nat)(hw:w<=8)(s:Q0)(at':Nat)(h:at'<=s.length)(hs:s.length<=100000000)(YH:(s.drop at').length<=N)(n x:GV):
 ∃a,TT.lim 185 [t,y,.i .i64 (w:Nat),.s s,.i .i64 at',n,x]=some
  (if(aB (s.drop at')).2.2≠0 then[.i .i64 0,.i .i64 (aB (s.drop at')).2.2,.l [],.s s,.i .i64 (a:Nat)]
  else if s.length-(at'+(aB (s.drop at')).2.1)<(aB (s.drop at')).1 then[.i .i64 0,.i .i64 1,.l [],.s s,.i .i64 (a:Nat)]
  else if 8<=w then[.i .i64 0,.i .i64 9,.l [],.s s,.i .i64 (a:Nat)]
  else[.i .i64 0,.i .i64 (eF N (w+1) 0 ((s.drop (at'+(aB (s.drop at')).2.1)).take (aB (s.drop at')).1)).2,.l (aG (eF N (w+1) 0 ((s.drop (at'+(aB (s.drop at')).2.1)).take (aB (s.drop at')).1)).1),.s s,.i .i64 ((at'+(aB (s.drop at')).2.1+(aB (s.drop at')).1:Nat):Int)]):=by
 have k:=Bz s at' h (by omega);by_cases he:(aB (s.drop at')).2.2=0;rotate_left
 ·refine⟨at'+(aB (s.drop at')).2.1,?_⟩;rw[aj he];generalize(aB (s.drop at')).2.2=e at *;refine au rfl rfl ?_;simp -implicitDefEqProofs[k,he]
 have hv:=jY he;have hl:=hv.len;have hlt:=hv.lt;have hp:=hv.pos;rw[eX]at hl YH;rw[he]at k;by_cases c:s.length-(at'+(aB (s.drop at')).2.1)<(aB (s.drop at')).1
 ·refine⟨at'+(aB (s.drop at')).2.1,?_⟩;rw[ah (λx=>x he),aj c];clear he;generalize(aB (s.drop at')).1=m at *;generalize(aB (s.drop at')).2.1=j at *;have w1:=wrap64 (n:=(s.length:Int)-((at'+j:Nat):Int)) (by omega) (by omega);have w2:=gJ (n:=(s.length:Int)-((at'+j:Nat):Int)) (by omega) (by omega);have c':(s.length:Int)-((at'+j:Nat):Int)<(m:Int):=by omega
  generalize((at'+j:Nat):Int)=A at *;refine au rfl rfl ?_;simp -implicitDefEqProofs[k,w1,w2,c']
 by_cases c8:8<=w
 ·refine⟨at'+(aB (s.drop at')).2.1+(aB (s.drop at')).1,?_⟩;rw[ah (λx=>x he),ah c,aj c8];clear he;generalize(aB (s.drop at')).1=m at *;generalize(aB (s.drop at')).2.1=j at *;have w1:=wrap64 (n:=(s.length:Int)-((at'+j:Nat):Int)) (by omega) (by omega);have w2:=gJ (n:=(s.length:Int)-((at'+j:Nat):Int)) (by omega) (by omega);have c':¬((s.length:Int)-((at'+j:Nat):Int)<(m:Int)):=by omega
  have w3:=wrap64 (n:=(m:Int)) (by omega) (by omega);have w4:=wrap64 (n:=((at'+j:Nat):Int)+(m:Int)) (by omega) (by omega);have e4:((at'+j:Nat):Int)+(m:Int)=((at'+j+m:Nat):Int):=by omega
  rw[e4]at w4;have b1:(0:Int)<=((at'+j:Nat):Int)/\((at'+j:Nat):Int)<=((at'+j+m:Nat):Int)/\((at'+j+m:Nat):Int)<=s.length:=by omega
  have GH:(8:Int)<=(w:Int):=by omega
  generalize hA:((at'+j:Nat):Int)=A at *;generalize hB:((at'+j+m:Nat):Int)=B at *;refine au rfl rfl ?_;simp -implicitDefEqProofs[k,w1,w2,c',w3,e4,w4,b1,GH]
 ·refine⟨0,?_⟩;rw[ah (λx=>x he),ah c,ah c8];clear he;generalize(aB (s.drop at')).1=m at *;generalize(aB (s.drop at')).2.1=j at *;have hr:=hN (w+1) 0 0 ((s.drop (at'+j)).take m) (by omega) (by rw[kF,eX];omega) (by rw[dD,kF,eX];omega) (by omega) (by omega);obtain⟨a,b,hr⟩:=hr;rw[dD]at hr;have w1:=wrap64 (n:=(s.length:Int)-((at'+j:Nat):Int)) (by omega) (by omega);have w2:=gJ (n:=(s.length:Int)-((at'+j:Nat):Int)) (by omega) (by omega);have c':¬((s.length:Int)-((at'+j:Nat):Int)<(m:Int)):=by omega
  have w3:=wrap64 (n:=(m:Int)) (by omega) (by omega);have w4:=wrap64 (n:=((at'+j:Nat):Int)+(m:Int)) (by omega) (by omega);have e4:((at'+j:Nat):Int)+(m:Int)=((at'+j+m:Nat):Int):=by omega
  rw[e4]at w4;have b1:(0:Int)<=((at'+j:Nat):Int)/\((at'+j:Nat):Int)<=((at'+j+m:Nat):Int)/\((at'+j+m:Nat):Int)<=s.length:=by omega
  have hsl:(s.take (at'+j+m)).drop (at'+j)=(s.drop (at'+j)).take m:=by rw[JF,show at'+j+m-(at'+j)=m by omega]
  have t1:(((at'+j:Nat):Int)).toNat=at'+j:=by omega
  have t2:(((at'+j+m:Nat):Int)).toNat=at'+j+m:=by omega
  have GH:¬(8:Int)<=(w:Int):=by omega
  have w5:=wrap64 (n:=(w:Int)+1) (by omega) (by omega);have e5:(w:Int)+1=((w+1:Nat):Int):=by omega
  simp only[qZ]at hr;rw[<-e5]at hr;generalize(s.drop (at'+j)).take m=T at *;generalize eF N (w+1) 0 T=R at *;generalize hA:((at'+j:Nat):Int)=A at *;generalize hB:((at'+j+m:Nat):Int)=B at *;generalize hW:(w:Int)=W at *;clear e5;refine au rfl rfl ?_;simp -implicitDefEqProofs[k,w1,w2,c',w3,e4,w4,b1,t1,t2,hsl,GH,w5,hr]
theorem awF{N:Nat}(hN:NC N)(w ahead:Nat)(hw:w<=8)(ha:ahead<18446744073709551616)(s:Q0)(at':Nat)(h:at'<=s.length)(hs:s.length<=100000000)(YH:(s.drop at').length<=N+1):
 ∃a b:Nat,TT.lim 181 [.i .i64 (w:Nat),.i .u64 (ahead:Nat),.s s,.i .i64 at']=some (.i .i64 0::((oJ (ji (λt=>eF N (w+1) 0 t) w ahead (s.drop at')).1).cells++[.i .i64 (ji (λt=>eF N (w+1) 0 t) w ahead (s.drop at')).2.2,.i .u64 (a:Nat),.s s,.i .i64 (b:Nat)]))/\
  ((ji (λt=>eF N (w+1) 0 t) w ahead (s.drop at')).2.2=0->a=(aB (s.drop at')).1/4/\b=at'+(ji (λt=>eF N (w+1) 0 t) w ahead (s.drop at')).2.1/\1<=(ji (λt=>eF N (w+1) 0 t) w ahead (s.drop at')).2.1/\b<=s.length):=by
 have k:=Bz s at' h (by omega);have fn:aG []=[]:=by simp only[aG]
 have hz:(oJ (.mk 0 0 0 [] [])).cells=[.i .u64 0,.i .i64 0,.i .u64 0,.s [],.l []]:=by rw[KJ,fn]
 unfold ji;by_cases he:(aB (s.drop at')).2.2=0;rotate_left
 ·refine⟨ahead,at'+(aB (s.drop at')).2.1,?_,?_⟩
  ·simp only[aj he];rw[hz];generalize(aB (s.drop at')).2.2=e at *;refine au rfl rfl ?_;simp -implicitDefEqProofs[k,he]
  ·simp only[aj he];exact λx=>absurd x he
 have hv:=jY he;have hl:=hv.len;have hlt:=hv.lt;have hp:=hv.pos;rw[eX]at hl YH;have hdd:(s.drop at').drop (aB (s.drop at')).2.1=s.drop (at'+(aB (s.drop at')).2.1):=by rw[sK]
 rw[hdd];have hud:(s.drop at').length=s.length-at':=eX;rw[hud];rw[he]at k;simp only[ah (λx=>x he:¬(aB (s.drop at')).2.2≠0)];have hdk:∀j2:Nat,(s.drop at').drop ((aB (s.drop at')).2.1+j2)=s.drop (at'+(aB (s.drop at')).2.1+j2):=λj2=>by rw[sK,jL]
 rw[hdk];clear he hv hdd hud hdk;generalize(aB (s.drop at')).1=n at *;generalize(aB (s.drop at')).2.1=j at *;have S:=ay8 n;have A:=akq n hlt;have wA:=wrap64 (n:=(n:Int)%4) (by omega) (by omega);by_cases c1:n/4=0
 ·refine⟨ahead,at'+j,?_,?_⟩
  ·simp only[aj c1];rw[hz];have c1':(n:Int)/4=0:=by omega
   generalize(n:Int)/4=q at *;refine au rfl rfl ?_;simp -implicitDefEqProofs[k,S,A,wA,c1']
  ·simp only[aj c1];exact λx=>absurd x (by decide)
 have c1':¬(n:Int)/4=0:=by omega
 simp only[ah c1];by_cases c2:4294967296<n/4
 ·refine⟨ahead,at'+j,?_,?_⟩
  ·simp only[aj c2];rw[hz];have c2':4294967296<(n:Int)/4:=by omega
   generalize(n:Int)/4=q at *;refine au rfl rfl ?_;simp -implicitDefEqProofs[k,S,A,wA,c1',c2']
  ·simp only[aj c2];exact λx=>absurd x (by decide)
 have c2':¬4294967296<(n:Int)/4:=by omega
 simp only[ah c2];by_cases c3:3<=n%4
 ·refine⟨ahead,at'+j,?_,?_⟩
  ·simp only[aj c3];rw[hz];have c3':3<=(n:Int)%4:=by omega
   generalize(n:Int)/4=q at *;generalize(n:Int)%4=y at *;refine au rfl rfl ?_;simp -implicitDefEqProofs[k,S,A,wA,c1',c2',c3']
  ·simp only[aj c3];exact λx=>absurd x (by decide)
 have c3':¬3<=(n:Int)%4:=by omega
 simp only[ah c3];by_cases c4:n/4<=ahead
 ·refine⟨ahead,at'+j,?_,?_⟩
  ·simp only[aj c4];rw[hz];have lY:(n:Int)/4<=(ahead:Int):=by omega
   generalize(n:Int)/4=q at *;generalize(n:Int)%4=y at *;generalize(ahead:Int)=AH at *;refine au rfl rfl ?_;simp -implicitDefEqProofs[k,S,A,wA,c1',c2',c3',lY]
  ·simp only[aj c4];exact λx=>absurd x (by decide)
 have lY:¬(n:Int)/4<=(ahead:Int):=by omega
 simp only[ah c4];have qn:((n/4:Nat):Int)=(n:Int)/4:=by omega
 have hj:at'+j<=s.length:=by omega
 rcases(show n%4=0\/n%4=1\/n%4=2 by omega)with y0|y1|y2
 ·have y':(n:Int)%4=0:=by omega
  have kn:=awG (.i .u64 ((n:Int)/4)) (.i .i64 0) (.i .i64 (w:Nat)) s (at'+j) hj hs (.i .u64 0) (.s []);rw[y']at A wA;by_cases e2:(aB (s.drop (at'+j))).2.2=0
  ·have hv2:=jY e2;have hl2:=hv2.len;rw[eX]at hl2;refine⟨n/4,at'+j+(aB (s.drop (at'+j))).2.1,?_,?_⟩
   ·simp only[ah (λx=>x e2:¬(aB (s.drop (at'+j))).2.2≠0),aj y0];rw[KJ,fn,qn];rw[e2]at kn;clear hv2 hl2 e2;generalize(aB (s.drop (at'+j))).1=m at *;generalize((at'+j+(aB (s.drop (at'+j))).2.1:Nat):Int)=B at *;generalize((at'+j:Nat):Int)=AT at *;generalize(n:Int)/4=q at *;generalize(ahead:Int)=AH at *;refine au rfl rfl ?_;simp -implicitDefEqProofs[k,S,A,wA,c1',c2',lY,kn]
   ·simp only[ah (λx=>x e2:¬(aB (s.drop (at'+j))).2.2≠0),aj y0];refine λ_=>⟨?_,?_,?_,?_⟩<;>first|trivial|rfl|omega
  ·refine⟨n/4,at'+j+(aB (s.drop (at'+j))).2.1,?_,?_⟩
   ·simp only[aj e2];rw[hz,qn];generalize(aB (s.drop (at'+j))).1=m at *;generalize((at'+j+(aB (s.drop (at'+j))).2.1:Nat):Int)=B at *;generalize(aB (s.drop (at'+j))).2.2=e at *;generalize((at'+j:Nat):Int)=AT at *;generalize(n:Int)/4=q at *;generalize(ahead:Int)=AH at *;refine au rfl rfl ?_;simp -implicitDefEqProofs[k,S,A,wA,c1',c2',lY,kn,e2]
   ·simp only[aj e2];exact λx=>absurd x e2
 ·have y':(n:Int)%4=1:=by omega
  have y0:¬n%4=0:=by omega
  obtain⟨a,kn⟩:=awI (.i .u64 ((n:Int)/4)) (.i .i64 1) (.i .i64 (w:Nat)) s (at'+j) hj hs (.i .u64 0);rw[y']at A wA;have hlen:s.length-at'-(j+(aB (s.drop (at'+j))).2.1)=s.length-(at'+j+(aB (s.drop (at'+j))).2.1):=by omega
  by_cases e2:(aB (s.drop (at'+j))).2.2=0
  ·have hv2:=jY e2;have hl2:=hv2.len;rw[eX]at hl2;rw[ah (λx=>x e2)]at kn;simp only[ah (λx=>x e2:¬(aB (s.drop (at'+j))).2.2≠0),ah y0];rw[hlen];by_cases c:s.length-(at'+j+(aB (s.drop (at'+j))).2.1)<(aB (s.drop (at'+j))).1
   ·rw[aj c]at kn;simp only[aj c];refine⟨n/4,a,?_,λx=>absurd x (by decide)⟩;rw[hz,qn];generalize((at'+j:Nat):Int)=AT at *;generalize(n:Int)/4=q at *;generalize(ahead:Int)=AH at *;refine au rfl rfl ?_;simp -implicitDefEqProofs[k,S,A,wA,c1',c2',lY,kn]
   ·rw[ah c]at kn;simp only[ah c,aj y1];refine⟨n/4,at'+j+(aB (s.drop (at'+j))).2.1+(aB (s.drop (at'+j))).1,?_,λ_=>⟨rfl,by omega,by omega,by omega⟩⟩;rw[KJ,fn,qn];generalize(s.drop (at'+j+(aB (s.drop (at'+j))).2.1)).take (aB (s.drop (at'+j))).1=T at *;generalize((at'+j+(aB (s.drop (at'+j))).2.1+(aB (s.drop (at'+j))).1:Nat):Int)=B at *;generalize((at'+j:Nat):Int)=AT at *;generalize(n:Int)/4=q at *;generalize(ahead:Int)=AH at *;refine au rfl rfl ?_;simp -implicitDefEqProofs[k,S,A,wA,c1',c2',lY,kn]
  ·rw[aj e2]at kn;simp only[aj e2];refine⟨n/4,a,?_,λx=>absurd x e2⟩;rw[hz,qn];generalize(aB (s.drop (at'+j))).2.2=e at *;generalize((at'+j:Nat):Int)=AT at *;generalize(n:Int)/4=q at *;generalize(ahead:Int)=AH at *;refine au rfl rfl ?_;simp -implicitDefEqProofs[k,S,A,wA,c1',c2',lY,kn,e2]
 ·have y':(n:Int)%4=2:=by omega
  have y0:¬n%4=0:=by omega
  have y1:¬n%4=1:=by omega
  obtain⟨a,kn⟩:=awD hN (.i .u64 ((n:Int)/4)) (.i .i64 2) w hw s (at'+j) hj hs (by rw[eX];omega) (.i .u64 0) (.s []);rw[y']at A wA;have hlen:s.length-at'-(j+(aB (s.drop (at'+j))).2.1)=s.length-(at'+j+(aB (s.drop (at'+j))).2.1):=by omega
  by_cases e2:(aB (s.drop (at'+j))).2.2=0
  ·have hv2:=jY e2;have hl2:=hv2.len;rw[eX]at hl2;rw[ah (λx=>x e2)]at kn;simp only[ah (λx=>x e2:¬(aB (s.drop (at'+j))).2.2≠0),ah y0];rw[hlen];by_cases c:s.length-(at'+j+(aB (s.drop (at'+j))).2.1)<(aB (s.drop (at'+j))).1
   ·rw[aj c]at kn;simp only[aj c];refine⟨n/4,a,?_,λx=>absurd x (by decide)⟩;rw[hz,qn];generalize((at'+j:Nat):Int)=AT at *;generalize(n:Int)/4=q at *;generalize(ahead:Int)=AH at *;refine au rfl rfl ?_;simp -implicitDefEqProofs[k,S,A,wA,c1',c2',lY,kn]
   ·rw[ah c]at kn;simp only[ah c,ah y1];by_cases c8:8<=w
    ·rw[aj c8]at kn;simp only[aj c8];refine⟨n/4,a,?_,λx=>absurd x (by decide)⟩;rw[hz,qn];generalize((at'+j:Nat):Int)=AT at *;generalize(n:Int)/4=q at *;generalize(ahead:Int)=AH at *;refine au rfl rfl ?_;simp -implicitDefEqProofs[k,S,A,wA,c1',c2',lY,kn]
    ·rw[ah c8]at kn;simp only[ah c8];generalize(s.drop (at'+j+(aB (s.drop (at'+j))).2.1)).take (aB (s.drop (at'+j))).1=T at *;by_cases e3:(eF N (w+1) 0 T).2=0
     ·simp only[ah (λx=>x e3:¬(eF N (w+1) 0 T).2≠0)];refine⟨n/4,at'+j+(aB (s.drop (at'+j))).2.1+(aB (s.drop (at'+j))).1,?_,λ_=>⟨rfl,by omega,by omega,by omega⟩⟩;rw[KJ,qn];rw[e3]at kn;clear e3 c e2 hv2 hl2 hlen;generalize eF N (w+1) 0 T=R at *;generalize((at'+j+(aB (s.drop (at'+j))).2.1+(aB (s.drop (at'+j))).1:Nat):Int)=B at *;generalize((at'+j:Nat):Int)=AT at *;generalize(n:Int)/4=q at *;generalize(ahead:Int)=AH at *;refine au rfl rfl ?_;simp -implicitDefEqProofs[k,S,A,wA,c1',c2',lY,kn]
     ·simp only[aj e3];refine⟨n/4,at'+j+(aB (s.drop (at'+j))).2.1+(aB (s.drop (at'+j))).1,?_,λx=>absurd x e3⟩;rw[hz,qn];clear c e2 hv2 hl2 hlen;generalize eF N (w+1) 0 T=R at *;generalize((at'+j+(aB (s.drop (at'+j))).2.1+(aB (s.drop (at'+j))).1:Nat):Int)=B at *;generalize((at'+j:Nat):Int)=AT at *;generalize(n:Int)/4=q at *;generalize(ahead:Int)=AH at *;refine au rfl rfl ?_;simp -implicitDefEqProofs[k,S,A,wA,c1',c2',lY,kn,e3]
  ·rw[aj e2]at kn;simp only[aj e2];refine⟨n/4,a,?_,λx=>absurd x e2⟩;rw[hz,qn];generalize(aB (s.drop (at'+j))).2.2=e at *;generalize((at'+j:Nat):Int)=AT at *;generalize(n:Int)/4=q at *;generalize(ahead:Int)=AH at *;refine au rfl rfl ?_;simp -implicitDefEqProofs[k,S,A,wA,c1',c2',lY,kn,e2]
def QI(N:Nat):Prop:=∀(w:Nat)(acc:List aI)(ahead at':Nat)(s:Q0),w<=8->acc.length+(s.drop at').length<=200000000->at'<=s.length->s.length<=100000000->(s.drop at').length<N->ahead<18446744073709551616->
    ∃a b:Nat,TT.lim 180 [.l (aG acc),.i .i64 (w:Nat),.i .u64 (ahead:Nat),.s s,.i .i64 (at':Nat)]=some (if(eF N w ahead (s.drop at')).2=0 then[.i .i64 1,.l (aG (acc++(eF N w ahead (s.drop at')).1)),.i .u64 (a:Nat),.s s,.i .i64 (b:Nat)]else[.i .i64 0,.i .i64 (eF N w ahead (s.drop at')).2,.i .u64 (a:Nat),.s s,.i .i64 (b:Nat)])
theorem awz:∀(N w ahead:Nat)(s:Q0),(eF N w ahead s).2≠0->(eF N w ahead s).1=[]
 |0,_,_,_,_=>rfl
 |N+1,w,ahead,s,h=>by
  unfold eF at h⊢;by_cases h1:s=[]
  ·rw[aj h1]
  rw[ah h1]at h⊢;by_cases h2:(ji (λt=>eF N (w+1) 0 t) w ahead s).2.2≠0
  ·rw[aj h2]
  rw[ah h2]at h⊢;by_cases h3:(eF N w ((aB s).1/4) (s.drop (ji (λt=>eF N (w+1) 0 t) w ahead s).2.1)).2≠0
  ·rw[aj h3]
  ·rw[ah h3]at h;exact absurd rfl h
theorem awE{N:Nat}(hN:NC N)(hL:QI N):QI (N+1):=by
 intro w acc ahead at' s hw hac h hs hl ha;have hud:(s.drop at').length=s.length-at':=eX;have wl:=wrap64 (n:=(s.length:Int)-(at':Int)) (by omega) (by omega);unfold eF;by_cases h1:s.drop at'=[]
 ·have hle:s.length-at'=0:=by rw[<-hud,h1];rfl
  have hp:¬at'<s.length:=by omega
  refine⟨ahead,at',?_⟩;rw[aj h1];simp only[if_true,qL];refine au rfl rfl ?_;simp -implicitDefEqProofs[wl,hp]
 have hlp:0<s.length-at':=by rw[<-hud];exact JI.2 h1
 have hp:at'<s.length:=by omega
 simp only[ah h1];obtain⟨a,b,hn,hok⟩:=awF hN w ahead hw ha s at' h hs (by omega);have la:=nX acc;by_cases he:(ji (λt=>eF N (w+1) 0 t) w ahead (s.drop at')).2.2=0;rotate_left
 ·refine⟨a,b,?_⟩;rw[aj he];generalize ji (λt=>eF N (w+1) 0 t) w ahead (s.drop at')=o at *;obtain⟨f,used,e⟩:=o;obtain⟨t,y,n,tx,k⟩:=f;simp only at *;rw[ah he];rw[KJ]at hn;simp only[bC,aV]at hn;refine au rfl rfl ?_;simp -implicitDefEqProofs[wl,hp,hn,he]
 obtain⟨ea,eb,hu,hb⟩:=hok he;have hv0:(aB (s.drop at')).2.2=0:=by
  by_cases c:(aB (s.drop at')).2.2=0
  ·exact c
  ·exfalso;unfold ji at he;rw[aj c]at he;exact c he
 have asc:=(jY hv0).lt;simp only[ah (λx=>x he:¬(ji (λt=>eF N (w+1) 0 t) w ahead (s.drop at')).2.2≠0)];rw[he]at hn;have hdd:(s.drop at').drop (ji (λt=>eF N (w+1) 0 t) w ahead (s.drop at')).2.1=s.drop b:=by rw[sK,<-eb]
 rw[hdd];rw[<-ea];clear hdd he hok;have ar5:(s.drop b).length=s.length-b:=eX;obtain⟨a2,b2,h2⟩:=hL w (acc++[(ji (λt=>eF N (w+1) 0 t) w ahead (s.drop at')).1]) a b s hw (by rw[fU,Ed];omega) hb hs (by omega) (by omega);refine⟨a2,b2,?_⟩;generalize ji (λt=>eF N (w+1) 0 t) w ahead (s.drop at')=o at *;obtain⟨f,used,e⟩:=o;obtain⟨t,y,n,tx,k⟩:=f;simp only at *;rw[KJ]at hn;simp only[bC,aV]at hn;have hfa:aG (acc++[.mk t y n tx k])=aG acc++[qB t y n tx k]:=by rw[Td];simp only[aG,oJ];rfl
 have hel:(qB t y n tx k).fC 5=true:=rfl;have hfe:GV.g [.i .u64 t,.i .i64 y,.i .u64 n,.s tx,.l (aG k)]=qB t y n tx k:=rfl;have c1:2*((aG acc).length+1)*64<=281474976710656/\(aG acc).length+1<=281474976710656:=by omega
 rw[hfa]at h2;clear hfa ea eb asc hv0 hu hb hud ar5 hac hlp h1 la;by_cases h3:(eF N w a (s.drop b)).2=0
 ·rw[aj h3]at h2;simp only[ah (λx=>x h3:¬(eF N w a (s.drop b)).2≠0)];simp only[if_true];have happ:acc++[aI.mk t y n tx k]++(eF N w a (s.drop b)).1=acc++(aI.mk t y n tx k::(eF N w a (s.drop b)).1):=by simp
  rw[happ]at h2;clear happ h3;generalize aG (acc++(aI.mk t y n tx k::(eF N w a (s.drop b)).1))=R at *;generalize qB t y n tx k=E at *;generalize aG acc=A at *;refine au rfl rfl ?_;simp -implicitDefEqProofs[wl,hp,hn,hfe,hel,c1,h2]
 ·rw[ah h3]at h2;simp only[aj h3];rw[ah h3];generalize eF N w a (s.drop b)=RR at *;generalize qB t y n tx k=E at *;generalize aG acc=A at *;refine au rfl rfl ?_;simp -implicitDefEqProofs[wl,hp,hn,hfe,hel,c1,h2]
theorem awH{N:Nat}(hL:QI N):NC N:=by
 intro w ahead at' s h hs hl hw ha;have hud:(s.drop at').length=s.length-at':=eX;obtain⟨a,b,h0⟩:=hL w [] ahead at' s hw (by simp only[kT];omega) h hs hl ha;have fn:aG []=[]:=by simp only[aG]
 refine⟨a,b,?_⟩;rw[fn,aV]at h0;have hbad:=awz N w ahead (s.drop at');generalize eF N w ahead (s.drop at')=R at *;by_cases h3:R.2=0
 ·rw[aj h3]at h0;rw[h3];refine au rfl rfl ?_;simp -implicitDefEqProofs[h0]
 ·rw[ah h3]at h0;rw[hbad h3,fn];refine au rfl rfl ?_;simp -implicitDefEqProofs[h0]
theorem ah2:∀N:Nat,NC N/\QI N
 |0=>⟨λw ahead at' s _ _ hl _ _=>absurd hl (by omega),λw acc ahead at' s _ _ _ _ hl _=>absurd hl (by omega)⟩
 |N+1=>by have ih:=ah2 N;have hl:=awE ih.1 ih.2;exact⟨awH hl,hl⟩
def xC(s:Q0):List aI×Int:=if 65536<s.length then([],4)else eF (s.length+1) 0 0 s
theorem aA3(s:Q0)(hs:s.length<=140737488351232):TT.lim 178 [.s s]=some [.l (aG (xC s).1),.i .i64 (xC s).2]:=by
 unfold xC;have fn:aG []=[]:=by simp only[aG]
 by_cases c:65536<s.length
 ·have c':(65536:Int)<s.length:=by omega
  rw[aj c,fn];refine aP rfl rfl ?_ rfl;simp -implicitDefEqProofs[c']
 ·have c':¬(65536:Int)<s.length:=by omega
  obtain⟨a,b,h0⟩:=(ah2 (s.length+1)).1 0 0 0 s (by omega) (by omega) (by rw[dD];omega) (by omega) (by omega);rw[dD]at h0;rw[ah c];simp only[qZ]at h0;generalize eF (s.length+1) 0 0 s=R at *;refine aP rfl rfl ?_ rfl;simp -implicitDefEqProofs[c',h0]
def su(l:List fJ):Q1:=l.map λs=>GV.i .u64 s.tag
theorem agd(l:List fJ)(hl:l.length<=1000):∀(m i:Nat)(acc:Q1),i+m=l.length->acc.length+m<=2000->TT.lim 188 [.l acc,.l (l.map fG),.i .i64 l.length,.i .i64 i]=some [.i .i64 0,.l (acc++su (l.drop i))]
 |0,i,acc,hi,ha=>by
  have h:¬((i:Int)<l.length):=by omega
  have e:l.drop i=[]:=fZ (by omega);rw[e];show _=some [GV.i .i64 0,.l (acc++[])]
  rw[qL];refine au rfl rfl ?_;simp -implicitDefEqProofs[h]
 |m+1,i,acc,hi,ha=>by
  have hlt:i<l.length:=by omega
  have h:((i:Int)<l.length):=by omega
  have hat:(l.map fG)[i]? =some (fG l[i]):=by rw[iP,bK hlt];rfl
  have hcast:((i+1:Nat):Int)=(i:Int)+1:=by omega
  have hw:=wrap64 (n:=(i:Int)+1) (by omega) (by omega);have hd:l.drop i=l[i]::l.drop (i+1):=gY hlt;have ih:=agd l hl m (i+1) (acc++[.i .u64 l[i].tag]) (by omega) (by rw[fU,Ed];omega);rw[hd];have hq:acc++su (l[i]::l.drop (i+1))=acc++[GV.i .u64 l[i].tag]++su (l.drop (i+1)):=by rw[show su (l[i]::l.drop (i+1))=GV.i .u64 l[i].tag::su (l.drop (i+1))from rfl,List.append_assoc];rfl
  rw[hq];rw[hcast]at ih;have c1:2*(acc.length+1)*8<=281474976710656/\acc.length+1<=281474976710656:=by omega
  clear hq hd;generalize acc++[GV.i .u64 l[i].tag]++su (l.drop (i+1))=R at *;generalize l[i]=s at *;generalize l.map fG=SP at *;refine au rfl rfl ?_;simp -implicitDefEqProofs[h,hat,c1,GV.fC,hw,ih]
theorem asP(k v:Int)(h1:1<=v)(h3:v<=3)(hk:qU k<=v):TT.lim 187 [.i .i64 k,.i .i64 v]=some [.l (su (bM k v))]:=by
 have hkn:=Um k v h1 h3 hk;have k8:=EZ k v;have h0:=agd (bM k v) (by omega) (bM k v).length 0 [] (by omega) (by simp;omega);rw[dD,aV]at h0;simp only[qZ]at h0;have hal:(((bM k v).map fG).length:Int)=((bM k v).length:Int):=by rw[fE]
 generalize su (bM k v)=TG at *;generalize(bM k v).map fG=SP at *;generalize((bM k v).length:Int)=L at *;refine aP rfl rfl ?_ rfl;simp -implicitDefEqProofs[hkn,hal,h0]
def Dp(xs:Q1)(l:List fJ):Q1:=l.foldl (λm s=>lI (.i .u64 s.tag) (.s s.name) m) xs
theorem ad5(l:List fJ)(hl:l.length<=1000)(x0 x1 x2:GV):∀(m i:Nat)(xs:Q1),i+m=l.length->TT.lim 186 [x0,x1,x2,.l (l.map fG),.i .i64 l.length,.i .i64 i,.l xs]=some [.i .i64 0,.l (Dp xs (l.drop i))]
 |0,i,xs,hi=>by
  have h:¬((i:Int)<l.length):=by omega
  have e:l.drop i=[]:=fZ (by omega);rw[e];show _=some [GV.i .i64 0,.l xs]
  refine au rfl rfl ?_;simp -implicitDefEqProofs[h]
 |m+1,i,xs,hi=>by
  have hlt:i<l.length:=by omega
  have h:((i:Int)<l.length):=by omega
  have hat:(l.map fG)[i]? =some (fG l[i]):=by rw[iP,bK hlt];rfl
  have hcast:((i+1:Nat):Int)=(i:Int)+1:=by omega
  have hw:=wrap64 (n:=(i:Int)+1) (by omega) (by omega);have hd:l.drop i=l[i]::l.drop (i+1):=gY hlt;have ih:=ad5 l hl x0 x1 x2 m (i+1) (lI (.i .u64 l[i].tag) (.s l[i].name) xs) (by omega);rw[hd];show _=some [GV.i .i64 0,.l (Dp (lI (.i .u64 l[i].tag) (.s l[i].name) xs) (l.drop (i+1)))]
  rw[hcast]at ih;generalize Dp (lI (.i .u64 l[i].tag) (.s l[i].name) xs) (l.drop (i+1))=R at *;generalize l[i]=s at *;generalize l.map fG=SP at *;refine au rfl rfl ?_;simp -implicitDefEqProofs[h,hat,hw,ih]
theorem ag5(t:Int):∀(l:List fJ)(xs:Q1),l.Pairwise (λa b=>a.tag<b.tag)->iE (.i .u64 t) (Dp xs l)=(match l.find? (λs=>decide (s.tag=t))with
 |some s=>some (.s s.name)
 |none=>iE (.i .u64 t) xs)
 |[],xs,_=>rfl
 |s::l,xs,hp=>by
  rw[iV]at hp;have ih:=ag5 t l (lI (.i .u64 s.tag) (.s s.name) xs) hp.2;show iE (.i .u64 t) (Dp (lI (.i .u64 s.tag) (.s s.name) xs) l)=_
  rw[ih,List.find?_cons];by_cases h:s.tag=t
  ·have hno:l.find? (λs=>decide (s.tag=t))=none:=by rw[List.find?_eq_none];intro x hx;have:=hp.1 x hx;simp;omega
   rw[hno];simp only[h,decide_true];rw[yV,aj rfl]
  ·simp only[h,decide_false];cases hf:l.find? (λs=>decide (s.tag=t))with
   |some x=>rfl
   |none=>simp only;rw[yV,ah (λe=>h e.symm)]
def BZ(xs:Q1)(l:List fJ):Q1:=l.foldl (λm s=>lI (.i .u64 s.tag) (.b true) m) xs
theorem aiR(l:List fJ)(hl:l.length<=1000)(x0:GV):∀(m i:Nat)(xs:Q1),i+m=l.length->TT.lim 190 [x0,.l (su l),.i .i64 l.length,.i .i64 i,.l xs]=some [.i .i64 0,.l (BZ xs (l.drop i))]
 |0,i,xs,hi=>by
  have h:¬((i:Int)<l.length):=by omega
  have e:l.drop i=[]:=fZ (by omega);rw[e];show _=some [GV.i .i64 0,.l xs]
  refine au rfl rfl ?_;simp -implicitDefEqProofs[h]
 |m+1,i,xs,hi=>by
  have hlt:i<l.length:=by omega
  have h:((i:Int)<l.length):=by omega
  have hat:(su l)[i]? =some (.i .u64 l[i].tag):=by unfold su;rw[iP,bK hlt];rfl
  have hcast:((i+1:Nat):Int)=(i:Int)+1:=by omega
  have hw:=wrap64 (n:=(i:Int)+1) (by omega) (by omega);have hd:l.drop i=l[i]::l.drop (i+1):=gY hlt;have ih:=aiR l hl x0 m (i+1) (lI (.i .u64 l[i].tag) (.b true) xs) (by omega);rw[hd];show _=some [GV.i .i64 0,.l (BZ (lI (.i .u64 l[i].tag) (.b true) xs) (l.drop (i+1)))]
  rw[hcast]at ih;generalize BZ (lI (.i .u64 l[i].tag) (.b true) xs) (l.drop (i+1))=R at *;generalize l[i]=s at *;generalize su l=TG at *;refine au rfl rfl ?_;simp -implicitDefEqProofs[h,hat,hw,ih]
theorem ac7(t:Int):∀(l:List fJ)(xs:Q1),iE (.i .u64 t) (BZ xs l)=if hasTag l t=true then some (.b true)else iE (.i .u64 t) xs
 |[],xs=>rfl
 |s::l,xs=>by
  have ih:=ac7 t l (lI (.i .u64 s.tag) (.b true) xs);show iE (.i .u64 t) (BZ (lI (.i .u64 s.tag) (.b true) xs) l)=_
  rw[ih,yV];unfold hasTag;rw[ab8];by_cases h:t=s.tag
  ·simp -implicitDefEqProofs[h]
  ·simp -implicitDefEqProofs[h]
def nN(l:List fJ)(fs:List aI):List aI:=fs.filter λf=>hasTag l f.tag
def qF(l:List fJ)(fs:List aI):List aI:=fs.filter λf=>!hasTag l f.tag
theorem aiS(l:List fJ)(fs:List aI)(hfs:fs.length<=1000000):∀(m i:Nat)(a b:List aI),i+m=fs.length->a.length+b.length+m<=3000000->TT.lim 191 [.l (aG fs),.l (aG a),.l (aG b),.i .i64 fs.length,.i .i64 i,.l (BZ [] l)]=some [.i .i64 0,.l (aG (a++nN l (fs.drop i))),.l (aG (b++qF l (fs.drop i)))]
 |0,i,a,b,hi,ha=>by
  have h:¬((i:Int)<fs.length):=by omega
  have e:fs.drop i=[]:=fZ (by omega);rw[e];have e1:nN l []=[]:=rfl;have e2:qF l []=[]:=rfl;rw[e1,e2,qL,qL];refine au rfl rfl ?_;simp -implicitDefEqProofs[h]
 |m+1,i,a,b,hi,ha=>by
  have h:((i:Int)<fs.length):=by omega
  obtain⟨t,y,n,s,k,g1,g2,g3,g4⟩:=EP (l:=fs) (i:=i) (by omega);have hcast:((i+1:Nat):Int)=(i:Int)+1:=by omega
  have hw:=wrap64 (n:=(i:Int)+1) (by omega) (by omega);have hg:=ac7 t l [];have hfa:∀z:List aI,aG (z++[.mk t y n s k])=aG z++[qB t y n s k]:=λz=>by rw[Td];simp only[aG,oJ];rfl
  have hel:(qB t y n s k).fC 5=true:=rfl;have hfe:GV.g [.i .u64 t,.i .i64 y,.i .u64 n,.s s,.l (aG k)]=qB t y n s k:=rfl;have la:=nX a;have lb:=nX b;have ih:=λa b ha=>aiS l fs hfs m (i+1) a b (by omega) ha;simp only[hcast]at ih;rw[g3];have hn0:iE (.i .u64 t) []=none:=rfl;cases ht:hasTag l t with
  |true=>
   have e1:nN l (.mk t y n s k::fs.drop (i+1))=.mk t y n s k::nN l (fs.drop (i+1)):=by unfold nN;rw[ajU (by exact ht)]
   have e2:qF l (.mk t y n s k::fs.drop (i+1))=qF l (fs.drop (i+1)):=by unfold qF;rw[ajT (by show ¬(!hasTag l t)=true;rw[ht];decide)]
   rw[e1,e2];have ih:=ih (a++[.mk t y n s k]) b (by rw[fU,Ed];omega);rw[hfa,List.append_assoc,Nu]at ih;rw[ht,aj rfl]at hg;have c1:2*((aG a).length+1)*64<=281474976710656/\(aG a).length+1<=281474976710656:=by omega
   generalize aG (a++.mk t y n s k::nN l (fs.drop (i+1)))=R1 at *;generalize aG (b++qF l (fs.drop (i+1)))=R2 at *;clear hfa la lb e1 e2;generalize BZ [] l=MP at *;generalize aG a=A at *;generalize aG b=B at *;refine au rfl rfl ?_;simp -implicitDefEqProofs[h,g2,hg,hfe,hel,c1,hw,ih]
  |false=>
   have e1:nN l (.mk t y n s k::fs.drop (i+1))=nN l (fs.drop (i+1)):=by unfold nN;rw[ajT (by show ¬hasTag l t=true;rw[ht];decide)]
   have e2:qF l (.mk t y n s k::fs.drop (i+1))=.mk t y n s k::qF l (fs.drop (i+1)):=by unfold qF;rw[ajU (by show(!hasTag l t)=true;rw[ht];rfl)]
   rw[e1,e2];have ih:=ih a (b++[.mk t y n s k]) (by rw[fU,Ed];omega);rw[hfa,List.append_assoc,Nu]at ih;rw[ht,ah (by decide),hn0]at hg;have c1:2*((aG b).length+1)*64<=281474976710656/\(aG b).length+1<=281474976710656:=by omega
   generalize aG (a++nN l (fs.drop (i+1)))=R1 at *;generalize aG (b++.mk t y n s k::qF l (fs.drop (i+1)))=R2 at *;clear hfa la lb e1 e2;generalize BZ [] l=MP at *;generalize aG a=A at *;generalize aG b=B at *;refine au rfl rfl ?_;simp -implicitDefEqProofs[h,g2,hg,hfe,hel,c1,hw,ih]
theorem awC{rec:Q0->List aI×Int}{w ahead:Nat}{s:Q0}(hs:s.length<=100000000)(hr:∀t:Q0,t.length+2<=s.length->dS (rec t).1/\(rec t).1.length<=1000000/\cO (rec t).1<=t.length/\wL (rec t).1<=42*t.length)(h:(ji rec w ahead s).2.2=0):
 tK (ji rec w ahead s).1/\uq (ji rec w ahead s).1+1<=(ji rec w ahead s).2.1/\(ji rec w ahead s).2.1<=s.length/\(ji rec w ahead s).1.tag=((aB s).1/4:Nat)/\wF (ji rec w ahead s).1<=42*(ji rec w ahead s).2.1:=by
 unfold ji at h⊢;by_cases e1:(aB s).2.2=0;rotate_left
 ·simp only[aj e1]at h;exact absurd h e1
 have v1:=jY e1;simp only[ah (λx=>x e1:¬(aB s).2.2≠0)]at h⊢;by_cases c1:(aB s).1/4=0
 ·simp only[aj c1]at h;exact absurd h (by decide)
 simp only[ah c1]at h⊢;by_cases c2:4294967296<(aB s).1/4
 ·simp only[aj c2]at h;exact absurd h (by decide)
 simp only[ah c2]at h⊢;by_cases c3:3<=(aB s).1%4
 ·simp only[aj c3]at h;exact absurd h (by decide)
 simp only[ah c3]at h⊢;by_cases c4:(aB s).1/4<=ahead
 ·simp only[aj c4]at h;exact absurd h (by decide)
 simp only[ah c4]at h⊢;by_cases e2:(aB (s.drop (aB s).2.1)).2.2=0;rotate_left
 ·simp only[aj e2]at h;exact absurd h e2
 have v2:=jY e2;have l1:=v1.len;have p1:=v1.pos;have l2:=v2.len;have p2:=v2.pos;have t1:=v1.lt;have t2:=v2.lt;rw[eX]at l2;simp only[ah (λx=>x e2:¬(aB (s.drop (aB s).2.1)).2.2≠0)]at h⊢;by_cases y0:(aB s).1%4=0
 ·simp only[aj y0]at h⊢;simp only[tK,dS,uq,cO,wF,wL,kT];refine⟨⟨⟨by omega,by omega,by omega,by omega,by omega,by omega,by simp,by simp⟩,trivial⟩,by omega,by omega,rfl,by omega⟩
 simp only[ah y0]at h⊢;by_cases c:s.length-((aB s).2.1+(aB (s.drop (aB s).2.1)).2.1)<(aB (s.drop (aB s).2.1)).1
 ·simp only[aj c]at h;exact absurd h (by decide)
 simp only[ah c]at h⊢;by_cases y1:(aB s).1%4=1
 ·simp only[aj y1]at h⊢;simp only[tK,dS,uq,cO,wF,wL];refine⟨⟨⟨by omega,by omega,by omega,by omega,by omega,by omega,by rw[kF,eX];omega,by simp⟩,trivial⟩,by omega,by omega,rfl,by rw[kF,eX];omega⟩
 simp only[ah y1]at h⊢;by_cases c8:8<=w
 ·simp only[aj c8]at h;exact absurd h (by decide)
 simp only[ah c8]at h⊢;have hl:((s.drop ((aB s).2.1+(aB (s.drop (aB s).2.1)).2.1)).take (aB (s.drop (aB s).2.1)).1).length=(aB (s.drop (aB s).2.1)).1:=by rw[kF,eX];omega
 obtain⟨r1,r2,r3,r4⟩:=hr ((s.drop ((aB s).2.1+(aB (s.drop (aB s).2.1)).2.1)).take (aB (s.drop (aB s).2.1)).1) (by rw[hl];omega);rw[hl]at r3 r4;generalize(s.drop ((aB s).2.1+(aB (s.drop (aB s).2.1)).2.1)).take (aB (s.drop (aB s).2.1)).1=T at *;by_cases e3:(rec T).2=0;rotate_left
 ·simp only[aj e3]at h;exact absurd h e3
 simp only[ah (λx=>x e3:¬(rec T).2≠0)]at h⊢;simp only[tK,uq,wF,kT];refine⟨⟨⟨by omega,by omega,by omega,by omega,by omega,by omega,by simp,r2⟩,r1⟩,by omega,by omega,rfl,by omega⟩
theorem aaQ:∀(N w ahead:Nat)(s:Q0),s.length<=1000000->dS (eF N w ahead s).1/\(eF N w ahead s).1.length<=1000000/\cO (eF N w ahead s).1<=s.length/\wL (eF N w ahead s).1<=42*s.length
 |0,w,ahead,s,_=>by simp only[eF,dS,cO,wL];simp
 |N+1,w,ahead,s,hs=>by
  unfold eF;by_cases h1:s=[]
  ·rw[aj h1];simp only[dS,cO,wL];simp
  rw[ah h1];by_cases h2:(ji (λt=>eF N (w+1) 0 t) w ahead s).2.2=0;rotate_left
  ·rw[aj h2];simp only[dS,cO,wL];simp
  rw[ah (λx=>x h2)];obtain⟨o1,o2,o3,o4,o5⟩:=awC (rec:=λt=>eF N (w+1) 0 t) (w:=w) (ahead:=ahead) (s:=s) (by omega) (λt ht=>aaQ N (w+1) 0 t (by omega)) h2;have hd:(s.drop (ji (λt=>eF N (w+1) 0 t) w ahead s).2.1).length=s.length-(ji (λt=>eF N (w+1) 0 t) w ahead s).2.1:=eX;obtain⟨i1,i2,i3,i4⟩:=aaQ N w ((aB s).1/4) (s.drop (ji (λt=>eF N (w+1) 0 t) w ahead s).2.1) (by omega);rw[hd]at i3 i4;split
  ·simp only[dS,cO,wL];simp
  ·simp only[dS,cO,wL];have:∀l:List aI,l.length<=cO l:=λl=>by
    induction l with
    |nil=>simp[cO]
    |cons f l ih=>simp only[gQ,cO];omega
   have hl:=this (eF N w ((aB s).1/4) (s.drop (ji (λt=>eF N (w+1) 0 t) w ahead s).2.1)).1;refine⟨⟨o1,i1⟩,?_,?_,?_⟩
   ·simp only[gQ];omega
   ·omega
   ·omega
theorem afa(s:Q0):dS (xC s).1/\(xC s).1.length<=1000000/\cO (xC s).1<=65536/\wL (xC s).1<=3000000:=by
 unfold xC;by_cases c:65536<s.length
 ·rw[aj c];simp only[dS,cO,wL];simp
 ·rw[ah c];obtain⟨h1,h2,h3,h4⟩:=aaQ (s.length+1) 0 0 s (by omega);exact⟨h1,h2,by omega,by omega⟩
def aI.typ:aI->Int
 |.mk _ y _ _ _=>y
def aI.num:aI->Int
 |.mk _ _ n _ _=>n
def aI.txt:aI->List UInt8
 |.mk _ _ _ s _=>s
def uM(l:List fJ):aT->List aI->aT×Int
 |b,[]=>(b,0)
 |b,f::r=>match l.find? (λs=>decide (s.tag=f.tag))with
  |some s=>(match placeOf s.name with
   |some p=>if qG f.typ f.num f.txt p=0 then uM l (setB b f.num f.txt p) r else(iZ,qG f.typ f.num f.txt p)
   |none=>(iZ,26))
  |none=>(iZ,26)
theorem ad6(l:List fJ)(hl:l.Pairwise (λa b=>a.tag<b.tag))(hpl:∀s∈l,placeOf s.name≠none)(fs:List aI)(hok:dS fs)(hlen:fs.length<=1000000)(hin:∀f∈fs,hasTag l f.tag=true)(x0 x1:GV):∀(m i:Nat)(b:aT),i+m=fs.length->rE b []->
 TT.lim 192 ([x0,x1,.l (aG fs),.i .i64 fs.length,.i .i64 i]++(iq b []).cells++[.l (Dp [] l)])=some (if(uM l b (fs.drop i)).2=0 then .i .i64 1::(iq (uM l b (fs.drop i)).1 []).cells else[.i .i64 0,.i .i64 (uM l b (fs.drop i)).2])
 |0,i,b,hi,hb=>by
  have h:¬((i:Int)<fs.length):=by omega
  have e:fs.drop i=[]:=fZ (by omega);rw[e];unfold uM;rw[aj rfl];rw[dO];simp only[bC,aV];refine au rfl rfl ?_;simp -implicitDefEqProofs[h]
 |m+1,i,b,hi,hb=>by
  have h:((i:Int)<fs.length):=by omega
  obtain⟨t,y,n,s,k,g1,g2,g3,g4⟩:=EP (l:=fs) (i:=i) (by omega);have hcast:((i+1:Nat):Int)=(i:Int)+1:=by omega
  have hw:=wrap64 (n:=(i:Int)+1) (by omega) (by omega);have hf:=ER hok _ g4;simp only[tK]at hf;have ht:=hin _ g4;have TQ:=ag5 t l [] hl;have fn:aG []=[]:=by simp only[aG]
  obtain⟨sp,hsp⟩:∃sp,l.find? (λs=>decide (s.tag=t))=some sp:=by
   unfold hasTag at ht;obtain⟨sp,h1,h2⟩:=List.any_eq_true.1 ht;cases hq:l.find? (λs=>decide (s.tag=t))with
   |some x=>exact⟨x,rfl⟩
   |none=>have:=(List.find?_eq_none.1 hq) sp h1;have h3:t=sp.tag:=Fv h2;simp -implicitDefEqProofs[h3]at this
  have hmem:=List.mem_of_find?_eq_some hsp;rw[hsp]at TQ;simp only at TQ;obtain⟨p,hp⟩:∃p,placeOf sp.name=some p:=by
   cases hq:placeOf sp.name with
   |some p=>exact⟨p,rfl⟩
   |none=>exact absurd hq (hpl sp hmem)
  have hwt:=auh (aG k) b [] (CQ hb.d) hb.t (by simp[cO]) t y n s ⟨hf.1.2.2.2.2.1,hf.1.2.2.2.2.2.1⟩ hf.1.2.2.2.2.2.2.1 sp.name;rw[fn]at hwt;unfold abM at hwt;rw[hp]at hwt;simp only at hwt;unfold abN at hwt;rw[g3];unfold uM;have e1:aI.tag (.mk t y n s k)=t:=rfl;have e2:aI.typ (.mk t y n s k)=y:=rfl;have e3:aI.num (.mk t y n s k)=n:=rfl;have e4:aI.txt (.mk t y n s k)=s:=rfl;rw[e1,hsp,e2,e3,e4];simp only[hp];have hfe:GV.g [.i .u64 t,.i .i64 y,.i .u64 n,.s s,.l (aG k)]=qB t y n s k:=rfl;rw[hfe]at hwt;by_cases hc:qG y n s p=0
  ·rw[aj hc]at hwt;simp only[aj hc];obtain⟨q1,q2,q3⟩:=aiy hb.body hb.d hb.t ⟨hf.1.2.2.2.2.1,hf.1.2.2.2.2.2.1⟩ hf.1.2.2.2.2.2.2.1 hc;have ih:=ad6 l hl hpl fs hok hlen hin x0 x1 m (i+1) (setB b n s p) (by omega) ⟨q1,q2,q3,by simp only[dS],by simp⟩;rw[hcast]at ih;generalize uM l (setB b n s p) (fs.drop (i+1))=R at *;generalize setB b n s p=B at *;clear q1 q2 q3 hc hsp hmem hp ht hf;generalize Dp [] l=MP at *;generalize sp.name=nm at *;generalize aG fs=G at *;rw[dO]at ih;rw[dO];simp only[bC,aV]at ih⊢;refine au rfl rfl ?_;simp -implicitDefEqProofs[↓Oz,h,g2,hfe,TQ,jW,hwt,hw,ih]
  ·rw[ah hc]at hwt;simp only[ah hc];generalize qG y n s p=e at *;clear hsp hmem hp ht hf;generalize Dp [] l=MP at *;generalize sp.name=nm at *;generalize aG fs=G at *;rw[dO];simp only[bC,aV];refine au rfl rfl ?_;simp -implicitDefEqProofs[↓Oz,h,g2,hfe,TQ,jW,hwt,hc]
def lK(s:Q0)(v:Int):aT×List aI×Int:=
 if v<1 then(iZ,[],16)else if 3<v then(iZ,[],16)else
 if 65536<s.length then(iZ,[],4)else
 if(aB s).2.2≠0 then(iZ,[],(aB s).2.2)else
 if 8<(aB s).1 then(iZ,[],15)else
 if qU (aB s).1=0 then(iZ,[],15)else if v<qU (aB s).1 then(iZ,[],15)else
 if(xC (s.drop (aB s).2.1)).2≠0 then(iZ,[],(xC (s.drop (aB s).2.1)).2)else
 let l:=bM (aB s).1 v
 let fs:=(xC (s.drop (aB s).2.1)).1
 let r:=uM l {iZ with kind:=(aB s).1} (nN l fs)
 if r.2≠0 then(iZ,[],r.2)else
 if jg r.1 (qF l fs) v≠0 then(iZ,[],jg r.1 (qF l fs) v)else(r.1,qF l fs,0)
theorem abq(p:aI->Bool):∀l:List aI,cO (l.filter p)<=cO l
 |[]=>by simp[cO]
 |f::l=>by
  have ih:=abq p l;rw[List.filter_cons];split
  ·simp only[cO];omega
  ·simp only[cO];omega
theorem split_ok(l:List fJ)(hl:l.length<=1000)(fs:List aI)(hlen:fs.length<=1000000)(hsz:cO fs<=1000000):TT.lim 189 [.l (aG fs),.l (su l)]=some [.l (aG (nN l fs)),.l (aG (qF l fs))]:=by
 have h0:=aiR l hl (.l (aG fs)) l.length 0 [] (by omega);have h1:=aiS l fs hlen fs.length 0 [] [] (by omega) (by simp;omega);have fn:aG []=[]:=by simp only[aG]
 rw[dD]at h0 h1;rw[aV,aV,fn]at h1;simp only[qZ]at h0 h1;have c1:=SS (nN l fs) (jD (abq _ fs) hsz);have c2:=SS (qF l fs) (jD (abq _ fs) hsz);have lt:(su l).length=l.length:=by unfold su;rw[fE]
 have lf:=nX fs;generalize aG (nN l fs)=W at *;generalize aG (qF l fs)=O at *;generalize aG fs=G at *;generalize BZ [] l=MP at *;generalize su l=TG at *;refine aP rfl rfl ?_ rfl;simp -implicitDefEqProofs[lt,lf,h0,h1,c1,c2]
theorem X9(l:List fJ):∀(fs:List aI)(b:aT),dS fs->rE b []->rE (uM l b fs).1 []
 |[],b,_,hb=>hb
 |f::fs,b,hf,hb=>by
  simp only[dS]at hf;unfold uM;cases l.find? (λs=>decide (s.tag=f.tag))with
  |none=>exact FX
  |some s=>
   simp only;cases placeOf s.name with
   |none=>exact FX
   |some p=>
    simp only;by_cases hc:qG f.typ f.num f.txt p=0
    ·rw[aj hc];have h1:=hf.1;cases f with
     |mk t y n s k=>simp only[tK]at h1;obtain⟨q1,q2,q3⟩:=aiy hb.body hb.d hb.t ⟨h1.1.2.2.2.2.1,h1.1.2.2.2.2.2.1⟩ h1.1.2.2.2.2.2.2.1 hc;exact X9 l fs _ hf.2 ⟨q1,q2,q3,by simp only[dS],by simp⟩
    ·rw[ah hc];exact FX
theorem abP(k:Int)(h: -9223372036854775808<=k/\k<=9223372036854775807):rE {iZ with kind:=k} []:=by have z:=FX;exact⟨{z.body with kind:=h},z.d,z.t,z.f8,z.len⟩
theorem KL(p:aI->Bool):∀{l:List aI},dS l->dS (l.filter p)
 |[],_=>by simp only[List.filter_nil,dS]
 |f::l,h=>by
  simp only[dS]at h;have ih:=KL p h.2;rw[List.filter_cons];split
  ·simp only[dS];exact⟨h.1,ih⟩
  ·exact ih
set_option maxHeartbeats 4000000 in
theorem decode_ok(s:Q0)(v:Int)(hs:s.length<=140737488351232):TT.lim 177 [.s s,.i .i64 v]=some [iq (lK s v).1 (aG (lK s v).2.1),.i .i64 (lK s v).2.2]:=by
 have fn:aG []=[]:=by simp only[aG]
 have hz:GV.g [.i .i64 0,.i .u64 0,.i .u64 0,.i .u64 0,.i .u64 0,.i .u64 0,.i .u64 0,.i .u64 0,.i .u64 0,.i .u64 0,.i .u64 0,.i .u64 0,.i .u64 0,.i .u64 0,.i .u64 0,.i .u64 0,.i .i64 0,.b false,.s [],.s [],.s [],.l [],.l [],.l []]=iq iZ []:=rfl;unfold lK;by_cases c1:v<1
 ·rw[aj c1];simp only;rw[fn,<-hz];refine aP rfl rfl ?_ rfl;simp -implicitDefEqProofs[c1]
 rw[ah c1];by_cases c2:3<v
 ·rw[aj c2];simp only;rw[fn,<-hz];refine aP rfl rfl ?_ rfl;simp -implicitDefEqProofs[c1,c2]
 rw[ah c2];by_cases c3:65536<s.length
 ·rw[aj c3];have c3':(65536:Int)<s.length:=by omega
  simp only;rw[fn,<-hz];refine aP rfl rfl ?_ rfl;simp -implicitDefEqProofs[c1,c2,c3']
 rw[ah c3];have c3':¬(65536:Int)<s.length:=by omega
 have kg:=tN s (by omega);by_cases e1:(aB s).2.2=0;rotate_left
 ·rw[aj e1];simp only;rw[fn,<-hz];generalize(aB s).2.2=e at *;refine aP rfl rfl ?_ rfl;simp -implicitDefEqProofs[c1,c2,c3',kg,e1]
 rw[ah (λx=>x e1)];rw[e1]at kg;have v1:=jY e1;have l1:=v1.len;have t1:=v1.lt;have hdl:(s.drop (aB s).2.1).length=s.length-(aB s).2.1:=eX;have hwg:=aA3 (s.drop (aB s).2.1) (by omega);obtain⟨g1,g2,g3,-⟩:=afa (s.drop (aB s).2.1);clear v1 e1 hdl;generalize xC (s.drop (aB s).2.1)=Fx at *;generalize hT:s.drop (aB s).2.1=T at *;generalize(aB s).1=n at *;generalize(aB s).2.1=j at *;have hsub:(s.take s.length).drop j=T:=by rw[yO];exact hT
 have j0:(j:Int)<=s.length:=by omega
 have f0:=Zg 0;have f00:qU 0=0:=rfl;rw[f00]at f0;by_cases c4:8<n
 ·rw[aj c4];have lY:¬(n:Int)<=8:=by omega
  simp only;rw[fn,<-hz];refine aP rfl rfl ?_ rfl;simp -implicitDefEqProofs[c1,c2,c3',kg,lY,f0]
 rw[ah c4];have lY:(n:Int)<=8:=by omega
 have wn:=wrap64 (n:=(n:Int)) (by omega) (by omega);have kf:=Zg (n:Int);by_cases c5:qU n=0
 ·rw[aj c5];rw[c5]at kf;simp only;rw[fn,<-hz];refine aP rfl rfl ?_ rfl;simp -implicitDefEqProofs[c1,c2,c3',kg,lY,wn,kf]
 rw[ah c5];by_cases c6:v<qU n
 ·rw[aj c6];simp only;rw[fn,<-hz];generalize qU n=fk at *;refine aP rfl rfl ?_ rfl;simp -implicitDefEqProofs[c1,c2,c3',kg,lY,wn,kf,c5,c6]
 rw[ah c6];by_cases e2:Fx.2=0;rotate_left
 ·rw[aj e2];simp only;rw[fn,<-hz];generalize qU n=fk at *;refine aP rfl rfl ?_ rfl;simp -implicitDefEqProofs[c1,c2,c3',kg,lY,wn,kf,c5,c6,hsub,hT,j0,hwg,e2]
 rw[ah (λx=>x e2)];rw[e2]at hwg;have kn:=Um n v (by omega) (by omega) (by omega);have kt:=asP n v (by omega) (by omega) (by omega);have k8:=EZ n v;have kz:=ad5 (bM n v) (by omega) (.i .i64 v) (.i .i64 n) (.l (aG Fx.1)) (bM n v).length 0 [] (by omega);rw[dD]at kz;simp only[qZ]at kz;have ks:=split_ok (bM n v) (by omega) Fx.1 g2 (by omega);have kd:=ad6 (bM n v) (Un n v).1 (agb n v) (nN (bM n v) Fx.1) (KL _ g1) (jD (WJ _ _) g2) (λf hf=>(JJ.1 hf).2) (.i .i64 v) (.l (aG (qF (bM n v) Fx.1))) (nN (bM n v) Fx.1).length 0 {iZ with kind:=n} (by omega) (abP n (by omega));rw[dD]at kd;simp only[qZ]at kd;have hdw:=X9 (bM n v) (nN (bM n v) Fx.1) {iZ with kind:=n} (KL _ g1) (abP n (by omega));have kc:=ZC (uM (bM n v) {iZ with kind:=n} (nN (bM n v) Fx.1)).1 (qF (bM n v) Fx.1) v hdw.body hdw.t.few (KL _ g1) (jD (WJ _ _) g2);have hal:(((bM n v).map fG).length:Int)=((bM n v).length:Int):=by rw[fE]
 have hwl:=nX (nN (bM n v) Fx.1);have hcz:(iq {iZ with kind:=(n:Int)} []).cells=[.i .i64 (n:Int),.i .u64 0,.i .u64 0,.i .u64 0,.i .u64 0,.i .u64 0,.i .u64 0,.i .u64 0,.i .u64 0,.i .u64 0,.i .u64 0,.i .u64 0,.i .u64 0,.i .u64 0,.i .u64 0,.i .u64 0,.i .i64 0,.b false,.s [],.s [],.s [],.l [],.l [],.l []]:=rfl;rw[hcz]at kd;simp only[bC,aV]at kd;simp only;clear hdw hcz g1 g2 g3 k8;generalize uM (bM n v) {iZ with kind:=(n:Int)} (nN (bM n v) Fx.1)=R at *;generalize qF (bM n v) Fx.1=O at *;generalize aG (nN (bM n v) Fx.1)=W at *;generalize(nN (bM n v) Fx.1).length=WL at *;generalize aG Fx.1=FG at *;generalize Dp [] (bM n v)=MP at *;generalize(bM n v).map fG=SP at *;generalize su (bM n v)=TG at *;generalize((bM n v).length:Int)=L at *;generalize qU n=fk at *;by_cases e3:R.2=0;rotate_left
 ·rw[ah e3]at kd;rw[aj e3];simp only;rw[fn,<-hz];generalize aG O=OG at *;clear kc;refine aP rfl rfl ?_ rfl;simp -implicitDefEqProofs(maxSteps:=10000000) [↓Oz,c1,c2,c3',kg,lY,wn,kf,c5,c6,hsub,hT,j0,hwg,kn,hal,kz,kt,ks,hwl,kd,e3]
 rw[aj e3]at kd;rw[ah (λx=>x e3)];rw[dO]at kd;by_cases e4:jg R.1 O v=0
 ·rw[ah (λx=>x e4)];rw[e4]at kc;simp only;generalize aG O=OG at *;clear e3 e4;refine aP rfl rfl ?_ rfl;simp -implicitDefEqProofs(maxSteps:=10000000) [↓Oz,c1,c2,c3',kg,lY,wn,kf,c5,c6,hsub,hT,j0,hwg,kn,hal,kz,kt,ks,hwl,kd,jW,kc]
 ·rw[aj e4];simp only;rw[fn,<-hz];generalize aG O=OG at *;generalize jg R.1 O v=ck at *;refine aP rfl rfl ?_ rfl;simp -implicitDefEqProofs(maxSteps:=10000000) [↓Oz,c1,c2,c3',kg,lY,wn,kf,c5,c6,hsub,hT,j0,hwg,kn,hal,kz,kt,ks,hwl,kd,jW,kc,e4]
theorem ad8(l:List fJ):∀(fs:List aI)(b:aT),(uM l b fs).2=0->(uM l b fs).1.kind=b.kind
 |[],b,_=>rfl
 |f::fs,b,h=>by
  unfold uM at h⊢;cases hq:l.find? (λs=>decide (s.tag=f.tag))with
  |none=>rw[hq]at h;exact absurd h (by simp)
  |some s=>
   rw[hq]at h;simp only at h⊢;cases hp:placeOf s.name with
   |none=>rw[hp]at h;exact absurd h (by simp)
   |some p=>
    rw[hp]at h;simp only at h⊢;by_cases hc:qG f.typ f.num f.txt p=0
    ·rw[aj hc]at h⊢;rw[ad8 l fs _ h,aiz]
    ·rw[ah hc]at h;exact absurd h hc
theorem ad7(s:Q0)(v:Int):rE (lK s v).1 (lK s v).2.1:=by
 unfold lK;obtain⟨g1,g2,-⟩:=afa (s.drop (aB s).2.1);repeat' split
 all_goals first|exact FX|skip
 have h:=X9 (bM (aB s).1 v) (nN (bM (aB s).1 v) (xC (s.drop (aB s).2.1)).1) {iZ with kind:=(aB s).1} (KL _ g1) (abP (aB s).1 (by omega));simp only;split
 ·exact FX
 ·split
  ·exact FX
  ·exact⟨h.body,h.d,h.t,KL _ g1,jD (WJ _ _) g2⟩
theorem auN(a b k:Nat)(h:a<2^k):a |||b*2^k=a+b*2^k:=by rw[Nat.or_comm,<-Nat.shiftLeft_eq,<-Nat.shiftLeft_add_eq_or_of_lt h,JM]
theorem LH{a b k m:Nat}(hm:m=2^k)(h:a<m)(h2:a+b*m<4294967296):bQ .or .u32 (a:Int) ((b*m:Nat):Int)=some (.i .u32 ((a+b*m:Nat):Int)):=by
 have wu:∀y:Int,IntKind.u32.wrap y=y%4294967296:=λy=>by simp[IntKind.wrap,IntKind.signed,IntKind.bits]
 have h1:(BitVec.ofInt 32 (a:Int)).toNat=a:=by rw[sJ];omega
 have h3:(BitVec.ofInt 32 ((b*m:Nat):Int)).toNat=b*m:=by rw[sJ];omega
 show some (GV.i IntKind.u32 (IntKind.u32.wrap ((BitVec.ofInt 32 (a:Int) |||BitVec.ofInt 32 ((b*m:Nat):Int)).toNat:Int)))=_
 rw[abU,h1,h3,hm,auN a b k (by rw[<-hm];exact h),<-hm,wu];congr 2;omega
theorem MJ{kk:IntKind}{b k m B:Nat}(hB:∀y:Int,kk.wrap y=y%(B:Int))(hm:m=2^k)(hk:k<=kk.bits)(h:b*m<B):jB .shl kk (b:Int) (k:Int)=some (.i kk ((b*m:Nat):Int)):=by
 unfold jB;rw[ah (by omega),wX,JQ hk];simp only;have e:(b:Int)*2^k=((b*m:Nat):Int):=by rw[hm];push_cast;rfl
 rw[e,hB,Int.emod_eq_of_lt (Int.natCast_nonneg _) (Int.ofNat_lt.2 h)]
theorem alZ(p:Q0)(hp:p.length<=65536):TT.lim 172 [.s p,.s (le4 (iL p))]=some [.b true]:=by
 have hc:=X6 p (by omega);have hlt:=ad1 p;unfold le4;generalize iL p=n at *;have wu:∀y:Int,IntKind.u32.wrap y=y%((4294967296:Nat):Int):=λy=>by simp[IntKind.wrap,IntKind.signed,IntKind.bits]
 obtain⟨c0,hc0⟩:∃c,n%256=c:=⟨_,rfl⟩
 obtain⟨c1,hc1⟩:∃c,n/256%256=c:=⟨_,rfl⟩
 obtain⟨c2,hc2⟩:∃c,n/65536%256=c:=⟨_,rfl⟩
 obtain⟨c3,hc3⟩:∃c,n/16777216%256=c:=⟨_,rfl⟩
 rw[hc0,hc1,hc2,hc3];have b0:(UInt8.ofNat c0).toNat=c0:=D5 (by omega);have b1:(UInt8.ofNat c1).toNat=c1:=D5 (by omega);have b2:(UInt8.ofNat c2).toNat=c2:=D5 (by omega);have b3:(UInt8.ofNat c3).toNat=c3:=D5 (by omega);have s1:jB .shl .u32 (c1:Int) 8=some (.i .u32 ((c1*256:Nat):Int)):=MJ (k:=8) wu rfl (by decide) (by omega);have s2:jB .shl .u32 (c2:Int) 16=some (.i .u32 ((c2*65536:Nat):Int)):=MJ (k:=16) wu rfl (by decide) (by omega);have s3:jB .shl .u32 (c3:Int) 24=some (.i .u32 ((c3*16777216:Nat):Int)):=MJ (k:=24) wu rfl (by decide) (by omega);have o1:=LH (a:=c0) (b:=c1) (k:=8) (m:=256) rfl (by omega) (by omega);have o2:=LH (a:=c0+c1*256) (b:=c2) (k:=16) (m:=65536) rfl (by omega) (by omega);have o3:=LH (a:=c0+c1*256+c2*65536) (b:=c3) (k:=24) (m:=16777216) rfl (by omega) (by omega);have e3:c0+c1*256+c2*65536+c3*16777216=n:=by omega
 rw[e3]at o3;have w0:IntKind.u32.wrap (c0:Int)=c0:=by rw[wu];omega
 have w1:IntKind.u32.wrap (c1:Int)=c1:=by rw[wu];omega
 have w2:IntKind.u32.wrap (c2:Int)=c2:=by rw[wu];omega
 have w3:IntKind.u32.wrap (c3:Int)=c3:=by rw[wu];omega
 clear hc0 hc1 hc2 hc3 e3 hlt;obtain⟨q3,h3⟩:∃q:Int,((c3*16777216:Nat):Int)=q:=⟨_,rfl⟩
 obtain⟨m2,h2⟩:∃q:Int,((c0+c1*256+c2*65536:Nat):Int)=q:=⟨_,rfl⟩
 obtain⟨q2,h2'⟩:∃q:Int,((c2*65536:Nat):Int)=q:=⟨_,rfl⟩
 obtain⟨m1,h1⟩:∃q:Int,((c0+c1*256:Nat):Int)=q:=⟨_,rfl⟩
 obtain⟨q1,h1'⟩:∃q:Int,((c1*256:Nat):Int)=q:=⟨_,rfl⟩
 rw[h3]at s3 o3;rw[h2]at o2 o3;rw[h2']at s2 o2;rw[h1]at o1 o2;rw[h1']at s1 o1;clear h3 h2 h2' h1 h1';refine aP rfl rfl ?_ rfl;simp -implicitDefEqProofs[hc,b0,b1,b2,b3,w0,w1,w2,w3,s1,s2,s3,o1,o2,o3]
theorem ae6(n:Nat)(hn:n<=65536):TT.lim 173 [.i .i64 n]=some [.i .i64 ((2+fD n+n+4:Nat):Int)]:=by
 have k:=MK n (by omega);have hv:=Nb 3 n (by omega) (by omega);have h1:¬((n:Int)<0):=by omega
 have h2:¬(65536<(n:Int)):=by omega
 have w:=gJ (n:=(n:Int)) (by omega) (by omega);have w1:=wrap64 (n:=2+(fD n:Int)) (by omega) (by omega);have w2:=wrap64 (n:=2+(fD n:Int)+n) (by omega) (by omega);have w3:=wrap64 (n:=2+(fD n:Int)+n+4) (by omega) (by omega);have e:((2+fD n+n+4:Nat):Int)=2+(fD n:Int)+n+4:=by omega
 rw[e];refine aP rfl rfl ?_ rfl;simp -implicitDefEqProofs[h1,h2,k,w,w1,w2,w3]
theorem Yv(p:Q0):(ku p).length=2+fD p.length+p.length+4:=by unfold ku fD;simp -implicitDefEqProofs[le4];omega
theorem atp(s:Q0):TT.lim 168 [.s ([81,70]++s)]=some [.i .i64 0]/\TT.lim 168 [.s []]=some [.i .i64 1]/\TT.lim 168 [.s [81]]=some [.i .i64 1]:=by
 have w1:=wrap64 (n:=(1:Int)) (by omega) (by omega);have w2:=wrap64 (n:=(2:Int)) (by omega) (by omega);have l0:¬(0:Int)=(s.length:Int)+1+1:=by omega
 have l1:¬(1:Int)=(s.length:Int)+1+1:=by omega
 have a2:TT.lim 169 [.s ([81,70]++s),.i .i64 2]=some [.i .i64 1]:=by refine au rfl rfl ?_;simp
 have a1:TT.lim 169 [.s ([81,70]++s),.i .i64 1]=some [.i .i64 1]:=by refine au rfl rfl ?_;simp at a2;simp -implicitDefEqProofs[l1,w2,a2]
 have a0:TT.lim 169 [.s ([81,70]++s),.i .i64 0]=some [.i .i64 1]:=by refine au rfl rfl ?_;simp at a1;simp -implicitDefEqProofs[l0,w1,a1]
 have b0:TT.lim 169 [.s [],.i .i64 0]=some [.i .i64 0,.i .i64 1]:=by refine au rfl rfl ?_;simp
 have c1:TT.lim 169 [.s [81],.i .i64 1]=some [.i .i64 0,.i .i64 1]:=by refine au rfl rfl ?_;simp
 have c0:TT.lim 169 [.s [81],.i .i64 0]=some [.i .i64 0,.i .i64 1]:=by refine au rfl rfl ?_;simp -implicitDefEqProofs[w1,c1]
 refine⟨?_,?_,?_⟩
 ·refine aP rfl rfl ?_ rfl;simp at a0;simp -implicitDefEqProofs[a0]
 ·refine aP rfl rfl ?_ rfl;simp -implicitDefEqProofs[b0]
 ·refine aP rfl rfl ?_ rfl;simp -implicitDefEqProofs[c0]
theorem au7{p:Q0}(hp:p.length<=65536):TT.lim 167 [.s (ku p)]=some [.s p,.i .i64 ((ku p).length:Nat),.i .i64 0]:=by
 have hck:=alZ p hp;have hsz:=ae6 p.length hp;have mk:=(atp (aY p.length++(p++le4 (iL p)))).1;have hv3:=Nb 3 p.length (by omega) (by omega);have hqU:(p++le4 (iL p)).length=p.length+4:=by simp[le4]
 have hlen:(aY p.length++(p++le4 (iL p))).length=fD p.length+(p.length+4):=by rw[fU,hqU];rfl
 have hg:=tN (aY p.length++(p++le4 (iL p))) (by omega);rw[ajy _ _ (by omega)]at hg;have e0:ku p=81::70::(aY p.length++(p++le4 (iL p))):=by unfold ku;simp
 have e3:List.take p.length (p++le4 (iL p))=p:=List.take_left;have e4:List.drop p.length (List.take ((p.length:Int)+4).toNat (p++le4 (iL p)))=le4 (iL p):=by
  have:((p.length:Int)+4).toNat=p.length+4:=by omega
  rw[this,jZ (by omega),List.drop_left]
 rw[Yv,e0];have sv:List.drop (2+(fD p.length:Int)).toNat (List.take (((aY p.length++(p++le4 (iL p))).length:Int)+1+1).toNat (81::70::(aY p.length++(p++le4 (iL p)))))=p++le4 (iL p):=by
  have e1:(((aY p.length++(p++le4 (iL p))).length:Int)+1+1).toNat=(aY p.length++(p++le4 (iL p))).length+2:=by omega
  have e2:(2+(fD p.length:Int)).toNat=fD p.length+2:=by omega
  rw[e1,e2,jZ (by simp)];exact List.drop_left
 have sb:List.drop 2 (List.take (((aY p.length++(p++le4 (iL p))).length:Int)+1+1).toNat (81::70::(aY p.length++(p++le4 (iL p)))))=aY p.length++(p++le4 (iL p)):=by
  have e1:(((aY p.length++(p++le4 (iL p))).length:Int)+1+1).toNat=(aY p.length++(p++le4 (iL p))).length+2:=by omega
  rw[e1,jZ (by simp)];rfl
 change TT.lim 170 [.s (aY p.length++(p++le4 (iL p)))]=some [.i .u64 (p.length:Nat),.i .i64 (fD p.length:Nat),.i .i64 0]at hg
 have mk:TT.lim 168 [.s (81::70::(aY p.length++(p++le4 (iL p))))]=some [.i .i64 0]:=mk;generalize p++le4 (iL p)=Uq at *;generalize le4 (iL p)=Fx at *;generalize aY p.length++Uq=T at *;have c1:¬(65536:Int)<(p.length:Int):=by omega
 generalize((2+fD p.length+p.length+4:Nat):Int)=SZ at *;generalize fD p.length=V at *;have w1:=wrap64 (n:=2+(V:Int)) (by omega) (by omega);have w2:=wrap64 (n:=(p.length:Int)) (by omega) (by omega);have w3:=wrap64 (n:=(p.length:Int)+4) (by omega) (by omega);have l1:(2:Int)<=(T.length:Int)+1+1:=by omega
 have l2:2+(V:Int)<=(T.length:Int)+1+1:=by omega
 have l3:(0:Int)<=2+(V:Int):=by omega
 have l4:¬(Uq.length:Int)<(p.length:Int)+4:=by omega
 have l5:(p.length:Int)<=(Uq.length:Int):=by omega
 have l6:(p.length:Int)+4<=(Uq.length:Int):=by omega
 have l7:(p.length:Int)<=(p.length:Int)+4:=by omega
 refine aP rfl rfl ?_ rfl;simp -implicitDefEqProofs[mk,hg,c1,w1,w2,w3,l1,l2,l3,sb,sv,l4,l5,l6,l7,e3,e4,hck,hsz]
