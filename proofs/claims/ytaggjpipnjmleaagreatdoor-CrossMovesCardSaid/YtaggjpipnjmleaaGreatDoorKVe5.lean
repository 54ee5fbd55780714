/- What the trees compute: plain laws. -/
import Derived.Test.YtaggjpipnjmleaaGreatDoorKVe4
namespace Go.Proofs.YtaggjpipnjmleaaGreatDoor
open Go Go.aJ
set_option linter.unusedSimpArgs false
set_option linter.unusedVariables false
set_option maxRecDepth 100000
namespace V
/-- The field that stands next, within so many lists, above a tag; how many bytes it took; the code. -/
def fO (rec:List UInt8->List aF×Int) (w:Nat) (ahead:Nat) (s:List UInt8):aF×Nat×Int:=
 if (ak s).2.2≠0 then (.mk 0 0 0 [] [],0,(ak s).2.2)
 else if (ak s).1 / 4=0 then (.mk 0 0 0 [] [],0,18)
 else if 4294967296 < (ak s).1 / 4 then (.mk 0 0 0 [] [],0,18)
 else if 3<=(ak s).1 % 4 then (.mk 0 0 0 [] [],0,8)
 else if (ak s).1 / 4<=ahead then (.mk 0 0 0 [] [],0,7)
 else
  let r:=s.drop (ak s).2.1
  let k:=(ak s).2.1+(ak r).2.1
  if (ak r).2.2≠0 then (.mk 0 0 0 [] [],0,(ak r).2.2)
  else if (ak s).1 % 4=0 then (.mk ((ak s).1 / 4:Nat) 0 (ak r).1 [] [],k,0)
  else if s.length - k < (ak r).1 then (.mk 0 0 0 [] [],0,1)
  else if (ak s).1 % 4=1 then (.mk ((ak s).1 / 4:Nat) 1 0 ((s.drop k).take (ak r).1) [],k+(ak r).1,0)
  else if 8<=w then (.mk 0 0 0 [] [],0,9)
  else if (rec ((s.drop k).take (ak r).1)).2≠0 then (.mk 0 0 0 [] [],0,(rec ((s.drop k).take (ak r).1)).2)
  else (.mk ((ak s).1 / 4:Nat) 2 0 [] (rec ((s.drop k).take (ak r).1)).1,k+(ak r).1,0)
/-- Fields, within so many lists, above a tag. -/
def bI:Nat->Nat->Nat->List UInt8->List aF×Int
 | 0,_,_,_=>([],0)
 | N+1,w,ahead,s=>if s=[] then ([],0) else
   if (fO (λt=>bI N (w+1) 0 t) w ahead s).2.2≠0 then ([],(fO (λt=>bI N (w+1) 0 t) w ahead s).2.2)
   else if (bI N w ((ak s).1 / 4) (s.drop (fO (λt=>bI N (w+1) 0 t) w ahead s).2.1)).2≠0 then ([],(bI N w ((ak s).1 / 4) (s.drop (fO (λt=>bI N (w+1) 0 t) w ahead s).2.1)).2)
   else ((fO (λt=>bI N (w+1) 0 t) w ahead s).1::(bI N w ((ak s).1 / 4) (s.drop (fO (λt=>bI N (w+1) 0 t) w ahead s).2.1)).1,0)
theorem afE (n:Nat) (hn:n < 18446744073709551616):fU .and .u64 (n:Int) 3=some (.i .u64 ((n:Int) % 4)):=by
 have wu:∀y:Int,IntKind.u64.wrap y=y % 18446744073709551616:=λy=>by simp [IntKind.wrap,IntKind.signed,IntKind.bits]
 have e:n &&& 3=n % 4:=afm n 2;have h1:(BitVec.ofInt 64 (n:Int)).toNat=n:=by rw [wM];omega
 have h3:(BitVec.ofInt 64 3).toNat=3:=by decide
 show some (GV.i IntKind.u64 (IntKind.u64.wrap ((BitVec.ofInt 64 (n:Int) &&& BitVec.ofInt 64 3).toNat:Int)))=_
 rw [Ye,h1,h3,e,wu];congr 2;omega
theorem aq3 (n:Nat):mQ .shr .u64 (n:Int) 2=some (.i .u64 ((n:Int) / 4)):=by
 show some (GV.i IntKind.u64 ((n:Int).fdiv (2 ^ 2)))=_
 rw [LU _ (by decide)];rfl
theorem aoI (t y w:GV) (s:List UInt8) (at':Nat) (h:at'<=s.length) (hs:s.length<=100000000) (n x:GV) :
 TT.lim 101 [t,y,w,.s s,.i .i64 at',n,x]=some [.i .i64 0,.i .i64 (ak (s.drop at')).2.2,.i .u64 ((ak (s.drop at')).1:Nat),.s s,.i .i64 ((at'+(ak (s.drop at')).2.1:Nat):Int)]:=by
 have k:=zi s at' h (by omega);refine aB rfl rfl ?_;simp [k]
theorem aoK (t y w:GV) (s:List UInt8) (at':Nat) (h:at'<=s.length) (hs:s.length<=100000000) (n:GV) :
 ∃a,TT.lim 102 [t,y,w,.s s,.i .i64 at',n,.s []]=some
  (if (ak (s.drop at')).2.2≠0 then [.i .i64 0,.i .i64 (ak (s.drop at')).2.2,.s [],.s s,.i .i64 (a:Nat)]
  else if s.length - (at'+(ak (s.drop at')).2.1) < (ak (s.drop at')).1 then [.i .i64 0,.i .i64 1,.s [],.s s,.i .i64 (a:Nat)]
  else [.i .i64 0,.i .i64 0,.s ((s.drop (at'+(ak (s.drop at')).2.1)).take (ak (s.drop at')).1),.s s,.i .i64 ((at'+(ak (s.drop at')).2.1+(ak (s.drop at')).1:Nat):Int)]):=by
 have k:=zi s at' h (by omega);by_cases he:(ak (s.drop at')).2.2=0;rotate_left
 ·refine ⟨at'+(ak (s.drop at')).2.1, ?_⟩
  rw [aj he];generalize (ak (s.drop at')).2.2=e at *;refine aB rfl rfl ?_;simp [k,he]
 have hv:=iD he;have hl:=hv.len;have hlt:=hv.lt;rw [dh] at hl;rw [he] at k;refine ⟨at'+(ak (s.drop at')).2.1, ?_⟩;rw [ah (λx=>x he)];clear he;generalize (ak (s.drop at')).1=m at *;generalize (ak (s.drop at')).2.1=j at *;have w1:=wrap64 (n:=(s.length:Int) - ((at'+j:Nat):Int)) (by omega) (by omega);have w2:=dF (n:=(s.length:Int) - ((at'+j:Nat):Int)) (by omega) (by omega);by_cases c:s.length - (at'+j) < m
 ·have c':(s.length:Int) - ((at'+j:Nat):Int) < (m:Int):=by omega
  rw [aj c];generalize ((at'+j:Nat):Int)=A at *;refine aB rfl rfl ?_;simp [k,w1,w2,c']
 ·have c':¬ ((s.length:Int) - ((at'+j:Nat):Int) < (m:Int)):=by omega
  rw [ah c];have w3:=wrap64 (n:=(m:Int)) (by omega) (by omega);have w4:=wrap64 (n:=((at'+j:Nat):Int)+(m:Int)) (by omega) (by omega);have e4:((at'+j:Nat):Int)+(m:Int)=((at'+j+m:Nat):Int):=by omega
  rw [e4] at w4;have b1:(0:Int)<=((at'+j:Nat):Int)/\((at'+j:Nat):Int)<=((at'+j+m:Nat):Int)/\((at'+j+m:Nat):Int)<=s.length:=by omega
  have hsl:(s.take (at'+j+m)).drop (at'+j)=(s.drop (at'+j)).take m:=by rw [yt,show at'+j+m - (at'+j)=m by omega]
  have t1:(((at'+j:Nat):Int)).toNat=at'+j:=by omega
  have t2:(((at'+j+m:Nat):Int)).toNat=at'+j+m:=by omega
  generalize hA:((at'+j:Nat):Int)=A at *;generalize hB:((at'+j+m:Nat):Int)=B at *;refine aB rfl rfl ?_;simp [k,w1,w2,c',w3,e4,w4,b1,t1,t2,hsl]
/-- What is told for reading up to a size. -/
def Ji (N:Nat):Prop:=∀ (w ahead at':Nat) (s:List UInt8),at'<=s.length->s.length<=100000000->(s.drop at').length < N->w<=8->ahead < 18446744073709551616->∃a b,TT.lim 97 [.s s,.i .i64 (w:Nat),.i .u64 (ahead:Nat),.i .i64 (at':Nat)]=some [.i .i64 0,.l (au (bI N w ahead (s.drop at')).1),.i .i64 (bI N w ahead (s.drop at')).2,.i .u64 (a:Nat),.s s,.i .i64 (b:Nat)]
theorem aoF {N:Nat} (hN:Ji N) (t y:GV) (w:Nat) (hw:w<=8) (s:List UInt8) (at':Nat) (h:at'<=s.length) (hs:s.length<=100000000) (OI:(s.drop at').length<=N) (n x:GV) :
 ∃a,TT.lim 103 [t,y,.i .i64 (w:Nat),.s s,.i .i64 at',n,x]=some
  (if (ak (s.drop at')).2.2≠0 then [.i .i64 0,.i .i64 (ak (s.drop at')).2.2,.l [],.s s,.i .i64 (a:Nat)]
  else if s.length - (at'+(ak (s.drop at')).2.1) < (ak (s.drop at')).1 then [.i .i64 0,.i .i64 1,.l [],.s s,.i .i64 (a:Nat)]
  else if 8<=w then [.i .i64 0,.i .i64 9,.l [],.s s,.i .i64 (a:Nat)]
  else [.i .i64 0,.i .i64 (bI N (w+1) 0 ((s.drop (at'+(ak (s.drop at')).2.1)).take (ak (s.drop at')).1)).2,.l (au (bI N (w+1) 0 ((s.drop (at'+(ak (s.drop at')).2.1)).take (ak (s.drop at')).1)).1),.s s,.i .i64 ((at'+(ak (s.drop at')).2.1+(ak (s.drop at')).1:Nat):Int)]):=by
 have k:=zi s at' h (by omega);by_cases he:(ak (s.drop at')).2.2=0;rotate_left
 ·refine ⟨at'+(ak (s.drop at')).2.1, ?_⟩
  rw [aj he];generalize (ak (s.drop at')).2.2=e at *;refine aB rfl rfl ?_;simp [k,he]
 have hv:=iD he;have hl:=hv.len;have hlt:=hv.lt;have hp:=hv.pos;rw [dh] at hl OI;rw [he] at k;by_cases c:s.length - (at'+(ak (s.drop at')).2.1) < (ak (s.drop at')).1
 ·refine ⟨at'+(ak (s.drop at')).2.1, ?_⟩
  rw [ah (λx=>x he),aj c];clear he;generalize (ak (s.drop at')).1=m at *;generalize (ak (s.drop at')).2.1=j at *;have w1:=wrap64 (n:=(s.length:Int) - ((at'+j:Nat):Int)) (by omega) (by omega);have w2:=dF (n:=(s.length:Int) - ((at'+j:Nat):Int)) (by omega) (by omega);have c':(s.length:Int) - ((at'+j:Nat):Int) < (m:Int):=by omega
  generalize ((at'+j:Nat):Int)=A at *;refine aB rfl rfl ?_;simp [k,w1,w2,c']
 by_cases c8:8<=w
 ·refine ⟨at'+(ak (s.drop at')).2.1+(ak (s.drop at')).1, ?_⟩
  rw [ah (λx=>x he),ah c,aj c8];clear he;generalize (ak (s.drop at')).1=m at *;generalize (ak (s.drop at')).2.1=j at *;have w1:=wrap64 (n:=(s.length:Int) - ((at'+j:Nat):Int)) (by omega) (by omega);have w2:=dF (n:=(s.length:Int) - ((at'+j:Nat):Int)) (by omega) (by omega);have c':¬ ((s.length:Int) - ((at'+j:Nat):Int) < (m:Int)):=by omega
  have w3:=wrap64 (n:=(m:Int)) (by omega) (by omega);have w4:=wrap64 (n:=((at'+j:Nat):Int)+(m:Int)) (by omega) (by omega);have e4:((at'+j:Nat):Int)+(m:Int)=((at'+j+m:Nat):Int):=by omega
  rw [e4] at w4;have b1:(0:Int)<=((at'+j:Nat):Int)/\((at'+j:Nat):Int)<=((at'+j+m:Nat):Int)/\((at'+j+m:Nat):Int)<=s.length:=by omega
  have xg:(8:Int)<=(w:Int):=by omega
  generalize hA:((at'+j:Nat):Int)=A at *;generalize hB:((at'+j+m:Nat):Int)=B at *;refine aB rfl rfl ?_;simp [k,w1,w2,c',w3,e4,w4,b1,xg]
 ·refine ⟨0, ?_⟩
  rw [ah (λx=>x he),ah c,ah c8];clear he;generalize (ak (s.drop at')).1=m at *;generalize (ak (s.drop at')).2.1=j at *;have hr:=hN (w+1) 0 0 ((s.drop (at'+j)).take m) (by omega) (by rw [jL,dh];omega) (by rw [bY,jL,dh];omega) (by omega) (by omega);obtain ⟨a,b,hr⟩:=hr;rw [bY] at hr;have w1:=wrap64 (n:=(s.length:Int) - ((at'+j:Nat):Int)) (by omega) (by omega);have w2:=dF (n:=(s.length:Int) - ((at'+j:Nat):Int)) (by omega) (by omega);have c':¬ ((s.length:Int) - ((at'+j:Nat):Int) < (m:Int)):=by omega
  have w3:=wrap64 (n:=(m:Int)) (by omega) (by omega);have w4:=wrap64 (n:=((at'+j:Nat):Int)+(m:Int)) (by omega) (by omega);have e4:((at'+j:Nat):Int)+(m:Int)=((at'+j+m:Nat):Int):=by omega
  rw [e4] at w4;have b1:(0:Int)<=((at'+j:Nat):Int)/\((at'+j:Nat):Int)<=((at'+j+m:Nat):Int)/\((at'+j+m:Nat):Int)<=s.length:=by omega
  have hsl:(s.take (at'+j+m)).drop (at'+j)=(s.drop (at'+j)).take m:=by rw [yt,show at'+j+m - (at'+j)=m by omega]
  have t1:(((at'+j:Nat):Int)).toNat=at'+j:=by omega
  have t2:(((at'+j+m:Nat):Int)).toNat=at'+j+m:=by omega
  have xg:¬ (8:Int)<=(w:Int):=by omega
  have w5:=wrap64 (n:=(w:Int)+1) (by omega) (by omega);have e5:(w:Int)+1=((w+1:Nat):Int):=by omega
  simp only [lZ] at hr;rw [<- e5] at hr;generalize (s.drop (at'+j)).take m=T at *;generalize bI N (w+1) 0 T=R at *;generalize hA:((at'+j:Nat):Int)=A at *;generalize hB:((at'+j+m:Nat):Int)=B at *;generalize hW:(w:Int)=W at *;clear e5;refine aB rfl rfl ?_;simp [k,w1,w2,c',w3,e4,w4,b1,t1,t2,hsl,xg,w5,hr]
theorem aoH {N:Nat} (hN:Ji N) (w ahead:Nat) (hw:w<=8) (ha:ahead < 18446744073709551616) (s:List UInt8) (at':Nat) (h:at'<=s.length) (hs:s.length<=100000000) (OI:(s.drop at').length<=N+1) :
 ∃a b:Nat,TT.lim 99 [.i .i64 (w:Nat),.i .u64 (ahead:Nat),.s s,.i .i64 at']=some (.i .i64 0::((fG (fO (λt=>bI N (w+1) 0 t) w ahead (s.drop at')).1).cells++[.i .i64 (fO (λt=>bI N (w+1) 0 t) w ahead (s.drop at')).2.2,.i .u64 (a:Nat),.s s,.i .i64 (b:Nat)]))/\
  ((fO (λt=>bI N (w+1) 0 t) w ahead (s.drop at')).2.2=0->a=(ak (s.drop at')).1 / 4/\b=at'+(fO (λt=>bI N (w+1) 0 t) w ahead (s.drop at')).2.1/\1<=(fO (λt=>bI N (w+1) 0 t) w ahead (s.drop at')).2.1/\b<=s.length):=by
 have k:=zi s at' h (by omega);have fn:au []=[]:=by simp only [au]
 have hz:(fG (.mk 0 0 0 [] [])).cells=[.i .u64 0,.i .i64 0,.i .u64 0,.s [],.l []]:=by rw [Gw,fn]
 unfold fO;by_cases he:(ak (s.drop at')).2.2=0;rotate_left
 ·refine ⟨ahead,at'+(ak (s.drop at')).2.1, ?_, ?_⟩
  ·simp only [aj he]
   rw [hz];generalize (ak (s.drop at')).2.2=e at *;refine aB rfl rfl ?_;simp [k,he]
  ·simp only [aj he];exact λx=>absurd x he
 have hv:=iD he;have hl:=hv.len;have hlt:=hv.lt;have hp:=hv.pos;rw [dh] at hl OI;have hdd:(s.drop at').drop (ak (s.drop at')).2.1=s.drop (at'+(ak (s.drop at')).2.1):=by rw [lu]
 rw [hdd];have hud:(s.drop at').length=s.length - at':=dh;rw [hud];rw [he] at k;simp only [ah (λx=>x he:¬ (ak (s.drop at')).2.2≠0)];have hdk:∀j2:Nat,(s.drop at').drop ((ak (s.drop at')).2.1+j2)=s.drop (at'+(ak (s.drop at')).2.1+j2):=λj2=>by rw [lu,jd]
 rw [hdk];clear he hv hdd hud hdk;generalize (ak (s.drop at')).1=n at *;generalize (ak (s.drop at')).2.1=j at *;have S:=aq3 n;have A:=afE n hlt;have wA:=wrap64 (n:=(n:Int) % 4) (by omega) (by omega);by_cases c1:n / 4=0
 ·refine ⟨ahead,at'+j, ?_, ?_⟩
  ·simp only [aj c1]
   rw [hz];have c1':(n:Int) / 4=0:=by omega
   generalize (n:Int) / 4=q at *;refine aB rfl rfl ?_;simp [k,S,A,wA,c1']
  ·simp only [aj c1];exact λx=>absurd x (by decide)
 have c1':¬ (n:Int) / 4=0:=by omega
 simp only [ah c1];by_cases c2:4294967296 < n / 4
 ·refine ⟨ahead,at'+j, ?_, ?_⟩
  ·simp only [aj c2]
   rw [hz];have c2':4294967296 < (n:Int) / 4:=by omega
   generalize (n:Int) / 4=q at *;refine aB rfl rfl ?_;simp [k,S,A,wA,c1',c2']
  ·simp only [aj c2];exact λx=>absurd x (by decide)
 have c2':¬ 4294967296 < (n:Int) / 4:=by omega
 simp only [ah c2];by_cases c3:3<=n % 4
 ·refine ⟨ahead,at'+j, ?_, ?_⟩
  ·simp only [aj c3]
   rw [hz];have c3':3<=(n:Int) % 4:=by omega
   generalize (n:Int) / 4=q at *;generalize (n:Int) % 4=y at *;refine aB rfl rfl ?_;simp [k,S,A,wA,c1',c2',c3']
  ·simp only [aj c3];exact λx=>absurd x (by decide)
 have c3':¬ 3<=(n:Int) % 4:=by omega
 simp only [ah c3];by_cases c4:n / 4<=ahead
 ·refine ⟨ahead,at'+j, ?_, ?_⟩
  ·simp only [aj c4]
   rw [hz];have iR:(n:Int) / 4<=(ahead:Int):=by omega
   generalize (n:Int) / 4=q at *;generalize (n:Int) % 4=y at *;generalize (ahead:Int)=AH at *;refine aB rfl rfl ?_;simp [k,S,A,wA,c1',c2',c3',iR]
  ·simp only [aj c4];exact λx=>absurd x (by decide)
 have iR:¬ (n:Int) / 4<=(ahead:Int):=by omega
 simp only [ah c4];have qn:((n / 4:Nat):Int)=(n:Int) / 4:=by omega
 have hj:at'+j<=s.length:=by omega
 rcases (show n % 4=0\/n % 4=1\/n % 4=2 by omega) with y0 | y1 | y2
 ·have y':(n:Int) % 4=0:=by omega
  have kn:=aoI (.i .u64 ((n:Int) / 4)) (.i .i64 0) (.i .i64 (w:Nat)) s (at'+j) hj hs (.i .u64 0) (.s []);rw [y'] at A wA;by_cases e2:(ak (s.drop (at'+j))).2.2=0
  ·have hv2:=iD e2
   have hl2:=hv2.len;rw [dh] at hl2;refine ⟨n / 4,at'+j+(ak (s.drop (at'+j))).2.1, ?_, ?_⟩
   ·simp only [ah (λx=>x e2:¬ (ak (s.drop (at'+j))).2.2≠0),aj y0]
    rw [Gw,fn,qn];rw [e2] at kn;clear hv2 hl2 e2;generalize (ak (s.drop (at'+j))).1=m at *;generalize ((at'+j+(ak (s.drop (at'+j))).2.1:Nat):Int)=B at *;generalize ((at'+j:Nat):Int)=AT at *;generalize (n:Int) / 4=q at *;generalize (ahead:Int)=AH at *;refine aB rfl rfl ?_;simp [k,S,A,wA,c1',c2',iR,kn]
   ·simp only [ah (λx=>x e2:¬ (ak (s.drop (at'+j))).2.2≠0),aj y0]
    refine λ_=>⟨?_, ?_, ?_, ?_⟩<;>first | trivial | rfl | omega
  ·refine ⟨n / 4,at'+j+(ak (s.drop (at'+j))).2.1, ?_, ?_⟩
   ·simp only [aj e2]
    rw [hz,qn];generalize (ak (s.drop (at'+j))).1=m at *;generalize ((at'+j+(ak (s.drop (at'+j))).2.1:Nat):Int)=B at *;generalize (ak (s.drop (at'+j))).2.2=e at *;generalize ((at'+j:Nat):Int)=AT at *;generalize (n:Int) / 4=q at *;generalize (ahead:Int)=AH at *;refine aB rfl rfl ?_;simp [k,S,A,wA,c1',c2',iR,kn,e2]
   ·simp only [aj e2];exact λx=>absurd x e2
 ·have y':(n:Int) % 4=1:=by omega
  have y0:¬ n % 4=0:=by omega
  obtain ⟨a,kn⟩:=aoK (.i .u64 ((n:Int) / 4)) (.i .i64 1) (.i .i64 (w:Nat)) s (at'+j) hj hs (.i .u64 0);rw [y'] at A wA;have hlen:s.length - at' - (j+(ak (s.drop (at'+j))).2.1)=s.length - (at'+j+(ak (s.drop (at'+j))).2.1):=by omega
  by_cases e2:(ak (s.drop (at'+j))).2.2=0
  ·have hv2:=iD e2
   have hl2:=hv2.len;rw [dh] at hl2;rw [ah (λx=>x e2)] at kn;simp only [ah (λx=>x e2:¬ (ak (s.drop (at'+j))).2.2≠0),ah y0];rw [hlen];by_cases c:s.length - (at'+j+(ak (s.drop (at'+j))).2.1) < (ak (s.drop (at'+j))).1
   ·rw [aj c] at kn
    simp only [aj c];refine ⟨n / 4,a, ?_,λx=>absurd x (by decide)⟩;rw [hz,qn];generalize ((at'+j:Nat):Int)=AT at *;generalize (n:Int) / 4=q at *;generalize (ahead:Int)=AH at *;refine aB rfl rfl ?_;simp [k,S,A,wA,c1',c2',iR,kn]
   ·rw [ah c] at kn
    simp only [ah c,aj y1];refine ⟨n / 4,at'+j+(ak (s.drop (at'+j))).2.1+(ak (s.drop (at'+j))).1, ?_,λ_=>⟨rfl,by omega,by omega,by omega⟩⟩;rw [Gw,fn,qn];generalize (s.drop (at'+j+(ak (s.drop (at'+j))).2.1)).take (ak (s.drop (at'+j))).1=T at *;generalize ((at'+j+(ak (s.drop (at'+j))).2.1+(ak (s.drop (at'+j))).1:Nat):Int)=B at *;generalize ((at'+j:Nat):Int)=AT at *;generalize (n:Int) / 4=q at *;generalize (ahead:Int)=AH at *;refine aB rfl rfl ?_;simp [k,S,A,wA,c1',c2',iR,kn]
  ·rw [aj e2] at kn
   simp only [aj e2];refine ⟨n / 4,a, ?_,λx=>absurd x e2⟩;rw [hz,qn];generalize (ak (s.drop (at'+j))).2.2=e at *;generalize ((at'+j:Nat):Int)=AT at *;generalize (n:Int) / 4=q at *;generalize (ahead:Int)=AH at *;refine aB rfl rfl ?_;simp [k,S,A,wA,c1',c2',iR,kn,e2]
 ·have y':(n:Int) % 4=2:=by omega
  have y0:¬ n % 4=0:=by omega
  have y1:¬ n % 4=1:=by omega
  obtain ⟨a,kn⟩:=aoF hN (.i .u64 ((n:Int) / 4)) (.i .i64 2) w hw s (at'+j) hj hs (by rw [dh];omega) (.i .u64 0) (.s []);rw [y'] at A wA;have hlen:s.length - at' - (j+(ak (s.drop (at'+j))).2.1)=s.length - (at'+j+(ak (s.drop (at'+j))).2.1):=by omega
  by_cases e2:(ak (s.drop (at'+j))).2.2=0
  ·have hv2:=iD e2
   have hl2:=hv2.len;rw [dh] at hl2;rw [ah (λx=>x e2)] at kn;simp only [ah (λx=>x e2:¬ (ak (s.drop (at'+j))).2.2≠0),ah y0];rw [hlen];by_cases c:s.length - (at'+j+(ak (s.drop (at'+j))).2.1) < (ak (s.drop (at'+j))).1
   ·rw [aj c] at kn
    simp only [aj c];refine ⟨n / 4,a, ?_,λx=>absurd x (by decide)⟩;rw [hz,qn];generalize ((at'+j:Nat):Int)=AT at *;generalize (n:Int) / 4=q at *;generalize (ahead:Int)=AH at *;refine aB rfl rfl ?_;simp [k,S,A,wA,c1',c2',iR,kn]
   ·rw [ah c] at kn
    simp only [ah c,ah y1];by_cases c8:8<=w
    ·rw [aj c8] at kn
     simp only [aj c8];refine ⟨n / 4,a, ?_,λx=>absurd x (by decide)⟩;rw [hz,qn];generalize ((at'+j:Nat):Int)=AT at *;generalize (n:Int) / 4=q at *;generalize (ahead:Int)=AH at *;refine aB rfl rfl ?_;simp [k,S,A,wA,c1',c2',iR,kn]
    ·rw [ah c8] at kn
     simp only [ah c8];generalize (s.drop (at'+j+(ak (s.drop (at'+j))).2.1)).take (ak (s.drop (at'+j))).1=T at *;by_cases e3:(bI N (w+1) 0 T).2=0
     ·simp only [ah (λx=>x e3:¬ (bI N (w+1) 0 T).2≠0)]
      refine ⟨n / 4,at'+j+(ak (s.drop (at'+j))).2.1+(ak (s.drop (at'+j))).1, ?_,λ_=>⟨rfl,by omega,by omega,by omega⟩⟩;rw [Gw,qn];rw [e3] at kn;clear e3 c e2 hv2 hl2 hlen;generalize bI N (w+1) 0 T=R at *;generalize ((at'+j+(ak (s.drop (at'+j))).2.1+(ak (s.drop (at'+j))).1:Nat):Int)=B at *;generalize ((at'+j:Nat):Int)=AT at *;generalize (n:Int) / 4=q at *;generalize (ahead:Int)=AH at *;refine aB rfl rfl ?_;simp [k,S,A,wA,c1',c2',iR,kn]
     ·simp only [aj e3]
      refine ⟨n / 4,at'+j+(ak (s.drop (at'+j))).2.1+(ak (s.drop (at'+j))).1, ?_,λx=>absurd x e3⟩;rw [hz,qn];clear c e2 hv2 hl2 hlen;generalize bI N (w+1) 0 T=R at *;generalize ((at'+j+(ak (s.drop (at'+j))).2.1+(ak (s.drop (at'+j))).1:Nat):Int)=B at *;generalize ((at'+j:Nat):Int)=AT at *;generalize (n:Int) / 4=q at *;generalize (ahead:Int)=AH at *;refine aB rfl rfl ?_;simp [k,S,A,wA,c1',c2',iR,kn,e3]
  ·rw [aj e2] at kn
   simp only [aj e2];refine ⟨n / 4,a, ?_,λx=>absurd x e2⟩;rw [hz,qn];generalize (ak (s.drop (at'+j))).2.2=e at *;generalize ((at'+j:Nat):Int)=AT at *;generalize (n:Int) / 4=q at *;generalize (ahead:Int)=AH at *;refine aB rfl rfl ?_;simp [k,S,A,wA,c1',c2',iR,kn,e2]
def MF (N:Nat):Prop:=∀ (w:Nat) (acc:List aF) (ahead at':Nat) (s:List UInt8),w<=8->acc.length+(s.drop at').length<=200000000->at'<=s.length->s.length<=100000000->(s.drop at').length < N->ahead < 18446744073709551616->
    ∃a b:Nat,TT.lim 98 [.l (au acc),.i .i64 (w:Nat),.i .u64 (ahead:Nat),.s s,.i .i64 (at':Nat)]=some (if (bI N w ahead (s.drop at')).2=0 then [.i .i64 1,.l (au (acc++(bI N w ahead (s.drop at')).1)),.i .u64 (a:Nat),.s s,.i .i64 (b:Nat)] else [.i .i64 0,.i .i64 (bI N w ahead (s.drop at')).2,.i .u64 (a:Nat),.s s,.i .i64 (b:Nat)])
theorem adz:∀ (N w ahead:Nat) (s:List UInt8),(bI N w ahead s).2≠0->(bI N w ahead s).1=[]
 | 0,_,_,_,_=>rfl
 | N+1,w,ahead,s,h=>by
   unfold bI at h ⊢;by_cases h1:s=[]
   ·rw [aj h1]
   rw [ah h1] at h ⊢;by_cases h2:(fO (λt=>bI N (w+1) 0 t) w ahead s).2.2≠0
   ·rw [aj h2]
   rw [ah h2] at h ⊢;by_cases h3:(bI N w ((ak s).1 / 4) (s.drop (fO (λt=>bI N (w+1) 0 t) w ahead s).2.1)).2≠0
   ·rw [aj h3]
   ·rw [ah h3] at h;exact absurd rfl h
theorem aoG {N:Nat} (hN:Ji N) (hL:MF N):MF (N+1):=by
 intro w acc ahead at' s hw hac h hs hl ha;have hud:(s.drop at').length=s.length - at':=dh;have wl:=wrap64 (n:=(s.length:Int) - (at':Int)) (by omega) (by omega);unfold bI;by_cases h1:s.drop at'=[]
 ·have hle:s.length - at'=0:=by rw [<- hud,h1];rfl
  have hp:¬ at' < s.length:=by omega
  refine ⟨ahead,at', ?_⟩;rw [aj h1];simp only [if_true,lq];refine aB rfl rfl ?_;simp [wl,hp]
 have hlp:0 < s.length - at':=by
  rw [<- hud];exact AZ.2 h1
 have hp:at' < s.length:=by omega
 simp only [ah h1];obtain ⟨a,b,hn,hok⟩:=aoH hN w ahead hw ha s at' h hs (by omega);have la:=iw acc;by_cases he:(fO (λt=>bI N (w+1) 0 t) w ahead (s.drop at')).2.2=0;rotate_left
 ·refine ⟨a,b, ?_⟩
  rw [aj he];generalize fO (λt=>bI N (w+1) 0 t) w ahead (s.drop at')=o at *;obtain ⟨f,used,e⟩:=o;obtain ⟨t,y,n,tx,k⟩:=f;simp only at *;rw [ah he];rw [Gw] at hn;simp only [gu,dK] at hn;refine aB rfl rfl ?_;simp [wl,hp,hn,he]
 obtain ⟨ea,eb,hu,hb⟩:=hok he;have hv0:(ak (s.drop at')).2.2=0:=by
  by_cases c:(ak (s.drop at')).2.2=0
  ·exact c
  ·exfalso
   unfold fO at he;rw [aj c] at he;exact c he
 have UR:=(iD hv0).lt;simp only [ah (λx=>x he:¬ (fO (λt=>bI N (w+1) 0 t) w ahead (s.drop at')).2.2≠0)];rw [he] at hn;have hdd:(s.drop at').drop (fO (λt=>bI N (w+1) 0 t) w ahead (s.drop at')).2.1=s.drop b:=by rw [lu,<- eb]
 rw [hdd];rw [<- ea];clear hdd he hok;have ala:(s.drop b).length=s.length - b:=dh;obtain ⟨a2,b2,h2⟩:=hL w (acc++[(fO (λt=>bI N (w+1) 0 t) w ahead (s.drop at')).1]) a b s hw (by rw [dX,qO];omega) hb hs (by omega) (by omega);refine ⟨a2,b2, ?_⟩;generalize fO (λt=>bI N (w+1) 0 t) w ahead (s.drop at')=o at *;obtain ⟨f,used,e⟩:=o;obtain ⟨t,y,n,tx,k⟩:=f;simp only at *;rw [Gw] at hn;simp only [gu,dK] at hn;have hfa:au (acc++[.mk t y n tx k])=au acc++[gK t y n tx k]:=by rw [BP];simp only [au,fG];rfl
 have hel:(gK t y n tx k).eU 5=true:=rfl;have hfe:GV.g [.i .u64 t,.i .i64 y,.i .u64 n,.s tx,.l (au k)]=gK t y n tx k:=rfl;have c1:2 * ((au acc).length+1) * 64<=281474976710656/\(au acc).length+1<=281474976710656:=by omega
 rw [hfa] at h2;clear hfa ea eb UR hv0 hu hb hud ala hac hlp h1 la;by_cases h3:(bI N w a (s.drop b)).2=0
 ·rw [aj h3] at h2
  simp only [ah (λx=>x h3:¬ (bI N w a (s.drop b)).2≠0)];simp only [if_true];have happ:acc++[aF.mk t y n tx k]++(bI N w a (s.drop b)).1=acc++(aF.mk t y n tx k::(bI N w a (s.drop b)).1):=by simp
  rw [happ] at h2;clear happ h3;generalize au (acc++(aF.mk t y n tx k::(bI N w a (s.drop b)).1))=R at *;generalize gK t y n tx k=E at *;generalize au acc=A at *;refine aB rfl rfl ?_;simp [wl,hp,hn,hfe,hel,c1,h2]
 ·rw [ah h3] at h2
  simp only [aj h3];rw [ah h3];generalize bI N w a (s.drop b)=RR at *;generalize gK t y n tx k=E at *;generalize au acc=A at *;refine aB rfl rfl ?_;simp [wl,hp,hn,hfe,hel,c1,h2]
theorem aoJ {N:Nat} (hL:MF N):Ji N:=by
 intro w ahead at' s h hs hl hw ha;have hud:(s.drop at').length=s.length - at':=dh;obtain ⟨a,b,h0⟩:=hL w [] ahead at' s hw (by simp only [uD];omega) h hs hl ha;have fn:au []=[]:=by simp only [au]
 refine ⟨a,b, ?_⟩;rw [fn,dK] at h0;have hbad:=adz N w ahead (s.drop at');generalize bI N w ahead (s.drop at')=R at *;by_cases h3:R.2=0
 ·rw [aj h3] at h0
  rw [h3];refine aB rfl rfl ?_;simp [h0]
 ·rw [ah h3] at h0
  rw [hbad h3,fn];refine aB rfl rfl ?_;simp [h0]
theorem adB:∀N:Nat,Ji N/\MF N
 | 0=>⟨λw ahead at' s _ _ hl _ _=>absurd hl (by omega),λw acc ahead at' s _ _ _ _ hl _=>absurd hl (by omega)⟩
 | N+1=>by
   have ih:=adB N;have hl:=aoG ih.1 ih.2;exact ⟨aoJ hl,hl⟩
/-- What wire.Get reads. -/
def lU (s:List UInt8):List aF×Int:=if 65536 < s.length then ([],4) else bI (s.length+1) 0 0 s
theorem asr (s:List UInt8) (hs:s.length<=140737488351232):TT.lim 96 [.s s]=some [.l (au (lU s).1),.i .i64 (lU s).2]:=by
 unfold lU;have fn:au []=[]:=by simp only [au]
 by_cases c:65536 < s.length
 ·have c':(65536:Int) < s.length:=by omega
  rw [aj c,fn];refine aG rfl rfl ?_ rfl;simp [c']
 ·have c':¬ (65536:Int) < s.length:=by omega
  obtain ⟨a,b,h0⟩:=(adB (s.length+1)).1 0 0 0 s (by omega) (by omega) (by rw [bY];omega) (by omega) (by omega);rw [bY] at h0;rw [ah c];simp only [lZ] at h0;generalize bI (s.length+1) 0 0 s=R at *;refine aG rfl rfl ?_ rfl;simp [c',h0]
def qw (l:List bW):List GV:=l.map λs=>GV.i .u64 s.tag
theorem abH (l:List bW) (hl:l.length<=1000):∀ (m i:Nat) (acc:List GV),i+m=l.length->acc.length+m<=2000->TT.lim 106 [.l acc,.l (l.map bD),.i .i64 l.length,.i .i64 i]=some [.i .i64 0,.l (acc++qw (l.drop i))]
 | 0,i,acc,hi,ha=>by
   have h:¬ ((i:Int) < l.length):=by omega
   have e:l.drop i=[]:=dN (by omega);rw [e];show _=some [GV.i .i64 0,.l (acc++[])]
   rw [lq];refine aB rfl rfl ?_;simp [h]
 | m+1,i,acc,hi,ha=>by
   have hlt:i < l.length:=by omega
   have h:((i:Int) < l.length):=by omega
   have hat:(l.map bD)[i]? = some (bD l[i]):=by rw [iF,bV hlt];rfl
   have hcast:((i+1:Nat):Int)=(i:Int)+1:=by omega
   have hw:=wrap64 (n:=(i:Int)+1) (by omega) (by omega);have hd:l.drop i=l[i]::l.drop (i+1):=dZ hlt;have ih:=abH l hl m (i+1) (acc++[.i .u64 l[i].tag]) (by omega) (by rw [dX,qO];omega);rw [hd];have hq:acc++qw (l[i]::l.drop (i+1))=acc++[GV.i .u64 l[i].tag]++qw (l.drop (i+1)):=by
    rw [show qw (l[i]::l.drop (i+1))=GV.i .u64 l[i].tag::qw (l.drop (i+1)) from rfl,List.append_assoc];rfl
   rw [hq];rw [hcast] at ih;have c1:2 * (acc.length+1) * 8<=281474976710656/\acc.length+1<=281474976710656:=by omega
   clear hq hd;generalize acc++[GV.i .u64 l[i].tag]++qw (l.drop (i+1))=R at *;generalize l[i]=s at *;generalize l.map bD=SP at *;refine aB rfl rfl ?_;simp [h,hat,c1,GV.eU,hw,ih]
theorem alG (k v:Int) (h1:1<=v) (h3:v<=3) (hk:lH k<=v):TT.lim 105 [.i .i64 k,.i .i64 v]=some [.l (qw (aQ k v))]:=by
 have hkn:=O5 k v h1 h3 hk;have k8:=vZ k v;have h0:=abH (aQ k v) (by omega) (aQ k v).length 0 [] (by omega) (by simp;omega);rw [bY,dK] at h0;simp only [lZ] at h0;have hal:(((aQ k v).map bD).length:Int)=((aQ k v).length:Int):=by rw [vH]
 generalize qw (aQ k v)=TG at *;generalize (aQ k v).map bD=SP at *;generalize ((aQ k v).length:Int)=L at *;refine aG rfl rfl ?_ rfl;simp [hkn,hal,h0]
/-- The names for tags, as a map. -/
def Af (xs:List GV) (l:List bW):List GV:=l.foldl (λm s=>kE (.i .u64 s.tag) (.s s.name) m) xs
theorem aad (l:List bW) (hl:l.length<=1000) (x0 x1 x2:GV):∀ (m i:Nat) (xs:List GV),i+m=l.length->TT.lim 104 [x0,x1,x2,.l (l.map bD),.i .i64 l.length,.i .i64 i,.l xs]=some [.i .i64 0,.l (Af xs (l.drop i))]
 | 0,i,xs,hi=>by
   have h:¬ ((i:Int) < l.length):=by omega
   have e:l.drop i=[]:=dN (by omega);rw [e];show _=some [GV.i .i64 0,.l xs]
   refine aB rfl rfl ?_;simp [h]
 | m+1,i,xs,hi=>by
   have hlt:i < l.length:=by omega
   have h:((i:Int) < l.length):=by omega
   have hat:(l.map bD)[i]? = some (bD l[i]):=by rw [iF,bV hlt];rfl
   have hcast:((i+1:Nat):Int)=(i:Int)+1:=by omega
   have hw:=wrap64 (n:=(i:Int)+1) (by omega) (by omega);have hd:l.drop i=l[i]::l.drop (i+1):=dZ hlt;have ih:=aad l hl x0 x1 x2 m (i+1) (kE (.i .u64 l[i].tag) (.s l[i].name) xs) (by omega);rw [hd];show _=some [GV.i .i64 0,.l (Af (kE (.i .u64 l[i].tag) (.s l[i].name) xs) (l.drop (i+1)))]
   rw [hcast] at ih;generalize Af (kE (.i .u64 l[i].tag) (.s l[i].name) xs) (l.drop (i+1))=R at *;generalize l[i]=s at *;generalize l.map bD=SP at *;refine aB rfl rfl ?_;simp [h,hat,hw,ih]
theorem acL (t:Int):∀ (l:List bW) (xs:List GV),l.Pairwise (λa b=>a.tag < b.tag)->jf (.i .u64 t) (Af xs l)=(match l.find? (λs=>decide (s.tag=t)) with
 | some s=>some (.s s.name)
 | none=>jf (.i .u64 t) xs)
 | [],xs,_=>rfl
 | s::l,xs,hp=>by
   rw [wS] at hp;have ih:=acL t l (kE (.i .u64 s.tag) (.s s.name) xs) hp.2;show jf (.i .u64 t) (Af (kE (.i .u64 s.tag) (.s s.name) xs) l)=_
   rw [ih,List.find?_cons];by_cases h:s.tag=t
   ·have hno:l.find? (λs=>decide (s.tag=t))=none:=by
     rw [Yv];intro x hx;have:=hp.1 x hx;simp;omega
    rw [hno];simp only [h,decide_true];rw [wY,aj rfl]
   ·simp only [h,decide_false]
    cases hf:l.find? (λs=>decide (s.tag=t)) with
    | some x=>rfl
    | none=>
      simp only;rw [wY,ah (λe=>h e.symm)]
def zJ (xs:List GV) (l:List bW):List GV:=l.foldl (λm s=>kE (.i .u64 s.tag) (.b true) m) xs
theorem aem (l:List bW) (hl:l.length<=1000) (x0:GV):∀ (m i:Nat) (xs:List GV),i+m=l.length->TT.lim 108 [x0,.l (qw l),.i .i64 l.length,.i .i64 i,.l xs]=some [.i .i64 0,.l (zJ xs (l.drop i))]
 | 0,i,xs,hi=>by
   have h:¬ ((i:Int) < l.length):=by omega
   have e:l.drop i=[]:=dN (by omega);rw [e];show _=some [GV.i .i64 0,.l xs]
   refine aB rfl rfl ?_;simp [h]
 | m+1,i,xs,hi=>by
   have hlt:i < l.length:=by omega
   have h:((i:Int) < l.length):=by omega
   have hat:(qw l)[i]? = some (.i .u64 l[i].tag):=by unfold qw;rw [iF,bV hlt];rfl
   have hcast:((i+1:Nat):Int)=(i:Int)+1:=by omega
   have hw:=wrap64 (n:=(i:Int)+1) (by omega) (by omega);have hd:l.drop i=l[i]::l.drop (i+1):=dZ hlt;have ih:=aem l hl x0 m (i+1) (kE (.i .u64 l[i].tag) (.b true) xs) (by omega);rw [hd];show _=some [GV.i .i64 0,.l (zJ (kE (.i .u64 l[i].tag) (.b true) xs) (l.drop (i+1)))]
   rw [hcast] at ih;generalize zJ (kE (.i .u64 l[i].tag) (.b true) xs) (l.drop (i+1))=R at *;generalize l[i]=s at *;generalize qw l=TG at *;refine aB rfl rfl ?_;simp [h,hat,hw,ih]
theorem Zl (t:Int):∀ (l:List bW) (xs:List GV),jf (.i .u64 t) (zJ xs l)=if hasTag l t=true then some (.b true) else jf (.i .u64 t) xs
 | [],xs=>rfl
 | s::l,xs=>by
   have ih:=Zl t l (kE (.i .u64 s.tag) (.b true) xs);show jf (.i .u64 t) (zJ (kE (.i .u64 s.tag) (.b true) xs) l)=_
   rw [ih,wY];unfold hasTag;rw [Rt];by_cases h:t=s.tag
   ·simp [h]
   ·simp [h]
def gX (l:List bW) (fs:List aF):List aF:=fs.filter λf=>hasTag l f.tag
def iZ (l:List bW) (fs:List aF):List aF:=fs.filter λf=>!hasTag l f.tag
theorem aen (l:List bW) (fs:List aF) (hfs:fs.length<=1000000):∀ (m i:Nat) (a b:List aF),i+m=fs.length->a.length+b.length+m<=3000000->TT.lim 109 [.l (au fs),.l (au a),.l (au b),.i .i64 fs.length,.i .i64 i,.l (zJ [] l)]=some [.i .i64 0,.l (au (a++gX l (fs.drop i))),.l (au (b++iZ l (fs.drop i)))]
 | 0,i,a,b,hi,ha=>by
   have h:¬ ((i:Int) < fs.length):=by omega
   have e:fs.drop i=[]:=dN (by omega);rw [e];have e1:gX l []=[]:=rfl;have e2:iZ l []=[]:=rfl;rw [e1,e2,lq,lq];refine aB rfl rfl ?_;simp [h]
 | m+1,i,a,b,hi,ha=>by
   have h:((i:Int) < fs.length):=by omega
   obtain ⟨t,y,n,s,k,g1,g2,g3,g4⟩:=vU (l:=fs) (i:=i) (by omega);have hcast:((i+1:Nat):Int)=(i:Int)+1:=by omega
   have hw:=wrap64 (n:=(i:Int)+1) (by omega) (by omega);have hg:=Zl t l [];have hfa:∀z:List aF,au (z++[.mk t y n s k])=au z++[gK t y n s k]:=λz=>by rw [BP];simp only [au,fG];rfl
   have hel:(gK t y n s k).eU 5=true:=rfl;have hfe:GV.g [.i .u64 t,.i .i64 y,.i .u64 n,.s s,.l (au k)]=gK t y n s k:=rfl;have la:=iw a;have lb:=iw b;have ih:=λa b ha=>aen l fs hfs m (i+1) a b (by omega) ha;simp only [hcast] at ih;rw [g3];have hn0:jf (.i .u64 t) []=none:=rfl;cases ht:hasTag l t with
   | true=>
     have e1:gX l (.mk t y n s k::fs.drop (i+1))=.mk t y n s k::gX l (fs.drop (i+1)):=by unfold gX;rw [Rx (by exact ht)]
     have e2:iZ l (.mk t y n s k::fs.drop (i+1))=iZ l (fs.drop (i+1)):=by unfold iZ;rw [Rw (by show ¬ (!hasTag l t)=true;rw [ht];decide)]
     rw [e1,e2];have ih:=ih (a++[.mk t y n s k]) b (by rw [dX,qO];omega);rw [hfa,List.append_assoc,I9] at ih;rw [ht,aj rfl] at hg;have c1:2 * ((au a).length+1) * 64<=281474976710656/\(au a).length+1<=281474976710656:=by omega
     generalize au (a++.mk t y n s k::gX l (fs.drop (i+1)))=R1 at *;generalize au (b++iZ l (fs.drop (i+1)))=R2 at *;clear hfa la lb e1 e2;generalize zJ [] l=MP at *;generalize au a=A at *;generalize au b=B at *;refine aB rfl rfl ?_;simp [h,g2,hg,hfe,hel,c1,hw,ih]
   | false=>
     have e1:gX l (.mk t y n s k::fs.drop (i+1))=gX l (fs.drop (i+1)):=by unfold gX;rw [Rw (by show ¬ hasTag l t=true;rw [ht];decide)]
     have e2:iZ l (.mk t y n s k::fs.drop (i+1))=.mk t y n s k::iZ l (fs.drop (i+1)):=by unfold iZ;rw [Rx (by show (!hasTag l t)=true;rw [ht];rfl)]
     rw [e1,e2];have ih:=ih a (b++[.mk t y n s k]) (by rw [dX,qO];omega);rw [hfa,List.append_assoc,I9] at ih;rw [ht,ah (by decide),hn0] at hg;have c1:2 * ((au b).length+1) * 64<=281474976710656/\(au b).length+1<=281474976710656:=by omega
     generalize au (a++gX l (fs.drop (i+1)))=R1 at *;generalize au (b++.mk t y n s k::iZ l (fs.drop (i+1)))=R2 at *;clear hfa la lb e1 e2;generalize zJ [] l=MP at *;generalize au a=A at *;generalize au b=B at *;refine aB rfl rfl ?_;simp [h,g2,hg,hfe,hel,c1,hw,ih]
theorem adA {rec:List UInt8->List aF×Int} {w ahead:Nat} {s:List UInt8} (hs:s.length<=100000000) (hr:∀t:List UInt8,t.length+2<=s.length->dw (rec t).1/\(rec t).1.length<=1000000/\bQ (rec t).1<=t.length/\wL (rec t).1<=42 * t.length) (h:(fO rec w ahead s).2.2=0) :
 l9 (fO rec w ahead s).1/\nX (fO rec w ahead s).1+1<=(fO rec w ahead s).2.1/\(fO rec w ahead s).2.1<=s.length/\(fO rec w ahead s).1.tag=((ak s).1 / 4:Nat)/\wF (fO rec w ahead s).1<=42 * (fO rec w ahead s).2.1:=by
 unfold fO at h ⊢;by_cases e1:(ak s).2.2=0;rotate_left
 ·simp only [aj e1] at h;exact absurd h e1
 have v1:=iD e1;simp only [ah (λx=>x e1:¬ (ak s).2.2≠0)] at h ⊢;by_cases c1:(ak s).1 / 4=0
 ·simp only [aj c1] at h;exact absurd h (by decide)
 simp only [ah c1] at h ⊢;by_cases c2:4294967296 < (ak s).1 / 4
 ·simp only [aj c2] at h;exact absurd h (by decide)
 simp only [ah c2] at h ⊢;by_cases c3:3<=(ak s).1 % 4
 ·simp only [aj c3] at h;exact absurd h (by decide)
 simp only [ah c3] at h ⊢;by_cases c4:(ak s).1 / 4<=ahead
 ·simp only [aj c4] at h;exact absurd h (by decide)
 simp only [ah c4] at h ⊢;by_cases e2:(ak (s.drop (ak s).2.1)).2.2=0;rotate_left
 ·simp only [aj e2] at h;exact absurd h e2
 have v2:=iD e2;have l1:=v1.len;have p1:=v1.pos;have l2:=v2.len;have p2:=v2.pos;have t1:=v1.lt;have t2:=v2.lt;rw [dh] at l2;simp only [ah (λx=>x e2:¬ (ak (s.drop (ak s).2.1)).2.2≠0)] at h ⊢;by_cases y0:(ak s).1 % 4=0
 ·simp only [aj y0] at h ⊢
  simp only [l9,dw,nX,bQ,wF,wL,uD];refine ⟨⟨⟨by omega,by omega,by omega,by omega,by omega,by omega,by simp,by simp⟩,trivial⟩,by omega,by omega,rfl,by omega⟩
 simp only [ah y0] at h ⊢;by_cases c:s.length - ((ak s).2.1+(ak (s.drop (ak s).2.1)).2.1) < (ak (s.drop (ak s).2.1)).1
 ·simp only [aj c] at h;exact absurd h (by decide)
 simp only [ah c] at h ⊢;by_cases y1:(ak s).1 % 4=1
 ·simp only [aj y1] at h ⊢
  simp only [l9,dw,nX,bQ,wF,wL];refine ⟨⟨⟨by omega,by omega,by omega,by omega,by omega,by omega,by rw [jL,dh];omega,by simp⟩,trivial⟩,by omega,by omega,rfl,by rw [jL,dh];omega⟩
 simp only [ah y1] at h ⊢;by_cases c8:8<=w
 ·simp only [aj c8] at h;exact absurd h (by decide)
 simp only [ah c8] at h ⊢;have hl:((s.drop ((ak s).2.1+(ak (s.drop (ak s).2.1)).2.1)).take (ak (s.drop (ak s).2.1)).1).length=(ak (s.drop (ak s).2.1)).1:=by rw [jL,dh];omega
 obtain ⟨r1,r2,r3,r4⟩:=hr ((s.drop ((ak s).2.1+(ak (s.drop (ak s).2.1)).2.1)).take (ak (s.drop (ak s).2.1)).1) (by rw [hl];omega);rw [hl] at r3 r4;generalize (s.drop ((ak s).2.1+(ak (s.drop (ak s).2.1)).2.1)).take (ak (s.drop (ak s).2.1)).1=T at *;by_cases e3:(rec T).2=0;rotate_left
 ·simp only [aj e3] at h;exact absurd h e3
 simp only [ah (λx=>x e3:¬ (rec T).2≠0)] at h ⊢;simp only [l9,nX,wF,uD];refine ⟨⟨⟨by omega,by omega,by omega,by omega,by omega,by omega,by simp,r2⟩,r1⟩,by omega,by omega,rfl,by omega⟩
theorem Qe:∀ (N w ahead:Nat) (s:List UInt8),s.length<=1000000->dw (bI N w ahead s).1/\(bI N w ahead s).1.length<=1000000/\bQ (bI N w ahead s).1<=s.length/\wL (bI N w ahead s).1<=42 * s.length
 | 0,w,ahead,s,_=>by simp only [bI,dw,bQ,wL];simp
 | N+1,w,ahead,s,hs=>by
   unfold bI;by_cases h1:s=[]
   ·rw [aj h1];simp only [dw,bQ,wL];simp
   rw [ah h1];by_cases h2:(fO (λt=>bI N (w+1) 0 t) w ahead s).2.2=0;rotate_left
   ·rw [aj h2];simp only [dw,bQ,wL];simp
   rw [ah (λx=>x h2)];obtain ⟨o1,o2,o3,o4,o5⟩:=adA (rec:=λt=>bI N (w+1) 0 t) (w:=w) (ahead:=ahead) (s:=s) (by omega) (λt ht=>Qe N (w+1) 0 t (by omega)) h2;have hd:(s.drop (fO (λt=>bI N (w+1) 0 t) w ahead s).2.1).length=s.length - (fO (λt=>bI N (w+1) 0 t) w ahead s).2.1:=dh;obtain ⟨i1,i2,i3,i4⟩:=Qe N w ((ak s).1 / 4) (s.drop (fO (λt=>bI N (w+1) 0 t) w ahead s).2.1) (by omega);rw [hd] at i3 i4;split
   ·simp only [dw,bQ,wL];simp
   ·simp only [dw,bQ,wL]
    have:∀l:List aF,l.length<=bQ l:=λl=>by
     induction l with
     | nil=>simp [bQ]
     | cons f l ih=>simp only [jc,bQ];omega
    have hl:=this (bI N w ((ak s).1 / 4) (s.drop (fO (λt=>bI N (w+1) 0 t) w ahead s).2.1)).1;refine ⟨⟨o1,i1⟩, ?_, ?_, ?_⟩
    ·simp only [jc];omega
    ·omega
    ·omega
theorem Oz (s:List UInt8):dw (lU s).1/\(lU s).1.length<=1000000/\bQ (lU s).1<=65536/\wL (lU s).1<=3000000:=by
 unfold lU;by_cases c:65536 < s.length
 ·rw [aj c];simp only [dw,bQ,wL];simp
 ·rw [ah c]
  obtain ⟨h1,h2,h3,h4⟩:=Qe (s.length+1) 0 0 s (by omega);exact ⟨h1,h2,by omega,by omega⟩
def aF.typ:aF->Int
 | .mk _ y _ _ _=>y
def aF.num:aF->Int
 | .mk _ _ n _ _=>n
def aF.txt:aF->List UInt8
 | .mk _ _ _ s _=>s
/-- What the known fields make for a message. -/
def jR (l:List bW):aU->List aF->aU×Int
 | b,[]=>(b,0)
 | b,f::r=>match l.find? (λs=>decide (s.tag=f.tag)) with
   | some s=>(match placeOf s.name with
     | some p=>if dY f.typ f.num f.txt p=0 then jR l (setB b f.num f.txt p) r else (fJ,dY f.typ f.num f.txt p)
     | none=>(fJ,26))
   | none=>(fJ,26)
theorem aae (l:List bW) (hl:l.Pairwise (λa b=>a.tag < b.tag)) (hpl:∀s∈l,placeOf s.name≠none) (fs:List aF) (hok:dw fs) (hlen:fs.length<=1000000) (hin:∀f∈fs,hasTag l f.tag=true) (x0 x1:GV):∀ (m i:Nat) (b:aU),i+m=fs.length->qB b []->
 TT.lim 110 ([x0,x1,.l (au fs),.i .i64 fs.length,.i .i64 i]++(bP b []).cells++[.l (Af [] l)])=some (if (jR l b (fs.drop i)).2=0 then .i .i64 1::(bP (jR l b (fs.drop i)).1 []).cells else [.i .i64 0,.i .i64 (jR l b (fs.drop i)).2])
 | 0,i,b,hi,hb=>by
   have h:¬ ((i:Int) < fs.length):=by omega
   have e:fs.drop i=[]:=dN (by omega);rw [e];unfold jR;rw [aj rfl];rw [jT];simp only [gu,dK];refine aB rfl rfl ?_;simp [h]
 | m+1,i,b,hi,hb=>by
   have h:((i:Int) < fs.length):=by omega
   obtain ⟨t,y,n,s,k,g1,g2,g3,g4⟩:=vU (l:=fs) (i:=i) (by omega);have hcast:((i+1:Nat):Int)=(i:Int)+1:=by omega
   have hw:=wrap64 (n:=(i:Int)+1) (by omega) (by omega);have hf:=tq hok _ g4;simp only [l9] at hf;have ht:=hin _ g4;have OM:=acL t l [] hl;have fn:au []=[]:=by simp only [au]
   obtain ⟨sp,hsp⟩:∃sp,l.find? (λs=>decide (s.tag=t))=some sp:=by
    unfold hasTag at ht;obtain ⟨sp,h1,h2⟩:=List.any_eq_true.1 ht;cases hq:l.find? (λs=>decide (s.tag=t)) with
    | some x=>exact ⟨x,rfl⟩
    | none=>
      have:=(Yv.1 hq) sp h1;have h3:t=sp.tag:=KJ h2;simp [h3] at this
   have hmem:=afk hsp;rw [hsp] at OM;simp only at OM;obtain ⟨p,hp⟩:∃p,placeOf sp.name=some p:=by
    cases hq:placeOf sp.name with
    | some p=>exact ⟨p,rfl⟩
    | none=>exact absurd hq (hpl sp hmem)
   have hwt:=amu (au k) b [] (BN hb.d) hb.t (by simp [bQ]) t y n s ⟨hf.1.2.2.2.2.1,hf.1.2.2.2.2.2.1⟩ hf.1.2.2.2.2.2.2.1 sp.name;rw [fn] at hwt;unfold X0 at hwt;rw [hp] at hwt;simp only at hwt;unfold X3 at hwt;rw [g3];unfold jR;have e1:aF.tag (.mk t y n s k)=t:=rfl;have e2:aF.typ (.mk t y n s k)=y:=rfl;have e3:aF.num (.mk t y n s k)=n:=rfl;have e4:aF.txt (.mk t y n s k)=s:=rfl;rw [e1,hsp,e2,e3,e4];simp only [hp];have hfe:GV.g [.i .u64 t,.i .i64 y,.i .u64 n,.s s,.l (au k)]=gK t y n s k:=rfl;rw [hfe] at hwt;by_cases hc:dY y n s p=0
   ·rw [aj hc] at hwt
    simp only [aj hc];obtain ⟨q1,q2,q3⟩:=aeb hb.body hb.d hb.t ⟨hf.1.2.2.2.2.1,hf.1.2.2.2.2.2.1⟩ hf.1.2.2.2.2.2.2.1 hc;have ih:=aae l hl hpl fs hok hlen hin x0 x1 m (i+1) (setB b n s p) (by omega) ⟨q1,q2,q3,by simp only [dw],by simp⟩;rw [hcast] at ih;generalize jR l (setB b n s p) (fs.drop (i+1))=R at *;generalize setB b n s p=B at *;clear q1 q2 q3 hc hsp hmem hp ht hf;generalize Af [] l=MP at *;generalize sp.name=nm at *;generalize au fs=G at *;rw [jT] at ih;rw [jT];simp only [gu,dK] at ih ⊢;refine aB rfl rfl ?_;simp [↓jH,h,g2,hfe,OM,fM,hwt,hw,ih]
   ·rw [ah hc] at hwt
    simp only [ah hc];generalize dY y n s p=e at *;clear hsp hmem hp ht hf;generalize Af [] l=MP at *;generalize sp.name=nm at *;generalize au fs=G at *;rw [jT];simp only [gu,dK];refine aB rfl rfl ?_;simp [↓jH,h,g2,hfe,OM,fM,hwt,hc]
/-- What is read, or why not. -/
def jZ (s:List UInt8) (v:Int):aU×List aF×Int:=
 if v < 1 then (fJ,[],16) else if 3 < v then (fJ,[],16) else
 if 65536 < s.length then (fJ,[],4) else
 if (ak s).2.2≠0 then (fJ,[],(ak s).2.2) else
 if 8 < (ak s).1 then (fJ,[],15) else
 if lH (ak s).1=0 then (fJ,[],15) else if v < lH (ak s).1 then (fJ,[],15) else
 if (lU (s.drop (ak s).2.1)).2≠0 then (fJ,[],(lU (s.drop (ak s).2.1)).2) else
 let l:=aQ (ak s).1 v
 let fs:=(lU (s.drop (ak s).2.1)).1
 let r:=jR l { fJ with kind:=(ak s).1 } (gX l fs)
 if r.2≠0 then (fJ,[],r.2) else
 if jG r.1 (iZ l fs) v≠0 then (fJ,[],jG r.1 (iZ l fs) v) else (r.1,iZ l fs,0)
theorem QM (p:aF->Bool):∀l:List aF,bQ (l.filter p)<=bQ l
 | []=>by simp [bQ]
 | f::l=>by
   have ih:=QM p l;rw [Yu];split
   ·simp only [bQ];omega
   ·simp only [bQ];omega
theorem split_ok (l:List bW) (hl:l.length<=1000) (fs:List aF) (hlen:fs.length<=1000000) (hsz:bQ fs<=1000000):TT.lim 107 [.l (au fs),.l (qw l)]=some [.l (au (gX l fs)),.l (au (iZ l fs))]:=by
 have h0:=aem l hl (.l (au fs)) l.length 0 [] (by omega);have h1:=aen l fs hlen fs.length 0 [] [] (by omega) (by simp;omega);have fn:au []=[]:=by simp only [au]
 rw [bY] at h0 h1;rw [dK,dK,fn] at h1;simp only [lZ] at h0 h1;have c1:=Og (gX l fs) (jl (QM _ fs) hsz);have c2:=Og (iZ l fs) (jl (QM _ fs) hsz);have lt:(qw l).length=l.length:=by unfold qw;rw [vH]
 have lf:=iw fs;generalize au (gX l fs)=W at *;generalize au (iZ l fs)=O at *;generalize au fs=G at *;generalize zJ [] l=MP at *;generalize qw l=TG at *;refine aG rfl rfl ?_ rfl;simp [lt,lf,h0,h1,c1,c2]
theorem NR (l:List bW):∀ (fs:List aF) (b:aU),dw fs->qB b []->qB (jR l b fs).1 []
 | [],b,_,hb=>hb
 | f::fs,b,hf,hb=>by
   simp only [dw] at hf;unfold jR;cases l.find? (λs=>decide (s.tag=f.tag)) with
   | none=>exact nY
   | some s=>
     simp only;cases placeOf s.name with
     | none=>exact nY
     | some p=>
       simp only;by_cases hc:dY f.typ f.num f.txt p=0
       ·rw [aj hc]
        have h1:=hf.1;cases f with
        | mk t y n s k=>
          simp only [l9] at h1;obtain ⟨q1,q2,q3⟩:=aeb hb.body hb.d hb.t ⟨h1.1.2.2.2.2.1,h1.1.2.2.2.2.2.1⟩ h1.1.2.2.2.2.2.2.1 hc;exact NR l fs _ hf.2 ⟨q1,q2,q3,by simp only [dw],by simp⟩
       ·rw [ah hc];exact nY
theorem Ri (k:Int) (h : -9223372036854775808<=k/\k<=9223372036854775807):qB { fJ with kind:=k } []:=by
 have z:=nY;exact ⟨{ z.body with kind:=h },z.d,z.t,z.f8,z.len⟩
theorem BQ (p:aF->Bool):∀ {l:List aF},dw l->dw (l.filter p)
 | [],_=>by simp only [List.filter_nil,dw]
 | f::l,h=>by
   simp only [dw] at h;have ih:=BQ p h.2;rw [Yu];split
   ·simp only [dw];exact ⟨h.1,ih⟩
   ·exact ih
set_option maxHeartbeats 4000000 in
theorem decode_ok (s:List UInt8) (v:Int) (hs:s.length<=140737488351232):TT.lim 93 [.s s,.i .i64 v]=some [bP (jZ s v).1 (au (jZ s v).2.1),.i .i64 (jZ s v).2.2]:=by
 have fn:au []=[]:=by simp only [au]
 have hz:GV.g [.i .i64 0,.i .u64 0,.i .u64 0,.i .u64 0,.i .u64 0,.i .u64 0,.i .u64 0,.i .u64 0,.i .u64 0,.i .u64 0,.i .u64 0,.i .u64 0,.i .u64 0,.i .u64 0,.i .u64 0,.i .u64 0,.i .i64 0,.b false,.s [],.s [],.s [],.l [],.l [],.l []]=bP fJ []:=rfl;unfold jZ;by_cases c1:v < 1
 ·rw [aj c1]
  simp only;rw [fn,<- hz];refine aG rfl rfl ?_ rfl;simp [c1]
 rw [ah c1];by_cases c2:3 < v
 ·rw [aj c2]
  simp only;rw [fn,<- hz];refine aG rfl rfl ?_ rfl;simp [c1,c2]
 rw [ah c2];by_cases c3:65536 < s.length
 ·rw [aj c3]
  have c3':(65536:Int) < s.length:=by omega
  simp only;rw [fn,<- hz];refine aG rfl rfl ?_ rfl;simp [c1,c2,c3']
 rw [ah c3];have c3':¬ (65536:Int) < s.length:=by omega
 have kg:=tH s (by omega);by_cases e1:(ak s).2.2=0;rotate_left
 ·rw [aj e1]
  simp only;rw [fn,<- hz];generalize (ak s).2.2=e at *;refine aG rfl rfl ?_ rfl;simp [c1,c2,c3',kg,e1]
 rw [ah (λx=>x e1)];rw [e1] at kg;have v1:=iD e1;have l1:=v1.len;have t1:=v1.lt;have hdl:(s.drop (ak s).2.1).length=s.length - (ak s).2.1:=dh;have hwg:=asr (s.drop (ak s).2.1) (by omega);obtain ⟨g1,g2,g3, -⟩:=Oz (s.drop (ak s).2.1);clear v1 e1 hdl;generalize lU (s.drop (ak s).2.1)=F at *;generalize hT:s.drop (ak s).2.1=T at *;generalize (ak s).1=n at *;generalize (ak s).2.1=j at *;have hsub:(s.take s.length).drop j=T:=by rw [mZ];exact hT
 have j0:(j:Int)<=s.length:=by omega
 have f0:=U5 0;have f00:lH 0=0:=rfl;rw [f00] at f0;by_cases c4:8 < n
 ·rw [aj c4]
  have iR:¬ (n:Int)<=8:=by omega
  simp only;rw [fn,<- hz];refine aG rfl rfl ?_ rfl;simp [c1,c2,c3',kg,iR,f0]
 rw [ah c4];have iR:(n:Int)<=8:=by omega
 have wn:=wrap64 (n:=(n:Int)) (by omega) (by omega);have kf:=U5 (n:Int);by_cases c5:lH n=0
 ·rw [aj c5]
  rw [c5] at kf;simp only;rw [fn,<- hz];refine aG rfl rfl ?_ rfl;simp [c1,c2,c3',kg,iR,wn,kf]
 rw [ah c5];by_cases c6:v < lH n
 ·rw [aj c6]
  simp only;rw [fn,<- hz];generalize lH n=fk at *;refine aG rfl rfl ?_ rfl;simp [c1,c2,c3',kg,iR,wn,kf,c5,c6]
 rw [ah c6];by_cases e2:F.2=0;rotate_left
 ·rw [aj e2]
  simp only;rw [fn,<- hz];generalize lH n=fk at *;refine aG rfl rfl ?_ rfl;simp [c1,c2,c3',kg,iR,wn,kf,c5,c6,hsub,hT,j0,hwg,e2]
 rw [ah (λx=>x e2)];rw [e2] at hwg;have kn:=O5 n v (by omega) (by omega) (by omega);have kt:=alG n v (by omega) (by omega) (by omega);have k8:=vZ n v;have kz:=aad (aQ n v) (by omega) (.i .i64 v) (.i .i64 n) (.l (au F.1)) (aQ n v).length 0 [] (by omega);rw [bY] at kz;simp only [lZ] at kz;have ks:=split_ok (aQ n v) (by omega) F.1 g2 (by omega);have kd:=aae (aQ n v) (Ku n v).1 (O7 n v) (gX (aQ n v) F.1) (BQ _ g1) (jl (LY _ _) g2) (λf hf=>(Fj.1 hf).2) (.i .i64 v) (.l (au (iZ (aQ n v) F.1))) (gX (aQ n v) F.1).length 0 { fJ with kind:=n } (by omega) (Ri n (by omega));rw [bY] at kd;simp only [lZ] at kd;have hdw:=NR (aQ n v) (gX (aQ n v) F.1) { fJ with kind:=n } (BQ _ g1) (Ri n (by omega));have kc:=acs (jR (aQ n v) { fJ with kind:=n } (gX (aQ n v) F.1)).1 (iZ (aQ n v) F.1) v hdw.body hdw.t.few (BQ _ g1) (jl (LY _ _) g2);have hal:(((aQ n v).map bD).length:Int)=((aQ n v).length:Int):=by rw [vH]
 have hwl:=iw (gX (aQ n v) F.1);have hcz:(bP { fJ with kind:=(n:Int) } []).cells=[.i .i64 (n:Int),.i .u64 0,.i .u64 0,.i .u64 0,.i .u64 0,.i .u64 0,.i .u64 0,.i .u64 0,.i .u64 0,.i .u64 0,.i .u64 0,.i .u64 0,.i .u64 0,.i .u64 0,.i .u64 0,.i .u64 0,.i .i64 0,.b false,.s [],.s [],.s [],.l [],.l [],.l []]:=rfl;rw [hcz] at kd;simp only [gu,dK] at kd;simp only;clear hdw hcz g1 g2 g3 k8;generalize jR (aQ n v) { fJ with kind:=(n:Int) } (gX (aQ n v) F.1)=R at *;generalize iZ (aQ n v) F.1=O at *;generalize au (gX (aQ n v) F.1)=W at *;generalize (gX (aQ n v) F.1).length=WL at *;generalize au F.1=FG at *;generalize Af [] (aQ n v)=MP at *;generalize (aQ n v).map bD=SP at *;generalize qw (aQ n v)=TG at *;generalize ((aQ n v).length:Int)=L at *;generalize lH n=fk at *;by_cases e3:R.2=0;rotate_left
 ·rw [ah e3] at kd
  rw [aj e3];simp only;rw [fn,<- hz];generalize au O=OG at *;clear kc;refine aG rfl rfl ?_ rfl;simp -implicitDefEqProofs (maxSteps:=10000000) [↓jH,c1,c2,c3',kg,iR,wn,kf,c5,c6,hsub,hT,j0,hwg,kn,hal,kz,kt,ks,hwl,kd,e3]
 rw [aj e3] at kd;rw [ah (λx=>x e3)];rw [jT] at kd;by_cases e4:jG R.1 O v=0
 ·rw [ah (λx=>x e4)]
  rw [e4] at kc;simp only;generalize au O=OG at *;clear e3 e4;refine aG rfl rfl ?_ rfl;simp -implicitDefEqProofs (maxSteps:=10000000) [↓jH,c1,c2,c3',kg,iR,wn,kf,c5,c6,hsub,hT,j0,hwg,kn,hal,kz,kt,ks,hwl,kd,fM,kc]
 ·rw [aj e4]
  simp only;rw [fn,<- hz];generalize au O=OG at *;generalize jG R.1 O v=ck at *;refine aG rfl rfl ?_ rfl;simp -implicitDefEqProofs (maxSteps:=10000000) [↓jH,c1,c2,c3',kg,iR,wn,kf,c5,c6,hsub,hT,j0,hwg,kn,hal,kz,kt,ks,hwl,kd,fM,kc,e4]
theorem ae8 (p:aF->Bool):∀l:List aF,wL (l.filter p)<=wL l
 | []=>by simp [wL]
 | f::l=>by
   have ih:=ae8 p l;rw [Yu];split
   ·simp only [wL];omega
   ·simp only [wL];omega
/-- Written at a version, and read at another one. -/
def nC (b:aU) (fl:List aF) (x y:Int):aU×List aF×Int:=if (oQ b fl x).2=0 then jZ (oQ b fl x).1 y else (fJ,[],(oQ b fl x).2)
theorem Y0 {b:aU} {fl:List aF} (hm:wV b fl) (x y:Int):TT.lim 21 [bP b (au fl),.i .i64 x,.i .i64 y]=some [bP (nC b fl x y).1 (au (nC b fl x y).2.1),.i .i64 (nC b fl x y).2.2]:=by
 have k1:=ac2 hm x;have hle:(oQ b fl x).1.length<=65536:=by
  unfold oQ;split
  ·split
   ·simp
   ·simp only;omega
  ·simp
 have k2:=decode_ok (oQ b fl x).1 y (by omega);have fn:au []=[]:=by simp only [au]
 have hz:GV.g [.i .i64 0,.i .u64 0,.i .u64 0,.i .u64 0,.i .u64 0,.i .u64 0,.i .u64 0,.i .u64 0,.i .u64 0,.i .u64 0,.i .u64 0,.i .u64 0,.i .u64 0,.i .u64 0,.i .u64 0,.i .u64 0,.i .i64 0,.b false,.s [],.s [],.s [],.l [],.l [],.l []]=bP fJ []:=rfl;unfold nC;generalize oQ b fl x=E at *;generalize au fl=r at *;by_cases c:E.2=0
 ·rw [aj c]
  rw [c] at k1;generalize jZ E.1 y=D at *;generalize au D.2.1=r2 at *;refine aG rfl rfl ?_ rfl;simp -implicitDefEqProofs (maxSteps:=10000000) [↓jH,fM,k1,k2]
 ·rw [ah c]
  simp only;rw [fn,<- hz];refine aG rfl rfl ?_ rfl;simp -implicitDefEqProofs (maxSteps:=10000000) [↓jH,fM,k1,c]
theorem al7 {b:aU} {fl:List aF} (hm:wV b fl) (x y:Int) (h:y<=x):TT.lim 20 [bP b (au fl),.i .i64 x,.i .i64 y]=some [bP (nC b fl x y).1 (au (nC b fl x y).2.1),.i .i64 (nC b fl x y).2.2]:=by
 have k:=Y0 hm x y;have h':¬ x < y:=by omega
 generalize nC b fl x y=A at *;generalize au fl=r at *;generalize au A.2.1=r2 at *;refine aG rfl rfl ?_ rfl;simp -implicitDefEqProofs (maxSteps:=10000000) [↓jH,fM,h',k]
theorem alN {b:aU} {fl:List aF} (hm:wV b fl) (x y:Int) (h:x<=y):TT.lim 127 [bP b (au fl),.i .i64 x,.i .i64 y]=some [bP (nC b fl x y).1 (au (nC b fl x y).2.1),.i .i64 (nC b fl x y).2.2]:=by
 have k:=Y0 hm x y;have h':¬ y < x:=by omega
 generalize nC b fl x y=A at *;generalize au fl=r at *;generalize au A.2.1=r2 at *;refine aG rfl rfl ?_ rfl;simp -implicitDefEqProofs (maxSteps:=10000000) [↓jH,fM,h',k]
end V
end Go.Proofs.YtaggjpipnjmleaaGreatDoor
