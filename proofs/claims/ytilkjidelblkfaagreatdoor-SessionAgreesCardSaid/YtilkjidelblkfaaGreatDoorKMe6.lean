/- What the trees compute: plain laws. -/
import Derived.Test.YtilkjidelblkfaaGreatDoorKMe5
namespace Go.Proofs.YtilkjidelblkfaaGreatDoor
open Go Go.aJ
set_option linter.unusedSimpArgs false
set_option linter.unusedVariables false
set_option maxRecDepth 100000
namespace M
/-- The field that stands next, within so many lists, above a tag; how many bytes it took; the code. -/
def iT (rec:List UInt8->List aH×Int) (w:Nat) (ahead:Nat) (s:List UInt8):aH×Nat×Int:=
 if (ay s).2.2≠0 then (.mk 0 0 0 [] [],0,(ay s).2.2)
 else if (ay s).1 / 4=0 then (.mk 0 0 0 [] [],0,18)
 else if 4294967296 < (ay s).1 / 4 then (.mk 0 0 0 [] [],0,18)
 else if 3<=(ay s).1 % 4 then (.mk 0 0 0 [] [],0,8)
 else if (ay s).1 / 4<=ahead then (.mk 0 0 0 [] [],0,7)
 else
  let r:=s.drop (ay s).2.1
  let k:=(ay s).2.1+(ay r).2.1
  if (ay r).2.2≠0 then (.mk 0 0 0 [] [],0,(ay r).2.2)
  else if (ay s).1 % 4=0 then (.mk ((ay s).1 / 4:Nat) 0 (ay r).1 [] [],k,0)
  else if s.length - k < (ay r).1 then (.mk 0 0 0 [] [],0,1)
  else if (ay s).1 % 4=1 then (.mk ((ay s).1 / 4:Nat) 1 0 ((s.drop k).take (ay r).1) [],k+(ay r).1,0)
  else if 8<=w then (.mk 0 0 0 [] [],0,9)
  else if (rec ((s.drop k).take (ay r).1)).2≠0 then (.mk 0 0 0 [] [],0,(rec ((s.drop k).take (ay r).1)).2)
  else (.mk ((ay s).1 / 4:Nat) 2 0 [] (rec ((s.drop k).take (ay r).1)).1,k+(ay r).1,0)
/-- Fields, within so many lists, above a tag. -/
def dQ:Nat->Nat->Nat->List UInt8->List aH×Int
 | 0,_,_,_=>([],0)
 | N+1,w,ahead,s=>if s=[] then ([],0) else
   if (iT (λt=>dQ N (w+1) 0 t) w ahead s).2.2≠0 then ([],(iT (λt=>dQ N (w+1) 0 t) w ahead s).2.2)
   else if (dQ N w ((ay s).1 / 4) (s.drop (iT (λt=>dQ N (w+1) 0 t) w ahead s).2.1)).2≠0 then ([],(dQ N w ((ay s).1 / 4) (s.drop (iT (λt=>dQ N (w+1) 0 t) w ahead s).2.1)).2)
   else ((iT (λt=>dQ N (w+1) 0 t) w ahead s).1::(dQ N w ((ay s).1 / 4) (s.drop (iT (λt=>dQ N (w+1) 0 t) w ahead s).2.1)).1,0)
theorem ag0 (n:Nat) (hn:n < 18446744073709551616):fO .and .u64 (n:Int) 3=some (.i .u64 ((n:Int) % 4)):=by
 have wu:∀y:Int,IntKind.u64.wrap y=y % 18446744073709551616:=λy=>by simp [IntKind.wrap,IntKind.signed,IntKind.bits]
 have e:n &&& 3=n % 4:=agx n 2;have h1:(BitVec.ofInt 64 (n:Int)).toNat=n:=by rw [xC];omega
 have h3:(BitVec.ofInt 64 3).toNat=3:=by decide
 show some (GV.i IntKind.u64 (IntKind.u64.wrap ((BitVec.ofInt 64 (n:Int) &&& BitVec.ofInt 64 3).toNat:Int)))=_
 rw [Y9,h1,h3,e,wu];congr 2;omega
theorem arF (n:Nat):nJ .shr .u64 (n:Int) 2=some (.i .u64 ((n:Int) / 4)):=by
 show some (GV.i IntKind.u64 ((n:Int).fdiv (2 ^ 2)))=_
 rw [NH _ (by decide)];rfl
theorem apO (t y w:GV) (s:List UInt8) (at':Nat) (h:at'<=s.length) (hs:s.length<=100000000) (n x:GV) :
 TT.lim 125 [t,y,w,.s s,.i .i64 at',n,x]=some [.i .i64 0,.i .i64 (ay (s.drop at')).2.2,.i .u64 ((ay (s.drop at')).1:Nat),.s s,.i .i64 ((at'+(ay (s.drop at')).2.1:Nat):Int)]:=by
 have k:=zM s at' h (by omega);refine aB rfl rfl ?_;simp -implicitDefEqProofs [k]
theorem apQ (t y w:GV) (s:List UInt8) (at':Nat) (h:at'<=s.length) (hs:s.length<=100000000) (n:GV) :
 ∃a,TT.lim 126 [t,y,w,.s s,.i .i64 at',n,.s []]=some
  (if (ay (s.drop at')).2.2≠0 then [.i .i64 0,.i .i64 (ay (s.drop at')).2.2,.s [],.s s,.i .i64 (a:Nat)]
  else if s.length - (at'+(ay (s.drop at')).2.1) < (ay (s.drop at')).1 then [.i .i64 0,.i .i64 1,.s [],.s s,.i .i64 (a:Nat)]
  else [.i .i64 0,.i .i64 0,.s ((s.drop (at'+(ay (s.drop at')).2.1)).take (ay (s.drop at')).1),.s s,.i .i64 ((at'+(ay (s.drop at')).2.1+(ay (s.drop at')).1:Nat):Int)]):=by
 have k:=zM s at' h (by omega);by_cases he:(ay (s.drop at')).2.2=0;rotate_left
 ·refine ⟨at'+(ay (s.drop at')).2.1, ?_⟩
  rw [aj he];generalize (ay (s.drop at')).2.2=e at *;refine aB rfl rfl ?_;simp -implicitDefEqProofs [k,he]
 have hv:=jM he;have hl:=hv.len;have hlt:=hv.lt;rw [eH] at hl;rw [he] at k;refine ⟨at'+(ay (s.drop at')).2.1, ?_⟩;rw [ah (λx=>x he)];clear he;generalize (ay (s.drop at')).1=m at *;generalize (ay (s.drop at')).2.1=j at *;have w1:=wrap64 (n:=(s.length:Int) - ((at'+j:Nat):Int)) (by omega) (by omega);have w2:=jJ (n:=(s.length:Int) - ((at'+j:Nat):Int)) (by omega) (by omega);by_cases c:s.length - (at'+j) < m
 ·have c':(s.length:Int) - ((at'+j:Nat):Int) < (m:Int):=by omega
  rw [aj c];generalize ((at'+j:Nat):Int)=A at *;refine aB rfl rfl ?_;simp -implicitDefEqProofs [k,w1,w2,c']
 ·have c':¬ ((s.length:Int) - ((at'+j:Nat):Int) < (m:Int)):=by omega
  rw [ah c];have w3:=wrap64 (n:=(m:Int)) (by omega) (by omega);have w4:=wrap64 (n:=((at'+j:Nat):Int)+(m:Int)) (by omega) (by omega);have e4:((at'+j:Nat):Int)+(m:Int)=((at'+j+m:Nat):Int):=by omega
  rw [e4] at w4;have b1:(0:Int)<=((at'+j:Nat):Int)/\((at'+j:Nat):Int)<=((at'+j+m:Nat):Int)/\((at'+j+m:Nat):Int)<=s.length:=by omega
  have hsl:(s.take (at'+j+m)).drop (at'+j)=(s.drop (at'+j)).take m:=by rw [GU,show at'+j+m - (at'+j)=m by omega]
  have t1:(((at'+j:Nat):Int)).toNat=at'+j:=by omega
  have t2:(((at'+j+m:Nat):Int)).toNat=at'+j+m:=by omega
  generalize hA:((at'+j:Nat):Int)=A at *;generalize hB:((at'+j+m:Nat):Int)=B at *;refine aB rfl rfl ?_;simp -implicitDefEqProofs [k,w1,w2,c',w3,e4,w4,b1,t1,t2,hsl]
/-- What is told for reading up to a size. -/
def JX (N:Nat):Prop:=∀ (w ahead at':Nat) (s:List UInt8),at'<=s.length->s.length<=100000000->(s.drop at').length < N->w<=8->ahead < 18446744073709551616->∃a b,TT.lim 121 [.s s,.i .i64 (w:Nat),.i .u64 (ahead:Nat),.i .i64 (at':Nat)]=some [.i .i64 0,.l (aC (dQ N w ahead (s.drop at')).1),.i .i64 (dQ N w ahead (s.drop at')).2,.i .u64 (a:Nat),.s s,.i .i64 (b:Nat)]
theorem apL {N:Nat} (hN:JX N) (t y:GV) (w:Nat) (hw:w<=8) (s:List UInt8) (at':Nat) (h:at'<=s.length) (hs:s.length<=100000000) (Vq:(s.drop at').length<=N) (n x:GV) :
 ∃a,TT.lim 127 [t,y,.i .i64 (w:Nat),.s s,.i .i64 at',n,x]=some
  (if (ay (s.drop at')).2.2≠0 then [.i .i64 0,.i .i64 (ay (s.drop at')).2.2,.l [],.s s,.i .i64 (a:Nat)]
  else if s.length - (at'+(ay (s.drop at')).2.1) < (ay (s.drop at')).1 then [.i .i64 0,.i .i64 1,.l [],.s s,.i .i64 (a:Nat)]
  else if 8<=w then [.i .i64 0,.i .i64 9,.l [],.s s,.i .i64 (a:Nat)]
  else [.i .i64 0,.i .i64 (dQ N (w+1) 0 ((s.drop (at'+(ay (s.drop at')).2.1)).take (ay (s.drop at')).1)).2,.l (aC (dQ N (w+1) 0 ((s.drop (at'+(ay (s.drop at')).2.1)).take (ay (s.drop at')).1)).1),.s s,.i .i64 ((at'+(ay (s.drop at')).2.1+(ay (s.drop at')).1:Nat):Int)]):=by
 have k:=zM s at' h (by omega);by_cases he:(ay (s.drop at')).2.2=0;rotate_left
 ·refine ⟨at'+(ay (s.drop at')).2.1, ?_⟩
  rw [aj he];generalize (ay (s.drop at')).2.2=e at *;refine aB rfl rfl ?_;simp -implicitDefEqProofs [k,he]
 have hv:=jM he;have hl:=hv.len;have hlt:=hv.lt;have hp:=hv.pos;rw [eH] at hl Vq;rw [he] at k;by_cases c:s.length - (at'+(ay (s.drop at')).2.1) < (ay (s.drop at')).1
 ·refine ⟨at'+(ay (s.drop at')).2.1, ?_⟩
  rw [ah (λx=>x he),aj c];clear he;generalize (ay (s.drop at')).1=m at *;generalize (ay (s.drop at')).2.1=j at *;have w1:=wrap64 (n:=(s.length:Int) - ((at'+j:Nat):Int)) (by omega) (by omega);have w2:=jJ (n:=(s.length:Int) - ((at'+j:Nat):Int)) (by omega) (by omega);have c':(s.length:Int) - ((at'+j:Nat):Int) < (m:Int):=by omega
  generalize ((at'+j:Nat):Int)=A at *;refine aB rfl rfl ?_;simp -implicitDefEqProofs [k,w1,w2,c']
 by_cases c8:8<=w
 ·refine ⟨at'+(ay (s.drop at')).2.1+(ay (s.drop at')).1, ?_⟩
  rw [ah (λx=>x he),ah c,aj c8];clear he;generalize (ay (s.drop at')).1=m at *;generalize (ay (s.drop at')).2.1=j at *;have w1:=wrap64 (n:=(s.length:Int) - ((at'+j:Nat):Int)) (by omega) (by omega);have w2:=jJ (n:=(s.length:Int) - ((at'+j:Nat):Int)) (by omega) (by omega);have c':¬ ((s.length:Int) - ((at'+j:Nat):Int) < (m:Int)):=by omega
  have w3:=wrap64 (n:=(m:Int)) (by omega) (by omega);have w4:=wrap64 (n:=((at'+j:Nat):Int)+(m:Int)) (by omega) (by omega);have e4:((at'+j:Nat):Int)+(m:Int)=((at'+j+m:Nat):Int):=by omega
  rw [e4] at w4;have b1:(0:Int)<=((at'+j:Nat):Int)/\((at'+j:Nat):Int)<=((at'+j+m:Nat):Int)/\((at'+j+m:Nat):Int)<=s.length:=by omega
  have Ep:(8:Int)<=(w:Int):=by omega
  generalize hA:((at'+j:Nat):Int)=A at *;generalize hB:((at'+j+m:Nat):Int)=B at *;refine aB rfl rfl ?_;simp -implicitDefEqProofs [k,w1,w2,c',w3,e4,w4,b1,Ep]
 ·refine ⟨0, ?_⟩
  rw [ah (λx=>x he),ah c,ah c8];clear he;generalize (ay (s.drop at')).1=m at *;generalize (ay (s.drop at')).2.1=j at *;have hr:=hN (w+1) 0 0 ((s.drop (at'+j)).take m) (by omega) (by rw [mM,eH];omega) (by rw [dO,mM,eH];omega) (by omega) (by omega);obtain ⟨a,b,hr⟩:=hr;rw [dO] at hr;have w1:=wrap64 (n:=(s.length:Int) - ((at'+j:Nat):Int)) (by omega) (by omega);have w2:=jJ (n:=(s.length:Int) - ((at'+j:Nat):Int)) (by omega) (by omega);have c':¬ ((s.length:Int) - ((at'+j:Nat):Int) < (m:Int)):=by omega
  have w3:=wrap64 (n:=(m:Int)) (by omega) (by omega);have w4:=wrap64 (n:=((at'+j:Nat):Int)+(m:Int)) (by omega) (by omega);have e4:((at'+j:Nat):Int)+(m:Int)=((at'+j+m:Nat):Int):=by omega
  rw [e4] at w4;have b1:(0:Int)<=((at'+j:Nat):Int)/\((at'+j:Nat):Int)<=((at'+j+m:Nat):Int)/\((at'+j+m:Nat):Int)<=s.length:=by omega
  have hsl:(s.take (at'+j+m)).drop (at'+j)=(s.drop (at'+j)).take m:=by rw [GU,show at'+j+m - (at'+j)=m by omega]
  have t1:(((at'+j:Nat):Int)).toNat=at'+j:=by omega
  have t2:(((at'+j+m:Nat):Int)).toNat=at'+j+m:=by omega
  have Ep:¬ (8:Int)<=(w:Int):=by omega
  have w5:=wrap64 (n:=(w:Int)+1) (by omega) (by omega);have e5:(w:Int)+1=((w+1:Nat):Int):=by omega
  simp only [wM] at hr;rw [<- e5] at hr;generalize (s.drop (at'+j)).take m=T at *;generalize dQ N (w+1) 0 T=R at *;generalize hA:((at'+j:Nat):Int)=A at *;generalize hB:((at'+j+m:Nat):Int)=B at *;generalize hW:(w:Int)=W at *;clear e5;refine aB rfl rfl ?_;simp -implicitDefEqProofs [k,w1,w2,c',w3,e4,w4,b1,t1,t2,hsl,Ep,w5,hr]
theorem apN {N:Nat} (hN:JX N) (w ahead:Nat) (hw:w<=8) (ha:ahead < 18446744073709551616) (s:List UInt8) (at':Nat) (h:at'<=s.length) (hs:s.length<=100000000) (Vq:(s.drop at').length<=N+1) :
 ∃a b:Nat,TT.lim 123 [.i .i64 (w:Nat),.i .u64 (ahead:Nat),.s s,.i .i64 at']=some (.i .i64 0::((ng (iT (λt=>dQ N (w+1) 0 t) w ahead (s.drop at')).1).cells++[.i .i64 (iT (λt=>dQ N (w+1) 0 t) w ahead (s.drop at')).2.2,.i .u64 (a:Nat),.s s,.i .i64 (b:Nat)]))/\
  ((iT (λt=>dQ N (w+1) 0 t) w ahead (s.drop at')).2.2=0->a=(ay (s.drop at')).1 / 4/\b=at'+(iT (λt=>dQ N (w+1) 0 t) w ahead (s.drop at')).2.1/\1<=(iT (λt=>dQ N (w+1) 0 t) w ahead (s.drop at')).2.1/\b<=s.length):=by
 have k:=zM s at' h (by omega);have fn:aC []=[]:=by simp only [aC]
 have hz:(ng (.mk 0 0 0 [] [])).cells=[.i .u64 0,.i .i64 0,.i .u64 0,.s [],.l []]:=by rw [Iq,fn]
 unfold iT;by_cases he:(ay (s.drop at')).2.2=0;rotate_left
 ·refine ⟨ahead,at'+(ay (s.drop at')).2.1, ?_, ?_⟩
  ·simp only [aj he]
   rw [hz];generalize (ay (s.drop at')).2.2=e at *;refine aB rfl rfl ?_;simp -implicitDefEqProofs [k,he]
  ·simp only [aj he];exact λx=>absurd x he
 have hv:=jM he;have hl:=hv.len;have hlt:=hv.lt;have hp:=hv.pos;rw [eH] at hl Vq;have hdd:(s.drop at').drop (ay (s.drop at')).2.1=s.drop (at'+(ay (s.drop at')).2.1):=by rw [qX]
 rw [hdd];have hud:(s.drop at').length=s.length - at':=eH;rw [hud];rw [he] at k;simp only [ah (λx=>x he:¬ (ay (s.drop at')).2.2≠0)];have hdk:∀j2:Nat,(s.drop at').drop ((ay (s.drop at')).2.1+j2)=s.drop (at'+(ay (s.drop at')).2.1+j2):=λj2=>by rw [qX,jv]
 rw [hdk];clear he hv hdd hud hdk;generalize (ay (s.drop at')).1=n at *;generalize (ay (s.drop at')).2.1=j at *;have S:=arF n;have A:=ag0 n hlt;have wA:=wrap64 (n:=(n:Int) % 4) (by omega) (by omega);by_cases c1:n / 4=0
 ·refine ⟨ahead,at'+j, ?_, ?_⟩
  ·simp only [aj c1]
   rw [hz];have c1':(n:Int) / 4=0:=by omega
   generalize (n:Int) / 4=q at *;refine aB rfl rfl ?_;simp -implicitDefEqProofs [k,S,A,wA,c1']
  ·simp only [aj c1];exact λx=>absurd x (by decide)
 have c1':¬ (n:Int) / 4=0:=by omega
 simp only [ah c1];by_cases c2:4294967296 < n / 4
 ·refine ⟨ahead,at'+j, ?_, ?_⟩
  ·simp only [aj c2]
   rw [hz];have c2':4294967296 < (n:Int) / 4:=by omega
   generalize (n:Int) / 4=q at *;refine aB rfl rfl ?_;simp -implicitDefEqProofs [k,S,A,wA,c1',c2']
  ·simp only [aj c2];exact λx=>absurd x (by decide)
 have c2':¬ 4294967296 < (n:Int) / 4:=by omega
 simp only [ah c2];by_cases c3:3<=n % 4
 ·refine ⟨ahead,at'+j, ?_, ?_⟩
  ·simp only [aj c3]
   rw [hz];have c3':3<=(n:Int) % 4:=by omega
   generalize (n:Int) / 4=q at *;generalize (n:Int) % 4=y at *;refine aB rfl rfl ?_;simp -implicitDefEqProofs [k,S,A,wA,c1',c2',c3']
  ·simp only [aj c3];exact λx=>absurd x (by decide)
 have c3':¬ 3<=(n:Int) % 4:=by omega
 simp only [ah c3];by_cases c4:n / 4<=ahead
 ·refine ⟨ahead,at'+j, ?_, ?_⟩
  ·simp only [aj c4]
   rw [hz];have mY:(n:Int) / 4<=(ahead:Int):=by omega
   generalize (n:Int) / 4=q at *;generalize (n:Int) % 4=y at *;generalize (ahead:Int)=AH at *;refine aB rfl rfl ?_;simp -implicitDefEqProofs [k,S,A,wA,c1',c2',c3',mY]
  ·simp only [aj c4];exact λx=>absurd x (by decide)
 have mY:¬ (n:Int) / 4<=(ahead:Int):=by omega
 simp only [ah c4];have qn:((n / 4:Nat):Int)=(n:Int) / 4:=by omega
 have hj:at'+j<=s.length:=by omega
 rcases (show n % 4=0\/n % 4=1\/n % 4=2 by omega) with y0 | y1 | y2
 ·have y':(n:Int) % 4=0:=by omega
  have kn:=apO (.i .u64 ((n:Int) / 4)) (.i .i64 0) (.i .i64 (w:Nat)) s (at'+j) hj hs (.i .u64 0) (.s []);rw [y'] at A wA;by_cases e2:(ay (s.drop (at'+j))).2.2=0
  ·have hv2:=jM e2
   have hl2:=hv2.len;rw [eH] at hl2;refine ⟨n / 4,at'+j+(ay (s.drop (at'+j))).2.1, ?_, ?_⟩
   ·simp only [ah (λx=>x e2:¬ (ay (s.drop (at'+j))).2.2≠0),aj y0]
    rw [Iq,fn,qn];rw [e2] at kn;clear hv2 hl2 e2;generalize (ay (s.drop (at'+j))).1=m at *;generalize ((at'+j+(ay (s.drop (at'+j))).2.1:Nat):Int)=B at *;generalize ((at'+j:Nat):Int)=AT at *;generalize (n:Int) / 4=q at *;generalize (ahead:Int)=AH at *;refine aB rfl rfl ?_;simp -implicitDefEqProofs [k,S,A,wA,c1',c2',mY,kn]
   ·simp only [ah (λx=>x e2:¬ (ay (s.drop (at'+j))).2.2≠0),aj y0]
    refine λ_=>⟨?_, ?_, ?_, ?_⟩<;>first | trivial | rfl | omega
  ·refine ⟨n / 4,at'+j+(ay (s.drop (at'+j))).2.1, ?_, ?_⟩
   ·simp only [aj e2]
    rw [hz,qn];generalize (ay (s.drop (at'+j))).1=m at *;generalize ((at'+j+(ay (s.drop (at'+j))).2.1:Nat):Int)=B at *;generalize (ay (s.drop (at'+j))).2.2=e at *;generalize ((at'+j:Nat):Int)=AT at *;generalize (n:Int) / 4=q at *;generalize (ahead:Int)=AH at *;refine aB rfl rfl ?_;simp -implicitDefEqProofs [k,S,A,wA,c1',c2',mY,kn,e2]
   ·simp only [aj e2];exact λx=>absurd x e2
 ·have y':(n:Int) % 4=1:=by omega
  have y0:¬ n % 4=0:=by omega
  obtain ⟨a,kn⟩:=apQ (.i .u64 ((n:Int) / 4)) (.i .i64 1) (.i .i64 (w:Nat)) s (at'+j) hj hs (.i .u64 0);rw [y'] at A wA;have hlen:s.length - at' - (j+(ay (s.drop (at'+j))).2.1)=s.length - (at'+j+(ay (s.drop (at'+j))).2.1):=by omega
  by_cases e2:(ay (s.drop (at'+j))).2.2=0
  ·have hv2:=jM e2
   have hl2:=hv2.len;rw [eH] at hl2;rw [ah (λx=>x e2)] at kn;simp only [ah (λx=>x e2:¬ (ay (s.drop (at'+j))).2.2≠0),ah y0];rw [hlen];by_cases c:s.length - (at'+j+(ay (s.drop (at'+j))).2.1) < (ay (s.drop (at'+j))).1
   ·rw [aj c] at kn
    simp only [aj c];refine ⟨n / 4,a, ?_,λx=>absurd x (by decide)⟩;rw [hz,qn];generalize ((at'+j:Nat):Int)=AT at *;generalize (n:Int) / 4=q at *;generalize (ahead:Int)=AH at *;refine aB rfl rfl ?_;simp -implicitDefEqProofs [k,S,A,wA,c1',c2',mY,kn]
   ·rw [ah c] at kn
    simp only [ah c,aj y1];refine ⟨n / 4,at'+j+(ay (s.drop (at'+j))).2.1+(ay (s.drop (at'+j))).1, ?_,λ_=>⟨rfl,by omega,by omega,by omega⟩⟩;rw [Iq,fn,qn];generalize (s.drop (at'+j+(ay (s.drop (at'+j))).2.1)).take (ay (s.drop (at'+j))).1=T at *;generalize ((at'+j+(ay (s.drop (at'+j))).2.1+(ay (s.drop (at'+j))).1:Nat):Int)=B at *;generalize ((at'+j:Nat):Int)=AT at *;generalize (n:Int) / 4=q at *;generalize (ahead:Int)=AH at *;refine aB rfl rfl ?_;simp -implicitDefEqProofs [k,S,A,wA,c1',c2',mY,kn]
  ·rw [aj e2] at kn
   simp only [aj e2];refine ⟨n / 4,a, ?_,λx=>absurd x e2⟩;rw [hz,qn];generalize (ay (s.drop (at'+j))).2.2=e at *;generalize ((at'+j:Nat):Int)=AT at *;generalize (n:Int) / 4=q at *;generalize (ahead:Int)=AH at *;refine aB rfl rfl ?_;simp -implicitDefEqProofs [k,S,A,wA,c1',c2',mY,kn,e2]
 ·have y':(n:Int) % 4=2:=by omega
  have y0:¬ n % 4=0:=by omega
  have y1:¬ n % 4=1:=by omega
  obtain ⟨a,kn⟩:=apL hN (.i .u64 ((n:Int) / 4)) (.i .i64 2) w hw s (at'+j) hj hs (by rw [eH];omega) (.i .u64 0) (.s []);rw [y'] at A wA;have hlen:s.length - at' - (j+(ay (s.drop (at'+j))).2.1)=s.length - (at'+j+(ay (s.drop (at'+j))).2.1):=by omega
  by_cases e2:(ay (s.drop (at'+j))).2.2=0
  ·have hv2:=jM e2
   have hl2:=hv2.len;rw [eH] at hl2;rw [ah (λx=>x e2)] at kn;simp only [ah (λx=>x e2:¬ (ay (s.drop (at'+j))).2.2≠0),ah y0];rw [hlen];by_cases c:s.length - (at'+j+(ay (s.drop (at'+j))).2.1) < (ay (s.drop (at'+j))).1
   ·rw [aj c] at kn
    simp only [aj c];refine ⟨n / 4,a, ?_,λx=>absurd x (by decide)⟩;rw [hz,qn];generalize ((at'+j:Nat):Int)=AT at *;generalize (n:Int) / 4=q at *;generalize (ahead:Int)=AH at *;refine aB rfl rfl ?_;simp -implicitDefEqProofs [k,S,A,wA,c1',c2',mY,kn]
   ·rw [ah c] at kn
    simp only [ah c,ah y1];by_cases c8:8<=w
    ·rw [aj c8] at kn
     simp only [aj c8];refine ⟨n / 4,a, ?_,λx=>absurd x (by decide)⟩;rw [hz,qn];generalize ((at'+j:Nat):Int)=AT at *;generalize (n:Int) / 4=q at *;generalize (ahead:Int)=AH at *;refine aB rfl rfl ?_;simp -implicitDefEqProofs [k,S,A,wA,c1',c2',mY,kn]
    ·rw [ah c8] at kn
     simp only [ah c8];generalize (s.drop (at'+j+(ay (s.drop (at'+j))).2.1)).take (ay (s.drop (at'+j))).1=T at *;by_cases e3:(dQ N (w+1) 0 T).2=0
     ·simp only [ah (λx=>x e3:¬ (dQ N (w+1) 0 T).2≠0)]
      refine ⟨n / 4,at'+j+(ay (s.drop (at'+j))).2.1+(ay (s.drop (at'+j))).1, ?_,λ_=>⟨rfl,by omega,by omega,by omega⟩⟩;rw [Iq,qn];rw [e3] at kn;clear e3 c e2 hv2 hl2 hlen;generalize dQ N (w+1) 0 T=R at *;generalize ((at'+j+(ay (s.drop (at'+j))).2.1+(ay (s.drop (at'+j))).1:Nat):Int)=B at *;generalize ((at'+j:Nat):Int)=AT at *;generalize (n:Int) / 4=q at *;generalize (ahead:Int)=AH at *;refine aB rfl rfl ?_;simp -implicitDefEqProofs [k,S,A,wA,c1',c2',mY,kn]
     ·simp only [aj e3]
      refine ⟨n / 4,at'+j+(ay (s.drop (at'+j))).2.1+(ay (s.drop (at'+j))).1, ?_,λx=>absurd x e3⟩;rw [hz,qn];clear c e2 hv2 hl2 hlen;generalize dQ N (w+1) 0 T=R at *;generalize ((at'+j+(ay (s.drop (at'+j))).2.1+(ay (s.drop (at'+j))).1:Nat):Int)=B at *;generalize ((at'+j:Nat):Int)=AT at *;generalize (n:Int) / 4=q at *;generalize (ahead:Int)=AH at *;refine aB rfl rfl ?_;simp -implicitDefEqProofs [k,S,A,wA,c1',c2',mY,kn,e3]
  ·rw [aj e2] at kn
   simp only [aj e2];refine ⟨n / 4,a, ?_,λx=>absurd x e2⟩;rw [hz,qn];generalize (ay (s.drop (at'+j))).2.2=e at *;generalize ((at'+j:Nat):Int)=AT at *;generalize (n:Int) / 4=q at *;generalize (ahead:Int)=AH at *;refine aB rfl rfl ?_;simp -implicitDefEqProofs [k,S,A,wA,c1',c2',mY,kn,e2]
def NV (N:Nat):Prop:=∀ (w:Nat) (acc:List aH) (ahead at':Nat) (s:List UInt8),w<=8->acc.length+(s.drop at').length<=200000000->at'<=s.length->s.length<=100000000->(s.drop at').length < N->ahead < 18446744073709551616->
    ∃a b:Nat,TT.lim 122 [.l (aC acc),.i .i64 (w:Nat),.i .u64 (ahead:Nat),.s s,.i .i64 (at':Nat)]=some (if (dQ N w ahead (s.drop at')).2=0 then [.i .i64 1,.l (aC (acc++(dQ N w ahead (s.drop at')).1)),.i .u64 (a:Nat),.s s,.i .i64 (b:Nat)] else [.i .i64 0,.i .i64 (dQ N w ahead (s.drop at')).2,.i .u64 (a:Nat),.s s,.i .i64 (b:Nat)])
theorem apJ:∀ (N w ahead:Nat) (s:List UInt8),(dQ N w ahead s).2≠0->(dQ N w ahead s).1=[]
 | 0,_,_,_,_=>rfl
 | N+1,w,ahead,s,h=>by
   unfold dQ at h ⊢;by_cases h1:s=[]
   ·rw [aj h1]
   rw [ah h1] at h ⊢;by_cases h2:(iT (λt=>dQ N (w+1) 0 t) w ahead s).2.2≠0
   ·rw [aj h2]
   rw [ah h2] at h ⊢;by_cases h3:(dQ N w ((ay s).1 / 4) (s.drop (iT (λt=>dQ N (w+1) 0 t) w ahead s).2.1)).2≠0
   ·rw [aj h3]
   ·rw [ah h3] at h;exact absurd rfl h
theorem apM {N:Nat} (hN:JX N) (hL:NV N):NV (N+1):=by
 intro w acc ahead at' s hw hac h hs hl ha;have hud:(s.drop at').length=s.length - at':=eH;have wl:=wrap64 (n:=(s.length:Int) - (at':Int)) (by omega) (by omega);unfold dQ;by_cases h1:s.drop at'=[]
 ·have hle:s.length - at'=0:=by rw [<- hud,h1];rfl
  have hp:¬ at' < s.length:=by omega
  refine ⟨ahead,at', ?_⟩;rw [aj h1];simp only [if_true,pI];refine aB rfl rfl ?_;simp -implicitDefEqProofs [wl,hp]
 have hlp:0 < s.length - at':=by
  rw [<- hud];exact NM.2 h1
 have hp:at' < s.length:=by omega
 simp only [ah h1];obtain ⟨a,b,hn,hok⟩:=apN hN w ahead hw ha s at' h hs (by omega);have la:=l9 acc;by_cases he:(iT (λt=>dQ N (w+1) 0 t) w ahead (s.drop at')).2.2=0;rotate_left
 ·refine ⟨a,b, ?_⟩
  rw [aj he];generalize iT (λt=>dQ N (w+1) 0 t) w ahead (s.drop at')=o at *;obtain ⟨f,used,e⟩:=o;obtain ⟨t,y,n,tx,k⟩:=f;simp only at *;rw [ah he];rw [Iq] at hn;simp only [bJ,bn] at hn;refine aB rfl rfl ?_;simp -implicitDefEqProofs [wl,hp,hn,he]
 obtain ⟨ea,eb,hu,hb⟩:=hok he;have hv0:(ay (s.drop at')).2.2=0:=by
  by_cases c:(ay (s.drop at')).2.2=0
  ·exact c
  ·exfalso
   unfold iT at he;rw [aj c] at he;exact c he
 have al3:=(jM hv0).lt;simp only [ah (λx=>x he:¬ (iT (λt=>dQ N (w+1) 0 t) w ahead (s.drop at')).2.2≠0)];rw [he] at hn;have hdd:(s.drop at').drop (iT (λt=>dQ N (w+1) 0 t) w ahead (s.drop at')).2.1=s.drop b:=by rw [qX,<- eb]
 rw [hdd];rw [<- ea];clear hdd he hok;have alW:(s.drop b).length=s.length - b:=eH;obtain ⟨a2,b2,h2⟩:=hL w (acc++[(iT (λt=>dQ N (w+1) 0 t) w ahead (s.drop at')).1]) a b s hw (by rw [fG,Cj];omega) hb hs (by omega) (by omega);refine ⟨a2,b2, ?_⟩;generalize iT (λt=>dQ N (w+1) 0 t) w ahead (s.drop at')=o at *;obtain ⟨f,used,e⟩:=o;obtain ⟨t,y,n,tx,k⟩:=f;simp only at *;rw [Iq] at hn;simp only [bJ,bn] at hn;have hfa:aC (acc++[.mk t y n tx k])=aC acc++[oP t y n tx k]:=by rw [PI];simp only [aC,ng];rfl
 have hel:(oP t y n tx k).fA 5=true:=rfl;have hfe:GV.g [.i .u64 t,.i .i64 y,.i .u64 n,.s tx,.l (aC k)]=oP t y n tx k:=rfl;have c1:2 * ((aC acc).length+1) * 64<=281474976710656/\(aC acc).length+1<=281474976710656:=by omega
 rw [hfa] at h2;clear hfa ea eb al3 hv0 hu hb hud alW hac hlp h1 la;by_cases h3:(dQ N w a (s.drop b)).2=0
 ·rw [aj h3] at h2
  simp only [ah (λx=>x h3:¬ (dQ N w a (s.drop b)).2≠0)];simp only [if_true];have happ:acc++[aH.mk t y n tx k]++(dQ N w a (s.drop b)).1=acc++(aH.mk t y n tx k::(dQ N w a (s.drop b)).1):=by simp
  rw [happ] at h2;clear happ h3;generalize aC (acc++(aH.mk t y n tx k::(dQ N w a (s.drop b)).1))=R at *;generalize oP t y n tx k=E at *;generalize aC acc=A at *;refine aB rfl rfl ?_;simp -implicitDefEqProofs [wl,hp,hn,hfe,hel,c1,h2]
 ·rw [ah h3] at h2
  simp only [aj h3];rw [ah h3];generalize dQ N w a (s.drop b)=RR at *;generalize oP t y n tx k=E at *;generalize aC acc=A at *;refine aB rfl rfl ?_;simp -implicitDefEqProofs [wl,hp,hn,hfe,hel,c1,h2]
theorem apP {N:Nat} (hL:NV N):JX N:=by
 intro w ahead at' s h hs hl hw ha;have hud:(s.drop at').length=s.length - at':=eH;obtain ⟨a,b,h0⟩:=hL w [] ahead at' s hw (by simp only [qy];omega) h hs hl ha;have fn:aC []=[]:=by simp only [aC]
 refine ⟨a,b, ?_⟩;rw [fn,bn] at h0;have hbad:=apJ N w ahead (s.drop at');generalize dQ N w ahead (s.drop at')=R at *;by_cases h3:R.2=0
 ·rw [aj h3] at h0
  rw [h3];refine aB rfl rfl ?_;simp -implicitDefEqProofs [h0]
 ·rw [ah h3] at h0
  rw [hbad h3,fn];refine aB rfl rfl ?_;simp -implicitDefEqProofs [h0]
theorem aeT:∀N:Nat,JX N/\NV N
 | 0=>⟨λw ahead at' s _ _ hl _ _=>absurd hl (by omega),λw acc ahead at' s _ _ _ _ hl _=>absurd hl (by omega)⟩
 | N+1=>by
   have ih:=aeT N;have hl:=apM ih.1 ih.2;exact ⟨apP hl,hl⟩
/-- What wire.Get reads. -/
def vW (s:List UInt8):List aH×Int:=if 65536 < s.length then ([],4) else dQ (s.length+1) 0 0 s
theorem ate (s:List UInt8) (hs:s.length<=140737488351232):TT.lim 120 [.s s]=some [.l (aC (vW s).1),.i .i64 (vW s).2]:=by
 unfold vW;have fn:aC []=[]:=by simp only [aC]
 by_cases c:65536 < s.length
 ·have c':(65536:Int) < s.length:=by omega
  rw [aj c,fn];refine aQ rfl rfl ?_ rfl;simp -implicitDefEqProofs [c']
 ·have c':¬ (65536:Int) < s.length:=by omega
  obtain ⟨a,b,h0⟩:=(aeT (s.length+1)).1 0 0 0 s (by omega) (by omega) (by rw [dO];omega) (by omega) (by omega);rw [dO] at h0;rw [ah c];simp only [wM] at h0;generalize dQ (s.length+1) 0 0 s=R at *;refine aQ rfl rfl ?_ rfl;simp -implicitDefEqProofs [c',h0]
def qQ (l:List eG):List GV:=l.map λs=>GV.i .u64 s.tag
theorem acW (l:List eG) (hl:l.length<=1000):∀ (m i:Nat) (acc:List GV),i+m=l.length->acc.length+m<=2000->TT.lim 130 [.l acc,.l (l.map dZ),.i .i64 l.length,.i .i64 i]=some [.i .i64 0,.l (acc++qQ (l.drop i))]
 | 0,i,acc,hi,ha=>by
   have h:¬ ((i:Int) < l.length):=by omega
   have e:l.drop i=[]:=fJ (by omega);rw [e];show _=some [GV.i .i64 0,.l (acc++[])]
   rw [pI];refine aB rfl rfl ?_;simp -implicitDefEqProofs [h]
 | m+1,i,acc,hi,ha=>by
   have hlt:i < l.length:=by omega
   have h:((i:Int) < l.length):=by omega
   have hat:(l.map dZ)[i]? = some (dZ l[i]):=by rw [iF,bM hlt];rfl
   have hcast:((i+1:Nat):Int)=(i:Int)+1:=by omega
   have hw:=wrap64 (n:=(i:Int)+1) (by omega) (by omega);have hd:l.drop i=l[i]::l.drop (i+1):=iC hlt;have ih:=acW l hl m (i+1) (acc++[.i .u64 l[i].tag]) (by omega) (by rw [fG,Cj];omega);rw [hd];have hq:acc++qQ (l[i]::l.drop (i+1))=acc++[GV.i .u64 l[i].tag]++qQ (l.drop (i+1)):=by
    rw [show qQ (l[i]::l.drop (i+1))=GV.i .u64 l[i].tag::qQ (l.drop (i+1)) from rfl,List.append_assoc];rfl
   rw [hq];rw [hcast] at ih;have c1:2 * (acc.length+1) * 8<=281474976710656/\acc.length+1<=281474976710656:=by omega
   clear hq hd;generalize acc++[GV.i .u64 l[i].tag]++qQ (l.drop (i+1))=R at *;generalize l[i]=s at *;generalize l.map dZ=SP at *;refine aB rfl rfl ?_;simp -implicitDefEqProofs [h,hat,c1,GV.fA,hw,ih]
theorem amz (k v:Int) (h1:1<=v) (h3:v<=3) (hk:pW k<=v):TT.lim 129 [.i .i64 k,.i .i64 v]=some [.l (qQ (bI k v))]:=by
 have hkn:=Qu k v h1 h3 hk;have k8:=Dx k v;have h0:=acW (bI k v) (by omega) (bI k v).length 0 [] (by omega) (by simp;omega);rw [dO,bn] at h0;simp only [wM] at h0;have hal:(((bI k v).map dZ).length:Int)=((bI k v).length:Int):=by rw [kR]
 generalize qQ (bI k v)=TG at *;generalize (bI k v).map dZ=SP at *;generalize ((bI k v).length:Int)=L at *;refine aQ rfl rfl ?_ rfl;simp -implicitDefEqProofs [hkn,hal,h0]
/-- The names for tags, as a map. -/
def Bh (xs:List GV) (l:List eG):List GV:=l.foldl (λm s=>jZ (.i .u64 s.tag) (.s s.name) m) xs
theorem aa5 (l:List eG) (hl:l.length<=1000) (x0 x1 x2:GV):∀ (m i:Nat) (xs:List GV),i+m=l.length->TT.lim 128 [x0,x1,x2,.l (l.map dZ),.i .i64 l.length,.i .i64 i,.l xs]=some [.i .i64 0,.l (Bh xs (l.drop i))]
 | 0,i,xs,hi=>by
   have h:¬ ((i:Int) < l.length):=by omega
   have e:l.drop i=[]:=fJ (by omega);rw [e];show _=some [GV.i .i64 0,.l xs]
   refine aB rfl rfl ?_;simp -implicitDefEqProofs [h]
 | m+1,i,xs,hi=>by
   have hlt:i < l.length:=by omega
   have h:((i:Int) < l.length):=by omega
   have hat:(l.map dZ)[i]? = some (dZ l[i]):=by rw [iF,bM hlt];rfl
   have hcast:((i+1:Nat):Int)=(i:Int)+1:=by omega
   have hw:=wrap64 (n:=(i:Int)+1) (by omega) (by omega);have hd:l.drop i=l[i]::l.drop (i+1):=iC hlt;have ih:=aa5 l hl x0 x1 x2 m (i+1) (jZ (.i .u64 l[i].tag) (.s l[i].name) xs) (by omega);rw [hd];show _=some [GV.i .i64 0,.l (Bh (jZ (.i .u64 l[i].tag) (.s l[i].name) xs) (l.drop (i+1)))]
   rw [hcast] at ih;generalize Bh (jZ (.i .u64 l[i].tag) (.s l[i].name) xs) (l.drop (i+1))=R at *;generalize l[i]=s at *;generalize l.map dZ=SP at *;refine aB rfl rfl ?_;simp -implicitDefEqProofs [h,hat,hw,ih]
theorem adT (t:Int):∀ (l:List eG) (xs:List GV),l.Pairwise (λa b=>a.tag < b.tag)->ig (.i .u64 t) (Bh xs l)=(match l.find? (λs=>decide (s.tag=t)) with
 | some s=>some (.s s.name)
 | none=>ig (.i .u64 t) xs)
 | [],xs,_=>rfl
 | s::l,xs,hp=>by
   rw [iV] at hp;have ih:=adT t l (jZ (.i .u64 s.tag) (.s s.name) xs) hp.2;show ig (.i .u64 t) (Bh (jZ (.i .u64 s.tag) (.s s.name) xs) l)=_
   rw [ih,List.find?_cons];by_cases h:s.tag=t
   ·have hno:l.find? (λs=>decide (s.tag=t))=none:=by
     rw [List.find?_eq_none];intro x hx;have:=hp.1 x hx;simp;omega
    rw [hno];simp only [h,decide_true];rw [xM,aj rfl]
   ·simp only [h,decide_false]
    cases hf:l.find? (λs=>decide (s.tag=t)) with
    | some x=>rfl
    | none=>
      simp only;rw [xM,ah (λe=>h e.symm)]
def Aq (xs:List GV) (l:List eG):List GV:=l.foldl (λm s=>jZ (.i .u64 s.tag) (.b true) m) xs
theorem aft (l:List eG) (hl:l.length<=1000) (x0:GV):∀ (m i:Nat) (xs:List GV),i+m=l.length->TT.lim 132 [x0,.l (qQ l),.i .i64 l.length,.i .i64 i,.l xs]=some [.i .i64 0,.l (Aq xs (l.drop i))]
 | 0,i,xs,hi=>by
   have h:¬ ((i:Int) < l.length):=by omega
   have e:l.drop i=[]:=fJ (by omega);rw [e];show _=some [GV.i .i64 0,.l xs]
   refine aB rfl rfl ?_;simp -implicitDefEqProofs [h]
 | m+1,i,xs,hi=>by
   have hlt:i < l.length:=by omega
   have h:((i:Int) < l.length):=by omega
   have hat:(qQ l)[i]? = some (.i .u64 l[i].tag):=by unfold qQ;rw [iF,bM hlt];rfl
   have hcast:((i+1:Nat):Int)=(i:Int)+1:=by omega
   have hw:=wrap64 (n:=(i:Int)+1) (by omega) (by omega);have hd:l.drop i=l[i]::l.drop (i+1):=iC hlt;have ih:=aft l hl x0 m (i+1) (jZ (.i .u64 l[i].tag) (.b true) xs) (by omega);rw [hd];show _=some [GV.i .i64 0,.l (Aq (jZ (.i .u64 l[i].tag) (.b true) xs) (l.drop (i+1)))]
   rw [hcast] at ih;generalize Aq (jZ (.i .u64 l[i].tag) (.b true) xs) (l.drop (i+1))=R at *;generalize l[i]=s at *;generalize qQ l=TG at *;refine aB rfl rfl ?_;simp -implicitDefEqProofs [h,hat,hw,ih]
theorem aaq (t:Int):∀ (l:List eG) (xs:List GV),ig (.i .u64 t) (Aq xs l)=if hasTag l t=true then some (.b true) else ig (.i .u64 t) xs
 | [],xs=>rfl
 | s::l,xs=>by
   have ih:=aaq t l (jZ (.i .u64 s.tag) (.b true) xs);show ig (.i .u64 t) (Aq (jZ (.i .u64 s.tag) (.b true) xs) l)=_
   rw [ih,xM];unfold hasTag;rw [List.any_cons];by_cases h:t=s.tag
   ·simp -implicitDefEqProofs [h]
   ·simp -implicitDefEqProofs [h]
def lT (l:List eG) (fs:List aH):List aH:=fs.filter λf=>hasTag l f.tag
def oW (l:List eG) (fs:List aH):List aH:=fs.filter λf=>!hasTag l f.tag
theorem afu (l:List eG) (fs:List aH) (hfs:fs.length<=1000000):∀ (m i:Nat) (a b:List aH),i+m=fs.length->a.length+b.length+m<=3000000->TT.lim 133 [.l (aC fs),.l (aC a),.l (aC b),.i .i64 fs.length,.i .i64 i,.l (Aq [] l)]=some [.i .i64 0,.l (aC (a++lT l (fs.drop i))),.l (aC (b++oW l (fs.drop i)))]
 | 0,i,a,b,hi,ha=>by
   have h:¬ ((i:Int) < fs.length):=by omega
   have e:fs.drop i=[]:=fJ (by omega);rw [e];have e1:lT l []=[]:=rfl;have e2:oW l []=[]:=rfl;rw [e1,e2,pI,pI];refine aB rfl rfl ?_;simp -implicitDefEqProofs [h]
 | m+1,i,a,b,hi,ha=>by
   have h:((i:Int) < fs.length):=by omega
   obtain ⟨t,y,n,s,k,g1,g2,g3,g4⟩:=Dn (l:=fs) (i:=i) (by omega);have hcast:((i+1:Nat):Int)=(i:Int)+1:=by omega
   have hw:=wrap64 (n:=(i:Int)+1) (by omega) (by omega);have hg:=aaq t l [];have hfa:∀z:List aH,aC (z++[.mk t y n s k])=aC z++[oP t y n s k]:=λz=>by rw [PI];simp only [aC,ng];rfl
   have hel:(oP t y n s k).fA 5=true:=rfl;have hfe:GV.g [.i .u64 t,.i .i64 y,.i .u64 n,.s s,.l (aC k)]=oP t y n s k:=rfl;have la:=l9 a;have lb:=l9 b;have ih:=λa b ha=>afu l fs hfs m (i+1) a b (by omega) ha;simp only [hcast] at ih;rw [g3];have hn0:ig (.i .u64 t) []=none:=rfl;cases ht:hasTag l t with
   | true=>
     have e1:lT l (.mk t y n s k::fs.drop (i+1))=.mk t y n s k::lT l (fs.drop (i+1)):=by unfold lT;rw [agu (by exact ht)]
     have e2:oW l (.mk t y n s k::fs.drop (i+1))=oW l (fs.drop (i+1)):=by unfold oW;rw [agt (by show ¬ (!hasTag l t)=true;rw [ht];decide)]
     rw [e1,e2];have ih:=ih (a++[.mk t y n s k]) b (by rw [fG,Cj];omega);rw [hfa,List.append_assoc,JM] at ih;rw [ht,aj rfl] at hg;have c1:2 * ((aC a).length+1) * 64<=281474976710656/\(aC a).length+1<=281474976710656:=by omega
     generalize aC (a++.mk t y n s k::lT l (fs.drop (i+1)))=R1 at *;generalize aC (b++oW l (fs.drop (i+1)))=R2 at *;clear hfa la lb e1 e2;generalize Aq [] l=MP at *;generalize aC a=A at *;generalize aC b=B at *;refine aB rfl rfl ?_;simp -implicitDefEqProofs [h,g2,hg,hfe,hel,c1,hw,ih]
   | false=>
     have e1:lT l (.mk t y n s k::fs.drop (i+1))=lT l (fs.drop (i+1)):=by unfold lT;rw [agt (by show ¬ hasTag l t=true;rw [ht];decide)]
     have e2:oW l (.mk t y n s k::fs.drop (i+1))=.mk t y n s k::oW l (fs.drop (i+1)):=by unfold oW;rw [agu (by show (!hasTag l t)=true;rw [ht];rfl)]
     rw [e1,e2];have ih:=ih a (b++[.mk t y n s k]) (by rw [fG,Cj];omega);rw [hfa,List.append_assoc,JM] at ih;rw [ht,ah (by decide),hn0] at hg;have c1:2 * ((aC b).length+1) * 64<=281474976710656/\(aC b).length+1<=281474976710656:=by omega
     generalize aC (a++lT l (fs.drop (i+1)))=R1 at *;generalize aC (b++.mk t y n s k::oW l (fs.drop (i+1)))=R2 at *;clear hfa la lb e1 e2;generalize Aq [] l=MP at *;generalize aC a=A at *;generalize aC b=B at *;refine aB rfl rfl ?_;simp -implicitDefEqProofs [h,g2,hg,hfe,hel,c1,hw,ih]
theorem apK {rec:List UInt8->List aH×Int} {w ahead:Nat} {s:List UInt8} (hs:s.length<=100000000) (hr:∀t:List UInt8,t.length+2<=s.length->dJ (rec t).1/\(rec t).1.length<=1000000/\bU (rec t).1<=t.length/\wL (rec t).1<=42 * t.length) (h:(iT rec w ahead s).2.2=0) :
 rJ (iT rec w ahead s).1/\su (iT rec w ahead s).1+1<=(iT rec w ahead s).2.1/\(iT rec w ahead s).2.1<=s.length/\(iT rec w ahead s).1.tag=((ay s).1 / 4:Nat)/\wF (iT rec w ahead s).1<=42 * (iT rec w ahead s).2.1:=by
 unfold iT at h ⊢;by_cases e1:(ay s).2.2=0;rotate_left
 ·simp only [aj e1] at h;exact absurd h e1
 have v1:=jM e1;simp only [ah (λx=>x e1:¬ (ay s).2.2≠0)] at h ⊢;by_cases c1:(ay s).1 / 4=0
 ·simp only [aj c1] at h;exact absurd h (by decide)
 simp only [ah c1] at h ⊢;by_cases c2:4294967296 < (ay s).1 / 4
 ·simp only [aj c2] at h;exact absurd h (by decide)
 simp only [ah c2] at h ⊢;by_cases c3:3<=(ay s).1 % 4
 ·simp only [aj c3] at h;exact absurd h (by decide)
 simp only [ah c3] at h ⊢;by_cases c4:(ay s).1 / 4<=ahead
 ·simp only [aj c4] at h;exact absurd h (by decide)
 simp only [ah c4] at h ⊢;by_cases e2:(ay (s.drop (ay s).2.1)).2.2=0;rotate_left
 ·simp only [aj e2] at h;exact absurd h e2
 have v2:=jM e2;have l1:=v1.len;have p1:=v1.pos;have l2:=v2.len;have p2:=v2.pos;have t1:=v1.lt;have t2:=v2.lt;rw [eH] at l2;simp only [ah (λx=>x e2:¬ (ay (s.drop (ay s).2.1)).2.2≠0)] at h ⊢;by_cases y0:(ay s).1 % 4=0
 ·simp only [aj y0] at h ⊢
  simp only [rJ,dJ,su,bU,wF,wL,qy];refine ⟨⟨⟨by omega,by omega,by omega,by omega,by omega,by omega,by simp,by simp⟩,trivial⟩,by omega,by omega,rfl,by omega⟩
 simp only [ah y0] at h ⊢;by_cases c:s.length - ((ay s).2.1+(ay (s.drop (ay s).2.1)).2.1) < (ay (s.drop (ay s).2.1)).1
 ·simp only [aj c] at h;exact absurd h (by decide)
 simp only [ah c] at h ⊢;by_cases y1:(ay s).1 % 4=1
 ·simp only [aj y1] at h ⊢
  simp only [rJ,dJ,su,bU,wF,wL];refine ⟨⟨⟨by omega,by omega,by omega,by omega,by omega,by omega,by rw [mM,eH];omega,by simp⟩,trivial⟩,by omega,by omega,rfl,by rw [mM,eH];omega⟩
 simp only [ah y1] at h ⊢;by_cases c8:8<=w
 ·simp only [aj c8] at h;exact absurd h (by decide)
 simp only [ah c8] at h ⊢;have hl:((s.drop ((ay s).2.1+(ay (s.drop (ay s).2.1)).2.1)).take (ay (s.drop (ay s).2.1)).1).length=(ay (s.drop (ay s).2.1)).1:=by rw [mM,eH];omega
 obtain ⟨r1,r2,r3,r4⟩:=hr ((s.drop ((ay s).2.1+(ay (s.drop (ay s).2.1)).2.1)).take (ay (s.drop (ay s).2.1)).1) (by rw [hl];omega);rw [hl] at r3 r4;generalize (s.drop ((ay s).2.1+(ay (s.drop (ay s).2.1)).2.1)).take (ay (s.drop (ay s).2.1)).1=T at *;by_cases e3:(rec T).2=0;rotate_left
 ·simp only [aj e3] at h;exact absurd h e3
 simp only [ah (λx=>x e3:¬ (rec T).2≠0)] at h ⊢;simp only [rJ,su,wF,qy];refine ⟨⟨⟨by omega,by omega,by omega,by omega,by omega,by omega,by simp,r2⟩,r1⟩,by omega,by omega,rfl,by omega⟩
theorem X9:∀ (N w ahead:Nat) (s:List UInt8),s.length<=1000000->dJ (dQ N w ahead s).1/\(dQ N w ahead s).1.length<=1000000/\bU (dQ N w ahead s).1<=s.length/\wL (dQ N w ahead s).1<=42 * s.length
 | 0,w,ahead,s,_=>by simp only [dQ,dJ,bU,wL];simp
 | N+1,w,ahead,s,hs=>by
   unfold dQ;by_cases h1:s=[]
   ·rw [aj h1];simp only [dJ,bU,wL];simp
   rw [ah h1];by_cases h2:(iT (λt=>dQ N (w+1) 0 t) w ahead s).2.2=0;rotate_left
   ·rw [aj h2];simp only [dJ,bU,wL];simp
   rw [ah (λx=>x h2)];obtain ⟨o1,o2,o3,o4,o5⟩:=apK (rec:=λt=>dQ N (w+1) 0 t) (w:=w) (ahead:=ahead) (s:=s) (by omega) (λt ht=>X9 N (w+1) 0 t (by omega)) h2;have hd:(s.drop (iT (λt=>dQ N (w+1) 0 t) w ahead s).2.1).length=s.length - (iT (λt=>dQ N (w+1) 0 t) w ahead s).2.1:=eH;obtain ⟨i1,i2,i3,i4⟩:=X9 N w ((ay s).1 / 4) (s.drop (iT (λt=>dQ N (w+1) 0 t) w ahead s).2.1) (by omega);rw [hd] at i3 i4;split
   ·simp only [dJ,bU,wL];simp
   ·simp only [dJ,bU,wL]
    have:∀l:List aH,l.length<=bU l:=λl=>by
     induction l with
     | nil=>simp [bU]
     | cons f l ih=>simp only [jK,bU];omega
    have hl:=this (dQ N w ((ay s).1 / 4) (s.drop (iT (λt=>dQ N (w+1) 0 t) w ahead s).2.1)).1;refine ⟨⟨o1,i1⟩, ?_, ?_, ?_⟩
    ·simp only [jK];omega
    ·omega
    ·omega
theorem ab2 (s:List UInt8):dJ (vW s).1/\(vW s).1.length<=1000000/\bU (vW s).1<=65536/\wL (vW s).1<=3000000:=by
 unfold vW;by_cases c:65536 < s.length
 ·rw [aj c];simp only [dJ,bU,wL];simp
 ·rw [ah c]
  obtain ⟨h1,h2,h3,h4⟩:=X9 (s.length+1) 0 0 s (by omega);exact ⟨h1,h2,by omega,by omega⟩
def aH.typ:aH->Int
 | .mk _ y _ _ _=>y
def aH.num:aH->Int
 | .mk _ _ n _ _=>n
def aH.txt:aH->List UInt8
 | .mk _ _ _ s _=>s
/-- What the known fields make for a message. -/
def sO (l:List eG):aS->List aH->aS×Int
 | b,[]=>(b,0)
 | b,f::r=>match l.find? (λs=>decide (s.tag=f.tag)) with
   | some s=>(match placeOf s.name with
     | some p=>if pq f.typ f.num f.txt p=0 then sO l (setB b f.num f.txt p) r else (iJ,pq f.typ f.num f.txt p)
     | none=>(iJ,26))
   | none=>(iJ,26)
theorem aa6 (l:List eG) (hl:l.Pairwise (λa b=>a.tag < b.tag)) (hpl:∀s∈l,placeOf s.name≠none) (fs:List aH) (hok:dJ fs) (hlen:fs.length<=1000000) (hin:∀f∈fs,hasTag l f.tag=true) (x0 x1:GV):∀ (m i:Nat) (b:aS),i+m=fs.length->qB b []->
 TT.lim 134 ([x0,x1,.l (aC fs),.i .i64 fs.length,.i .i64 i]++(gI b []).cells++[.l (Bh [] l)])=some (if (sO l b (fs.drop i)).2=0 then .i .i64 1::(gI (sO l b (fs.drop i)).1 []).cells else [.i .i64 0,.i .i64 (sO l b (fs.drop i)).2])
 | 0,i,b,hi,hb=>by
   have h:¬ ((i:Int) < fs.length):=by omega
   have e:fs.drop i=[]:=fJ (by omega);rw [e];unfold sO;rw [aj rfl];rw [dG];simp only [bJ,bn];refine aB rfl rfl ?_;simp -implicitDefEqProofs [h]
 | m+1,i,b,hi,hb=>by
   have h:((i:Int) < fs.length):=by omega
   obtain ⟨t,y,n,s,k,g1,g2,g3,g4⟩:=Dn (l:=fs) (i:=i) (by omega);have hcast:((i+1:Nat):Int)=(i:Int)+1:=by omega
   have hw:=wrap64 (n:=(i:Int)+1) (by omega) (by omega);have hf:=Dp hok _ g4;simp only [rJ] at hf;have ht:=hin _ g4;have Qd:=adT t l [] hl;have fn:aC []=[]:=by simp only [aC]
   obtain ⟨sp,hsp⟩:∃sp,l.find? (λs=>decide (s.tag=t))=some sp:=by
    unfold hasTag at ht;obtain ⟨sp,h1,h2⟩:=List.any_eq_true.1 ht;cases hq:l.find? (λs=>decide (s.tag=t)) with
    | some x=>exact ⟨x,rfl⟩
    | none=>
      have:=(List.find?_eq_none.1 hq) sp h1;have h3:t=sp.tag:=QZ h2;simp -implicitDefEqProofs [h3] at this
   have hmem:=List.mem_of_find?_eq_some hsp;rw [hsp] at Qd;simp only at Qd;obtain ⟨p,hp⟩:∃p,placeOf sp.name=some p:=by
    cases hq:placeOf sp.name with
    | some p=>exact ⟨p,rfl⟩
    | none=>exact absurd hq (hpl sp hmem)
   have hwt:=anR (aC k) b [] (AA hb.d) hb.t (by simp [bU]) t y n s ⟨hf.1.2.2.2.2.1,hf.1.2.2.2.2.2.1⟩ hf.1.2.2.2.2.2.2.1 sp.name;rw [fn] at hwt;unfold Y0 at hwt;rw [hp] at hwt;simp only at hwt;unfold Y1 at hwt;rw [g3];unfold sO;have e1:aH.tag (.mk t y n s k)=t:=rfl;have e2:aH.typ (.mk t y n s k)=y:=rfl;have e3:aH.num (.mk t y n s k)=n:=rfl;have e4:aH.txt (.mk t y n s k)=s:=rfl;rw [e1,hsp,e2,e3,e4];simp only [hp];have hfe:GV.g [.i .u64 t,.i .i64 y,.i .u64 n,.s s,.l (aC k)]=oP t y n s k:=rfl;rw [hfe] at hwt;by_cases hc:pq y n s p=0
   ·rw [aj hc] at hwt
    simp only [aj hc];obtain ⟨q1,q2,q3⟩:=afh hb.body hb.d hb.t ⟨hf.1.2.2.2.2.1,hf.1.2.2.2.2.2.1⟩ hf.1.2.2.2.2.2.2.1 hc;have ih:=aa6 l hl hpl fs hok hlen hin x0 x1 m (i+1) (setB b n s p) (by omega) ⟨q1,q2,q3,by simp only [dJ],by simp⟩;rw [hcast] at ih;generalize sO l (setB b n s p) (fs.drop (i+1))=R at *;generalize setB b n s p=B at *;clear q1 q2 q3 hc hsp hmem hp ht hf;generalize Bh [] l=MP at *;generalize sp.name=nm at *;generalize aC fs=G at *;rw [dG] at ih;rw [dG];simp only [bJ,bn] at ih ⊢;refine aB rfl rfl ?_;simp -implicitDefEqProofs [↓KZ,h,g2,hfe,Qd,jI,hwt,hw,ih]
   ·rw [ah hc] at hwt
    simp only [ah hc];generalize pq y n s p=e at *;clear hsp hmem hp ht hf;generalize Bh [] l=MP at *;generalize sp.name=nm at *;generalize aC fs=G at *;rw [dG];simp only [bJ,bn];refine aB rfl rfl ?_;simp -implicitDefEqProofs [↓KZ,h,g2,hfe,Qd,jI,hwt,hc]
/-- What is read, or why not. -/
def nU (s:List UInt8) (v:Int):aS×List aH×Int:=
 if v < 1 then (iJ,[],16) else if 3 < v then (iJ,[],16) else
 if 65536 < s.length then (iJ,[],4) else
 if (ay s).2.2≠0 then (iJ,[],(ay s).2.2) else
 if 8 < (ay s).1 then (iJ,[],15) else
 if pW (ay s).1=0 then (iJ,[],15) else if v < pW (ay s).1 then (iJ,[],15) else
 if (vW (s.drop (ay s).2.1)).2≠0 then (iJ,[],(vW (s.drop (ay s).2.1)).2) else
 let l:=bI (ay s).1 v
 let fs:=(vW (s.drop (ay s).2.1)).1
 let r:=sO l { iJ with kind:=(ay s).1 } (lT l fs)
 if r.2≠0 then (iJ,[],r.2) else
 if iM r.1 (oW l fs) v≠0 then (iJ,[],iM r.1 (oW l fs) v) else (r.1,oW l fs,0)
theorem YG (p:aH->Bool):∀l:List aH,bU (l.filter p)<=bU l
 | []=>by simp [bU]
 | f::l=>by
   have ih:=YG p l;rw [List.filter_cons];split
   ·simp only [bU];omega
   ·simp only [bU];omega
theorem split_ok (l:List eG) (hl:l.length<=1000) (fs:List aH) (hlen:fs.length<=1000000) (hsz:bU fs<=1000000):TT.lim 131 [.l (aC fs),.l (qQ l)]=some [.l (aC (lT l fs)),.l (aC (oW l fs))]:=by
 have h0:=aft l hl (.l (aC fs)) l.length 0 [] (by omega);have h1:=afu l fs hlen fs.length 0 [] [] (by omega) (by simp;omega);have fn:aC []=[]:=by simp only [aC]
 rw [dO] at h0 h1;rw [bn,bn,fn] at h1;simp only [wM] at h0 h1;have c1:=Py (lT l fs) (jw (YG _ fs) hsz);have c2:=Py (oW l fs) (jw (YG _ fs) hsz);have lt:(qQ l).length=l.length:=by unfold qQ;rw [kR]
 have lf:=l9 fs;generalize aC (lT l fs)=W at *;generalize aC (oW l fs)=O at *;generalize aC fs=G at *;generalize Aq [] l=MP at *;generalize qQ l=TG at *;refine aQ rfl rfl ?_ rfl;simp -implicitDefEqProofs [lt,lf,h0,h1,c1,c2]
theorem UN (l:List eG):∀ (fs:List aH) (b:aS),dJ fs->qB b []->qB (sO l b fs).1 []
 | [],b,_,hb=>hb
 | f::fs,b,hf,hb=>by
   simp only [dJ] at hf;unfold sO;cases l.find? (λs=>decide (s.tag=f.tag)) with
   | none=>exact DY
   | some s=>
     simp only;cases placeOf s.name with
     | none=>exact DY
     | some p=>
       simp only;by_cases hc:pq f.typ f.num f.txt p=0
       ·rw [aj hc]
        have h1:=hf.1;cases f with
        | mk t y n s k=>
          simp only [rJ] at h1;obtain ⟨q1,q2,q3⟩:=afh hb.body hb.d hb.t ⟨h1.1.2.2.2.2.1,h1.1.2.2.2.2.2.1⟩ h1.1.2.2.2.2.2.2.1 hc;exact UN l fs _ hf.2 ⟨q1,q2,q3,by simp only [dJ],by simp⟩
       ·rw [ah hc];exact DY
theorem Y3 (k:Int) (h : -9223372036854775808<=k/\k<=9223372036854775807):qB { iJ with kind:=k } []:=by
 have z:=DY;exact ⟨{ z.body with kind:=h },z.d,z.t,z.f8,z.len⟩
theorem Ir (p:aH->Bool):∀ {l:List aH},dJ l->dJ (l.filter p)
 | [],_=>by simp only [List.filter_nil,dJ]
 | f::l,h=>by
   simp only [dJ] at h;have ih:=Ir p h.2;rw [List.filter_cons];split
   ·simp only [dJ];exact ⟨h.1,ih⟩
   ·exact ih
set_option maxHeartbeats 4000000 in
theorem decode_ok (s:List UInt8) (v:Int) (hs:s.length<=140737488351232):TT.lim 117 [.s s,.i .i64 v]=some [gI (nU s v).1 (aC (nU s v).2.1),.i .i64 (nU s v).2.2]:=by
 have fn:aC []=[]:=by simp only [aC]
 have hz:GV.g [.i .i64 0,.i .u64 0,.i .u64 0,.i .u64 0,.i .u64 0,.i .u64 0,.i .u64 0,.i .u64 0,.i .u64 0,.i .u64 0,.i .u64 0,.i .u64 0,.i .u64 0,.i .u64 0,.i .u64 0,.i .u64 0,.i .i64 0,.b false,.s [],.s [],.s [],.l [],.l [],.l []]=gI iJ []:=rfl;unfold nU;by_cases c1:v < 1
 ·rw [aj c1]
  simp only;rw [fn,<- hz];refine aQ rfl rfl ?_ rfl;simp -implicitDefEqProofs [c1]
 rw [ah c1];by_cases c2:3 < v
 ·rw [aj c2]
  simp only;rw [fn,<- hz];refine aQ rfl rfl ?_ rfl;simp -implicitDefEqProofs [c1,c2]
 rw [ah c2];by_cases c3:65536 < s.length
 ·rw [aj c3]
  have c3':(65536:Int) < s.length:=by omega
  simp only;rw [fn,<- hz];refine aQ rfl rfl ?_ rfl;simp -implicitDefEqProofs [c1,c2,c3']
 rw [ah c3];have c3':¬ (65536:Int) < s.length:=by omega
 have kg:=uK s (by omega);by_cases e1:(ay s).2.2=0;rotate_left
 ·rw [aj e1]
  simp only;rw [fn,<- hz];generalize (ay s).2.2=e at *;refine aQ rfl rfl ?_ rfl;simp -implicitDefEqProofs [c1,c2,c3',kg,e1]
 rw [ah (λx=>x e1)];rw [e1] at kg;have v1:=jM e1;have l1:=v1.len;have t1:=v1.lt;have hdl:(s.drop (ay s).2.1).length=s.length - (ay s).2.1:=eH;have hwg:=ate (s.drop (ay s).2.1) (by omega);obtain ⟨g1,g2,g3, -⟩:=ab2 (s.drop (ay s).2.1);clear v1 e1 hdl;generalize vW (s.drop (ay s).2.1)=F at *;generalize hT:s.drop (ay s).2.1=T at *;generalize (ay s).1=n at *;generalize (ay s).2.1=j at *;have hsub:(s.take s.length).drop j=T:=by rw [yH];exact hT
 have j0:(j:Int)<=s.length:=by omega
 have f0:=Wh 0;have f00:pW 0=0:=rfl;rw [f00] at f0;by_cases c4:8 < n
 ·rw [aj c4]
  have mY:¬ (n:Int)<=8:=by omega
  simp only;rw [fn,<- hz];refine aQ rfl rfl ?_ rfl;simp -implicitDefEqProofs [c1,c2,c3',kg,mY,f0]
 rw [ah c4];have mY:(n:Int)<=8:=by omega
 have wn:=wrap64 (n:=(n:Int)) (by omega) (by omega);have kf:=Wh (n:Int);by_cases c5:pW n=0
 ·rw [aj c5]
  rw [c5] at kf;simp only;rw [fn,<- hz];refine aQ rfl rfl ?_ rfl;simp -implicitDefEqProofs [c1,c2,c3',kg,mY,wn,kf]
 rw [ah c5];by_cases c6:v < pW n
 ·rw [aj c6]
  simp only;rw [fn,<- hz];generalize pW n=fk at *;refine aQ rfl rfl ?_ rfl;simp -implicitDefEqProofs [c1,c2,c3',kg,mY,wn,kf,c5,c6]
 rw [ah c6];by_cases e2:F.2=0;rotate_left
 ·rw [aj e2]
  simp only;rw [fn,<- hz];generalize pW n=fk at *;refine aQ rfl rfl ?_ rfl;simp -implicitDefEqProofs [c1,c2,c3',kg,mY,wn,kf,c5,c6,hsub,hT,j0,hwg,e2]
 rw [ah (λx=>x e2)];rw [e2] at hwg;have kn:=Qu n v (by omega) (by omega) (by omega);have kt:=amz n v (by omega) (by omega) (by omega);have k8:=Dx n v;have kz:=aa5 (bI n v) (by omega) (.i .i64 v) (.i .i64 n) (.l (aC F.1)) (bI n v).length 0 [] (by omega);rw [dO] at kz;simp only [wM] at kz;have ks:=split_ok (bI n v) (by omega) F.1 g2 (by omega);have kd:=aa6 (bI n v) (Qv n v).1 (acU n v) (lT (bI n v) F.1) (Ir _ g1) (jw (TF _ _) g2) (λf hf=>(GY.1 hf).2) (.i .i64 v) (.l (aC (oW (bI n v) F.1))) (lT (bI n v) F.1).length 0 { iJ with kind:=n } (by omega) (Y3 n (by omega));rw [dO] at kd;simp only [wM] at kd;have hdw:=UN (bI n v) (lT (bI n v) F.1) { iJ with kind:=n } (Ir _ g1) (Y3 n (by omega));have kc:=WO (sO (bI n v) { iJ with kind:=n } (lT (bI n v) F.1)).1 (oW (bI n v) F.1) v hdw.body hdw.t.few (Ir _ g1) (jw (TF _ _) g2);have hal:(((bI n v).map dZ).length:Int)=((bI n v).length:Int):=by rw [kR]
 have hwl:=l9 (lT (bI n v) F.1);have hcz:(gI { iJ with kind:=(n:Int) } []).cells=[.i .i64 (n:Int),.i .u64 0,.i .u64 0,.i .u64 0,.i .u64 0,.i .u64 0,.i .u64 0,.i .u64 0,.i .u64 0,.i .u64 0,.i .u64 0,.i .u64 0,.i .u64 0,.i .u64 0,.i .u64 0,.i .u64 0,.i .i64 0,.b false,.s [],.s [],.s [],.l [],.l [],.l []]:=rfl;rw [hcz] at kd;simp only [bJ,bn] at kd;simp only;clear hdw hcz g1 g2 g3 k8;generalize sO (bI n v) { iJ with kind:=(n:Int) } (lT (bI n v) F.1)=R at *;generalize oW (bI n v) F.1=O at *;generalize aC (lT (bI n v) F.1)=W at *;generalize (lT (bI n v) F.1).length=WL at *;generalize aC F.1=FG at *;generalize Bh [] (bI n v)=MP at *;generalize (bI n v).map dZ=SP at *;generalize qQ (bI n v)=TG at *;generalize ((bI n v).length:Int)=L at *;generalize pW n=fk at *;by_cases e3:R.2=0;rotate_left
 ·rw [ah e3] at kd
  rw [aj e3];simp only;rw [fn,<- hz];generalize aC O=OG at *;clear kc;refine aQ rfl rfl ?_ rfl;simp -implicitDefEqProofs (maxSteps:=10000000) [↓KZ,c1,c2,c3',kg,mY,wn,kf,c5,c6,hsub,hT,j0,hwg,kn,hal,kz,kt,ks,hwl,kd,e3]
 rw [aj e3] at kd;rw [ah (λx=>x e3)];rw [dG] at kd;by_cases e4:iM R.1 O v=0
 ·rw [ah (λx=>x e4)]
  rw [e4] at kc;simp only;generalize aC O=OG at *;clear e3 e4;refine aQ rfl rfl ?_ rfl;simp -implicitDefEqProofs (maxSteps:=10000000) [↓KZ,c1,c2,c3',kg,mY,wn,kf,c5,c6,hsub,hT,j0,hwg,kn,hal,kz,kt,ks,hwl,kd,jI,kc]
 ·rw [aj e4]
  simp only;rw [fn,<- hz];generalize aC O=OG at *;generalize iM R.1 O v=ck at *;refine aQ rfl rfl ?_ rfl;simp -implicitDefEqProofs (maxSteps:=10000000) [↓KZ,c1,c2,c3',kg,mY,wn,kf,c5,c6,hsub,hT,j0,hwg,kn,hal,kz,kt,ks,hwl,kd,jI,kc,e4]
theorem aa8 (l:List eG):∀ (fs:List aH) (b:aS),(sO l b fs).2=0->(sO l b fs).1.kind=b.kind
 | [],b,_=>rfl
 | f::fs,b,h=>by
   unfold sO at h ⊢;cases hq:l.find? (λs=>decide (s.tag=f.tag)) with
   | none=>rw [hq] at h;exact absurd h (by simp)
   | some s=>
     rw [hq] at h;simp only at h ⊢;cases hp:placeOf s.name with
     | none=>rw [hp] at h;exact absurd h (by simp)
     | some p=>
       rw [hp] at h;simp only at h ⊢;by_cases hc:pq f.typ f.num f.txt p=0
       ·rw [aj hc] at h ⊢
        rw [aa8 l fs _ h,afi]
       ·rw [ah hc] at h;exact absurd h hc
theorem aa7 (s:List UInt8) (v:Int):qB (nU s v).1 (nU s v).2.1:=by
 unfold nU;obtain ⟨g1,g2, -⟩:=ab2 (s.drop (ay s).2.1);repeat' split
 all_goals first | exact DY | skip
 have h:=UN (bI (ay s).1 v) (lT (bI (ay s).1 v) (vW (s.drop (ay s).2.1)).1) { iJ with kind:=(ay s).1 } (Ir _ g1) (Y3 (ay s).1 (by omega));simp only;split
 ·exact DY
 ·split
  ·exact DY
  ·exact ⟨h.body,h.d,h.t,Ir _ g1,jw (TF _ _) g2⟩
end M
end Go.Proofs.YtilkjidelblkfaaGreatDoor
