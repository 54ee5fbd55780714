/- What the trees compute: plain laws. -/
import Derived.Test.YtjglbndncdkhhaaGreatDoorKUe5
namespace Go.Proofs.YtjglbndncdkhhaaGreatDoor
open Go Go.aN
set_option linter.unusedSimpArgs false
set_option linter.unusedVariables false
set_option maxRecDepth 100000
namespace U
/-- The field that stands next, within so many lists, above a tag; how many bytes it took; the code. -/
def iD (rec:List UInt8->List aC×Int) (w:Nat) (ahead:Nat) (s:List UInt8):aC×Nat×Int:=
 if (au s).2.2≠0 then (.mk 0 0 0 [] [],0,(au s).2.2)
 else if (au s).1 / 4=0 then (.mk 0 0 0 [] [],0,18)
 else if 4294967296 < (au s).1 / 4 then (.mk 0 0 0 [] [],0,18)
 else if 3<=(au s).1 % 4 then (.mk 0 0 0 [] [],0,8)
 else if (au s).1 / 4<=ahead then (.mk 0 0 0 [] [],0,7)
 else
  let r:=s.drop (au s).2.1
  let k:=(au s).2.1+(au r).2.1
  if (au r).2.2≠0 then (.mk 0 0 0 [] [],0,(au r).2.2)
  else if (au s).1 % 4=0 then (.mk ((au s).1 / 4:Nat) 0 (au r).1 [] [],k,0)
  else if s.length - k < (au r).1 then (.mk 0 0 0 [] [],0,1)
  else if (au s).1 % 4=1 then (.mk ((au s).1 / 4:Nat) 1 0 ((s.drop k).take (au r).1) [],k+(au r).1,0)
  else if 8<=w then (.mk 0 0 0 [] [],0,9)
  else if (rec ((s.drop k).take (au r).1)).2≠0 then (.mk 0 0 0 [] [],0,(rec ((s.drop k).take (au r).1)).2)
  else (.mk ((au s).1 / 4:Nat) 2 0 [] (rec ((s.drop k).take (au r).1)).1,k+(au r).1,0)
/-- Fields, within so many lists, above a tag. -/
def dA:Nat->Nat->Nat->List UInt8->List aC×Int
 | 0,_,_,_=>([],0)
 | N+1,w,ahead,s=>if s=[] then ([],0) else
   if (iD (λt=>dA N (w+1) 0 t) w ahead s).2.2≠0 then ([],(iD (λt=>dA N (w+1) 0 t) w ahead s).2.2)
   else if (dA N w ((au s).1 / 4) (s.drop (iD (λt=>dA N (w+1) 0 t) w ahead s).2.1)).2≠0 then ([],(dA N w ((au s).1 / 4) (s.drop (iD (λt=>dA N (w+1) 0 t) w ahead s).2.1)).2)
   else ((iD (λt=>dA N (w+1) 0 t) w ahead s).1::(dA N w ((au s).1 / 4) (s.drop (iD (λt=>dA N (w+1) 0 t) w ahead s).2.1)).1,0)
theorem afv (n:Nat) (hn:n < 18446744073709551616):fG .and .u64 (n:Int) 3=some (.i .u64 ((n:Int) % 4)):=by
 have wu:∀y:Int,IntKind.u64.wrap y=y % 18446744073709551616:=λy=>by simp [IntKind.wrap,IntKind.signed,IntKind.bits]
 have e:n &&& 3=n % 4:=afe n 2;have h1:(BitVec.ofInt 64 (n:Int)).toNat=n:=by rw [wG];omega
 have h3:(BitVec.ofInt 64 3).toNat=3:=by decide
 show some (GV.i IntKind.u64 (IntKind.u64.wrap ((BitVec.ofInt 64 (n:Int) &&& BitVec.ofInt 64 3).toNat:Int)))=_
 rw [Ym,h1,h3,e,wu];congr 2;omega
theorem aoy (n:Nat):mM .shr .u64 (n:Int) 2=some (.i .u64 ((n:Int) / 4)):=by
 show some (GV.i IntKind.u64 ((n:Int).fdiv (2 ^ 2)))=_
 rw [L8 _ (by decide)];rfl
theorem am6 (t y w:GV) (s:List UInt8) (at':Nat) (h:at'<=s.length) (hs:s.length<=100000000) (n x:GV) :
 TT.lim 101 [t,y,w,.s s,.i .i64 at',n,x]=some [.i .i64 0,.i .i64 (au (s.drop at')).2.2,.i .u64 ((au (s.drop at')).1:Nat),.s s,.i .i64 ((at'+(au (s.drop at')).2.1:Nat):Int)]:=by
 have k:=yU s at' h (by omega);refine aG rfl rfl ?_;simp [k]
theorem am8 (t y w:GV) (s:List UInt8) (at':Nat) (h:at'<=s.length) (hs:s.length<=100000000) (n:GV) :
 ∃a,TT.lim 102 [t,y,w,.s s,.i .i64 at',n,.s []]=some
  (if (au (s.drop at')).2.2≠0 then [.i .i64 0,.i .i64 (au (s.drop at')).2.2,.s [],.s s,.i .i64 (a:Nat)]
  else if s.length - (at'+(au (s.drop at')).2.1) < (au (s.drop at')).1 then [.i .i64 0,.i .i64 1,.s [],.s s,.i .i64 (a:Nat)]
  else [.i .i64 0,.i .i64 0,.s ((s.drop (at'+(au (s.drop at')).2.1)).take (au (s.drop at')).1),.s s,.i .i64 ((at'+(au (s.drop at')).2.1+(au (s.drop at')).1:Nat):Int)]):=by
 have k:=yU s at' h (by omega);by_cases he:(au (s.drop at')).2.2=0;rotate_left
 ·refine ⟨at'+(au (s.drop at')).2.1, ?_⟩
  rw [aj he];generalize (au (s.drop at')).2.2=e at *;refine aG rfl rfl ?_;simp [k,he]
 have hv:=jD he;have hl:=hv.len;have hlt:=hv.lt;rw [dX] at hl;rw [he] at k;refine ⟨at'+(au (s.drop at')).2.1, ?_⟩;rw [ah (λx=>x he)];clear he;generalize (au (s.drop at')).1=m at *;generalize (au (s.drop at')).2.1=j at *;have w1:=wrap64 (n:=(s.length:Int) - ((at'+j:Nat):Int)) (by omega) (by omega);have w2:=kE (n:=(s.length:Int) - ((at'+j:Nat):Int)) (by omega) (by omega);by_cases c:s.length - (at'+j) < m
 ·have c':(s.length:Int) - ((at'+j:Nat):Int) < (m:Int):=by omega
  rw [aj c];generalize ((at'+j:Nat):Int)=A at *;refine aG rfl rfl ?_;simp [k,w1,w2,c']
 ·have c':¬ ((s.length:Int) - ((at'+j:Nat):Int) < (m:Int)):=by omega
  rw [ah c];have w3:=wrap64 (n:=(m:Int)) (by omega) (by omega);have w4:=wrap64 (n:=((at'+j:Nat):Int)+(m:Int)) (by omega) (by omega);have e4:((at'+j:Nat):Int)+(m:Int)=((at'+j+m:Nat):Int):=by omega
  rw [e4] at w4;have b1:(0:Int)<=((at'+j:Nat):Int)/\((at'+j:Nat):Int)<=((at'+j+m:Nat):Int)/\((at'+j+m:Nat):Int)<=s.length:=by omega
  have hsl:(s.take (at'+j+m)).drop (at'+j)=(s.drop (at'+j)).take m:=by rw [Fa,show at'+j+m - (at'+j)=m by omega]
  have t1:(((at'+j:Nat):Int)).toNat=at'+j:=by omega
  have t2:(((at'+j+m:Nat):Int)).toNat=at'+j+m:=by omega
  generalize hA:((at'+j:Nat):Int)=A at *;generalize hB:((at'+j+m:Nat):Int)=B at *;refine aG rfl rfl ?_;simp [k,w1,w2,c',w3,e4,w4,b1,t1,t2,hsl]
/-- What is told for reading up to a size. -/
def IU (N:Nat):Prop:=∀ (w ahead at':Nat) (s:List UInt8),at'<=s.length->s.length<=100000000->(s.drop at').length < N->w<=8->ahead < 18446744073709551616->∃a b,TT.lim 97 [.s s,.i .i64 (w:Nat),.i .u64 (ahead:Nat),.i .i64 (at':Nat)]=some [.i .i64 0,.l (aA (dA N w ahead (s.drop at')).1),.i .i64 (dA N w ahead (s.drop at')).2,.i .u64 (a:Nat),.s s,.i .i64 (b:Nat)]
theorem am3 {N:Nat} (hN:IU N) (t y:GV) (w:Nat) (hw:w<=8) (s:List UInt8) (at':Nat) (h:at'<=s.length) (hs:s.length<=100000000) (Uw:(s.drop at').length<=N) (n x:GV) :
 ∃a,TT.lim 103 [t,y,.i .i64 (w:Nat),.s s,.i .i64 at',n,x]=some
  (if (au (s.drop at')).2.2≠0 then [.i .i64 0,.i .i64 (au (s.drop at')).2.2,.l [],.s s,.i .i64 (a:Nat)]
  else if s.length - (at'+(au (s.drop at')).2.1) < (au (s.drop at')).1 then [.i .i64 0,.i .i64 1,.l [],.s s,.i .i64 (a:Nat)]
  else if 8<=w then [.i .i64 0,.i .i64 9,.l [],.s s,.i .i64 (a:Nat)]
  else [.i .i64 0,.i .i64 (dA N (w+1) 0 ((s.drop (at'+(au (s.drop at')).2.1)).take (au (s.drop at')).1)).2,.l (aA (dA N (w+1) 0 ((s.drop (at'+(au (s.drop at')).2.1)).take (au (s.drop at')).1)).1),.s s,.i .i64 ((at'+(au (s.drop at')).2.1+(au (s.drop at')).1:Nat):Int)]):=by
 have k:=yU s at' h (by omega);by_cases he:(au (s.drop at')).2.2=0;rotate_left
 ·refine ⟨at'+(au (s.drop at')).2.1, ?_⟩
  rw [aj he];generalize (au (s.drop at')).2.2=e at *;refine aG rfl rfl ?_;simp [k,he]
 have hv:=jD he;have hl:=hv.len;have hlt:=hv.lt;have hp:=hv.pos;rw [dX] at hl Uw;rw [he] at k;by_cases c:s.length - (at'+(au (s.drop at')).2.1) < (au (s.drop at')).1
 ·refine ⟨at'+(au (s.drop at')).2.1, ?_⟩
  rw [ah (λx=>x he),aj c];clear he;generalize (au (s.drop at')).1=m at *;generalize (au (s.drop at')).2.1=j at *;have w1:=wrap64 (n:=(s.length:Int) - ((at'+j:Nat):Int)) (by omega) (by omega);have w2:=kE (n:=(s.length:Int) - ((at'+j:Nat):Int)) (by omega) (by omega);have c':(s.length:Int) - ((at'+j:Nat):Int) < (m:Int):=by omega
  generalize ((at'+j:Nat):Int)=A at *;refine aG rfl rfl ?_;simp [k,w1,w2,c']
 by_cases c8:8<=w
 ·refine ⟨at'+(au (s.drop at')).2.1+(au (s.drop at')).1, ?_⟩
  rw [ah (λx=>x he),ah c,aj c8];clear he;generalize (au (s.drop at')).1=m at *;generalize (au (s.drop at')).2.1=j at *;have w1:=wrap64 (n:=(s.length:Int) - ((at'+j:Nat):Int)) (by omega) (by omega);have w2:=kE (n:=(s.length:Int) - ((at'+j:Nat):Int)) (by omega) (by omega);have c':¬ ((s.length:Int) - ((at'+j:Nat):Int) < (m:Int)):=by omega
  have w3:=wrap64 (n:=(m:Int)) (by omega) (by omega);have w4:=wrap64 (n:=((at'+j:Nat):Int)+(m:Int)) (by omega) (by omega);have e4:((at'+j:Nat):Int)+(m:Int)=((at'+j+m:Nat):Int):=by omega
  rw [e4] at w4;have b1:(0:Int)<=((at'+j:Nat):Int)/\((at'+j:Nat):Int)<=((at'+j+m:Nat):Int)/\((at'+j+m:Nat):Int)<=s.length:=by omega
  have Du:(8:Int)<=(w:Int):=by omega
  generalize hA:((at'+j:Nat):Int)=A at *;generalize hB:((at'+j+m:Nat):Int)=B at *;refine aG rfl rfl ?_;simp [k,w1,w2,c',w3,e4,w4,b1,Du]
 ·refine ⟨0, ?_⟩
  rw [ah (λx=>x he),ah c,ah c8];clear he;generalize (au (s.drop at')).1=m at *;generalize (au (s.drop at')).2.1=j at *;have hr:=hN (w+1) 0 0 ((s.drop (at'+j)).take m) (by omega) (by rw [lX,dX];omega) (by rw [eH,lX,dX];omega) (by omega) (by omega);obtain ⟨a,b,hr⟩:=hr;rw [eH] at hr;have w1:=wrap64 (n:=(s.length:Int) - ((at'+j:Nat):Int)) (by omega) (by omega);have w2:=kE (n:=(s.length:Int) - ((at'+j:Nat):Int)) (by omega) (by omega);have c':¬ ((s.length:Int) - ((at'+j:Nat):Int) < (m:Int)):=by omega
  have w3:=wrap64 (n:=(m:Int)) (by omega) (by omega);have w4:=wrap64 (n:=((at'+j:Nat):Int)+(m:Int)) (by omega) (by omega);have e4:((at'+j:Nat):Int)+(m:Int)=((at'+j+m:Nat):Int):=by omega
  rw [e4] at w4;have b1:(0:Int)<=((at'+j:Nat):Int)/\((at'+j:Nat):Int)<=((at'+j+m:Nat):Int)/\((at'+j+m:Nat):Int)<=s.length:=by omega
  have hsl:(s.take (at'+j+m)).drop (at'+j)=(s.drop (at'+j)).take m:=by rw [Fa,show at'+j+m - (at'+j)=m by omega]
  have t1:(((at'+j:Nat):Int)).toNat=at'+j:=by omega
  have t2:(((at'+j+m:Nat):Int)).toNat=at'+j+m:=by omega
  have Du:¬ (8:Int)<=(w:Int):=by omega
  have w5:=wrap64 (n:=(w:Int)+1) (by omega) (by omega);have e5:(w:Int)+1=((w+1:Nat):Int):=by omega
  simp only [qO] at hr;rw [<- e5] at hr;generalize (s.drop (at'+j)).take m=T at *;generalize dA N (w+1) 0 T=R at *;generalize hA:((at'+j:Nat):Int)=A at *;generalize hB:((at'+j+m:Nat):Int)=B at *;generalize hW:(w:Int)=W at *;clear e5;refine aG rfl rfl ?_;simp [k,w1,w2,c',w3,e4,w4,b1,t1,t2,hsl,Du,w5,hr]
theorem am5 {N:Nat} (hN:IU N) (w ahead:Nat) (hw:w<=8) (ha:ahead < 18446744073709551616) (s:List UInt8) (at':Nat) (h:at'<=s.length) (hs:s.length<=100000000) (Uw:(s.drop at').length<=N+1) :
 ∃a b:Nat,TT.lim 99 [.i .i64 (w:Nat),.i .u64 (ahead:Nat),.s s,.i .i64 at']=some (.i .i64 0::((l7 (iD (λt=>dA N (w+1) 0 t) w ahead (s.drop at')).1).cells++[.i .i64 (iD (λt=>dA N (w+1) 0 t) w ahead (s.drop at')).2.2,.i .u64 (a:Nat),.s s,.i .i64 (b:Nat)]))/\
  ((iD (λt=>dA N (w+1) 0 t) w ahead (s.drop at')).2.2=0->a=(au (s.drop at')).1 / 4/\b=at'+(iD (λt=>dA N (w+1) 0 t) w ahead (s.drop at')).2.1/\1<=(iD (λt=>dA N (w+1) 0 t) w ahead (s.drop at')).2.1/\b<=s.length):=by
 have k:=yU s at' h (by omega);have fn:aA []=[]:=by simp only [aA]
 have hz:(l7 (.mk 0 0 0 [] [])).cells=[.i .u64 0,.i .i64 0,.i .u64 0,.s [],.l []]:=by rw [Gm,fn]
 unfold iD;by_cases he:(au (s.drop at')).2.2=0;rotate_left
 ·refine ⟨ahead,at'+(au (s.drop at')).2.1, ?_, ?_⟩
  ·simp only [aj he]
   rw [hz];generalize (au (s.drop at')).2.2=e at *;refine aG rfl rfl ?_;simp [k,he]
  ·simp only [aj he];exact λx=>absurd x he
 have hv:=jD he;have hl:=hv.len;have hlt:=hv.lt;have hp:=hv.pos;rw [dX] at hl Uw;have hdd:(s.drop at').drop (au (s.drop at')).2.1=s.drop (at'+(au (s.drop at')).2.1):=by rw [nS]
 rw [hdd];have hud:(s.drop at').length=s.length - at':=dX;rw [hud];rw [he] at k;simp only [ah (λx=>x he:¬ (au (s.drop at')).2.2≠0)];have hdk:∀j2:Nat,(s.drop at').drop ((au (s.drop at')).2.1+j2)=s.drop (at'+(au (s.drop at')).2.1+j2):=λj2=>by rw [nS,iR]
 rw [hdk];clear he hv hdd hud hdk;generalize (au (s.drop at')).1=n at *;generalize (au (s.drop at')).2.1=j at *;have S:=aoy n;have A:=afv n hlt;have wA:=wrap64 (n:=(n:Int) % 4) (by omega) (by omega);by_cases c1:n / 4=0
 ·refine ⟨ahead,at'+j, ?_, ?_⟩
  ·simp only [aj c1]
   rw [hz];have c1':(n:Int) / 4=0:=by omega
   generalize (n:Int) / 4=q at *;refine aG rfl rfl ?_;simp [k,S,A,wA,c1']
  ·simp only [aj c1];exact λx=>absurd x (by decide)
 have c1':¬ (n:Int) / 4=0:=by omega
 simp only [ah c1];by_cases c2:4294967296 < n / 4
 ·refine ⟨ahead,at'+j, ?_, ?_⟩
  ·simp only [aj c2]
   rw [hz];have c2':4294967296 < (n:Int) / 4:=by omega
   generalize (n:Int) / 4=q at *;refine aG rfl rfl ?_;simp [k,S,A,wA,c1',c2']
  ·simp only [aj c2];exact λx=>absurd x (by decide)
 have c2':¬ 4294967296 < (n:Int) / 4:=by omega
 simp only [ah c2];by_cases c3:3<=n % 4
 ·refine ⟨ahead,at'+j, ?_, ?_⟩
  ·simp only [aj c3]
   rw [hz];have c3':3<=(n:Int) % 4:=by omega
   generalize (n:Int) / 4=q at *;generalize (n:Int) % 4=y at *;refine aG rfl rfl ?_;simp [k,S,A,wA,c1',c2',c3']
  ·simp only [aj c3];exact λx=>absurd x (by decide)
 have c3':¬ 3<=(n:Int) % 4:=by omega
 simp only [ah c3];by_cases c4:n / 4<=ahead
 ·refine ⟨ahead,at'+j, ?_, ?_⟩
  ·simp only [aj c4]
   rw [hz];have lZ:(n:Int) / 4<=(ahead:Int):=by omega
   generalize (n:Int) / 4=q at *;generalize (n:Int) % 4=y at *;generalize (ahead:Int)=AH at *;refine aG rfl rfl ?_;simp [k,S,A,wA,c1',c2',c3',lZ]
  ·simp only [aj c4];exact λx=>absurd x (by decide)
 have lZ:¬ (n:Int) / 4<=(ahead:Int):=by omega
 simp only [ah c4];have qn:((n / 4:Nat):Int)=(n:Int) / 4:=by omega
 have hj:at'+j<=s.length:=by omega
 rcases (show n % 4=0\/n % 4=1\/n % 4=2 by omega) with y0 | y1 | y2
 ·have y':(n:Int) % 4=0:=by omega
  have kn:=am6 (.i .u64 ((n:Int) / 4)) (.i .i64 0) (.i .i64 (w:Nat)) s (at'+j) hj hs (.i .u64 0) (.s []);rw [y'] at A wA;by_cases e2:(au (s.drop (at'+j))).2.2=0
  ·have hv2:=jD e2
   have hl2:=hv2.len;rw [dX] at hl2;refine ⟨n / 4,at'+j+(au (s.drop (at'+j))).2.1, ?_, ?_⟩
   ·simp only [ah (λx=>x e2:¬ (au (s.drop (at'+j))).2.2≠0),aj y0]
    rw [Gm,fn,qn];rw [e2] at kn;clear hv2 hl2 e2;generalize (au (s.drop (at'+j))).1=m at *;generalize ((at'+j+(au (s.drop (at'+j))).2.1:Nat):Int)=B at *;generalize ((at'+j:Nat):Int)=AT at *;generalize (n:Int) / 4=q at *;generalize (ahead:Int)=AH at *;refine aG rfl rfl ?_;simp [k,S,A,wA,c1',c2',lZ,kn]
   ·simp only [ah (λx=>x e2:¬ (au (s.drop (at'+j))).2.2≠0),aj y0]
    refine λ_=>⟨?_, ?_, ?_, ?_⟩<;>first | trivial | rfl | omega
  ·refine ⟨n / 4,at'+j+(au (s.drop (at'+j))).2.1, ?_, ?_⟩
   ·simp only [aj e2]
    rw [hz,qn];generalize (au (s.drop (at'+j))).1=m at *;generalize ((at'+j+(au (s.drop (at'+j))).2.1:Nat):Int)=B at *;generalize (au (s.drop (at'+j))).2.2=e at *;generalize ((at'+j:Nat):Int)=AT at *;generalize (n:Int) / 4=q at *;generalize (ahead:Int)=AH at *;refine aG rfl rfl ?_;simp [k,S,A,wA,c1',c2',lZ,kn,e2]
   ·simp only [aj e2];exact λx=>absurd x e2
 ·have y':(n:Int) % 4=1:=by omega
  have y0:¬ n % 4=0:=by omega
  obtain ⟨a,kn⟩:=am8 (.i .u64 ((n:Int) / 4)) (.i .i64 1) (.i .i64 (w:Nat)) s (at'+j) hj hs (.i .u64 0);rw [y'] at A wA;have hlen:s.length - at' - (j+(au (s.drop (at'+j))).2.1)=s.length - (at'+j+(au (s.drop (at'+j))).2.1):=by omega
  by_cases e2:(au (s.drop (at'+j))).2.2=0
  ·have hv2:=jD e2
   have hl2:=hv2.len;rw [dX] at hl2;rw [ah (λx=>x e2)] at kn;simp only [ah (λx=>x e2:¬ (au (s.drop (at'+j))).2.2≠0),ah y0];rw [hlen];by_cases c:s.length - (at'+j+(au (s.drop (at'+j))).2.1) < (au (s.drop (at'+j))).1
   ·rw [aj c] at kn
    simp only [aj c];refine ⟨n / 4,a, ?_,λx=>absurd x (by decide)⟩;rw [hz,qn];generalize ((at'+j:Nat):Int)=AT at *;generalize (n:Int) / 4=q at *;generalize (ahead:Int)=AH at *;refine aG rfl rfl ?_;simp [k,S,A,wA,c1',c2',lZ,kn]
   ·rw [ah c] at kn
    simp only [ah c,aj y1];refine ⟨n / 4,at'+j+(au (s.drop (at'+j))).2.1+(au (s.drop (at'+j))).1, ?_,λ_=>⟨rfl,by omega,by omega,by omega⟩⟩;rw [Gm,fn,qn];generalize (s.drop (at'+j+(au (s.drop (at'+j))).2.1)).take (au (s.drop (at'+j))).1=T at *;generalize ((at'+j+(au (s.drop (at'+j))).2.1+(au (s.drop (at'+j))).1:Nat):Int)=B at *;generalize ((at'+j:Nat):Int)=AT at *;generalize (n:Int) / 4=q at *;generalize (ahead:Int)=AH at *;refine aG rfl rfl ?_;simp [k,S,A,wA,c1',c2',lZ,kn]
  ·rw [aj e2] at kn
   simp only [aj e2];refine ⟨n / 4,a, ?_,λx=>absurd x e2⟩;rw [hz,qn];generalize (au (s.drop (at'+j))).2.2=e at *;generalize ((at'+j:Nat):Int)=AT at *;generalize (n:Int) / 4=q at *;generalize (ahead:Int)=AH at *;refine aG rfl rfl ?_;simp [k,S,A,wA,c1',c2',lZ,kn,e2]
 ·have y':(n:Int) % 4=2:=by omega
  have y0:¬ n % 4=0:=by omega
  have y1:¬ n % 4=1:=by omega
  obtain ⟨a,kn⟩:=am3 hN (.i .u64 ((n:Int) / 4)) (.i .i64 2) w hw s (at'+j) hj hs (by rw [dX];omega) (.i .u64 0) (.s []);rw [y'] at A wA;have hlen:s.length - at' - (j+(au (s.drop (at'+j))).2.1)=s.length - (at'+j+(au (s.drop (at'+j))).2.1):=by omega
  by_cases e2:(au (s.drop (at'+j))).2.2=0
  ·have hv2:=jD e2
   have hl2:=hv2.len;rw [dX] at hl2;rw [ah (λx=>x e2)] at kn;simp only [ah (λx=>x e2:¬ (au (s.drop (at'+j))).2.2≠0),ah y0];rw [hlen];by_cases c:s.length - (at'+j+(au (s.drop (at'+j))).2.1) < (au (s.drop (at'+j))).1
   ·rw [aj c] at kn
    simp only [aj c];refine ⟨n / 4,a, ?_,λx=>absurd x (by decide)⟩;rw [hz,qn];generalize ((at'+j:Nat):Int)=AT at *;generalize (n:Int) / 4=q at *;generalize (ahead:Int)=AH at *;refine aG rfl rfl ?_;simp [k,S,A,wA,c1',c2',lZ,kn]
   ·rw [ah c] at kn
    simp only [ah c,ah y1];by_cases c8:8<=w
    ·rw [aj c8] at kn
     simp only [aj c8];refine ⟨n / 4,a, ?_,λx=>absurd x (by decide)⟩;rw [hz,qn];generalize ((at'+j:Nat):Int)=AT at *;generalize (n:Int) / 4=q at *;generalize (ahead:Int)=AH at *;refine aG rfl rfl ?_;simp [k,S,A,wA,c1',c2',lZ,kn]
    ·rw [ah c8] at kn
     simp only [ah c8];generalize (s.drop (at'+j+(au (s.drop (at'+j))).2.1)).take (au (s.drop (at'+j))).1=T at *;by_cases e3:(dA N (w+1) 0 T).2=0
     ·simp only [ah (λx=>x e3:¬ (dA N (w+1) 0 T).2≠0)]
      refine ⟨n / 4,at'+j+(au (s.drop (at'+j))).2.1+(au (s.drop (at'+j))).1, ?_,λ_=>⟨rfl,by omega,by omega,by omega⟩⟩;rw [Gm,qn];rw [e3] at kn;clear e3 c e2 hv2 hl2 hlen;generalize dA N (w+1) 0 T=R at *;generalize ((at'+j+(au (s.drop (at'+j))).2.1+(au (s.drop (at'+j))).1:Nat):Int)=B at *;generalize ((at'+j:Nat):Int)=AT at *;generalize (n:Int) / 4=q at *;generalize (ahead:Int)=AH at *;refine aG rfl rfl ?_;simp [k,S,A,wA,c1',c2',lZ,kn]
     ·simp only [aj e3]
      refine ⟨n / 4,at'+j+(au (s.drop (at'+j))).2.1+(au (s.drop (at'+j))).1, ?_,λx=>absurd x e3⟩;rw [hz,qn];clear c e2 hv2 hl2 hlen;generalize dA N (w+1) 0 T=R at *;generalize ((at'+j+(au (s.drop (at'+j))).2.1+(au (s.drop (at'+j))).1:Nat):Int)=B at *;generalize ((at'+j:Nat):Int)=AT at *;generalize (n:Int) / 4=q at *;generalize (ahead:Int)=AH at *;refine aG rfl rfl ?_;simp [k,S,A,wA,c1',c2',lZ,kn,e3]
  ·rw [aj e2] at kn
   simp only [aj e2];refine ⟨n / 4,a, ?_,λx=>absurd x e2⟩;rw [hz,qn];generalize (au (s.drop (at'+j))).2.2=e at *;generalize ((at'+j:Nat):Int)=AT at *;generalize (n:Int) / 4=q at *;generalize (ahead:Int)=AH at *;refine aG rfl rfl ?_;simp [k,S,A,wA,c1',c2',lZ,kn,e2]
def MQ (N:Nat):Prop:=∀ (w:Nat) (acc:List aC) (ahead at':Nat) (s:List UInt8),w<=8->acc.length+(s.drop at').length<=200000000->at'<=s.length->s.length<=100000000->(s.drop at').length < N->ahead < 18446744073709551616->
    ∃a b:Nat,TT.lim 98 [.l (aA acc),.i .i64 (w:Nat),.i .u64 (ahead:Nat),.s s,.i .i64 (at':Nat)]=some (if (dA N w ahead (s.drop at')).2=0 then [.i .i64 1,.l (aA (acc++(dA N w ahead (s.drop at')).1)),.i .u64 (a:Nat),.s s,.i .i64 (b:Nat)] else [.i .i64 0,.i .i64 (dA N w ahead (s.drop at')).2,.i .u64 (a:Nat),.s s,.i .i64 (b:Nat)])
theorem am1:∀ (N w ahead:Nat) (s:List UInt8),(dA N w ahead s).2≠0->(dA N w ahead s).1=[]
 | 0,_,_,_,_=>rfl
 | N+1,w,ahead,s,h=>by
   unfold dA at h ⊢;by_cases h1:s=[]
   ·rw [aj h1]
   rw [ah h1] at h ⊢;by_cases h2:(iD (λt=>dA N (w+1) 0 t) w ahead s).2.2≠0
   ·rw [aj h2]
   rw [ah h2] at h ⊢;by_cases h3:(dA N w ((au s).1 / 4) (s.drop (iD (λt=>dA N (w+1) 0 t) w ahead s).2.1)).2≠0
   ·rw [aj h3]
   ·rw [ah h3] at h;exact absurd rfl h
theorem am4 {N:Nat} (hN:IU N) (hL:MQ N):MQ (N+1):=by
 intro w acc ahead at' s hw hac h hs hl ha;have hud:(s.drop at').length=s.length - at':=dX;have wl:=wrap64 (n:=(s.length:Int) - (at':Int)) (by omega) (by omega);unfold dA;by_cases h1:s.drop at'=[]
 ·have hle:s.length - at'=0:=by rw [<- hud,h1];rfl
  have hp:¬ at' < s.length:=by omega
  refine ⟨ahead,at', ?_⟩;rw [aj h1];simp only [if_true,kK];refine aG rfl rfl ?_;simp [wl,hp]
 have hlp:0 < s.length - at':=by
  rw [<- hud];exact MF.2 h1
 have hp:at' < s.length:=by omega
 simp only [ah h1];obtain ⟨a,b,hn,hok⟩:=am5 hN w ahead hw ha s at' h hs (by omega);have la:=kQ acc;by_cases he:(iD (λt=>dA N (w+1) 0 t) w ahead (s.drop at')).2.2=0;rotate_left
 ·refine ⟨a,b, ?_⟩
  rw [aj he];generalize iD (λt=>dA N (w+1) 0 t) w ahead (s.drop at')=o at *;obtain ⟨f,used,e⟩:=o;obtain ⟨t,y,n,tx,k⟩:=f;simp only at *;rw [ah he];rw [Gm] at hn;simp only [dV,bV] at hn;refine aG rfl rfl ?_;simp [wl,hp,hn,he]
 obtain ⟨ea,eb,hu,hb⟩:=hok he;have hv0:(au (s.drop at')).2.2=0:=by
  by_cases c:(au (s.drop at')).2.2=0
  ·exact c
  ·exfalso
   unfold iD at he;rw [aj c] at he;exact c he
 have ajD:=(jD hv0).lt;simp only [ah (λx=>x he:¬ (iD (λt=>dA N (w+1) 0 t) w ahead (s.drop at')).2.2≠0)];rw [he] at hn;have hdd:(s.drop at').drop (iD (λt=>dA N (w+1) 0 t) w ahead (s.drop at')).2.1=s.drop b:=by rw [nS,<- eb]
 rw [hdd];rw [<- ea];clear hdd he hok;have ajx:(s.drop b).length=s.length - b:=dX;obtain ⟨a2,b2,h2⟩:=hL w (acc++[(iD (λt=>dA N (w+1) 0 t) w ahead (s.drop at')).1]) a b s hw (by rw [dH,xM];omega) hb hs (by omega) (by omega);refine ⟨a2,b2, ?_⟩;generalize iD (λt=>dA N (w+1) 0 t) w ahead (s.drop at')=o at *;obtain ⟨f,used,e⟩:=o;obtain ⟨t,y,n,tx,k⟩:=f;simp only at *;rw [Gm] at hn;simp only [dV,bV] at hn;have hfa:aA (acc++[.mk t y n tx k])=aA acc++[nV t y n tx k]:=by rw [Oz];simp only [aA,l7];rfl
 have hel:(nV t y n tx k).fO 5=true:=rfl;have hfe:GV.g [.i .u64 t,.i .i64 y,.i .u64 n,.s tx,.l (aA k)]=nV t y n tx k:=rfl;have c1:2 * ((aA acc).length+1) * 64<=281474976710656/\(aA acc).length+1<=281474976710656:=by omega
 rw [hfa] at h2;clear hfa ea eb ajD hv0 hu hb hud ajx hac hlp h1 la;by_cases h3:(dA N w a (s.drop b)).2=0
 ·rw [aj h3] at h2
  simp only [ah (λx=>x h3:¬ (dA N w a (s.drop b)).2≠0)];simp only [if_true];have happ:acc++[aC.mk t y n tx k]++(dA N w a (s.drop b)).1=acc++(aC.mk t y n tx k::(dA N w a (s.drop b)).1):=by simp
  rw [happ] at h2;clear happ h3;generalize aA (acc++(aC.mk t y n tx k::(dA N w a (s.drop b)).1))=R at *;generalize nV t y n tx k=E at *;generalize aA acc=A at *;refine aG rfl rfl ?_;simp [wl,hp,hn,hfe,hel,c1,h2]
 ·rw [ah h3] at h2
  simp only [aj h3];rw [ah h3];generalize dA N w a (s.drop b)=RR at *;generalize nV t y n tx k=E at *;generalize aA acc=A at *;refine aG rfl rfl ?_;simp [wl,hp,hn,hfe,hel,c1,h2]
theorem am7 {N:Nat} (hL:MQ N):IU N:=by
 intro w ahead at' s h hs hl hw ha;have hud:(s.drop at').length=s.length - at':=dX;obtain ⟨a,b,h0⟩:=hL w [] ahead at' s hw (by simp only [qQ];omega) h hs hl ha;have fn:aA []=[]:=by simp only [aA]
 refine ⟨a,b, ?_⟩;rw [fn,bV] at h0;have hbad:=am1 N w ahead (s.drop at');generalize dA N w ahead (s.drop at')=R at *;by_cases h3:R.2=0
 ·rw [aj h3] at h0
  rw [h3];refine aG rfl rfl ?_;simp [h0]
 ·rw [ah h3] at h0
  rw [hbad h3,fn];refine aG rfl rfl ?_;simp [h0]
theorem adB:∀N:Nat,IU N/\MQ N
 | 0=>⟨λw ahead at' s _ _ hl _ _=>absurd hl (by omega),λw acc ahead at' s _ _ _ _ hl _=>absurd hl (by omega)⟩
 | N+1=>by
   have ih:=adB N;have hl:=am4 ih.1 ih.2;exact ⟨am7 hl,hl⟩
/-- What wire.Get reads. -/
def tq (s:List UInt8):List aC×Int:=if 65536 < s.length then ([],4) else dA (s.length+1) 0 0 s
theorem apR (s:List UInt8) (hs:s.length<=140737488351232):TT.lim 96 [.s s]=some [.l (aA (tq s).1),.i .i64 (tq s).2]:=by
 unfold tq;have fn:aA []=[]:=by simp only [aA]
 by_cases c:65536 < s.length
 ·have c':(65536:Int) < s.length:=by omega
  rw [aj c,fn];refine bD rfl rfl ?_ rfl;simp [c']
 ·have c':¬ (65536:Int) < s.length:=by omega
  obtain ⟨a,b,h0⟩:=(adB (s.length+1)).1 0 0 0 s (by omega) (by omega) (by rw [eH];omega) (by omega) (by omega);rw [eH] at h0;rw [ah c];simp only [qO] at h0;generalize dA (s.length+1) 0 0 s=R at *;refine bD rfl rfl ?_ rfl;simp [c',h0]
def qj (l:List bJ):List GV:=l.map λs=>GV.i .u64 s.tag
theorem abT (l:List bJ) (hl:l.length<=1000):∀ (m i:Nat) (acc:List GV),i+m=l.length->acc.length+m<=2000->TT.lim 106 [.l acc,.l (l.map dG),.i .i64 l.length,.i .i64 i]=some [.i .i64 0,.l (acc++qj (l.drop i))]
 | 0,i,acc,hi,ha=>by
   have h:¬ ((i:Int) < l.length):=by omega
   have e:l.drop i=[]:=gY (by omega);rw [e];show _=some [GV.i .i64 0,.l (acc++[])]
   rw [kK];refine aG rfl rfl ?_;simp [h]
 | m+1,i,acc,hi,ha=>by
   have hlt:i < l.length:=by omega
   have h:((i:Int) < l.length):=by omega
   have hat:(l.map dG)[i]? = some (dG l[i]):=by rw [iq,bP hlt];rfl
   have hcast:((i+1:Nat):Int)=(i:Int)+1:=by omega
   have hw:=wrap64 (n:=(i:Int)+1) (by omega) (by omega);have hd:l.drop i=l[i]::l.drop (i+1):=jw hlt;have ih:=abT l hl m (i+1) (acc++[.i .u64 l[i].tag]) (by omega) (by rw [dH,xM];omega);rw [hd];have hq:acc++qj (l[i]::l.drop (i+1))=acc++[GV.i .u64 l[i].tag]++qj (l.drop (i+1)):=by
    rw [show qj (l[i]::l.drop (i+1))=GV.i .u64 l[i].tag::qj (l.drop (i+1)) from rfl,List.append_assoc];rfl
   rw [hq];rw [hcast] at ih;have c1:2 * (acc.length+1) * 8<=281474976710656/\acc.length+1<=281474976710656:=by omega
   clear hq hd;generalize acc++[GV.i .u64 l[i].tag]++qj (l.drop (i+1))=R at *;generalize l[i]=s at *;generalize l.map dG=SP at *;refine aG rfl rfl ?_;simp [h,hat,c1,GV.fO,hw,ih]
theorem aj9 (k v:Int) (h1:1<=v) (h3:v<=3) (hk:iV k<=v):TT.lim 105 [.i .i64 k,.i .i64 v]=some [.l (qj (aB k v))]:=by
 have hkn:=JX k v h1 h3 hk;have k8:=vT k v;have h0:=abT (aB k v) (by omega) (aB k v).length 0 [] (by omega) (by simp;omega);rw [eH,bV] at h0;simp only [qO] at h0;have hal:(((aB k v).map dG).length:Int)=((aB k v).length:Int):=by rw [kM]
 generalize qj (aB k v)=TG at *;generalize (aB k v).map dG=SP at *;generalize ((aB k v).length:Int)=L at *;refine bD rfl rfl ?_ rfl;simp [hkn,hal,h0]
/-- The names for tags, as a map. -/
def zZ (xs:List GV) (l:List bJ):List GV:=l.foldl (λm s=>iH (.i .u64 s.tag) (.s s.name) m) xs
theorem aag (l:List bJ) (hl:l.length<=1000) (x0 x1 x2:GV):∀ (m i:Nat) (xs:List GV),i+m=l.length->TT.lim 104 [x0,x1,x2,.l (l.map dG),.i .i64 l.length,.i .i64 i,.l xs]=some [.i .i64 0,.l (zZ xs (l.drop i))]
 | 0,i,xs,hi=>by
   have h:¬ ((i:Int) < l.length):=by omega
   have e:l.drop i=[]:=gY (by omega);rw [e];show _=some [GV.i .i64 0,.l xs]
   refine aG rfl rfl ?_;simp [h]
 | m+1,i,xs,hi=>by
   have hlt:i < l.length:=by omega
   have h:((i:Int) < l.length):=by omega
   have hat:(l.map dG)[i]? = some (dG l[i]):=by rw [iq,bP hlt];rfl
   have hcast:((i+1:Nat):Int)=(i:Int)+1:=by omega
   have hw:=wrap64 (n:=(i:Int)+1) (by omega) (by omega);have hd:l.drop i=l[i]::l.drop (i+1):=jw hlt;have ih:=aag l hl x0 x1 x2 m (i+1) (iH (.i .u64 l[i].tag) (.s l[i].name) xs) (by omega);rw [hd];show _=some [GV.i .i64 0,.l (zZ (iH (.i .u64 l[i].tag) (.s l[i].name) xs) (l.drop (i+1)))]
   rw [hcast] at ih;generalize zZ (iH (.i .u64 l[i].tag) (.s l[i].name) xs) (l.drop (i+1))=R at *;generalize l[i]=s at *;generalize l.map dG=SP at *;refine aG rfl rfl ?_;simp [h,hat,hw,ih]
theorem acP (t:Int):∀ (l:List bJ) (xs:List GV),l.Pairwise (λa b=>a.tag < b.tag)->eU (.i .u64 t) (zZ xs l)=(match l.find? (λs=>decide (s.tag=t)) with
 | some s=>some (.s s.name)
 | none=>eU (.i .u64 t) xs)
 | [],xs,_=>rfl
 | s::l,xs,hp=>by
   rw [qR] at hp;have ih:=acP t l (iH (.i .u64 s.tag) (.s s.name) xs) hp.2;show eU (.i .u64 t) (zZ (iH (.i .u64 s.tag) (.s s.name) xs) l)=_
   rw [ih,List.find?_cons];by_cases h:s.tag=t
   ·have hno:l.find? (λs=>decide (s.tag=t))=none:=by
     rw [List.find?_eq_none];intro x hx;have:=hp.1 x hx;simp;omega
    rw [hno];simp only [h,decide_true];rw [wR,aj rfl]
   ·simp only [h,decide_false]
    cases hf:l.find? (λs=>decide (s.tag=t)) with
    | some x=>rfl
    | none=>
      simp only;rw [wR,ah (λe=>h e.symm)]
def zB (xs:List GV) (l:List bJ):List GV:=l.foldl (λm s=>iH (.i .u64 s.tag) (.b true) m) xs
theorem ad4 (l:List bJ) (hl:l.length<=1000) (x0:GV):∀ (m i:Nat) (xs:List GV),i+m=l.length->TT.lim 108 [x0,.l (qj l),.i .i64 l.length,.i .i64 i,.l xs]=some [.i .i64 0,.l (zB xs (l.drop i))]
 | 0,i,xs,hi=>by
   have h:¬ ((i:Int) < l.length):=by omega
   have e:l.drop i=[]:=gY (by omega);rw [e];show _=some [GV.i .i64 0,.l xs]
   refine aG rfl rfl ?_;simp [h]
 | m+1,i,xs,hi=>by
   have hlt:i < l.length:=by omega
   have h:((i:Int) < l.length):=by omega
   have hat:(qj l)[i]? = some (.i .u64 l[i].tag):=by unfold qj;rw [iq,bP hlt];rfl
   have hcast:((i+1:Nat):Int)=(i:Int)+1:=by omega
   have hw:=wrap64 (n:=(i:Int)+1) (by omega) (by omega);have hd:l.drop i=l[i]::l.drop (i+1):=jw hlt;have ih:=ad4 l hl x0 m (i+1) (iH (.i .u64 l[i].tag) (.b true) xs) (by omega);rw [hd];show _=some [GV.i .i64 0,.l (zB (iH (.i .u64 l[i].tag) (.b true) xs) (l.drop (i+1)))]
   rw [hcast] at ih;generalize zB (iH (.i .u64 l[i].tag) (.b true) xs) (l.drop (i+1))=R at *;generalize l[i]=s at *;generalize qj l=TG at *;refine aG rfl rfl ?_;simp [h,hat,hw,ih]
theorem Zj (t:Int):∀ (l:List bJ) (xs:List GV),eU (.i .u64 t) (zB xs l)=if hasTag l t=true then some (.b true) else eU (.i .u64 t) xs
 | [],xs=>rfl
 | s::l,xs=>by
   have ih:=Zj t l (iH (.i .u64 s.tag) (.b true) xs);show eU (.i .u64 t) (zB (iH (.i .u64 s.tag) (.b true) xs) l)=_
   rw [ih,wR];unfold hasTag;rw [List.any_cons];by_cases h:t=s.tag
   ·simp [h]
   ·simp [h]
def jI (l:List bJ) (fs:List aC):List aC:=fs.filter λf=>hasTag l f.tag
def fH (l:List bJ) (fs:List aC):List aC:=fs.filter λf=>!hasTag l f.tag
theorem ad5 (l:List bJ) (fs:List aC) (hfs:fs.length<=1000000):∀ (m i:Nat) (a b:List aC),i+m=fs.length->a.length+b.length+m<=3000000->TT.lim 109 [.l (aA fs),.l (aA a),.l (aA b),.i .i64 fs.length,.i .i64 i,.l (zB [] l)]=some [.i .i64 0,.l (aA (a++jI l (fs.drop i))),.l (aA (b++fH l (fs.drop i)))]
 | 0,i,a,b,hi,ha=>by
   have h:¬ ((i:Int) < fs.length):=by omega
   have e:fs.drop i=[]:=gY (by omega);rw [e];have e1:jI l []=[]:=rfl;have e2:fH l []=[]:=rfl;rw [e1,e2,kK,kK];refine aG rfl rfl ?_;simp [h]
 | m+1,i,a,b,hi,ha=>by
   have h:((i:Int) < fs.length):=by omega
   obtain ⟨t,y,n,s,k,g1,g2,g3,g4⟩:=BH (l:=fs) (i:=i) (by omega);have hcast:((i+1:Nat):Int)=(i:Int)+1:=by omega
   have hw:=wrap64 (n:=(i:Int)+1) (by omega) (by omega);have hg:=Zj t l [];have hfa:∀z:List aC,aA (z++[.mk t y n s k])=aA z++[nV t y n s k]:=λz=>by rw [Oz];simp only [aA,l7];rfl
   have hel:(nV t y n s k).fO 5=true:=rfl;have hfe:GV.g [.i .u64 t,.i .i64 y,.i .u64 n,.s s,.l (aA k)]=nV t y n s k:=rfl;have la:=kQ a;have lb:=kQ b;have ih:=λa b ha=>ad5 l fs hfs m (i+1) a b (by omega) ha;simp only [hcast] at ih;rw [g3];have hn0:eU (.i .u64 t) []=none:=rfl;cases ht:hasTag l t with
   | true=>
     have e1:jI l (.mk t y n s k::fs.drop (i+1))=.mk t y n s k::jI l (fs.drop (i+1)):=by unfold jI;rw [ae9 (by exact ht)]
     have e2:fH l (.mk t y n s k::fs.drop (i+1))=fH l (fs.drop (i+1)):=by unfold fH;rw [ae8 (by show ¬ (!hasTag l t)=true;rw [ht];decide)]
     rw [e1,e2];have ih:=ih (a++[.mk t y n s k]) b (by rw [dH,xM];omega);rw [hfa,List.append_assoc,YK] at ih;rw [ht,aj rfl] at hg;have c1:2 * ((aA a).length+1) * 64<=281474976710656/\(aA a).length+1<=281474976710656:=by omega
     generalize aA (a++.mk t y n s k::jI l (fs.drop (i+1)))=R1 at *;generalize aA (b++fH l (fs.drop (i+1)))=R2 at *;clear hfa la lb e1 e2;generalize zB [] l=MP at *;generalize aA a=A at *;generalize aA b=B at *;refine aG rfl rfl ?_;simp [h,g2,hg,hfe,hel,c1,hw,ih]
   | false=>
     have e1:jI l (.mk t y n s k::fs.drop (i+1))=jI l (fs.drop (i+1)):=by unfold jI;rw [ae8 (by show ¬ hasTag l t=true;rw [ht];decide)]
     have e2:fH l (.mk t y n s k::fs.drop (i+1))=.mk t y n s k::fH l (fs.drop (i+1)):=by unfold fH;rw [ae9 (by show (!hasTag l t)=true;rw [ht];rfl)]
     rw [e1,e2];have ih:=ih a (b++[.mk t y n s k]) (by rw [dH,xM];omega);rw [hfa,List.append_assoc,YK] at ih;rw [ht,ah (by decide),hn0] at hg;have c1:2 * ((aA b).length+1) * 64<=281474976710656/\(aA b).length+1<=281474976710656:=by omega
     generalize aA (a++jI l (fs.drop (i+1)))=R1 at *;generalize aA (b++.mk t y n s k::fH l (fs.drop (i+1)))=R2 at *;clear hfa la lb e1 e2;generalize zB [] l=MP at *;generalize aA a=A at *;generalize aA b=B at *;refine aG rfl rfl ?_;simp [h,g2,hg,hfe,hel,c1,hw,ih]
theorem am2 {rec:List UInt8->List aC×Int} {w ahead:Nat} {s:List UInt8} (hs:s.length<=100000000) (hr:∀t:List UInt8,t.length+2<=s.length->bY (rec t).1/\(rec t).1.length<=1000000/\bH (rec t).1<=t.length/\wL (rec t).1<=42 * t.length) (h:(iD rec w ahead s).2.2=0) :
 nX (iD rec w ahead s).1/\oN (iD rec w ahead s).1+1<=(iD rec w ahead s).2.1/\(iD rec w ahead s).2.1<=s.length/\(iD rec w ahead s).1.tag=((au s).1 / 4:Nat)/\wF (iD rec w ahead s).1<=42 * (iD rec w ahead s).2.1:=by
 unfold iD at h ⊢;by_cases e1:(au s).2.2=0;rotate_left
 ·simp only [aj e1] at h;exact absurd h e1
 have v1:=jD e1;simp only [ah (λx=>x e1:¬ (au s).2.2≠0)] at h ⊢;by_cases c1:(au s).1 / 4=0
 ·simp only [aj c1] at h;exact absurd h (by decide)
 simp only [ah c1] at h ⊢;by_cases c2:4294967296 < (au s).1 / 4
 ·simp only [aj c2] at h;exact absurd h (by decide)
 simp only [ah c2] at h ⊢;by_cases c3:3<=(au s).1 % 4
 ·simp only [aj c3] at h;exact absurd h (by decide)
 simp only [ah c3] at h ⊢;by_cases c4:(au s).1 / 4<=ahead
 ·simp only [aj c4] at h;exact absurd h (by decide)
 simp only [ah c4] at h ⊢;by_cases e2:(au (s.drop (au s).2.1)).2.2=0;rotate_left
 ·simp only [aj e2] at h;exact absurd h e2
 have v2:=jD e2;have l1:=v1.len;have p1:=v1.pos;have l2:=v2.len;have p2:=v2.pos;have t1:=v1.lt;have t2:=v2.lt;rw [dX] at l2;simp only [ah (λx=>x e2:¬ (au (s.drop (au s).2.1)).2.2≠0)] at h ⊢;by_cases y0:(au s).1 % 4=0
 ·simp only [aj y0] at h ⊢
  simp only [nX,bY,oN,bH,wF,wL,qQ];refine ⟨⟨⟨by omega,by omega,by omega,by omega,by omega,by omega,by simp,by simp⟩,trivial⟩,by omega,by omega,rfl,by omega⟩
 simp only [ah y0] at h ⊢;by_cases c:s.length - ((au s).2.1+(au (s.drop (au s).2.1)).2.1) < (au (s.drop (au s).2.1)).1
 ·simp only [aj c] at h;exact absurd h (by decide)
 simp only [ah c] at h ⊢;by_cases y1:(au s).1 % 4=1
 ·simp only [aj y1] at h ⊢
  simp only [nX,bY,oN,bH,wF,wL];refine ⟨⟨⟨by omega,by omega,by omega,by omega,by omega,by omega,by rw [lX,dX];omega,by simp⟩,trivial⟩,by omega,by omega,rfl,by rw [lX,dX];omega⟩
 simp only [ah y1] at h ⊢;by_cases c8:8<=w
 ·simp only [aj c8] at h;exact absurd h (by decide)
 simp only [ah c8] at h ⊢;have hl:((s.drop ((au s).2.1+(au (s.drop (au s).2.1)).2.1)).take (au (s.drop (au s).2.1)).1).length=(au (s.drop (au s).2.1)).1:=by rw [lX,dX];omega
 obtain ⟨r1,r2,r3,r4⟩:=hr ((s.drop ((au s).2.1+(au (s.drop (au s).2.1)).2.1)).take (au (s.drop (au s).2.1)).1) (by rw [hl];omega);rw [hl] at r3 r4;generalize (s.drop ((au s).2.1+(au (s.drop (au s).2.1)).2.1)).take (au (s.drop (au s).2.1)).1=T at *;by_cases e3:(rec T).2=0;rotate_left
 ·simp only [aj e3] at h;exact absurd h e3
 simp only [ah (λx=>x e3:¬ (rec T).2≠0)] at h ⊢;simp only [nX,oN,wF,qQ];refine ⟨⟨⟨by omega,by omega,by omega,by omega,by omega,by omega,by simp,r2⟩,r1⟩,by omega,by omega,rfl,by omega⟩
theorem Xi:∀ (N w ahead:Nat) (s:List UInt8),s.length<=1000000->bY (dA N w ahead s).1/\(dA N w ahead s).1.length<=1000000/\bH (dA N w ahead s).1<=s.length/\wL (dA N w ahead s).1<=42 * s.length
 | 0,w,ahead,s,_=>by simp only [dA,bY,bH,wL];simp
 | N+1,w,ahead,s,hs=>by
   unfold dA;by_cases h1:s=[]
   ·rw [aj h1];simp only [bY,bH,wL];simp
   rw [ah h1];by_cases h2:(iD (λt=>dA N (w+1) 0 t) w ahead s).2.2=0;rotate_left
   ·rw [aj h2];simp only [bY,bH,wL];simp
   rw [ah (λx=>x h2)];obtain ⟨o1,o2,o3,o4,o5⟩:=am2 (rec:=λt=>dA N (w+1) 0 t) (w:=w) (ahead:=ahead) (s:=s) (by omega) (λt ht=>Xi N (w+1) 0 t (by omega)) h2;have hd:(s.drop (iD (λt=>dA N (w+1) 0 t) w ahead s).2.1).length=s.length - (iD (λt=>dA N (w+1) 0 t) w ahead s).2.1:=dX;obtain ⟨i1,i2,i3,i4⟩:=Xi N w ((au s).1 / 4) (s.drop (iD (λt=>dA N (w+1) 0 t) w ahead s).2.1) (by omega);rw [hd] at i3 i4;split
   ·simp only [bY,bH,wL];simp
   ·simp only [bY,bH,wL]
    have:∀l:List aC,l.length<=bH l:=λl=>by
     induction l with
     | nil=>simp [bH]
     | cons f l ih=>simp only [iY,bH];omega
    have hl:=this (dA N w ((au s).1 / 4) (s.drop (iD (λt=>dA N (w+1) 0 t) w ahead s).2.1)).1;refine ⟨⟨o1,i1⟩, ?_, ?_, ?_⟩
    ·simp only [iY];omega
    ·omega
    ·omega
theorem aiM (s:List UInt8):bY (tq s).1/\(tq s).1.length<=1000000/\bH (tq s).1<=65536/\wL (tq s).1<=3000000:=by
 unfold tq;by_cases c:65536 < s.length
 ·rw [aj c];simp only [bY,bH,wL];simp
 ·rw [ah c]
  obtain ⟨h1,h2,h3,h4⟩:=Xi (s.length+1) 0 0 s (by omega);exact ⟨h1,h2,by omega,by omega⟩
def aC.typ:aC->Int
 | .mk _ y _ _ _=>y
def aC.num:aC->Int
 | .mk _ _ n _ _=>n
def aC.txt:aC->List UInt8
 | .mk _ _ _ s _=>s
/-- What the known fields make for a message. -/
def nU (l:List bJ):aJ->List aC->aJ×Int
 | b,[]=>(b,0)
 | b,f::r=>match l.find? (λs=>decide (s.tag=f.tag)) with
   | some s=>(match placeOf s.name with
     | some p=>if iJ f.typ f.num f.txt p=0 then nU l (setB b f.num f.txt p) r else (bM,iJ f.typ f.num f.txt p)
     | none=>(bM,26))
   | none=>(bM,26)
theorem aah (l:List bJ) (hl:l.Pairwise (λa b=>a.tag < b.tag)) (hpl:∀s∈l,placeOf s.name≠none) (fs:List aC) (hok:bY fs) (hlen:fs.length<=1000000) (hin:∀f∈fs,hasTag l f.tag=true) (x0 x1:GV):∀ (m i:Nat) (b:aJ),i+m=fs.length->jE b []->
 TT.lim 110 ([x0,x1,.l (aA fs),.i .i64 fs.length,.i .i64 i]++(dU b []).cells++[.l (zZ [] l)])=some (if (nU l b (fs.drop i)).2=0 then .i .i64 1::(dU (nU l b (fs.drop i)).1 []).cells else [.i .i64 0,.i .i64 (nU l b (fs.drop i)).2])
 | 0,i,b,hi,hb=>by
   have h:¬ ((i:Int) < fs.length):=by omega
   have e:fs.drop i=[]:=gY (by omega);rw [e];unfold nU;rw [aj rfl];rw [xB];simp only [dV,bV];refine aG rfl rfl ?_;simp [h]
 | m+1,i,b,hi,hb=>by
   have h:((i:Int) < fs.length):=by omega
   obtain ⟨t,y,n,s,k,g1,g2,g3,g4⟩:=BH (l:=fs) (i:=i) (by omega);have hcast:((i+1:Nat):Int)=(i:Int)+1:=by omega
   have hw:=wrap64 (n:=(i:Int)+1) (by omega) (by omega);have hf:=BI hok _ g4;simp only [nX] at hf;have ht:=hin _ g4;have OX:=acP t l [] hl;have fn:aA []=[]:=by simp only [aA]
   obtain ⟨sp,hsp⟩:∃sp,l.find? (λs=>decide (s.tag=t))=some sp:=by
    unfold hasTag at ht;obtain ⟨sp,h1,h2⟩:=List.any_eq_true.1 ht;cases hq:l.find? (λs=>decide (s.tag=t)) with
    | some x=>exact ⟨x,rfl⟩
    | none=>
      have:=(List.find?_eq_none.1 hq) sp h1;have h3:t=sp.tag:=yG h2;simp [h3] at this
   have hmem:=List.mem_of_find?_eq_some hsp;rw [hsp] at OX;simp only at OX;obtain ⟨p,hp⟩:∃p,placeOf sp.name=some p:=by
    cases hq:placeOf sp.name with
    | some p=>exact ⟨p,rfl⟩
    | none=>exact absurd hq (hpl sp hmem)
   have hwt:=acL (aA k) b [] (Uc hb.d) hb.t (by simp [bH]) t y n s ⟨hf.1.2.2.2.2.1,hf.1.2.2.2.2.2.1⟩ hf.1.2.2.2.2.2.2.1 sp.name;rw [fn] at hwt;unfold LP at hwt;rw [hp] at hwt;simp only at hwt;unfold Rj at hwt;rw [g3];unfold nU;have e1:aC.tag (.mk t y n s k)=t:=rfl;have e2:aC.typ (.mk t y n s k)=y:=rfl;have e3:aC.num (.mk t y n s k)=n:=rfl;have e4:aC.txt (.mk t y n s k)=s:=rfl;rw [e1,hsp,e2,e3,e4];simp only [hp];have hfe:GV.g [.i .u64 t,.i .i64 y,.i .u64 n,.s s,.l (aA k)]=nV t y n s k:=rfl;rw [hfe] at hwt;by_cases hc:iJ y n s p=0
   ·rw [aj hc] at hwt
    simp only [aj hc];obtain ⟨q1,q2,q3⟩:=Qu hb.body hb.d hb.t ⟨hf.1.2.2.2.2.1,hf.1.2.2.2.2.2.1⟩ hf.1.2.2.2.2.2.2.1 hc;have ih:=aah l hl hpl fs hok hlen hin x0 x1 m (i+1) (setB b n s p) (by omega) ⟨q1,q2,q3,by simp only [bY],by simp⟩;rw [hcast] at ih;generalize nU l (setB b n s p) (fs.drop (i+1))=R at *;generalize setB b n s p=B at *;clear q1 q2 q3 hc hsp hmem hp ht hf;generalize zZ [] l=MP at *;generalize sp.name=nm at *;generalize aA fs=G at *;rw [xB] at ih;rw [xB];simp only [dV,bV] at ih ⊢;refine aG rfl rfl ?_;simp [↓jy,h,g2,hfe,OX,jY,hwt,hw,ih]
   ·rw [ah hc] at hwt
    simp only [ah hc];generalize iJ y n s p=e at *;clear hsp hmem hp ht hf;generalize zZ [] l=MP at *;generalize sp.name=nm at *;generalize aA fs=G at *;rw [xB];simp only [dV,bV];refine aG rfl rfl ?_;simp [↓jy,h,g2,hfe,OX,jY,hwt,hc]
/-- What is read, or why not. -/
def zF (s:List UInt8) (v:Int):aJ×List aC×Int:=
 if v < 1 then (bM,[],16) else if 3 < v then (bM,[],16) else
 if 65536 < s.length then (bM,[],4) else
 if (au s).2.2≠0 then (bM,[],(au s).2.2) else
 if 8 < (au s).1 then (bM,[],15) else
 if iV (au s).1=0 then (bM,[],15) else if v < iV (au s).1 then (bM,[],15) else
 if (tq (s.drop (au s).2.1)).2≠0 then (bM,[],(tq (s.drop (au s).2.1)).2) else
 let l:=aB (au s).1 v
 let fs:=(tq (s.drop (au s).2.1)).1
 let r:=nU l { bM with kind:=(au s).1 } (jI l fs)
 if r.2≠0 then (bM,[],r.2) else
 if eY r.1 (fH l fs) v≠0 then (bM,[],eY r.1 (fH l fs) v) else (r.1,fH l fs,0)
theorem QT (p:aC->Bool):∀l:List aC,bH (l.filter p)<=bH l
 | []=>by simp [bH]
 | f::l=>by
   have ih:=QT p l;rw [CU];split
   ·simp only [bH];omega
   ·simp only [bH];omega
theorem split_ok (l:List bJ) (hl:l.length<=1000) (fs:List aC) (hlen:fs.length<=1000000) (hsz:bH fs<=1000000):TT.lim 107 [.l (aA fs),.l (qj l)]=some [.l (aA (jI l fs)),.l (aA (fH l fs))]:=by
 have h0:=ad4 l hl (.l (aA fs)) l.length 0 [] (by omega);have h1:=ad5 l fs hlen fs.length 0 [] [] (by omega) (by simp;omega);have fn:aA []=[]:=by simp only [aA]
 rw [eH] at h0 h1;rw [bV,bV,fn] at h1;simp only [qO] at h0 h1;have c1:=Ou (jI l fs) (iF (QT _ fs) hsz);have c2:=Ou (fH l fs) (iF (QT _ fs) hsz);have lt:(qj l).length=l.length:=by unfold qj;rw [kM]
 have lf:=kQ fs;generalize aA (jI l fs)=W at *;generalize aA (fH l fs)=O at *;generalize aA fs=G at *;generalize zB [] l=MP at *;generalize qj l=TG at *;refine bD rfl rfl ?_ rfl;simp [lt,lf,h0,h1,c1,c2]
theorem TD (l:List bJ):∀ (fs:List aC) (b:aJ),bY fs->jE b []->jE (nU l b fs).1 []
 | [],b,_,hb=>hb
 | f::fs,b,hf,hb=>by
   simp only [bY] at hf;unfold nU;cases l.find? (λs=>decide (s.tag=f.tag)) with
   | none=>exact LU
   | some s=>
     simp only;cases placeOf s.name with
     | none=>exact LU
     | some p=>
       simp only;by_cases hc:iJ f.typ f.num f.txt p=0
       ·rw [aj hc]
        have h1:=hf.1;cases f with
        | mk t y n s k=>
          simp only [nX] at h1;obtain ⟨q1,q2,q3⟩:=Qu hb.body hb.d hb.t ⟨h1.1.2.2.2.2.1,h1.1.2.2.2.2.2.1⟩ h1.1.2.2.2.2.2.2.1 hc;exact TD l fs _ hf.2 ⟨q1,q2,q3,by simp only [bY],by simp⟩
       ·rw [ah hc];exact LU
theorem Yh (k:Int) (h : -9223372036854775808<=k/\k<=9223372036854775807):jE { bM with kind:=k } []:=by
 have z:=LU;exact ⟨{ z.body with kind:=h },z.d,z.t,z.f8,z.len⟩
theorem Jw (p:aC->Bool):∀ {l:List aC},bY l->bY (l.filter p)
 | [],_=>by simp only [Rz,bY]
 | f::l,h=>by
   simp only [bY] at h;have ih:=Jw p h.2;rw [CU];split
   ·simp only [bY];exact ⟨h.1,ih⟩
   ·exact ih
set_option maxHeartbeats 4000000 in
theorem decode_ok (s:List UInt8) (v:Int) (hs:s.length<=140737488351232):TT.lim 93 [.s s,.i .i64 v]=some [dU (zF s v).1 (aA (zF s v).2.1),.i .i64 (zF s v).2.2]:=by
 have fn:aA []=[]:=by simp only [aA]
 have hz:GV.g [.i .i64 0,.i .u64 0,.i .u64 0,.i .u64 0,.i .u64 0,.i .u64 0,.i .u64 0,.i .u64 0,.i .u64 0,.i .u64 0,.i .u64 0,.i .u64 0,.i .u64 0,.i .u64 0,.i .u64 0,.i .u64 0,.i .i64 0,.b false,.s [],.s [],.s [],.l [],.l [],.l []]=dU bM []:=rfl;unfold zF;by_cases c1:v < 1
 ·rw [aj c1]
  simp only;rw [fn,<- hz];refine bD rfl rfl ?_ rfl;simp [c1]
 rw [ah c1];by_cases c2:3 < v
 ·rw [aj c2]
  simp only;rw [fn,<- hz];refine bD rfl rfl ?_ rfl;simp [c1,c2]
 rw [ah c2];by_cases c3:65536 < s.length
 ·rw [aj c3]
  have c3':(65536:Int) < s.length:=by omega
  simp only;rw [fn,<- hz];refine bD rfl rfl ?_ rfl;simp [c1,c2,c3']
 rw [ah c3];have c3':¬ (65536:Int) < s.length:=by omega
 have kg:=tC s (by omega);by_cases e1:(au s).2.2=0;rotate_left
 ·rw [aj e1]
  simp only;rw [fn,<- hz];generalize (au s).2.2=e at *;refine bD rfl rfl ?_ rfl;simp [c1,c2,c3',kg,e1]
 rw [ah (λx=>x e1)];rw [e1] at kg;have v1:=jD e1;have l1:=v1.len;have t1:=v1.lt;have hdl:(s.drop (au s).2.1).length=s.length - (au s).2.1:=dX;have hwg:=apR (s.drop (au s).2.1) (by omega);obtain ⟨g1,g2,g3, -⟩:=aiM (s.drop (au s).2.1);clear v1 e1 hdl;generalize tq (s.drop (au s).2.1)=F at *;generalize hT:s.drop (au s).2.1=T at *;generalize (au s).1=n at *;generalize (au s).2.1=j at *;have hsub:(s.take s.length).drop j=T:=by rw [xO];exact hT
 have j0:(j:Int)<=s.length:=by omega
 have f0:=O9 0;have f00:iV 0=0:=rfl;rw [f00] at f0;by_cases c4:8 < n
 ·rw [aj c4]
  have lZ:¬ (n:Int)<=8:=by omega
  simp only;rw [fn,<- hz];refine bD rfl rfl ?_ rfl;simp [c1,c2,c3',kg,lZ,f0]
 rw [ah c4];have lZ:(n:Int)<=8:=by omega
 have wn:=wrap64 (n:=(n:Int)) (by omega) (by omega);have kf:=O9 (n:Int);by_cases c5:iV n=0
 ·rw [aj c5]
  rw [c5] at kf;simp only;rw [fn,<- hz];refine bD rfl rfl ?_ rfl;simp [c1,c2,c3',kg,lZ,wn,kf]
 rw [ah c5];by_cases c6:v < iV n
 ·rw [aj c6]
  simp only;rw [fn,<- hz];generalize iV n=fk at *;refine bD rfl rfl ?_ rfl;simp [c1,c2,c3',kg,lZ,wn,kf,c5,c6]
 rw [ah c6];by_cases e2:F.2=0;rotate_left
 ·rw [aj e2]
  simp only;rw [fn,<- hz];generalize iV n=fk at *;refine bD rfl rfl ?_ rfl;simp [c1,c2,c3',kg,lZ,wn,kf,c5,c6,hsub,hT,j0,hwg,e2]
 rw [ah (λx=>x e2)];rw [e2] at hwg;have kn:=JX n v (by omega) (by omega) (by omega);have kt:=aj9 n v (by omega) (by omega) (by omega);have k8:=vT n v;have kz:=aag (aB n v) (by omega) (.i .i64 v) (.i .i64 n) (.l (aA F.1)) (aB n v).length 0 [] (by omega);rw [eH] at kz;simp only [qO] at kz;have ks:=split_ok (aB n v) (by omega) F.1 g2 (by omega);have kd:=aah (aB n v) (zV n v).1 (Vh n v) (jI (aB n v) F.1) (Jw _ g1) (iF (Iz _ _) g2) (λf hf=>(lY.1 hf).2) (.i .i64 v) (.l (aA (fH (aB n v) F.1))) (jI (aB n v) F.1).length 0 { bM with kind:=n } (by omega) (Yh n (by omega));rw [eH] at kd;simp only [qO] at kd;have hdw:=TD (aB n v) (jI (aB n v) F.1) { bM with kind:=n } (Jw _ g1) (Yh n (by omega));have kc:=acv (nU (aB n v) { bM with kind:=n } (jI (aB n v) F.1)).1 (fH (aB n v) F.1) v hdw.body hdw.t.few (Jw _ g1) (iF (Iz _ _) g2);have hal:(((aB n v).map dG).length:Int)=((aB n v).length:Int):=by rw [kM]
 have hwl:=kQ (jI (aB n v) F.1);have hcz:(dU { bM with kind:=(n:Int) } []).cells=[.i .i64 (n:Int),.i .u64 0,.i .u64 0,.i .u64 0,.i .u64 0,.i .u64 0,.i .u64 0,.i .u64 0,.i .u64 0,.i .u64 0,.i .u64 0,.i .u64 0,.i .u64 0,.i .u64 0,.i .u64 0,.i .u64 0,.i .i64 0,.b false,.s [],.s [],.s [],.l [],.l [],.l []]:=rfl;rw [hcz] at kd;simp only [dV,bV] at kd;simp only;clear hdw hcz g1 g2 g3 k8;generalize nU (aB n v) { bM with kind:=(n:Int) } (jI (aB n v) F.1)=R at *;generalize fH (aB n v) F.1=O at *;generalize aA (jI (aB n v) F.1)=W at *;generalize (jI (aB n v) F.1).length=WL at *;generalize aA F.1=FG at *;generalize zZ [] (aB n v)=MP at *;generalize (aB n v).map dG=SP at *;generalize qj (aB n v)=TG at *;generalize ((aB n v).length:Int)=L at *;generalize iV n=fk at *;by_cases e3:R.2=0;rotate_left
 ·rw [ah e3] at kd
  rw [aj e3];simp only;rw [fn,<- hz];generalize aA O=OG at *;clear kc;refine bD rfl rfl ?_ rfl;simp -implicitDefEqProofs (maxSteps:=10000000) [↓jy,c1,c2,c3',kg,lZ,wn,kf,c5,c6,hsub,hT,j0,hwg,kn,hal,kz,kt,ks,hwl,kd,e3]
 rw [aj e3] at kd;rw [ah (λx=>x e3)];rw [xB] at kd;by_cases e4:eY R.1 O v=0
 ·rw [ah (λx=>x e4)]
  rw [e4] at kc;simp only;generalize aA O=OG at *;clear e3 e4;refine bD rfl rfl ?_ rfl;simp -implicitDefEqProofs (maxSteps:=10000000) [↓jy,c1,c2,c3',kg,lZ,wn,kf,c5,c6,hsub,hT,j0,hwg,kn,hal,kz,kt,ks,hwl,kd,jY,kc]
 ·rw [aj e4]
  simp only;rw [fn,<- hz];generalize aA O=OG at *;generalize eY R.1 O v=ck at *;refine bD rfl rfl ?_ rfl;simp -implicitDefEqProofs (maxSteps:=10000000) [↓jy,c1,c2,c3',kg,lZ,wn,kf,c5,c6,hsub,hT,j0,hwg,kn,hal,kz,kt,ks,hwl,kd,jY,kc,e4]
end U
end Go.Proofs.YtjglbndncdkhhaaGreatDoor
