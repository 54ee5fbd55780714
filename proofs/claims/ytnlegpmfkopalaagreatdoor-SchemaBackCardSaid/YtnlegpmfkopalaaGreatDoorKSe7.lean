/- What the trees compute: plain laws. -/
import Derived.Test.YtnlegpmfkopalaaGreatDoorKSe5
namespace Go.Proofs.YtnlegpmfkopalaaGreatDoor
open Go Go.aN
set_option linter.unusedSimpArgs false
set_option linter.unusedVariables false
set_option maxRecDepth 100000
namespace S
/-- The field that stands next, within so many lists, above a tag; how many bytes it took; the code. -/
def fH (rec:List UInt8->List aC×Int) (w:Nat) (ahead:Nat) (s:List UInt8):aC×Nat×Int:=
 if (ak s).2.2≠0 then (.mk 0 0 0 [] [],0,(ak s).2.2)
 else if (ak s).1 / 4=0 then (.mk 0 0 0 [] [],0,18)
 else if 4294967296 < (ak s).1 / 4 then (.mk 0 0 0 [] [],0,18)
 else if 3<=(ak s).1 % 4 then (.mk 0 0 0 [] [],0,8)
 else if (ak s).1 / 4<=ahead then (.mk 0 0 0 [] [],0,7)
 else
  let r:=s.drop (ak s).2.1
  let k:=(ak s).2.1+(ak r).2.1
  if (ak r).2.2≠0 then (.mk 0 0 0 [] [],0,(ak r).2.2)
  else if (ak s).1 % 4=0 then (.mk ((ak s).1 / 4:Nat) 0 (ak r).1 [] [],k,0)
  else if s.length - k < (ak r).1 then (.mk 0 0 0 [] [],0,1)
  else if (ak s).1 % 4=1 then (.mk ((ak s).1 / 4:Nat) 1 0 ((s.drop k).take (ak r).1) [],k+(ak r).1,0)
  else if 8<=w then (.mk 0 0 0 [] [],0,9)
  else if (rec ((s.drop k).take (ak r).1)).2≠0 then (.mk 0 0 0 [] [],0,(rec ((s.drop k).take (ak r).1)).2)
  else (.mk ((ak s).1 / 4:Nat) 2 0 [] (rec ((s.drop k).take (ak r).1)).1,k+(ak r).1,0)
/-- Fields, within so many lists, above a tag. -/
def bW:Nat->Nat->Nat->List UInt8->List aC×Int
 | 0,_,_,_=>([],0)
 | N+1,w,ahead,s=>if s=[] then ([],0) else
   if (fH (λt=>bW N (w+1) 0 t) w ahead s).2.2≠0 then ([],(fH (λt=>bW N (w+1) 0 t) w ahead s).2.2)
   else if (bW N w ((ak s).1 / 4) (s.drop (fH (λt=>bW N (w+1) 0 t) w ahead s).2.1)).2≠0 then ([],(bW N w ((ak s).1 / 4) (s.drop (fH (λt=>bW N (w+1) 0 t) w ahead s).2.1)).2)
   else ((fH (λt=>bW N (w+1) 0 t) w ahead s).1::(bW N w ((ak s).1 / 4) (s.drop (fH (λt=>bW N (w+1) 0 t) w ahead s).2.1)).1,0)
theorem afx (n:Nat) (hn:n < 18446744073709551616):bU .and .u64 (n:Int) 3=some (.i .u64 ((n:Int) % 4)):=by
 have wu:∀y:Int,IntKind.u64.wrap y=y % 18446744073709551616:=λy=>by simp [IntKind.wrap,IntKind.signed,IntKind.bits]
 have e:n &&& 3=n % 4:=Yy n 2;have h1:(BitVec.ofInt 64 (n:Int)).toNat=n:=by rw [qH];omega
 have h3:(BitVec.ofInt 64 3).toNat=3:=by decide
 show some (GV.i IntKind.u64 (IntKind.u64.wrap ((BitVec.ofInt 64 (n:Int) &&& BitVec.ofInt 64 3).toNat:Int)))=_
 rw [Rx,h1,h3,e,wu];congr 2;omega
theorem ape (n:Nat):jI .shr .u64 (n:Int) 2=some (.i .u64 ((n:Int) / 4)):=by
 show some (GV.i IntKind.u64 ((n:Int).fdiv (2 ^ 2)))=_
 rw [AA _ (by decide)];rfl
theorem anP (t y w:GV) (s:List UInt8) (at':Nat) (h:at'<=s.length) (hs:s.length<=100000000) (n x:GV) :
 TT.lim 99 [t,y,w,.s s,.i .i64 at',n,x]=some [.i .i64 0,.i .i64 (ak (s.drop at')).2.2,.i .u64 ((ak (s.drop at')).1:Nat),.s s,.i .i64 ((at'+(ak (s.drop at')).2.1:Nat):Int)]:=by
 have k:=yU s at' h (by omega);refine aB rfl rfl ?_;simp [k]
theorem anR (t y w:GV) (s:List UInt8) (at':Nat) (h:at'<=s.length) (hs:s.length<=100000000) (n:GV) :
 ∃a,TT.lim 100 [t,y,w,.s s,.i .i64 at',n,.s []]=some
  (if (ak (s.drop at')).2.2≠0 then [.i .i64 0,.i .i64 (ak (s.drop at')).2.2,.s [],.s s,.i .i64 (a:Nat)]
  else if s.length - (at'+(ak (s.drop at')).2.1) < (ak (s.drop at')).1 then [.i .i64 0,.i .i64 1,.s [],.s s,.i .i64 (a:Nat)]
  else [.i .i64 0,.i .i64 0,.s ((s.drop (at'+(ak (s.drop at')).2.1)).take (ak (s.drop at')).1),.s s,.i .i64 ((at'+(ak (s.drop at')).2.1+(ak (s.drop at')).1:Nat):Int)]):=by
 have k:=yU s at' h (by omega);by_cases he:(ak (s.drop at')).2.2=0;rotate_left
 ·refine ⟨at'+(ak (s.drop at')).2.1, ?_⟩
  rw [aj he];generalize (ak (s.drop at')).2.2=e at *;refine aB rfl rfl ?_;simp [k,he]
 have hv:=ji he;have hl:=hv.len;have hlt:=hv.lt;rw [dW] at hl;rw [he] at k;refine ⟨at'+(ak (s.drop at')).2.1, ?_⟩;rw [ah (λx=>x he)];clear he;generalize (ak (s.drop at')).1=m at *;generalize (ak (s.drop at')).2.1=j at *;have w1:=wrap64 (n:=(s.length:Int) - ((at'+j:Nat):Int)) (by omega) (by omega);have w2:=jS (n:=(s.length:Int) - ((at'+j:Nat):Int)) (by omega) (by omega);by_cases c:s.length - (at'+j) < m
 ·have c':(s.length:Int) - ((at'+j:Nat):Int) < (m:Int):=by omega
  rw [aj c];generalize ((at'+j:Nat):Int)=A at *;refine aB rfl rfl ?_;simp [k,w1,w2,c']
 ·have c':¬ ((s.length:Int) - ((at'+j:Nat):Int) < (m:Int)):=by omega
  rw [ah c];have w3:=wrap64 (n:=(m:Int)) (by omega) (by omega);have w4:=wrap64 (n:=((at'+j:Nat):Int)+(m:Int)) (by omega) (by omega);have e4:((at'+j:Nat):Int)+(m:Int)=((at'+j+m:Nat):Int):=by omega
  rw [e4] at w4;have b1:(0:Int)<=((at'+j:Nat):Int)/\((at'+j:Nat):Int)<=((at'+j+m:Nat):Int)/\((at'+j+m:Nat):Int)<=s.length:=by omega
  have hsl:(s.take (at'+j+m)).drop (at'+j)=(s.drop (at'+j)).take m:=by rw [Df,show at'+j+m - (at'+j)=m by omega]
  have t1:(((at'+j:Nat):Int)).toNat=at'+j:=by omega
  have t2:(((at'+j+m:Nat):Int)).toNat=at'+j+m:=by omega
  generalize hA:((at'+j:Nat):Int)=A at *;generalize hB:((at'+j+m:Nat):Int)=B at *;refine aB rfl rfl ?_;simp [k,w1,w2,c',w3,e4,w4,b1,t1,t2,hsl]
/-- What is told for reading up to a size. -/
def Jw (N:Nat):Prop:=∀ (w ahead at':Nat) (s:List UInt8),at'<=s.length->s.length<=100000000->(s.drop at').length < N->w<=8->ahead < 18446744073709551616->∃a b,TT.lim 95 [.s s,.i .i64 (w:Nat),.i .u64 (ahead:Nat),.i .i64 (at':Nat)]=some [.i .i64 0,.l (aA (bW N w ahead (s.drop at')).1),.i .i64 (bW N w ahead (s.drop at')).2,.i .u64 (a:Nat),.s s,.i .i64 (b:Nat)]
theorem anM {N:Nat} (hN:Jw N) (t y:GV) (w:Nat) (hw:w<=8) (s:List UInt8) (at':Nat) (h:at'<=s.length) (hs:s.length<=100000000) (Ul:(s.drop at').length<=N) (n x:GV) :
 ∃a,TT.lim 101 [t,y,.i .i64 (w:Nat),.s s,.i .i64 at',n,x]=some
  (if (ak (s.drop at')).2.2≠0 then [.i .i64 0,.i .i64 (ak (s.drop at')).2.2,.l [],.s s,.i .i64 (a:Nat)]
  else if s.length - (at'+(ak (s.drop at')).2.1) < (ak (s.drop at')).1 then [.i .i64 0,.i .i64 1,.l [],.s s,.i .i64 (a:Nat)]
  else if 8<=w then [.i .i64 0,.i .i64 9,.l [],.s s,.i .i64 (a:Nat)]
  else [.i .i64 0,.i .i64 (bW N (w+1) 0 ((s.drop (at'+(ak (s.drop at')).2.1)).take (ak (s.drop at')).1)).2,.l (aA (bW N (w+1) 0 ((s.drop (at'+(ak (s.drop at')).2.1)).take (ak (s.drop at')).1)).1),.s s,.i .i64 ((at'+(ak (s.drop at')).2.1+(ak (s.drop at')).1:Nat):Int)]):=by
 have k:=yU s at' h (by omega);by_cases he:(ak (s.drop at')).2.2=0;rotate_left
 ·refine ⟨at'+(ak (s.drop at')).2.1, ?_⟩
  rw [aj he];generalize (ak (s.drop at')).2.2=e at *;refine aB rfl rfl ?_;simp [k,he]
 have hv:=ji he;have hl:=hv.len;have hlt:=hv.lt;have hp:=hv.pos;rw [dW] at hl Ul;rw [he] at k;by_cases c:s.length - (at'+(ak (s.drop at')).2.1) < (ak (s.drop at')).1
 ·refine ⟨at'+(ak (s.drop at')).2.1, ?_⟩
  rw [ah (λx=>x he),aj c];clear he;generalize (ak (s.drop at')).1=m at *;generalize (ak (s.drop at')).2.1=j at *;have w1:=wrap64 (n:=(s.length:Int) - ((at'+j:Nat):Int)) (by omega) (by omega);have w2:=jS (n:=(s.length:Int) - ((at'+j:Nat):Int)) (by omega) (by omega);have c':(s.length:Int) - ((at'+j:Nat):Int) < (m:Int):=by omega
  generalize ((at'+j:Nat):Int)=A at *;refine aB rfl rfl ?_;simp [k,w1,w2,c']
 by_cases c8:8<=w
 ·refine ⟨at'+(ak (s.drop at')).2.1+(ak (s.drop at')).1, ?_⟩
  rw [ah (λx=>x he),ah c,aj c8];clear he;generalize (ak (s.drop at')).1=m at *;generalize (ak (s.drop at')).2.1=j at *;have w1:=wrap64 (n:=(s.length:Int) - ((at'+j:Nat):Int)) (by omega) (by omega);have w2:=jS (n:=(s.length:Int) - ((at'+j:Nat):Int)) (by omega) (by omega);have c':¬ ((s.length:Int) - ((at'+j:Nat):Int) < (m:Int)):=by omega
  have w3:=wrap64 (n:=(m:Int)) (by omega) (by omega);have w4:=wrap64 (n:=((at'+j:Nat):Int)+(m:Int)) (by omega) (by omega);have e4:((at'+j:Nat):Int)+(m:Int)=((at'+j+m:Nat):Int):=by omega
  rw [e4] at w4;have b1:(0:Int)<=((at'+j:Nat):Int)/\((at'+j:Nat):Int)<=((at'+j+m:Nat):Int)/\((at'+j+m:Nat):Int)<=s.length:=by omega
  have DK:(8:Int)<=(w:Int):=by omega
  generalize hA:((at'+j:Nat):Int)=A at *;generalize hB:((at'+j+m:Nat):Int)=B at *;refine aB rfl rfl ?_;simp [k,w1,w2,c',w3,e4,w4,b1,DK]
 ·refine ⟨0, ?_⟩
  rw [ah (λx=>x he),ah c,ah c8];clear he;generalize (ak (s.drop at')).1=m at *;generalize (ak (s.drop at')).2.1=j at *;have hr:=hN (w+1) 0 0 ((s.drop (at'+j)).take m) (by omega) (by rw [jP,dW];omega) (by rw [eP,jP,dW];omega) (by omega) (by omega);obtain ⟨a,b,hr⟩:=hr;rw [eP] at hr;have w1:=wrap64 (n:=(s.length:Int) - ((at'+j:Nat):Int)) (by omega) (by omega);have w2:=jS (n:=(s.length:Int) - ((at'+j:Nat):Int)) (by omega) (by omega);have c':¬ ((s.length:Int) - ((at'+j:Nat):Int) < (m:Int)):=by omega
  have w3:=wrap64 (n:=(m:Int)) (by omega) (by omega);have w4:=wrap64 (n:=((at'+j:Nat):Int)+(m:Int)) (by omega) (by omega);have e4:((at'+j:Nat):Int)+(m:Int)=((at'+j+m:Nat):Int):=by omega
  rw [e4] at w4;have b1:(0:Int)<=((at'+j:Nat):Int)/\((at'+j:Nat):Int)<=((at'+j+m:Nat):Int)/\((at'+j+m:Nat):Int)<=s.length:=by omega
  have hsl:(s.take (at'+j+m)).drop (at'+j)=(s.drop (at'+j)).take m:=by rw [Df,show at'+j+m - (at'+j)=m by omega]
  have t1:(((at'+j:Nat):Int)).toNat=at'+j:=by omega
  have t2:(((at'+j+m:Nat):Int)).toNat=at'+j+m:=by omega
  have DK:¬ (8:Int)<=(w:Int):=by omega
  have w5:=wrap64 (n:=(w:Int)+1) (by omega) (by omega);have e5:(w:Int)+1=((w+1:Nat):Int):=by omega
  simp only [zf] at hr;rw [<- e5] at hr;generalize (s.drop (at'+j)).take m=T at *;generalize bW N (w+1) 0 T=R at *;generalize hA:((at'+j:Nat):Int)=A at *;generalize hB:((at'+j+m:Nat):Int)=B at *;generalize hW:(w:Int)=W at *;clear e5;refine aB rfl rfl ?_;simp [k,w1,w2,c',w3,e4,w4,b1,t1,t2,hsl,DK,w5,hr]
theorem anO {N:Nat} (hN:Jw N) (w ahead:Nat) (hw:w<=8) (ha:ahead < 18446744073709551616) (s:List UInt8) (at':Nat) (h:at'<=s.length) (hs:s.length<=100000000) (Ul:(s.drop at').length<=N+1) :
 ∃a b:Nat,TT.lim 97 [.i .i64 (w:Nat),.i .u64 (ahead:Nat),.s s,.i .i64 at']=some (.i .i64 0::((mP (fH (λt=>bW N (w+1) 0 t) w ahead (s.drop at')).1).cells++[.i .i64 (fH (λt=>bW N (w+1) 0 t) w ahead (s.drop at')).2.2,.i .u64 (a:Nat),.s s,.i .i64 (b:Nat)]))/\
  ((fH (λt=>bW N (w+1) 0 t) w ahead (s.drop at')).2.2=0->a=(ak (s.drop at')).1 / 4/\b=at'+(fH (λt=>bW N (w+1) 0 t) w ahead (s.drop at')).2.1/\1<=(fH (λt=>bW N (w+1) 0 t) w ahead (s.drop at')).2.1/\b<=s.length):=by
 have k:=yU s at' h (by omega);have fn:aA []=[]:=by simp only [aA]
 have hz:(mP (.mk 0 0 0 [] [])).cells=[.i .u64 0,.i .i64 0,.i .u64 0,.s [],.l []]:=by rw [Hl,fn]
 unfold fH;by_cases he:(ak (s.drop at')).2.2=0;rotate_left
 ·refine ⟨ahead,at'+(ak (s.drop at')).2.1, ?_, ?_⟩
  ·simp only [aj he]
   rw [hz];generalize (ak (s.drop at')).2.2=e at *;refine aB rfl rfl ?_;simp [k,he]
  ·simp only [aj he];exact λx=>absurd x he
 have hv:=ji he;have hl:=hv.len;have hlt:=hv.lt;have hp:=hv.pos;rw [dW] at hl Ul;have hdd:(s.drop at').drop (ak (s.drop at')).2.1=s.drop (at'+(ak (s.drop at')).2.1):=by rw [oq]
 rw [hdd];have hud:(s.drop at').length=s.length - at':=dW;rw [hud];rw [he] at k;simp only [ah (λx=>x he:¬ (ak (s.drop at')).2.2≠0)];have hdk:∀j2:Nat,(s.drop at').drop ((ak (s.drop at')).2.1+j2)=s.drop (at'+(ak (s.drop at')).2.1+j2):=λj2=>by rw [oq,iM]
 rw [hdk];clear he hv hdd hud hdk;generalize (ak (s.drop at')).1=n at *;generalize (ak (s.drop at')).2.1=j at *;have S:=ape n;have A:=afx n hlt;have wA:=wrap64 (n:=(n:Int) % 4) (by omega) (by omega);by_cases c1:n / 4=0
 ·refine ⟨ahead,at'+j, ?_, ?_⟩
  ·simp only [aj c1]
   rw [hz];have c1':(n:Int) / 4=0:=by omega
   generalize (n:Int) / 4=q at *;refine aB rfl rfl ?_;simp [k,S,A,wA,c1']
  ·simp only [aj c1];exact λx=>absurd x (by decide)
 have c1':¬ (n:Int) / 4=0:=by omega
 simp only [ah c1];by_cases c2:4294967296 < n / 4
 ·refine ⟨ahead,at'+j, ?_, ?_⟩
  ·simp only [aj c2]
   rw [hz];have c2':4294967296 < (n:Int) / 4:=by omega
   generalize (n:Int) / 4=q at *;refine aB rfl rfl ?_;simp [k,S,A,wA,c1',c2']
  ·simp only [aj c2];exact λx=>absurd x (by decide)
 have c2':¬ 4294967296 < (n:Int) / 4:=by omega
 simp only [ah c2];by_cases c3:3<=n % 4
 ·refine ⟨ahead,at'+j, ?_, ?_⟩
  ·simp only [aj c3]
   rw [hz];have c3':3<=(n:Int) % 4:=by omega
   generalize (n:Int) / 4=q at *;generalize (n:Int) % 4=y at *;refine aB rfl rfl ?_;simp [k,S,A,wA,c1',c2',c3']
  ·simp only [aj c3];exact λx=>absurd x (by decide)
 have c3':¬ 3<=(n:Int) % 4:=by omega
 simp only [ah c3];by_cases c4:n / 4<=ahead
 ·refine ⟨ahead,at'+j, ?_, ?_⟩
  ·simp only [aj c4]
   rw [hz];have mM:(n:Int) / 4<=(ahead:Int):=by omega
   generalize (n:Int) / 4=q at *;generalize (n:Int) % 4=y at *;generalize (ahead:Int)=AH at *;refine aB rfl rfl ?_;simp [k,S,A,wA,c1',c2',c3',mM]
  ·simp only [aj c4];exact λx=>absurd x (by decide)
 have mM:¬ (n:Int) / 4<=(ahead:Int):=by omega
 simp only [ah c4];have qn:((n / 4:Nat):Int)=(n:Int) / 4:=by omega
 have hj:at'+j<=s.length:=by omega
 rcases (show n % 4=0\/n % 4=1\/n % 4=2 by omega) with y0 | y1 | y2
 ·have y':(n:Int) % 4=0:=by omega
  have kn:=anP (.i .u64 ((n:Int) / 4)) (.i .i64 0) (.i .i64 (w:Nat)) s (at'+j) hj hs (.i .u64 0) (.s []);rw [y'] at A wA;by_cases e2:(ak (s.drop (at'+j))).2.2=0
  ·have hv2:=ji e2
   have hl2:=hv2.len;rw [dW] at hl2;refine ⟨n / 4,at'+j+(ak (s.drop (at'+j))).2.1, ?_, ?_⟩
   ·simp only [ah (λx=>x e2:¬ (ak (s.drop (at'+j))).2.2≠0),aj y0]
    rw [Hl,fn,qn];rw [e2] at kn;clear hv2 hl2 e2;generalize (ak (s.drop (at'+j))).1=m at *;generalize ((at'+j+(ak (s.drop (at'+j))).2.1:Nat):Int)=B at *;generalize ((at'+j:Nat):Int)=AT at *;generalize (n:Int) / 4=q at *;generalize (ahead:Int)=AH at *;refine aB rfl rfl ?_;simp [k,S,A,wA,c1',c2',mM,kn]
   ·simp only [ah (λx=>x e2:¬ (ak (s.drop (at'+j))).2.2≠0),aj y0]
    refine λ_=>⟨?_, ?_, ?_, ?_⟩<;>first | trivial | rfl | omega
  ·refine ⟨n / 4,at'+j+(ak (s.drop (at'+j))).2.1, ?_, ?_⟩
   ·simp only [aj e2]
    rw [hz,qn];generalize (ak (s.drop (at'+j))).1=m at *;generalize ((at'+j+(ak (s.drop (at'+j))).2.1:Nat):Int)=B at *;generalize (ak (s.drop (at'+j))).2.2=e at *;generalize ((at'+j:Nat):Int)=AT at *;generalize (n:Int) / 4=q at *;generalize (ahead:Int)=AH at *;refine aB rfl rfl ?_;simp [k,S,A,wA,c1',c2',mM,kn,e2]
   ·simp only [aj e2];exact λx=>absurd x e2
 ·have y':(n:Int) % 4=1:=by omega
  have y0:¬ n % 4=0:=by omega
  obtain ⟨a,kn⟩:=anR (.i .u64 ((n:Int) / 4)) (.i .i64 1) (.i .i64 (w:Nat)) s (at'+j) hj hs (.i .u64 0);rw [y'] at A wA;have hlen:s.length - at' - (j+(ak (s.drop (at'+j))).2.1)=s.length - (at'+j+(ak (s.drop (at'+j))).2.1):=by omega
  by_cases e2:(ak (s.drop (at'+j))).2.2=0
  ·have hv2:=ji e2
   have hl2:=hv2.len;rw [dW] at hl2;rw [ah (λx=>x e2)] at kn;simp only [ah (λx=>x e2:¬ (ak (s.drop (at'+j))).2.2≠0),ah y0];rw [hlen];by_cases c:s.length - (at'+j+(ak (s.drop (at'+j))).2.1) < (ak (s.drop (at'+j))).1
   ·rw [aj c] at kn
    simp only [aj c];refine ⟨n / 4,a, ?_,λx=>absurd x (by decide)⟩;rw [hz,qn];generalize ((at'+j:Nat):Int)=AT at *;generalize (n:Int) / 4=q at *;generalize (ahead:Int)=AH at *;refine aB rfl rfl ?_;simp [k,S,A,wA,c1',c2',mM,kn]
   ·rw [ah c] at kn
    simp only [ah c,aj y1];refine ⟨n / 4,at'+j+(ak (s.drop (at'+j))).2.1+(ak (s.drop (at'+j))).1, ?_,λ_=>⟨rfl,by omega,by omega,by omega⟩⟩;rw [Hl,fn,qn];generalize (s.drop (at'+j+(ak (s.drop (at'+j))).2.1)).take (ak (s.drop (at'+j))).1=T at *;generalize ((at'+j+(ak (s.drop (at'+j))).2.1+(ak (s.drop (at'+j))).1:Nat):Int)=B at *;generalize ((at'+j:Nat):Int)=AT at *;generalize (n:Int) / 4=q at *;generalize (ahead:Int)=AH at *;refine aB rfl rfl ?_;simp [k,S,A,wA,c1',c2',mM,kn]
  ·rw [aj e2] at kn
   simp only [aj e2];refine ⟨n / 4,a, ?_,λx=>absurd x e2⟩;rw [hz,qn];generalize (ak (s.drop (at'+j))).2.2=e at *;generalize ((at'+j:Nat):Int)=AT at *;generalize (n:Int) / 4=q at *;generalize (ahead:Int)=AH at *;refine aB rfl rfl ?_;simp [k,S,A,wA,c1',c2',mM,kn,e2]
 ·have y':(n:Int) % 4=2:=by omega
  have y0:¬ n % 4=0:=by omega
  have y1:¬ n % 4=1:=by omega
  obtain ⟨a,kn⟩:=anM hN (.i .u64 ((n:Int) / 4)) (.i .i64 2) w hw s (at'+j) hj hs (by rw [dW];omega) (.i .u64 0) (.s []);rw [y'] at A wA;have hlen:s.length - at' - (j+(ak (s.drop (at'+j))).2.1)=s.length - (at'+j+(ak (s.drop (at'+j))).2.1):=by omega
  by_cases e2:(ak (s.drop (at'+j))).2.2=0
  ·have hv2:=ji e2
   have hl2:=hv2.len;rw [dW] at hl2;rw [ah (λx=>x e2)] at kn;simp only [ah (λx=>x e2:¬ (ak (s.drop (at'+j))).2.2≠0),ah y0];rw [hlen];by_cases c:s.length - (at'+j+(ak (s.drop (at'+j))).2.1) < (ak (s.drop (at'+j))).1
   ·rw [aj c] at kn
    simp only [aj c];refine ⟨n / 4,a, ?_,λx=>absurd x (by decide)⟩;rw [hz,qn];generalize ((at'+j:Nat):Int)=AT at *;generalize (n:Int) / 4=q at *;generalize (ahead:Int)=AH at *;refine aB rfl rfl ?_;simp [k,S,A,wA,c1',c2',mM,kn]
   ·rw [ah c] at kn
    simp only [ah c,ah y1];by_cases c8:8<=w
    ·rw [aj c8] at kn
     simp only [aj c8];refine ⟨n / 4,a, ?_,λx=>absurd x (by decide)⟩;rw [hz,qn];generalize ((at'+j:Nat):Int)=AT at *;generalize (n:Int) / 4=q at *;generalize (ahead:Int)=AH at *;refine aB rfl rfl ?_;simp [k,S,A,wA,c1',c2',mM,kn]
    ·rw [ah c8] at kn
     simp only [ah c8];generalize (s.drop (at'+j+(ak (s.drop (at'+j))).2.1)).take (ak (s.drop (at'+j))).1=T at *;by_cases e3:(bW N (w+1) 0 T).2=0
     ·simp only [ah (λx=>x e3:¬ (bW N (w+1) 0 T).2≠0)]
      refine ⟨n / 4,at'+j+(ak (s.drop (at'+j))).2.1+(ak (s.drop (at'+j))).1, ?_,λ_=>⟨rfl,by omega,by omega,by omega⟩⟩;rw [Hl,qn];rw [e3] at kn;clear e3 c e2 hv2 hl2 hlen;generalize bW N (w+1) 0 T=R at *;generalize ((at'+j+(ak (s.drop (at'+j))).2.1+(ak (s.drop (at'+j))).1:Nat):Int)=B at *;generalize ((at'+j:Nat):Int)=AT at *;generalize (n:Int) / 4=q at *;generalize (ahead:Int)=AH at *;refine aB rfl rfl ?_;simp [k,S,A,wA,c1',c2',mM,kn]
     ·simp only [aj e3]
      refine ⟨n / 4,at'+j+(ak (s.drop (at'+j))).2.1+(ak (s.drop (at'+j))).1, ?_,λx=>absurd x e3⟩;rw [hz,qn];clear c e2 hv2 hl2 hlen;generalize bW N (w+1) 0 T=R at *;generalize ((at'+j+(ak (s.drop (at'+j))).2.1+(ak (s.drop (at'+j))).1:Nat):Int)=B at *;generalize ((at'+j:Nat):Int)=AT at *;generalize (n:Int) / 4=q at *;generalize (ahead:Int)=AH at *;refine aB rfl rfl ?_;simp [k,S,A,wA,c1',c2',mM,kn,e3]
  ·rw [aj e2] at kn
   simp only [aj e2];refine ⟨n / 4,a, ?_,λx=>absurd x e2⟩;rw [hz,qn];generalize (ak (s.drop (at'+j))).2.2=e at *;generalize ((at'+j:Nat):Int)=AT at *;generalize (n:Int) / 4=q at *;generalize (ahead:Int)=AH at *;refine aB rfl rfl ?_;simp [k,S,A,wA,c1',c2',mM,kn,e2]
def MK (N:Nat):Prop:=∀ (w:Nat) (acc:List aC) (ahead at':Nat) (s:List UInt8),w<=8->acc.length+(s.drop at').length<=200000000->at'<=s.length->s.length<=100000000->(s.drop at').length < N->ahead < 18446744073709551616->
    ∃a b:Nat,TT.lim 96 [.l (aA acc),.i .i64 (w:Nat),.i .u64 (ahead:Nat),.s s,.i .i64 (at':Nat)]=some (if (bW N w ahead (s.drop at')).2=0 then [.i .i64 1,.l (aA (acc++(bW N w ahead (s.drop at')).1)),.i .u64 (a:Nat),.s s,.i .i64 (b:Nat)] else [.i .i64 0,.i .i64 (bW N w ahead (s.drop at')).2,.i .u64 (a:Nat),.s s,.i .i64 (b:Nat)])
theorem anK:∀ (N w ahead:Nat) (s:List UInt8),(bW N w ahead s).2≠0->(bW N w ahead s).1=[]
 | 0,_,_,_,_=>rfl
 | N+1,w,ahead,s,h=>by
   unfold bW at h ⊢;by_cases h1:s=[]
   ·rw [aj h1]
   rw [ah h1] at h ⊢;by_cases h2:(fH (λt=>bW N (w+1) 0 t) w ahead s).2.2≠0
   ·rw [aj h2]
   rw [ah h2] at h ⊢;by_cases h3:(bW N w ((ak s).1 / 4) (s.drop (fH (λt=>bW N (w+1) 0 t) w ahead s).2.1)).2≠0
   ·rw [aj h3]
   ·rw [ah h3] at h;exact absurd rfl h
theorem anN {N:Nat} (hN:Jw N) (hL:MK N):MK (N+1):=by
 intro w acc ahead at' s hw hac h hs hl ha;have hud:(s.drop at').length=s.length - at':=dW;have wl:=wrap64 (n:=(s.length:Int) - (at':Int)) (by omega) (by omega);unfold bW;by_cases h1:s.drop at'=[]
 ·have hle:s.length - at'=0:=by rw [<- hud,h1];rfl
  have hp:¬ at' < s.length:=by omega
  refine ⟨ahead,at', ?_⟩;rw [aj h1];simp only [if_true,mD];refine aB rfl rfl ?_;simp [wl,hp]
 have hlp:0 < s.length - at':=by
  rw [<- hud];exact Me.2 h1
 have hp:at' < s.length:=by omega
 simp only [ah h1];obtain ⟨a,b,hn,hok⟩:=anO hN w ahead hw ha s at' h hs (by omega);have la:=kY acc;by_cases he:(fH (λt=>bW N (w+1) 0 t) w ahead (s.drop at')).2.2=0;rotate_left
 ·refine ⟨a,b, ?_⟩
  rw [aj he];generalize fH (λt=>bW N (w+1) 0 t) w ahead (s.drop at')=o at *;obtain ⟨f,used,e⟩:=o;obtain ⟨t,y,n,tx,k⟩:=f;simp only at *;rw [ah he];rw [Hl] at hn;simp only [eG,dA] at hn;refine aB rfl rfl ?_;simp [wl,hp,hn,he]
 obtain ⟨ea,eb,hu,hb⟩:=hok he;have hv0:(ak (s.drop at')).2.2=0:=by
  by_cases c:(ak (s.drop at')).2.2=0
  ·exact c
  ·exfalso
   unfold fH at he;rw [aj c] at he;exact c he
 have akb:=(ji hv0).lt;simp only [ah (λx=>x he:¬ (fH (λt=>bW N (w+1) 0 t) w ahead (s.drop at')).2.2≠0)];rw [he] at hn;have hdd:(s.drop at').drop (fH (λt=>bW N (w+1) 0 t) w ahead (s.drop at')).2.1=s.drop b:=by rw [oq,<- eb]
 rw [hdd];rw [<- ea];clear hdd he hok;have aj2:(s.drop b).length=s.length - b:=dW;obtain ⟨a2,b2,h2⟩:=hL w (acc++[(fH (λt=>bW N (w+1) 0 t) w ahead (s.drop at')).1]) a b s hw (by rw [dS,AO];omega) hb hs (by omega) (by omega);refine ⟨a2,b2, ?_⟩;generalize fH (λt=>bW N (w+1) 0 t) w ahead (s.drop at')=o at *;obtain ⟨f,used,e⟩:=o;obtain ⟨t,y,n,tx,k⟩:=f;simp only at *;rw [Hl] at hn;simp only [eG,dA] at hn;have hfa:aA (acc++[.mk t y n tx k])=aA acc++[oD t y n tx k]:=by rw [Ot];simp only [aA,mP];rfl
 have hel:(oD t y n tx k).fJ 5=true:=rfl;have hfe:GV.g [.i .u64 t,.i .i64 y,.i .u64 n,.s tx,.l (aA k)]=oD t y n tx k:=rfl;have c1:2 * ((aA acc).length+1) * 64<=281474976710656/\(aA acc).length+1<=281474976710656:=by omega
 rw [hfa] at h2;clear hfa ea eb akb hv0 hu hb hud aj2 hac hlp h1 la;by_cases h3:(bW N w a (s.drop b)).2=0
 ·rw [aj h3] at h2
  simp only [ah (λx=>x h3:¬ (bW N w a (s.drop b)).2≠0)];simp only [if_true];have happ:acc++[aC.mk t y n tx k]++(bW N w a (s.drop b)).1=acc++(aC.mk t y n tx k::(bW N w a (s.drop b)).1):=by simp
  rw [happ] at h2;clear happ h3;generalize aA (acc++(aC.mk t y n tx k::(bW N w a (s.drop b)).1))=R at *;generalize oD t y n tx k=E at *;generalize aA acc=A at *;refine aB rfl rfl ?_;simp [wl,hp,hn,hfe,hel,c1,h2]
 ·rw [ah h3] at h2
  simp only [aj h3];rw [ah h3];generalize bW N w a (s.drop b)=RR at *;generalize oD t y n tx k=E at *;generalize aA acc=A at *;refine aB rfl rfl ?_;simp [wl,hp,hn,hfe,hel,c1,h2]
theorem anQ {N:Nat} (hL:MK N):Jw N:=by
 intro w ahead at' s h hs hl hw ha;have hud:(s.drop at').length=s.length - at':=dW;obtain ⟨a,b,h0⟩:=hL w [] ahead at' s hw (by simp only [qI];omega) h hs hl ha;have fn:aA []=[]:=by simp only [aA]
 refine ⟨a,b, ?_⟩;rw [fn,dA] at h0;have hbad:=anK N w ahead (s.drop at');generalize bW N w ahead (s.drop at')=R at *;by_cases h3:R.2=0
 ·rw [aj h3] at h0
  rw [h3];refine aB rfl rfl ?_;simp [h0]
 ·rw [ah h3] at h0
  rw [hbad h3,fn];refine aB rfl rfl ?_;simp [h0]
theorem adC:∀N:Nat,Jw N/\MK N
 | 0=>⟨λw ahead at' s _ _ hl _ _=>absurd hl (by omega),λw acc ahead at' s _ _ _ _ hl _=>absurd hl (by omega)⟩
 | N+1=>by
   have ih:=adC N;have hl:=anN ih.1 ih.2;exact ⟨anQ hl,hl⟩
/-- What wire.Get reads. -/
def jY (s:List UInt8):List aC×Int:=if 65536 < s.length then ([],4) else bW (s.length+1) 0 0 s
theorem aqW (s:List UInt8) (hs:s.length<=140737488351232):TT.lim 94 [.s s]=some [.l (aA (jY s).1),.i .i64 (jY s).2]:=by
 unfold jY;have fn:aA []=[]:=by simp only [aA]
 by_cases c:65536 < s.length
 ·have c':(65536:Int) < s.length:=by omega
  rw [aj c,fn];refine aY rfl rfl ?_ rfl;simp [c']
 ·have c':¬ (65536:Int) < s.length:=by omega
  obtain ⟨a,b,h0⟩:=(adC (s.length+1)).1 0 0 0 s (by omega) (by omega) (by rw [eP];omega) (by omega) (by omega);rw [eP] at h0;rw [ah c];simp only [zf] at h0;generalize bW (s.length+1) 0 0 s=R at *;refine aY rfl rfl ?_ rfl;simp [c',h0]
def qF (l:List cZ):List GV:=l.map λs=>GV.i .u64 s.tag
theorem abA (l:List cZ) (hl:l.length<=1000):∀ (m i:Nat) (acc:List GV),i+m=l.length->acc.length+m<=2000->TT.lim 104 [.l acc,.l (l.map eF),.i .i64 l.length,.i .i64 i]=some [.i .i64 0,.l (acc++qF (l.drop i))]
 | 0,i,acc,hi,ha=>by
   have h:¬ ((i:Int) < l.length):=by omega
   have e:l.drop i=[]:=gJ (by omega);rw [e];show _=some [GV.i .i64 0,.l (acc++[])]
   rw [mD];refine aB rfl rfl ?_;simp [h]
 | m+1,i,acc,hi,ha=>by
   have hlt:i < l.length:=by omega
   have h:((i:Int) < l.length):=by omega
   have hat:(l.map eF)[i]? = some (eF l[i]):=by rw [jm,cO hlt];rfl
   have hcast:((i+1:Nat):Int)=(i:Int)+1:=by omega
   have hw:=wrap64 (n:=(i:Int)+1) (by omega) (by omega);have hd:l.drop i=l[i]::l.drop (i+1):=jc hlt;have ih:=abA l hl m (i+1) (acc++[.i .u64 l[i].tag]) (by omega) (by rw [dS,AO];omega);rw [hd];have hq:acc++qF (l[i]::l.drop (i+1))=acc++[GV.i .u64 l[i].tag]++qF (l.drop (i+1)):=by
    rw [show qF (l[i]::l.drop (i+1))=GV.i .u64 l[i].tag::qF (l.drop (i+1)) from rfl,List.append_assoc];rfl
   rw [hq];rw [hcast] at ih;have c1:2 * (acc.length+1) * 8<=281474976710656/\acc.length+1<=281474976710656:=by omega
   clear hq hd;generalize acc++[GV.i .u64 l[i].tag]++qF (l.drop (i+1))=R at *;generalize l[i]=s at *;generalize l.map eF=SP at *;refine aB rfl rfl ?_;simp [h,hat,c1,GV.fJ,hw,ih]
theorem akD (k v:Int) (h1:1<=v) (h3:v<=3) (hk:jw k<=v):TT.lim 103 [.i .i64 k,.i .i64 v]=some [.l (qF (aH k v))]:=by
 have hkn:=O9 k v h1 h3 hk;have k8:=BR k v;have h0:=abA (aH k v) (by omega) (aH k v).length 0 [] (by omega) (by simp;omega);rw [eP,dA] at h0;simp only [zf] at h0;have hal:(((aH k v).map eF).length:Int)=((aH k v).length:Int):=by rw [vO]
 generalize qF (aH k v)=TG at *;generalize (aH k v).map eF=SP at *;generalize ((aH k v).length:Int)=L at *;refine aY rfl rfl ?_ rfl;simp [hkn,hal,h0]
/-- The names for tags, as a map. -/
def zX (xs:List GV) (l:List cZ):List GV:=l.foldl (λm s=>kD (.i .u64 s.tag) (.s s.name) m) xs
theorem ZQ (l:List cZ) (hl:l.length<=1000) (x0 x1 x2:GV):∀ (m i:Nat) (xs:List GV),i+m=l.length->TT.lim 102 [x0,x1,x2,.l (l.map eF),.i .i64 l.length,.i .i64 i,.l xs]=some [.i .i64 0,.l (zX xs (l.drop i))]
 | 0,i,xs,hi=>by
   have h:¬ ((i:Int) < l.length):=by omega
   have e:l.drop i=[]:=gJ (by omega);rw [e];show _=some [GV.i .i64 0,.l xs]
   refine aB rfl rfl ?_;simp [h]
 | m+1,i,xs,hi=>by
   have hlt:i < l.length:=by omega
   have h:((i:Int) < l.length):=by omega
   have hat:(l.map eF)[i]? = some (eF l[i]):=by rw [jm,cO hlt];rfl
   have hcast:((i+1:Nat):Int)=(i:Int)+1:=by omega
   have hw:=wrap64 (n:=(i:Int)+1) (by omega) (by omega);have hd:l.drop i=l[i]::l.drop (i+1):=jc hlt;have ih:=ZQ l hl x0 x1 x2 m (i+1) (kD (.i .u64 l[i].tag) (.s l[i].name) xs) (by omega);rw [hd];show _=some [GV.i .i64 0,.l (zX (kD (.i .u64 l[i].tag) (.s l[i].name) xs) (l.drop (i+1)))]
   rw [hcast] at ih;generalize zX (kD (.i .u64 l[i].tag) (.s l[i].name) xs) (l.drop (i+1))=R at *;generalize l[i]=s at *;generalize l.map eF=SP at *;refine aB rfl rfl ?_;simp [h,hat,hw,ih]
theorem acy (t:Int):∀ (l:List cZ) (xs:List GV),l.Pairwise (λa b=>a.tag < b.tag)->gW (.i .u64 t) (zX xs l)=(match l.find? (λs=>decide (s.tag=t)) with
 | some s=>some (.s s.name)
 | none=>gW (.i .u64 t) xs)
 | [],xs,_=>rfl
 | s::l,xs,hp=>by
   rw [pV] at hp;have ih:=acy t l (kD (.i .u64 s.tag) (.s s.name) xs) hp.2;show gW (.i .u64 t) (zX (kD (.i .u64 s.tag) (.s s.name) xs) l)=_
   rw [ih,List.find?_cons];by_cases h:s.tag=t
   ·have hno:l.find? (λs=>decide (s.tag=t))=none:=by
     rw [List.find?_eq_none];intro x hx;have:=hp.1 x hx;simp;omega
    rw [hno];simp only [h,decide_true];rw [wW,aj rfl]
   ·simp only [h,decide_false]
    cases hf:l.find? (λs=>decide (s.tag=t)) with
    | some x=>rfl
    | none=>
      simp only;rw [wW,ah (λe=>h e.symm)]
def zA (xs:List GV) (l:List cZ):List GV:=l.foldl (λm s=>kD (.i .u64 s.tag) (.b true) m) xs
theorem ad4 (l:List cZ) (hl:l.length<=1000) (x0:GV):∀ (m i:Nat) (xs:List GV),i+m=l.length->TT.lim 106 [x0,.l (qF l),.i .i64 l.length,.i .i64 i,.l xs]=some [.i .i64 0,.l (zA xs (l.drop i))]
 | 0,i,xs,hi=>by
   have h:¬ ((i:Int) < l.length):=by omega
   have e:l.drop i=[]:=gJ (by omega);rw [e];show _=some [GV.i .i64 0,.l xs]
   refine aB rfl rfl ?_;simp [h]
 | m+1,i,xs,hi=>by
   have hlt:i < l.length:=by omega
   have h:((i:Int) < l.length):=by omega
   have hat:(qF l)[i]? = some (.i .u64 l[i].tag):=by unfold qF;rw [jm,cO hlt];rfl
   have hcast:((i+1:Nat):Int)=(i:Int)+1:=by omega
   have hw:=wrap64 (n:=(i:Int)+1) (by omega) (by omega);have hd:l.drop i=l[i]::l.drop (i+1):=jc hlt;have ih:=ad4 l hl x0 m (i+1) (kD (.i .u64 l[i].tag) (.b true) xs) (by omega);rw [hd];show _=some [GV.i .i64 0,.l (zA (kD (.i .u64 l[i].tag) (.b true) xs) (l.drop (i+1)))]
   rw [hcast] at ih;generalize zA (kD (.i .u64 l[i].tag) (.b true) xs) (l.drop (i+1))=R at *;generalize l[i]=s at *;generalize qF l=TG at *;refine aB rfl rfl ?_;simp [h,hat,hw,ih]
theorem Y6 (t:Int):∀ (l:List cZ) (xs:List GV),gW (.i .u64 t) (zA xs l)=if hasTag l t=true then some (.b true) else gW (.i .u64 t) xs
 | [],xs=>rfl
 | s::l,xs=>by
   have ih:=Y6 t l (kD (.i .u64 s.tag) (.b true) xs);show gW (.i .u64 t) (zA (kD (.i .u64 s.tag) (.b true) xs) l)=_
   rw [ih,wW];unfold hasTag;rw [List.any_cons];by_cases h:t=s.tag
   ·simp [h]
   ·simp [h]
def iZ (l:List cZ) (fs:List aC):List aC:=fs.filter λf=>hasTag l f.tag
def iK (l:List cZ) (fs:List aC):List aC:=fs.filter λf=>!hasTag l f.tag
theorem ad5 (l:List cZ) (fs:List aC) (hfs:fs.length<=1000000):∀ (m i:Nat) (a b:List aC),i+m=fs.length->a.length+b.length+m<=3000000->TT.lim 107 [.l (aA fs),.l (aA a),.l (aA b),.i .i64 fs.length,.i .i64 i,.l (zA [] l)]=some [.i .i64 0,.l (aA (a++iZ l (fs.drop i))),.l (aA (b++iK l (fs.drop i)))]
 | 0,i,a,b,hi,ha=>by
   have h:¬ ((i:Int) < fs.length):=by omega
   have e:fs.drop i=[]:=gJ (by omega);rw [e];have e1:iZ l []=[]:=rfl;have e2:iK l []=[]:=rfl;rw [e1,e2,mD,mD];refine aB rfl rfl ?_;simp [h]
 | m+1,i,a,b,hi,ha=>by
   have h:((i:Int) < fs.length):=by omega
   obtain ⟨t,y,n,s,k,g1,g2,g3,g4⟩:=BH (l:=fs) (i:=i) (by omega);have hcast:((i+1:Nat):Int)=(i:Int)+1:=by omega
   have hw:=wrap64 (n:=(i:Int)+1) (by omega) (by omega);have hg:=Y6 t l [];have hfa:∀z:List aC,aA (z++[.mk t y n s k])=aA z++[oD t y n s k]:=λz=>by rw [Ot];simp only [aA,mP];rfl
   have hel:(oD t y n s k).fJ 5=true:=rfl;have hfe:GV.g [.i .u64 t,.i .i64 y,.i .u64 n,.s s,.l (aA k)]=oD t y n s k:=rfl;have la:=kY a;have lb:=kY b;have ih:=λa b ha=>ad5 l fs hfs m (i+1) a b (by omega) ha;simp only [hcast] at ih;rw [g3];have hn0:gW (.i .u64 t) []=none:=rfl;cases ht:hasTag l t with
   | true=>
     have e1:iZ l (.mk t y n s k::fs.drop (i+1))=.mk t y n s k::iZ l (fs.drop (i+1)):=by unfold iZ;rw [ae9 (by exact ht)]
     have e2:iK l (.mk t y n s k::fs.drop (i+1))=iK l (fs.drop (i+1)):=by unfold iK;rw [ae8 (by show ¬ (!hasTag l t)=true;rw [ht];decide)]
     rw [e1,e2];have ih:=ih (a++[.mk t y n s k]) b (by rw [dS,AO];omega);rw [hfa,List.append_assoc,Yv] at ih;rw [ht,aj rfl] at hg;have c1:2 * ((aA a).length+1) * 64<=281474976710656/\(aA a).length+1<=281474976710656:=by omega
     generalize aA (a++.mk t y n s k::iZ l (fs.drop (i+1)))=R1 at *;generalize aA (b++iK l (fs.drop (i+1)))=R2 at *;clear hfa la lb e1 e2;generalize zA [] l=MP at *;generalize aA a=A at *;generalize aA b=B at *;refine aB rfl rfl ?_;simp [h,g2,hg,hfe,hel,c1,hw,ih]
   | false=>
     have e1:iZ l (.mk t y n s k::fs.drop (i+1))=iZ l (fs.drop (i+1)):=by unfold iZ;rw [ae8 (by show ¬ hasTag l t=true;rw [ht];decide)]
     have e2:iK l (.mk t y n s k::fs.drop (i+1))=.mk t y n s k::iK l (fs.drop (i+1)):=by unfold iK;rw [ae9 (by show (!hasTag l t)=true;rw [ht];rfl)]
     rw [e1,e2];have ih:=ih a (b++[.mk t y n s k]) (by rw [dS,AO];omega);rw [hfa,List.append_assoc,Yv] at ih;rw [ht,ah (by decide),hn0] at hg;have c1:2 * ((aA b).length+1) * 64<=281474976710656/\(aA b).length+1<=281474976710656:=by omega
     generalize aA (a++iZ l (fs.drop (i+1)))=R1 at *;generalize aA (b++.mk t y n s k::iK l (fs.drop (i+1)))=R2 at *;clear hfa la lb e1 e2;generalize zA [] l=MP at *;generalize aA a=A at *;generalize aA b=B at *;refine aB rfl rfl ?_;simp [h,g2,hg,hfe,hel,c1,hw,ih]
theorem adB {rec:List UInt8->List aC×Int} {w ahead:Nat} {s:List UInt8} (hs:s.length<=100000000) (hr:∀t:List UInt8,t.length+2<=s.length->cu (rec t).1/\(rec t).1.length<=1000000/\bV (rec t).1<=t.length/\wL (rec t).1<=42 * t.length) (h:(fH rec w ahead s).2.2=0) :
 nK (fH rec w ahead s).1/\pz (fH rec w ahead s).1+1<=(fH rec w ahead s).2.1/\(fH rec w ahead s).2.1<=s.length/\(fH rec w ahead s).1.tag=((ak s).1 / 4:Nat)/\wF (fH rec w ahead s).1<=42 * (fH rec w ahead s).2.1:=by
 unfold fH at h ⊢;by_cases e1:(ak s).2.2=0;rotate_left
 ·simp only [aj e1] at h;exact absurd h e1
 have v1:=ji e1;simp only [ah (λx=>x e1:¬ (ak s).2.2≠0)] at h ⊢;by_cases c1:(ak s).1 / 4=0
 ·simp only [aj c1] at h;exact absurd h (by decide)
 simp only [ah c1] at h ⊢;by_cases c2:4294967296 < (ak s).1 / 4
 ·simp only [aj c2] at h;exact absurd h (by decide)
 simp only [ah c2] at h ⊢;by_cases c3:3<=(ak s).1 % 4
 ·simp only [aj c3] at h;exact absurd h (by decide)
 simp only [ah c3] at h ⊢;by_cases c4:(ak s).1 / 4<=ahead
 ·simp only [aj c4] at h;exact absurd h (by decide)
 simp only [ah c4] at h ⊢;by_cases e2:(ak (s.drop (ak s).2.1)).2.2=0;rotate_left
 ·simp only [aj e2] at h;exact absurd h e2
 have v2:=ji e2;have l1:=v1.len;have p1:=v1.pos;have l2:=v2.len;have p2:=v2.pos;have t1:=v1.lt;have t2:=v2.lt;rw [dW] at l2;simp only [ah (λx=>x e2:¬ (ak (s.drop (ak s).2.1)).2.2≠0)] at h ⊢;by_cases y0:(ak s).1 % 4=0
 ·simp only [aj y0] at h ⊢
  simp only [nK,cu,pz,bV,wF,wL,qI];refine ⟨⟨⟨by omega,by omega,by omega,by omega,by omega,by omega,by simp,by simp⟩,trivial⟩,by omega,by omega,rfl,by omega⟩
 simp only [ah y0] at h ⊢;by_cases c:s.length - ((ak s).2.1+(ak (s.drop (ak s).2.1)).2.1) < (ak (s.drop (ak s).2.1)).1
 ·simp only [aj c] at h;exact absurd h (by decide)
 simp only [ah c] at h ⊢;by_cases y1:(ak s).1 % 4=1
 ·simp only [aj y1] at h ⊢
  simp only [nK,cu,pz,bV,wF,wL];refine ⟨⟨⟨by omega,by omega,by omega,by omega,by omega,by omega,by rw [jP,dW];omega,by simp⟩,trivial⟩,by omega,by omega,rfl,by rw [jP,dW];omega⟩
 simp only [ah y1] at h ⊢;by_cases c8:8<=w
 ·simp only [aj c8] at h;exact absurd h (by decide)
 simp only [ah c8] at h ⊢;have hl:((s.drop ((ak s).2.1+(ak (s.drop (ak s).2.1)).2.1)).take (ak (s.drop (ak s).2.1)).1).length=(ak (s.drop (ak s).2.1)).1:=by rw [jP,dW];omega
 obtain ⟨r1,r2,r3,r4⟩:=hr ((s.drop ((ak s).2.1+(ak (s.drop (ak s).2.1)).2.1)).take (ak (s.drop (ak s).2.1)).1) (by rw [hl];omega);rw [hl] at r3 r4;generalize (s.drop ((ak s).2.1+(ak (s.drop (ak s).2.1)).2.1)).take (ak (s.drop (ak s).2.1)).1=T at *;by_cases e3:(rec T).2=0;rotate_left
 ·simp only [aj e3] at h;exact absurd h e3
 simp only [ah (λx=>x e3:¬ (rec T).2≠0)] at h ⊢;simp only [nK,pz,wF,qI];refine ⟨⟨⟨by omega,by omega,by omega,by omega,by omega,by omega,by simp,r2⟩,r1⟩,by omega,by omega,rfl,by omega⟩
theorem Qj:∀ (N w ahead:Nat) (s:List UInt8),s.length<=1000000->cu (bW N w ahead s).1/\(bW N w ahead s).1.length<=1000000/\bV (bW N w ahead s).1<=s.length/\wL (bW N w ahead s).1<=42 * s.length
 | 0,w,ahead,s,_=>by simp only [bW,cu,bV,wL];simp
 | N+1,w,ahead,s,hs=>by
   unfold bW;by_cases h1:s=[]
   ·rw [aj h1];simp only [cu,bV,wL];simp
   rw [ah h1];by_cases h2:(fH (λt=>bW N (w+1) 0 t) w ahead s).2.2=0;rotate_left
   ·rw [aj h2];simp only [cu,bV,wL];simp
   rw [ah (λx=>x h2)];obtain ⟨o1,o2,o3,o4,o5⟩:=adB (rec:=λt=>bW N (w+1) 0 t) (w:=w) (ahead:=ahead) (s:=s) (by omega) (λt ht=>Qj N (w+1) 0 t (by omega)) h2;have hd:(s.drop (fH (λt=>bW N (w+1) 0 t) w ahead s).2.1).length=s.length - (fH (λt=>bW N (w+1) 0 t) w ahead s).2.1:=dW;obtain ⟨i1,i2,i3,i4⟩:=Qj N w ((ak s).1 / 4) (s.drop (fH (λt=>bW N (w+1) 0 t) w ahead s).2.1) (by omega);rw [hd] at i3 i4;split
   ·simp only [cu,bV,wL];simp
   ·simp only [cu,bV,wL]
    have:∀l:List aC,l.length<=bV l:=λl=>by
     induction l with
     | nil=>simp [bV]
     | cons f l ih=>simp only [iT,bV];omega
    have hl:=this (bW N w ((ak s).1 / 4) (s.drop (fH (λt=>bW N (w+1) 0 t) w ahead s).2.1)).1;refine ⟨⟨o1,i1⟩, ?_, ?_, ?_⟩
    ·simp only [iT];omega
    ·omega
    ·omega
theorem OD (s:List UInt8):cu (jY s).1/\(jY s).1.length<=1000000/\bV (jY s).1<=65536/\wL (jY s).1<=3000000:=by
 unfold jY;by_cases c:65536 < s.length
 ·rw [aj c];simp only [cu,bV,wL];simp
 ·rw [ah c]
  obtain ⟨h1,h2,h3,h4⟩:=Qj (s.length+1) 0 0 s (by omega);exact ⟨h1,h2,by omega,by omega⟩
def aC.typ:aC->Int
 | .mk _ y _ _ _=>y
def aC.num:aC->Int
 | .mk _ _ n _ _=>n
def aC.txt:aC->List UInt8
 | .mk _ _ _ s _=>s
/-- What the known fields make for a message. -/
def iQ (l:List cZ):aK->List aC->aK×Int
 | b,[]=>(b,0)
 | b,f::r=>match l.find? (λs=>decide (s.tag=f.tag)) with
   | some s=>(match placeOf s.name with
     | some p=>if jD f.typ f.num f.txt p=0 then iQ l (setB b f.num f.txt p) r else (dw,jD f.typ f.num f.txt p)
     | none=>(dw,26))
   | none=>(dw,26)
theorem ZR (l:List cZ) (hl:l.Pairwise (λa b=>a.tag < b.tag)) (hpl:∀s∈l,placeOf s.name≠none) (fs:List aC) (hok:cu fs) (hlen:fs.length<=1000000) (hin:∀f∈fs,hasTag l f.tag=true) (x0 x1:GV):∀ (m i:Nat) (b:aK),i+m=fs.length->ou b []->
 TT.lim 108 ([x0,x1,.l (aA fs),.i .i64 fs.length,.i .i64 i]++(fC b []).cells++[.l (zX [] l)])=some (if (iQ l b (fs.drop i)).2=0 then .i .i64 1::(fC (iQ l b (fs.drop i)).1 []).cells else [.i .i64 0,.i .i64 (iQ l b (fs.drop i)).2])
 | 0,i,b,hi,hb=>by
   have h:¬ ((i:Int) < fs.length):=by omega
   have e:fs.drop i=[]:=gJ (by omega);rw [e];unfold iQ;rw [aj rfl];rw [dX];simp only [eG,dA];refine aB rfl rfl ?_;simp [h]
 | m+1,i,b,hi,hb=>by
   have h:((i:Int) < fs.length):=by omega
   obtain ⟨t,y,n,s,k,g1,g2,g3,g4⟩:=BH (l:=fs) (i:=i) (by omega);have hcast:((i+1:Nat):Int)=(i:Int)+1:=by omega
   have hw:=wrap64 (n:=(i:Int)+1) (by omega) (by omega);have hf:=BI hok _ g4;simp only [nK] at hf;have ht:=hin _ g4;have OU:=acy t l [] hl;have fn:aA []=[]:=by simp only [aA]
   obtain ⟨sp,hsp⟩:∃sp,l.find? (λs=>decide (s.tag=t))=some sp:=by
    unfold hasTag at ht;obtain ⟨sp,h1,h2⟩:=List.any_eq_true.1 ht;cases hq:l.find? (λs=>decide (s.tag=t)) with
    | some x=>exact ⟨x,rfl⟩
    | none=>
      have:=(List.find?_eq_none.1 hq) sp h1;have h3:t=sp.tag:=zZ h2;simp [h3] at this
   have hmem:=afc hsp;rw [hsp] at OU;simp only at OU;obtain ⟨p,hp⟩:∃p,placeOf sp.name=some p:=by
    cases hq:placeOf sp.name with
    | some p=>exact ⟨p,rfl⟩
    | none=>exact absurd hq (hpl sp hmem)
   have hwt:=alR (aA k) b [] (TQ hb.d) hb.t (by simp [bV]) t y n s ⟨hf.1.2.2.2.2.1,hf.1.2.2.2.2.2.1⟩ hf.1.2.2.2.2.2.2.1 sp.name;rw [fn] at hwt;unfold XR at hwt;rw [hp] at hwt;simp only at hwt;unfold XT at hwt;rw [g3];unfold iQ;have e1:aC.tag (.mk t y n s k)=t:=rfl;have e2:aC.typ (.mk t y n s k)=y:=rfl;have e3:aC.num (.mk t y n s k)=n:=rfl;have e4:aC.txt (.mk t y n s k)=s:=rfl;rw [e1,hsp,e2,e3,e4];simp only [hp];have hfe:GV.g [.i .u64 t,.i .i64 y,.i .u64 n,.s s,.l (aA k)]=oD t y n s k:=rfl;rw [hfe] at hwt;by_cases hc:jD y n s p=0
   ·rw [aj hc] at hwt
    simp only [aj hc];obtain ⟨q1,q2,q3⟩:=adS hb.body hb.d hb.t ⟨hf.1.2.2.2.2.1,hf.1.2.2.2.2.2.1⟩ hf.1.2.2.2.2.2.2.1 hc;have ih:=ZR l hl hpl fs hok hlen hin x0 x1 m (i+1) (setB b n s p) (by omega) ⟨q1,q2,q3,by simp only [cu],by simp⟩;rw [hcast] at ih;generalize iQ l (setB b n s p) (fs.drop (i+1))=R at *;generalize setB b n s p=B at *;clear q1 q2 q3 hc hsp hmem hp ht hf;generalize zX [] l=MP at *;generalize sp.name=nm at *;generalize aA fs=G at *;rw [dX] at ih;rw [dX];simp only [eG,dA] at ih ⊢;refine aB rfl rfl ?_;simp [↓xq,h,g2,hfe,OU,kQ,hwt,hw,ih]
   ·rw [ah hc] at hwt
    simp only [ah hc];generalize jD y n s p=e at *;clear hsp hmem hp ht hf;generalize zX [] l=MP at *;generalize sp.name=nm at *;generalize aA fs=G at *;rw [dX];simp only [eG,dA];refine aB rfl rfl ?_;simp [↓xq,h,g2,hfe,OU,kQ,hwt,hc]
/-- What is read, or why not. -/
def jE (s:List UInt8) (v:Int):aK×List aC×Int:=
 if v < 1 then (dw,[],16) else if 3 < v then (dw,[],16) else
 if 65536 < s.length then (dw,[],4) else
 if (ak s).2.2≠0 then (dw,[],(ak s).2.2) else
 if 8 < (ak s).1 then (dw,[],15) else
 if jw (ak s).1=0 then (dw,[],15) else if v < jw (ak s).1 then (dw,[],15) else
 if (jY (s.drop (ak s).2.1)).2≠0 then (dw,[],(jY (s.drop (ak s).2.1)).2) else
 let l:=aH (ak s).1 v
 let fs:=(jY (s.drop (ak s).2.1)).1
 let r:=iQ l { dw with kind:=(ak s).1 } (iZ l fs)
 if r.2≠0 then (dw,[],r.2) else
 if fZ r.1 (iK l fs) v≠0 then (dw,[],fZ r.1 (iK l fs) v) else (r.1,iK l fs,0)
theorem QT (p:aC->Bool):∀l:List aC,bV (l.filter p)<=bV l
 | []=>by simp [bV]
 | f::l=>by
   have ih:=QT p l;rw [Jm];split
   ·simp only [bV];omega
   ·simp only [bV];omega
theorem split_ok (l:List cZ) (hl:l.length<=1000) (fs:List aC) (hlen:fs.length<=1000000) (hsz:bV fs<=1000000):TT.lim 105 [.l (aA fs),.l (qF l)]=some [.l (aA (iZ l fs)),.l (aA (iK l fs))]:=by
 have h0:=ad4 l hl (.l (aA fs)) l.length 0 [] (by omega);have h1:=ad5 l fs hlen fs.length 0 [] [] (by omega) (by simp;omega);have fn:aA []=[]:=by simp only [aA]
 rw [eP] at h0 h1;rw [dA,dA,fn] at h1;simp only [zf] at h0 h1;have c1:=Om (iZ l fs) (iV (QT _ fs) hsz);have c2:=Om (iK l fs) (iV (QT _ fs) hsz);have lt:(qF l).length=l.length:=by unfold qF;rw [vO]
 have lf:=kY fs;generalize aA (iZ l fs)=W at *;generalize aA (iK l fs)=O at *;generalize aA fs=G at *;generalize zA [] l=MP at *;generalize qF l=TG at *;refine aY rfl rfl ?_ rfl;simp [lt,lf,h0,h1,c1,c2]
theorem Tj (l:List cZ):∀ (fs:List aC) (b:aK),cu fs->ou b []->ou (iQ l b fs).1 []
 | [],b,_,hb=>hb
 | f::fs,b,hf,hb=>by
   simp only [cu] at hf;unfold iQ;cases l.find? (λs=>decide (s.tag=f.tag)) with
   | none=>exact CZ
   | some s=>
     simp only;cases placeOf s.name with
     | none=>exact CZ
     | some p=>
       simp only;by_cases hc:jD f.typ f.num f.txt p=0
       ·rw [aj hc]
        have h1:=hf.1;cases f with
        | mk t y n s k=>
          simp only [nK] at h1;obtain ⟨q1,q2,q3⟩:=adS hb.body hb.d hb.t ⟨h1.1.2.2.2.2.1,h1.1.2.2.2.2.2.1⟩ h1.1.2.2.2.2.2.2.1 hc;exact Tj l fs _ hf.2 ⟨q1,q2,q3,by simp only [cu],by simp⟩
       ·rw [ah hc];exact CZ
theorem XV (k:Int) (h : -9223372036854775808<=k/\k<=9223372036854775807):ou { dw with kind:=k } []:=by
 have z:=CZ;exact ⟨{ z.body with kind:=h },z.d,z.t,z.f8,z.len⟩
theorem D6 (p:aC->Bool):∀ {l:List aC},cu l->cu (l.filter p)
 | [],_=>by simp only [List.filter_nil,cu]
 | f::l,h=>by
   simp only [cu] at h;have ih:=D6 p h.2;rw [Jm];split
   ·simp only [cu];exact ⟨h.1,ih⟩
   ·exact ih
set_option maxHeartbeats 4000000 in
theorem decode_ok (s:List UInt8) (v:Int) (hs:s.length<=140737488351232):TT.lim 91 [.s s,.i .i64 v]=some [fC (jE s v).1 (aA (jE s v).2.1),.i .i64 (jE s v).2.2]:=by
 have fn:aA []=[]:=by simp only [aA]
 have hz:GV.g [.i .i64 0,.i .u64 0,.i .u64 0,.i .u64 0,.i .u64 0,.i .u64 0,.i .u64 0,.i .u64 0,.i .u64 0,.i .u64 0,.i .u64 0,.i .u64 0,.i .u64 0,.i .u64 0,.i .u64 0,.i .u64 0,.i .i64 0,.b false,.s [],.s [],.s [],.l [],.l [],.l []]=fC dw []:=rfl;unfold jE;by_cases c1:v < 1
 ·rw [aj c1]
  simp only;rw [fn,<- hz];refine aY rfl rfl ?_ rfl;simp [c1]
 rw [ah c1];by_cases c2:3 < v
 ·rw [aj c2]
  simp only;rw [fn,<- hz];refine aY rfl rfl ?_ rfl;simp [c1,c2]
 rw [ah c2];by_cases c3:65536 < s.length
 ·rw [aj c3]
  have c3':(65536:Int) < s.length:=by omega
  simp only;rw [fn,<- hz];refine aY rfl rfl ?_ rfl;simp [c1,c2,c3']
 rw [ah c3];have c3':¬ (65536:Int) < s.length:=by omega
 have kg:=qW s (by omega);by_cases e1:(ak s).2.2=0;rotate_left
 ·rw [aj e1]
  simp only;rw [fn,<- hz];generalize (ak s).2.2=e at *;refine aY rfl rfl ?_ rfl;simp [c1,c2,c3',kg,e1]
 rw [ah (λx=>x e1)];rw [e1] at kg;have v1:=ji e1;have l1:=v1.len;have t1:=v1.lt;have hdl:(s.drop (ak s).2.1).length=s.length - (ak s).2.1:=dW;have hwg:=aqW (s.drop (ak s).2.1) (by omega);obtain ⟨g1,g2,g3, -⟩:=OD (s.drop (ak s).2.1);clear v1 e1 hdl;generalize jY (s.drop (ak s).2.1)=F at *;generalize hT:s.drop (ak s).2.1=T at *;generalize (ak s).1=n at *;generalize (ak s).2.1=j at *;have hsub:(s.take s.length).drop j=T:=by rw [xU];exact hT
 have j0:(j:Int)<=s.length:=by omega
 have f0:=UZ 0;have f00:jw 0=0:=rfl;rw [f00] at f0;by_cases c4:8 < n
 ·rw [aj c4]
  have mM:¬ (n:Int)<=8:=by omega
  simp only;rw [fn,<- hz];refine aY rfl rfl ?_ rfl;simp [c1,c2,c3',kg,mM,f0]
 rw [ah c4];have mM:(n:Int)<=8:=by omega
 have wn:=wrap64 (n:=(n:Int)) (by omega) (by omega);have kf:=UZ (n:Int);by_cases c5:jw n=0
 ·rw [aj c5]
  rw [c5] at kf;simp only;rw [fn,<- hz];refine aY rfl rfl ?_ rfl;simp [c1,c2,c3',kg,mM,wn,kf]
 rw [ah c5];by_cases c6:v < jw n
 ·rw [aj c6]
  simp only;rw [fn,<- hz];generalize jw n=fk at *;refine aY rfl rfl ?_ rfl;simp [c1,c2,c3',kg,mM,wn,kf,c5,c6]
 rw [ah c6];by_cases e2:F.2=0;rotate_left
 ·rw [aj e2]
  simp only;rw [fn,<- hz];generalize jw n=fk at *;refine aY rfl rfl ?_ rfl;simp [c1,c2,c3',kg,mM,wn,kf,c5,c6,hsub,hT,j0,hwg,e2]
 rw [ah (λx=>x e2)];rw [e2] at hwg;have kn:=O9 n v (by omega) (by omega) (by omega);have kt:=akD n v (by omega) (by omega) (by omega);have k8:=BR n v;have kz:=ZQ (aH n v) (by omega) (.i .i64 v) (.i .i64 n) (.l (aA F.1)) (aH n v).length 0 [] (by omega);rw [eP] at kz;simp only [zf] at kz;have ks:=split_ok (aH n v) (by omega) F.1 g2 (by omega);have kd:=ZR (aH n v) (yF n v).1 (abx n v) (iZ (aH n v) F.1) (D6 _ g1) (iV (RH _ _) g2) (λf hf=>(qJ.1 hf).2) (.i .i64 v) (.l (aA (iK (aH n v) F.1))) (iZ (aH n v) F.1).length 0 { dw with kind:=n } (by omega) (XV n (by omega));rw [eP] at kd;simp only [zf] at kd;have hdw:=Tj (aH n v) (iZ (aH n v) F.1) { dw with kind:=n } (D6 _ g1) (XV n (by omega));have kc:=Vp (iQ (aH n v) { dw with kind:=n } (iZ (aH n v) F.1)).1 (iK (aH n v) F.1) v hdw.body hdw.t.few (D6 _ g1) (iV (RH _ _) g2);have hal:(((aH n v).map eF).length:Int)=((aH n v).length:Int):=by rw [vO]
 have hwl:=kY (iZ (aH n v) F.1);have hcz:(fC { dw with kind:=(n:Int) } []).cells=[.i .i64 (n:Int),.i .u64 0,.i .u64 0,.i .u64 0,.i .u64 0,.i .u64 0,.i .u64 0,.i .u64 0,.i .u64 0,.i .u64 0,.i .u64 0,.i .u64 0,.i .u64 0,.i .u64 0,.i .u64 0,.i .u64 0,.i .i64 0,.b false,.s [],.s [],.s [],.l [],.l [],.l []]:=rfl;rw [hcz] at kd;simp only [eG,dA] at kd;simp only;clear hdw hcz g1 g2 g3 k8;generalize iQ (aH n v) { dw with kind:=(n:Int) } (iZ (aH n v) F.1)=R at *;generalize iK (aH n v) F.1=O at *;generalize aA (iZ (aH n v) F.1)=W at *;generalize (iZ (aH n v) F.1).length=WL at *;generalize aA F.1=FG at *;generalize zX [] (aH n v)=MP at *;generalize (aH n v).map eF=SP at *;generalize qF (aH n v)=TG at *;generalize ((aH n v).length:Int)=L at *;generalize jw n=fk at *;by_cases e3:R.2=0;rotate_left
 ·rw [ah e3] at kd
  rw [aj e3];simp only;rw [fn,<- hz];generalize aA O=OG at *;clear kc;refine aY rfl rfl ?_ rfl;simp -implicitDefEqProofs (maxSteps:=10000000) [↓xq,c1,c2,c3',kg,mM,wn,kf,c5,c6,hsub,hT,j0,hwg,kn,hal,kz,kt,ks,hwl,kd,e3]
 rw [aj e3] at kd;rw [ah (λx=>x e3)];rw [dX] at kd;by_cases e4:fZ R.1 O v=0
 ·rw [ah (λx=>x e4)]
  rw [e4] at kc;simp only;generalize aA O=OG at *;clear e3 e4;refine aY rfl rfl ?_ rfl;simp -implicitDefEqProofs (maxSteps:=10000000) [↓xq,c1,c2,c3',kg,mM,wn,kf,c5,c6,hsub,hT,j0,hwg,kn,hal,kz,kt,ks,hwl,kd,kQ,kc]
 ·rw [aj e4]
  simp only;rw [fn,<- hz];generalize aA O=OG at *;generalize fZ R.1 O v=ck at *;refine aY rfl rfl ?_ rfl;simp -implicitDefEqProofs (maxSteps:=10000000) [↓xq,c1,c2,c3',kg,mM,wn,kf,c5,c6,hsub,hT,j0,hwg,kn,hal,kz,kt,ks,hwl,kd,kQ,kc,e4]
theorem LU (n:Nat) (x:List UInt8) (hn:n < 18446744073709551616):ak (aJ n++x)=(n,(aJ n).length,0):=Ar n x hn
theorem aqR (n:Nat):1<=(aJ n).length:=vH n
theorem WS:∀ (N:Nat) (L:List aC) (w ahead:Nat),cu L->pG L->wL L<=1000000000000->iH w (ahead:Int) L=0->w<=8->(bP L).length < N->bW N w ahead (bP L)=(L,0)
 | 0,L,w,ahead,_,_,_,_,_,h=>by omega
 | N+1,[],w,ahead,_,_,_,_,_,_=>by
   unfold bW;rw [aj (by simp only [bP])]
 | N+1,.mk t y n s k::L,w,ahead,hok,hty,hw,hc,h8,hl=>by
   have hwl:=hw;simp only [wL,wF] at hw;have hkl:=Ho (bV k+1) k (by omega) (by simp only [cu,nK] at hok;exact hok.1.2) (by simp only [pG,CU] at hty;exact hty.1.2.2) (by omega);obtain ⟨t1,t2,y1,y2,y3,tk⟩:=TV (LH hty (.mk t y n s k) (by simp));simp only [cu,nK] at hok;have OX:=LH hty (.mk t y n s k) (by simp);simp only [CU] at OX;have aj0:pG L:=by simp only [pG] at hty;exact hty.2
   -- the checks
   unfold iH at hc;by_cases h1:(aC.mk t y n s k).tag=0
   ·rw [aj h1] at hc;exact absurd hc (by decide)
   rw [ah h1] at hc;by_cases h2:4294967296 < (aC.mk t y n s k).tag
   ·rw [aj h2] at hc;exact absurd hc (by decide)
   rw [ah h2] at hc;by_cases h3:(aC.mk t y n s k).tag<=(ahead:Int)
   ·rw [aj h3] at hc;exact absurd hc (by decide)
   rw [ah h3] at hc;by_cases h4:vZ w (.mk t y n s k)=0;rotate_left
   ·rw [aj h4] at hc;exact absurd hc h4
   rw [ah (λe=>e h4)] at hc;have h3:¬ t<=(ahead:Int):=h3;have hc:iH w t L=0:=hc;clear h1 h2;have hT:((t.toNat:Nat):Int)=t:=by omega
   have hN:(4 * t+y).toNat=4 * t.toNat+y.toNat:=by omega
   have hv1:∀x,ak (aJ (4 * t+y).toNat++x)=((4 * t+y).toNat,(aJ (4 * t+y).toNat).length,0):=λx=>LU _ x (by omega);have hd4:(4 * t+y).toNat / 4=t.toNat:=by omega
   have hm4:(4 * t+y).toNat % 4=y.toNat:=by omega
   have ih:=WS N L w t.toNat hok.2 aj0 (by omega) (by rw [hT];exact hc) h8;simp only [bP,zI] at hl ⊢;simp only [dS] at hl;have p1:=aqR (4 * t+y).toNat;have hne:¬ (aJ (4 * t+y).toNat++(if y=0 then aJ n.toNat else if y=1 then aJ s.length++s else aJ (bP k).length++bP k)++bP L=[]):=by
    intro e;have:=qR List.length e;simp only [dS,qI] at this;omega
   unfold bW;rw [ah hne]
   -- one field
   have one:fH (λt=>bW N (w+1) 0 t) w ahead (aJ (4 * t+y).toNat++(if y=0 then aJ n.toNat else if y=1 then aJ s.length++s else aJ (bP k).length++bP k)++bP L)=(.mk t y n s k,(aJ (4 * t+y).toNat).length+(if y=0 then aJ n.toNat else if y=1 then aJ s.length++s else aJ (bP k).length++bP k).length,0):=by
    unfold fH;rw [List.append_assoc,hv1];simp only [ne_eq,not_true_eq_false,if_false,hd4,hm4,oM];rw [ah (by omega),ah (by omega),ah (by omega),ah (by omega)];rcases y3 with hy | hy | hy
    ·subst hy
     have e:=OX.2.1;obtain ⟨e1,e2⟩:s=[]/\k=[]:=by
      rcases e with e | e | e
      ·exact e.2
      ·exact absurd e.1 (by decide)
      ·exact absurd e.1 (by decide)
     subst e1;subst e2;simp only [if_true];rw [LU _ _ (by omega)];simp only [not_true_eq_false,if_false,Int.toNat_zero,if_true];rw [hT,show ((n.toNat:Nat):Int)=n by omega]
    ·subst hy
     have e:=OX.2.1;obtain ⟨e1,e2⟩:n=0/\k=[]:=by
      rcases e with e | e | e
      ·exact absurd e.1 (by decide)
      ·exact e.2
      ·exact absurd e.1 (by decide)
     subst e1;subst e2;simp only [show ((1:Int)=0)=False from by simp,show ((1:Int)=1)=True from by simp,if_false,if_true];rw [List.append_assoc,LU _ _ (by omega)];simp only [not_true_eq_false,if_false];rw [ah (show ¬ Int.toNat 1=0 by decide),ah (by simp only [dS];omega),aj (show Int.toNat 1=1 by decide)];rw [<- oq,oM,oM,MC];rw [hT];simp only [dS,iM]
    ·subst hy
     have e:=OX.2.1;obtain ⟨e1,e2⟩:n=0/\s=[]:=by
      rcases e with e | e | e
      ·exact absurd e.1 (by decide)
      ·exact absurd e.1 (by decide)
      ·exact e.2
     subst e1;subst e2;have h5:¬ 8<=w/\iH (w+1) 0 k=0:=by
      unfold vZ at h4;rw [ah (by decide),ah (by decide),aj rfl,aj ⟨rfl,rfl⟩] at h4;by_cases c:8<=w
      ·rw [aj c] at h4;exact absurd h4 (by decide)
      ·rw [ah c] at h4;exact ⟨c,h4⟩
     have ik:=WS N k (w+1) 0 hok.1.2 tk (by omega) h5.2 (by omega) (by
      simp only [ah (show ¬ (2:Int)=0 by decide),ah (show ¬ (2:Int)=1 by decide),dS] at hl;omega)
     simp only [show ((2:Int)=0)=False from by simp,show ((2:Int)=1)=False from by simp,if_false];rw [List.append_assoc,LU _ _ (by omega)];simp only [not_true_eq_false,if_false];rw [ah (show ¬ Int.toNat 2=0 by decide),ah (by simp only [dS];omega),ah (show ¬ Int.toNat 2=1 by decide),ah h5.1];rw [<- oq,oM,oM,MC];rw [ik];simp only [not_true_eq_false,if_false];rw [hT];simp only [dS,iM]
   rw [one];simp only [ne_eq,not_true_eq_false,if_false];rw [List.append_assoc,hv1];simp only [hd4];have hdrop:∀A B C:List UInt8,(A++(B++C)).drop (A.length+B.length)=C:=λA B C=>by rw [<- oq,oM,oM]
   rw [hdrop,ih (by omega)];simp
theorem ajg {L:List aC} (h:Rt L) (hl:(bP L).length<=65536):jY (bP L)=(L,0):=by
 unfold jY;rw [ah (by omega)];exact WS ((bP L).length+1) L 0 0 h.ok (NP (bV L+1) L (by omega) h.ok 0 0 h.chk (by omega)) h.w h.chk (by omega) (by omega)
theorem ahG {k w:Int} (hk:1<=k/\k<=8) (h1:1<=w) (h3:w<=3) (hf:jw k<=w) {L:List aC} (h:Rt L) (hl:(aJ k.toNat++bP L).length<=65536) :
 jE (aJ k.toNat++bP L) w=(if (iQ (aH k w) { dw with kind:=k } (iZ (aH k w) L)).2≠0 then (dw,[],(iQ (aH k w) { dw with kind:=k } (iZ (aH k w) L)).2) else
  if fZ (iQ (aH k w) { dw with kind:=k } (iZ (aH k w) L)).1 (iK (aH k w) L) w≠0 then (dw,[],fZ (iQ (aH k w) { dw with kind:=k } (iZ (aH k w) L)).1 (iK (aH k w) L) w) else ((iQ (aH k w) { dw with kind:=k } (iZ (aH k w) L)).1,iK (aH k w) L,0)):=by
 have hlf:(bP L).length<=65536:=by rw [dS] at hl;omega
 have hv:=LU k.toNat (bP L) (by omega);have hkk:((k.toNat:Nat):Int)=k:=by omega
 have hf0:jw k≠0:=by
  unfold jw;obtain ⟨a,b⟩:=hk;rcases (show k=1\/k=2\/k=3\/k=4\/k=5\/k=6\/k=7\/k=8 by omega) with rfl | rfl | rfl | rfl | rfl | rfl | rfl | rfl<;>decide
 have hg:=ajg h hlf;unfold jE;rw [ah (by omega),ah (by omega),ah (by omega),hv];simp only [ne_eq,not_true_eq_false,if_false,hkk,oM];rw [ah (by omega),ah hf0,ah (by omega),hg];simp only [not_true_eq_false,if_false]
/-- The parts for a message that some names tell, put into another one. -/
def kS (b c:aK):List cZ->aK
 | []=>c
 | s::l=>match placeOf s.name with
   | some p=>if (aP b p).1=0/\(aP b p).2=[] then kS b c l else kS b (vw b c p) l
   | none=>kS b c l
theorem G9 (s:cZ):∀l:List cZ,l.Pairwise (λa b=>a.tag < b.tag)->s∈l->l.find? (λx=>decide (x.tag=s.tag))=some s
 | [],_,h=>by cases h
 | a::l,hl,h=>by
   rw [pV] at hl;rw [List.find?_cons];rcases dh.1 h with e | h
   ·subst e;simp
   ·have:=hl.1 s h
    rw [Bo (show ¬ a.tag=s.tag by omega)];simp only;exact G9 s l hl.2 h
theorem ZU {b:aK} {fl:List aC} {u:Int} (hm:zq b fl) (hc:fZ b fl u=0) {l:List cZ} (hl:l.Pairwise (λa b=>a.tag < b.tag)):∀ (ls:List cZ) (c:aK),(∀s∈ls,s∈l)->iQ l c (jF b ls)=(kS b c ls,0)
 | [],c,_=>rfl
 | s::ls,c,hs=>by
   have ih:=λc=>ZU hm hc hl ls c (λx hx=>hs x (by simp [hx]));rw [BQ];unfold kS um;cases hp:placeOf s.name with
   | none=>
     simp only [dA];exact ih c
   | some p=>
     simp only;by_cases hz:(aP b p).1=0/\(aP b p).2=[]
     ·rw [aj hz,aj hz]
      simp only [dA];exact ih c
     ·rw [ah hz,ah hz]
      simp only [eG,dA];have hmay:=af9 hc hp hz;obtain ⟨g1, -, -,g4⟩:=ao7 hm.msg hm.short p hmay hz;have hfind:=G9 s l hl (hs s (by simp));unfold iQ;have e1:aC.tag (.mk s.tag (bJ p) (aP b p).1 (aP b p).2 [])=s.tag:=rfl;have e2:aC.typ (.mk s.tag (bJ p) (aP b p).1 (aP b p).2 [])=bJ p:=rfl;have e3:aC.num (.mk s.tag (bJ p) (aP b p).1 (aP b p).2 [])=(aP b p).1:=rfl;have e4:aC.txt (.mk s.tag (bJ p) (aP b p).1 (aP b p).2 [])=(aP b p).2:=rfl;rw [e1,hfind,e2,e3,e4];simp only [hp];rw [aj g1,g4];exact ih _
theorem Pe (k:Int) {w u:Int} (h:w<=u):aH k w=(aH k u).filter (λs=>decide (s.from_<=w)):=by
 unfold aH;rw [List.filter_filter];congr 1;funext s;by_cases h1:s.from_<=w
 ·have:s.from_<=u:=by omega
  simp [h1,this]
 ·simp [h1]
theorem ajs {l:List cZ} (hl:l.Pairwise (λa b=>a.tag < b.tag)) (q:cZ->Bool) {s:cZ} (hs:s∈l):hasTag (l.filter q) s.tag=q s:=by
 cases hq:q s with
 | true=>
   unfold hasTag;exact List.any_eq_true.2 ⟨s,qJ.2 ⟨hs,hq⟩,by simp⟩
 | false=>
   cases ht:hasTag (l.filter q) s.tag with
   | false=>rfl
   | true=>
     unfold hasTag at ht;obtain ⟨x,hx,e⟩:=List.any_eq_true.1 ht;have e:s.tag=x.tag:=zZ e;obtain ⟨hx1,hx2⟩:=qJ.1 hx;have f1:=G9 s l hl hs;have f2:=G9 x l hl hx1;rw [<- e,f1] at f2;injection f2 with f2
     rw [<- f2,hq] at hx2;cases hx2
theorem abr (b:aK) (P:Int->Bool) (q:cZ->Bool):∀ls:List cZ,(∀s∈ls,P s.tag=q s)->(jF b ls).filter (λf=>P f.tag)=jF b (ls.filter q)
 | [],_=>rfl
 | s::ls,h=>by
   have ih:=abr b P q ls (λx hx=>h x (by simp [hx]));have hs:=h s (by simp);rw [BQ,Yj,ih,Jm];cases hk:um b s with
   | none=>
     have hk0:∀z,jF b (s::z)=jF b z:=λz=>by rw [BQ,hk];rfl
     cases hq:q s with
     | true=>simp [hk0]
     | false=>simp
   | some f=>
     obtain ⟨p, -,rfl, -⟩:=KH hk;have ht:P (aC.mk s.tag (bJ p) (aP b p).1 (aP b p).2 []).tag=q s:=hs;cases hq:q s with
     | true=>
       rw [hq] at ht;simp only [Jm,ht,if_true,List.filter_nil];rw [BQ,hk]
     | false=>
       rw [hq] at ht;simp [Jm,ht]
theorem an0 {b:aK} {fl:List aC} {u w:Int} (hc:fZ b fl u=0) (h:w<=u):∀f∈fl,hasTag (aH b.kind w) f.tag=false:=λf hf=>by
 have h1:=(zF hc).2.2.2.2 f hf;cases ht:hasTag (aH b.kind w) f.tag with
 | false=>rfl
 | true=>
   rw [Pe b.kind h] at ht;unfold hasTag at ht h1;obtain ⟨x,hx,e⟩:=List.any_eq_true.1 ht;have:(aH b.kind u).any (λs=>decide (f.tag=s.tag))=true:=List.any_eq_true.2 ⟨x,(qJ.1 hx).1,e⟩;rw [this] at h1;exact h1
theorem aqZ {b:aK} {fl:List aC} {u w:Int} (hc:fZ b fl u=0) (h:w<=u):iZ (aH b.kind w) (qN b fl u)=jF b (aH b.kind w):=by
 obtain ⟨mp,ms⟩:=Ij (Gp hc);have hp:=mp.filter (λf=>hasTag (aH b.kind w) f.tag);rw [Yj] at hp;have e1:fl.filter (λf=>hasTag (aH b.kind w) f.tag)=[]:=afa.2 λf hf=>by rw [an0 hc h f hf];decide
 have e2:=abr b (hasTag (aH b.kind w)) (λs=>decide (s.from_<=w)) (aH b.kind u) (λs hs=>by
  rw [Pe b.kind h];exact ajs (yF b.kind u).1 _ hs)
 rw [<- Pe b.kind h] at e2;rw [e1,e2,mD] at hp;refine IZ _ _ hp ?_ (KI b _ (yF b.kind w).1);exact (ms.sublist Md).imp λh=>by omega
theorem ads (b c:aK) (p:Pl):bI (vw b c p) b p:=by
 cases p with
 | num k=>rcases k with _ | _ | _ | _ | _ | _ | _ | _ | _ | _ | _ | _ | _ | _ | k<;>rfl
 | _=>rfl
theorem WJ (b c d:aK) (p q:Pl) (hp:uq p) (hq:uq q) (hne:q≠p):bI (vw b c p) d q↔bI c d q:=by
 cases p with
 | num k=>
   cases q with
   | num j=>
     show jH (vw b c (.num k)) j=jH d j↔jH c j=jH d j
     rw [ana b c j k hp hq (λe=>hne (by rw [e]))]
   | _=>unfold vw;split<;>rename_i hk<;>cases hk<;>(split<;>exact FV)
 | _=>
   cases q with
   | num j=>exact FV
   | _=>first | exact FV | exact absurd rfl hne
theorem val_zero {b:aK} (q:Pl) (hm:jf b q=0) (h:(aP b q).1=0/\(aP b q).2=[]):fM b q=true:=by
 have kn:∀d:List dH,iF d≠[]:=λd e=>by
  have:=qR List.length e;unfold iF at this;have h2:=vH d.length;unfold bM at h2;simp only [dS,qI] at this;omega
 cases q with
 | rem=>
   simp only [aP] at h;simp only [fM,decide_eq_true_iff];have:=h.1;unfold zz at this;split at this<;>omega
 | allow=>
   simp only [aP] at h;simp only [fM];cases ha:b.allowed with
   | false=>rfl
   | true=>rw [ha] at h;simp at h
 | name=>simp only [aP] at h;simp only [fM,decide_eq_true_iff];exact h.2
 | region=>simp only [aP] at h;simp only [fM,decide_eq_true_iff];exact h.2
 | note=>simp only [aP] at h;simp only [fM,decide_eq_true_iff];exact h.2
 | d=>
   simp only [aP] at h;simp only [fM,decide_eq_true_iff];by_cases c:b.d=[]
   ·exact c
   ·rw [ah c] at h;exact absurd h.2 (kn _)
 | t=>
   simp only [aP] at h;simp only [jf] at hm;simp only [fM,decide_eq_true_iff];by_cases c:b.t=[]
   ·exact c
   ·rw [ah c] at h
    have hk:yM b.t=(lY b.t,0):=by unfold yM;rw [ah (λx=>x hm)]
    rw [hk] at h;have:=qR List.length h.2;unfold lY at this;have h2:=vH b.t.length;unfold bM at h2;simp only [dS,qI] at this;omega
 | num k=>simp only [aP] at h;simp only [fM,decide_eq_true_iff];exact h.1
/-- A part that some name tells is put, where it is something, or was nothing. -/
theorem Qh {b:aK} {q:Pl} (hq:uq q) (hmay:jf b q=0):∀ (ls:List cZ) (c:aK),(∃s∈ls,placeOf s.name=some q)->(fM b q=true->bI c b q)->bI (kS b c ls) b q
 | [],c,h,_=>by obtain ⟨s,hs, -⟩:=h;cases hs
 | s::ls,c,h,hc=>by
   have keep:∀ (ls:List cZ) (c:aK),bI c b q->bI (kS b c ls) b q:=λls=>by
    induction ls with
    | nil=>exact λc h=>h
    | cons s ls ih=>
      intro c h;unfold kS;cases hp:placeOf s.name with
      | none=>exact ih c h
      | some p=>
        simp only;split
        ·exact ih c h
        ·refine ih _ ?_
         by_cases e:q=p
         ·rw [e];exact ads b c p
         ·exact (WJ b c b p q (su s.name p hp).2.1 hq e).2 h
   unfold kS;cases hp:placeOf s.name with
   | none=>
     refine Qh hq hmay ls c ?_ hc;obtain ⟨x,hx,e⟩:=h;rcases dh.1 hx with rfl | hx
     ·rw [hp] at e;cases e
     ·exact ⟨x,hx,e⟩
   | some p=>
     simp only;by_cases e:q=p
     ·subst e
      split
      ·rename_i hz
       exact keep ls c (hc (val_zero q hmay hz))
      ·exact keep ls _ (ads b c q)
     ·have h':∃s∈ls,placeOf s.name=some q:=by
       obtain ⟨x,hx,ex⟩:=h;rcases dh.1 hx with rfl | hx
       ·rw [hp] at ex;injection ex with ex;exact absurd ex.symm e
       ·exact ⟨x,hx,ex⟩
      split
      ·exact Qh hq hmay ls c h' hc
      ·exact Qh hq hmay ls _ h' λhn=>(WJ b c b p q (su s.name p hp).2.1 hq e).2 (hc hn)
/-- A part that no name tells stays. -/
theorem adq {b d:aK} {q:Pl} (hq:uq q):∀ (ls:List cZ) (c:aK),(∀s∈ls,placeOf s.name≠some q)->(bI (kS b c ls) d q↔bI c d q)
 | [],c,_=>FV
 | s::ls,c,h=>by
   have ih:=λc=>adq (b:=b) (d:=d) hq ls c (λx hx=>h x (by simp [hx]));unfold kS;cases hp:placeOf s.name with
   | none=>exact ih c
   | some p=>
     have e:q≠p:=λe=>h s (by simp) (by rw [hp,e]);simp only;split
     ·exact ih c
     ·exact (ih _).trans (WJ b c d p q (su s.name p hp).2.1 hq e)
theorem IJ (b:aK):∀ (ls:List cZ) (c:aK),(kS b c ls).kind=c.kind
 | [],c=>rfl
 | s::ls,c=>by
   unfold kS;cases placeOf s.name with
   | none=>exact IJ b ls c
   | some p=>
     simp only;split
     ·exact IJ b ls c
     ·rw [IJ b ls,am9]
theorem ab6 (b:aK):∀ (l:List cZ),(∀s∈l,uY b s.name=0)->lX b l=0
 | [],_=>rfl
 | x::l,h=>by
   unfold lX;rw [aj (h x (by simp))];exact ab6 b l λs hs=>h s (by simp [hs])
theorem amx {b c:aK} {q:Pl} (h:bI b c q):jf b q=jf c q:=by
 cases q<;>simp only [bI] at h<;>simp only [jf,h]
theorem Vy {b:aK} {k:Int} {q:Pl} (h:fM b q=true):bI { dw with kind:=k } b q:=by
 cases q with
 | num j=>
   simp only [fM,decide_eq_true_iff] at h;show jH { dw with kind:=k } j=jH b j
   rw [h];unfold jH dw;split<;>rfl
 | allow=>simp only [fM,uJ] at h;show false=b.allowed;rw [h]
 | rem=>simp only [fM,decide_eq_true_iff] at h;show (0:Int)=b.remaining;rw [h]
 | name=>simp only [fM,decide_eq_true_iff] at h;show ([]:List UInt8)=b.name;rw [h]
 | region=>simp only [fM,decide_eq_true_iff] at h;show ([]:List UInt8)=b.region;rw [h]
 | note=>simp only [fM,decide_eq_true_iff] at h;show ([]:List UInt8)=b.note;rw [h]
 | d=>simp only [fM,decide_eq_true_iff] at h;show ([]:List dH)=b.d;rw [h]
 | t=>simp only [fM,decide_eq_true_iff] at h;show ([]:List Row)=b.t;rw [h]
theorem arh {b:aK} {k:Int} {q:Pl} (h:bI b { dw with kind:=k } q):fM b q=true:=by
 cases q with
 | num j=>
   have h:jH b j=jH { dw with kind:=k } j:=h;simp only [fM,decide_eq_true_iff];rw [h];unfold jH dw;split<;>rfl
 | allow=>have h:b.allowed=false:=h;simp [fM,h]
 | rem=>have h:b.remaining=0:=h;simp [fM,h]
 | name=>have h:b.name=[]:=h;simp [fM,h]
 | region=>have h:b.region=[]:=h;simp [fM,h]
 | note=>have h:b.note=[]:=h;simp [fM,h]
 | d=>have h:b.d=[]:=h;simp [fM,h]
 | t=>have h:b.t=[]:=h;simp [fM,h]
theorem acS (b:aK) (q:Pl):bI b b q:=by cases q<;>simp [bI]
/-- What is read at a version, part by part: a known one is as it was, all others are nothing. -/
theorem WU {b:aK} {fl:List aC} {u w:Int} (hc:fZ b fl u=0) (h:w<=u):(∀s∈aH b.kind w,∀q,placeOf s.name=some q->bI (kS b { dw with kind:=b.kind } (aH b.kind w)) b q/\jf b q=0)/\
 (∀n q,placeOf n=some q->nM (aH b.kind w) n=false->fM (kS b { dw with kind:=b.kind } (aH b.kind w)) q=true):=by
 have hmay:∀s∈aH b.kind w,uY b s.name=0:=λs hs=>by
  have hc':=hc;unfold fZ at hc';split at hc'; · cases hc'
  split at hc'; · cases hc'
  split at hc'; · cases hc'
  split at hc'; · cases hc'
  split at hc'
  ·rename_i hm;exact absurd hc' hm
  rename_i hm
  have hm:lX b (aH b.kind u)=0:=by simpa using hm
  rw [Pe b.kind h] at hs;exact PK b _ hm s (qJ.1 hs).1
 refine ⟨λs hs q hq=>?_,λn q hq hn=>?_⟩
 ·have hm:jf b q=0:=by
   have:=hmay s hs;unfold uY at this;rw [hq] at this;exact this
  exact ⟨Qh (su s.name q hq).2.1 hm _ _ ⟨s,hs,hq⟩ λhn=>Vy hn,hm⟩
 ·refine arh (k:=b.kind) ((adq (su n q hq).2.1 (aH b.kind w) _ λs hs e=>?_).2 (acS _ q))
  have:n=s.name:=Qa hq e;unfold nM at hn;have h3:(aH b.kind w).any (λs=>decide (s.name=n))=true:=List.any_eq_true.2 ⟨s,hs,by simp [this]⟩;rw [h3] at hn;cases hn
theorem akz {k w:Int} (h1:1<=w) (hf:jw k<=w):(k=1->(∃s∈aH k w,placeOf s.name=some (.num 1))/\∃s∈aH k w,placeOf s.name=some (.num 2))/\(k=2->∃s∈aH k w,placeOf s.name=some (.num 3))/\(k=3->∃s∈aH k w,placeOf s.name=some .d)/\(k=5->∃s∈aH k w,placeOf s.name=some (.num 9))/\(k=6->(∃s∈aH k w,placeOf s.name=some (.num 10))/\∃s∈aH k w,placeOf s.name=some (.num 9)):=by
 have mem:∀s:cZ,s∈lq k->s.from_<=w->s∈aH k w:=λs hs hw=>qJ.2 ⟨hs,by simpa using hw⟩;refine ⟨?_, ?_, ?_, ?_, ?_⟩
 ·rintro rfl
  exact ⟨⟨⟨1,0,1,[109,105,110]⟩,mem _ (by simp [lq,sp1,sp2,qB,qC,qE]) h1,rfl⟩,⟨⟨2,0,1,[109,97,120]⟩,mem _ (by simp [lq,sp1,sp2,qB,qC,qE]) h1,rfl⟩⟩
 ·rintro rfl
  exact ⟨⟨1,0,1,[99,104,111,115,101,110]⟩,mem _ (by simp [lq,sp1,sp2,qB,qC,qE]) h1,rfl⟩
 ·rintro rfl
  exact ⟨⟨2,4,1,[100,101,115,99,114]⟩,mem _ (by simp [lq,sp1,sp2,qB,qC,qE]) h1,rfl⟩
 ·rintro rfl
  exact ⟨⟨1,0,1,[101,112,111,99,104]⟩,mem _ (by simp [lq,sp1,sp2,qB,qC,qE]) h1,rfl⟩
 ·rintro rfl
  have h2:(2:Int)<=w:=hf;exact ⟨⟨⟨1,0,2,[98,97,115,101]⟩,mem _ (by simp [lq,sp1,sp2,qB,qC,qE]) h2,rfl⟩,⟨⟨2,0,2,[101,112,111,99,104]⟩,mem _ (by simp [lq,sp1,sp2,qB,qC,qE]) h2,rfl⟩⟩
theorem afK {b:aK} {B:aK} {w:Int} (hk:B.kind=b.kind) (h1:1<=w) (hf:jw b.kind<=w) (hp:∀s∈aH b.kind w,∀q,placeOf s.name=some q->bI B b q):tK B=tK b:=by
 obtain ⟨f1,f2,f3,f5,f6⟩:=akz (k:=b.kind) h1 hf;have get:∀q,(∃s∈aH b.kind w,placeOf s.name=some q)->bI B b q:=λq hq=>by
  obtain ⟨s,hs,e⟩:=hq;exact hp s hs q e
 unfold tK;rw [hk];by_cases c1:b.kind=1
 ·have a1:B.min=b.min:=get _ (f1 c1).1
  have a2:B.max=b.max:=get _ (f1 c1).2;rw [aj c1,aj c1,a1,a2]
 rw [ah c1,ah c1];by_cases c2:b.kind=2
 ·have a1:B.chosen=b.chosen:=get _ (f2 c2)
  rw [aj c2,aj c2,a1]
 rw [ah c2,ah c2];by_cases c3:b.kind=3
 ·have a1:B.d=b.d:=get _ (f3 c3)
  rw [aj c3,aj c3,a1]
 rw [ah c3,ah c3];by_cases c5:b.kind=5
 ·have a1:B.epoch=b.epoch:=get _ (f5 c5)
  rw [aj c5,aj c5,a1]
 rw [ah c5,ah c5];by_cases c6:b.kind=6
 ·have a1:B.base=b.base:=get _ (f6 c6).1
  have a2:B.epoch=b.epoch:=get _ (f6 c6).2;rw [aj c6,aj c6,a1,a2]
 rw [ah c6,ah c6]
theorem anS {b:aK} {fl:List aC} {u w:Int} (hc:fZ b fl u=0) (h1:1<=w) (h:w<=u) (hf:jw b.kind<=w):tK (kS b { dw with kind:=b.kind } (aH b.kind w))=tK b:=
 afK (IJ b _ _) h1 hf λs hs q e=>((WU hc h).1 s hs q e).1
/-- What is read at an elder version may be. -/
theorem anT {b:aK} {fl:List aC} {u w:Int} (hc:fZ b fl u=0) (h1:1<=w) (h:w<=u) (hf:jw b.kind<=w):fZ (kS b { dw with kind:=b.kind } (aH b.kind w)) (iK (aH b.kind w) (qN b fl u)) w=0:=by
 have hk:(kS b { dw with kind:=b.kind } (aH b.kind w)).kind=b.kind:=IJ b _ _;obtain ⟨hp1,hp2⟩:=WU hc h;have hb:=anS hc h1 h hf;obtain ⟨u1,u3,I8,hfl,hno⟩:=zF hc;obtain ⟨mp,ms⟩:=Ij (Gp hc);have hbd:tK b=0:=by
  have hc':=hc;unfold fZ at hc';rw [ah (by omega),ah (by omega),ah I8] at hc';by_cases h4:gB.all (λn=>nM (aH b.kind u) n || ng b n)=false
  ·rw [aj h4] at hc';exact absurd hc' (by decide)
  rw [ah h4] at hc';by_cases h5:lX b (aH b.kind u)≠0
  ·rw [aj h5] at hc';exact absurd hc' h5
  rw [ah h5] at hc';by_cases h6:tK b=0
  ·exact h6
  ·rw [aj h6] at hc';exact absurd hc' h6
 rw [hbd] at hb;have hne:aH b.kind w≠[]:=by
  have h0:=mt (KJ b.kind u u1 u3).2 I8;exact mt (KJ b.kind w h1 (by omega)).1 (by omega)
 have hml:lX (kS b { dw with kind:=b.kind } (aH b.kind w)) (aH b.kind w)=0:=ab6 _ _ λs hs=>by
  unfold uY;cases hq:placeOf s.name with
  | none=>rfl
  | some q=>
    obtain ⟨a1,a2⟩:=hp1 s hs q hq;simp only;rw [amx a1,a2]
 have hall:gB.all (λn=>nM (aH b.kind w) n || ng (kS b { dw with kind:=b.kind } (aH b.kind w)) n)=true:=List.all_eq_true.2 λn hn=>by
  cases hx:nM (aH b.kind w) n with
  | true=>rfl
  | false=>
    unfold ng;cases hq:placeOf n with
    | none=>exact absurd hq (acv n hn)
    | some q=>simp only [vK];exact hp2 n q hq hx
 have hrest:Fa (aH b.kind w) (iK (aH b.kind w) (qN b fl u))=0:=by
  have hco:iH 0 0 (iK (aH b.kind w) (qN b fl u))=0:=NM _ 0 0 (λf hf=>by
   have hf:=(qJ.1 hf).1;rcases lF.1 (mp.mem_iff.1 hf) with hf | hf
   ·exact (DV _ 0 0 (U2 b b.kind u)).1 f hf
   ·exact (DV _ 0 0 hfl).1 f hf) (ms.sublist Md)
  unfold Fa;rw [ah (λx=>x hco),ah];intro e;obtain ⟨f,hf,ht⟩:=List.any_eq_true.1 e;have:=(qJ.1 hf).2;rw [ht] at this;cases this
 generalize kS b { dw with kind:=b.kind } (aH b.kind w)=B at *;unfold fZ;rw [hk,ah (by omega),ah (by omega),ah hne,hall,ah (by decide),ah (λx=>x hml),ah (λx=>x hb)];exact hrest
theorem anU {b:aK} {fl:List aC} {u w:Int} (hm:zq b fl) (hc:fZ b fl u=0) (h1:1<=w) (h:w<=u) (hf:jw b.kind<=w) (hl:(bytesV b fl u).length<=65536):jE (bytesV b fl u) w=(kS b { dw with kind:=b.kind } (aH b.kind w),iK (aH b.kind w) (qN b fl u),0):=by
 obtain ⟨u1,u3,I8, -, -⟩:=zF hc;have hr:=anT hc h1 h hf;unfold bytesV at hl ⊢;rw [ahG (abp I8) h1 (by omega) hf (YR hm hc) hl,aqZ hc h,ZU hm hc (yF b.kind w).1 (aH b.kind w) _ (λs hs=>hs)];simp only [ne_eq,not_true_eq_false,if_false];rw [ah (λx=>x hr)]
theorem amy {b c:aK} {q:Pl} (h:bI b c q):aP b q=aP c q:=by
 cases q<;>simp only [bI] at h<;>simp only [aP,h]
/-- Read at its own version a message is as it was. -/
theorem anV {b:aK} {fl:List aC} {u:Int} (hc:fZ b fl u=0):kS b { dw with kind:=b.kind } (aH b.kind u)=b/\iK (aH b.kind u) (qN b fl u)=fl:=by
 have hk:(kS b { dw with kind:=b.kind } (aH b.kind u)).kind=b.kind:=IJ b _ _;obtain ⟨hp1,hp2⟩:=WU hc (FW u);obtain ⟨u1,u3,I8,hfl,hno⟩:=zF hc;obtain ⟨mp,ms⟩:=Ij (Gp hc);constructor
 ·refine (parts_all _ b hk).1 λn hn q hq=>?_
  cases hx:nM (aH b.kind u) n with
  | true=>
    unfold nM at hx;obtain ⟨s,hs,e⟩:=List.any_eq_true.1 hx;have e:s.name=n:=zZ e;exact (hp1 s hs q (by rw [e];exact hq)).1
  | false=>
    have hB:=hp2 n q hq hx;have hbn:fM b q=true:=by
     have hc':=hc;unfold fZ at hc';rw [ah (by omega),ah (by omega),ah I8] at hc';by_cases h4:gB.all (λn=>nM (aH b.kind u) n || ng b n)=false
     ·rw [aj h4] at hc';exact absurd hc' (by decide)
     rw [L6] at h4;have:=List.all_eq_true.1 h4 n hn;rw [hx,vK] at this;unfold ng at this;rw [hq] at this;exact this
    have z1:=Vy (k:=0) hB;have z2:=Vy (k:=0) hbn;generalize kS b { dw with kind:=b.kind } (aH b.kind u)=B at *;cases q<;>simp only [bI] at z1 z2 ⊢<;>rw [<- z1,<- z2]
 ·have hpf:=mp.filter (λf=>!hasTag (aH b.kind u) f.tag)
  rw [Yj] at hpf;have e1:fl.filter (λf=>!hasTag (aH b.kind u) f.tag)=fl:=List.filter_eq_self.2 λf hf=>by rw [hno f hf];rfl
  have e2:(jF b (aH b.kind u)).filter (λf=>!hasTag (aH b.kind u) f.tag)=[]:=afa.2 λf hf=>by
   obtain ⟨s,hs,p, -,rfl, -⟩:=Ic hf;have:hasTag (aH b.kind u) s.tag=true:=by unfold hasTag;exact List.any_eq_true.2 ⟨s,hs,by simp⟩
   show ¬ (!hasTag (aH b.kind u) s.tag)=true
   rw [this];decide
  rw [e1,e2,dA] at hpf;exact IZ _ _ hpf ((ms.sublist Md).imp λh=>by omega) (DV fl 0 0 hfl).2
theorem aeS (p:aC->Bool):∀l:List aC,wL (l.filter p)<=wL l
 | []=>by simp [wL]
 | f::l=>by
   have ih:=aeS p l;rw [Jm];split
   ·simp only [wL];omega
   ·simp only [wL];omega
theorem ahW {b:aK} {fl:List aC} {u:Int} (h:(lV b fl u).2=0):fZ b fl u=0/\(bytesV b fl u).length<=65536/\lV b fl u=(bytesV b fl u,0):=by
 unfold lV at h ⊢;by_cases c:fZ b fl u=0
 ·rw [aj c] at h ⊢
  by_cases c2:65536 < (bytesV b fl u).length
  ·rw [aj c2] at h;exact absurd h (by simp)
  ·rw [ah c2]
   exact ⟨c,by omega,rfl⟩
 ·rw [ah c] at h
  exact absurd h c
theorem ZT (l:List cZ):∀ (fs:List aC) (b:aK),(iQ l b fs).2=0->(iQ l b fs).1.kind=b.kind
 | [],b,_=>rfl
 | f::fs,b,h=>by
   unfold iQ at h ⊢;cases hq:l.find? (λs=>decide (s.tag=f.tag)) with
   | none=>rw [hq] at h;exact absurd h (by simp)
   | some s=>
     rw [hq] at h;simp only at h ⊢;cases hp:placeOf s.name with
     | none=>rw [hp] at h;exact absurd h (by simp)
     | some p=>
       rw [hp] at h;simp only at h ⊢;by_cases hc:jD f.typ f.num f.txt p=0
       ·rw [aj hc] at h ⊢
        rw [ZT l fs _ h,adT]
       ·rw [ah hc] at h;exact absurd h hc
theorem ahF (s:List UInt8) (v:Int):ou (jE s v).1 (jE s v).2.1:=by
 unfold jE;obtain ⟨g1,g2, -⟩:=OD (s.drop (ak s).2.1);repeat' split
 all_goals first | exact CZ | skip
 have h:=Tj (aH (ak s).1 v) (iZ (aH (ak s).1 v) (jY (s.drop (ak s).2.1)).1) { dw with kind:=(ak s).1 } (D6 _ g1) (XV (ak s).1 (by omega));simp only;split
 ·exact CZ
 ·split
  ·exact CZ
  ·exact ⟨h.body,h.d,h.t,D6 _ g1,iV (RH _ _) g2⟩
theorem ao9 (b:aK) (n:Int) (s:List UInt8) (j k:Nat) (hk:k < 15) (hj:j < 15) (hne:j≠k):jH (setB b n s (.num k)) j=jH b j:=by
 rcases k with _ | _ | _ | _ | _ | _ | _ | _ | _ | _ | _ | _ | _ | _ | _ | k
 all_goals first | (exfalso;omega) | skip
 all_goals (rcases j with _ | _ | _ | _ | _ | _ | _ | _ | _ | _ | _ | _ | _ | _ | _ | j)<;>first | rfl | exact absurd rfl hne | (exfalso;omega)
theorem apa (b d:aK) (n:Int) (s:List UInt8) (p q:Pl) (hp:uq p) (hq:uq q) (hne:q≠p):bI (setB b n s p) d q↔bI b d q:=by
 cases p with
 | num k=>
   cases q with
   | num j=>
     show jH (setB b n s (.num k)) j=jH d j↔jH b j=jH d j
     rw [ao9 b n s j k hp hq (λe=>hne (by rw [e]))]
   | _=>unfold setB;split<;>rename_i hk<;>cases hk<;>(split<;>exact FV)
 | _=>
   cases q with
   | num j=>exact FV
   | _=>first | exact FV | exact absurd rfl hne
theorem af8 {b:aK} {fl:List aC} {v:Int} (h:fZ b fl v=0):(∀n∈gB,∀q,placeOf n=some q->nM (aH b.kind v) n=false->fM b q=true)/\(∀s∈aH b.kind v,∀q,placeOf s.name=some q->jf b q=0)/\tK b=0/\Fa (aH b.kind v) fl=0:=by
 unfold fZ at h;by_cases h1:v < 1
 ·rw [aj h1] at h;exact absurd h (by decide)
 rw [ah h1] at h;by_cases h2:3 < v
 ·rw [aj h2] at h;exact absurd h (by decide)
 rw [ah h2] at h;by_cases h3:aH b.kind v=[]
 ·rw [aj h3] at h;exact absurd h (by decide)
 rw [ah h3] at h;by_cases h4:gB.all (λn=>nM (aH b.kind v) n || ng b n)=false
 ·rw [aj h4] at h;exact absurd h (by decide)
 rw [ah h4] at h;by_cases h5:lX b (aH b.kind v)≠0
 ·rw [aj h5] at h;exact absurd h h5
 rw [ah h5] at h;by_cases h6:tK b≠0
 ·rw [aj h6] at h;exact absurd h h6
 rw [ah h6] at h;refine ⟨λn hn q hq hx=>?_,λs hs q hq=>?_,by simpa using h6,h⟩
 ·rw [L6] at h4
  have:=List.all_eq_true.1 h4 n hn;rw [hx,vK] at this;unfold ng at this;rw [hq] at this;exact this
 ·have:=PK b _ (by simpa using h5) s hs
  unfold uY at this;rw [hq] at this;exact this
theorem ajr {l:List cZ} {n:List UInt8}:nM l n=true↔∃s∈l,s.name=n:=by
 unfold nM;rw [List.any_eq_true];exact ⟨λ⟨s,h,e⟩=>⟨s,h,zZ e⟩,λ⟨s,h,e⟩=>⟨s,h,DY e⟩⟩
theorem ajj {b:aK} {fl:List aC} (hm:zq b fl) (v:Int):TT.lim 156 [fC b (aA fl),.i .i64 v]=some [.b (decide ((lV b fl v).2=0))]:=by
 have k:=P8 hm v;generalize lV b fl v=E at *;generalize aA fl=r at *;refine aY rfl rfl ?_ rfl;simp -implicitDefEqProofs (maxSteps:=10000000) [↓xq,kQ,k]
theorem XJ {s:List UInt8} (h:oK s 0 256=0):s.length<=600:=by
 unfold oK at h;split at h
 ·cases h
 ·split at h
  ·cases h
  ·omega
theorem apc {b:aK} {fl:List aC} {v:Int} (h:fZ b fl v=0):Short b:=by
 obtain ⟨c1,c2, -, -⟩:=af8 h;have key:∀n q,placeOf n=some q->jf b q=0\/fM b q=true:=λn q e=>by
  cases hx:nM (aH b.kind v) n with
  | true=>
    obtain ⟨s,hs,es⟩:=ajr.1 hx;exact .inl (c2 s hs q (by rw [es];exact e))
  | false=>exact .inr (c1 n (su n q e).2.2 q e hx)
 refine ⟨?_, ?_, ?_⟩
 ·rcases key Ce .name Wv with k | k
  ·exact XJ k
  ·simp only [fM,decide_eq_true_iff] at k;rw [k];simp
 ·rcases key Cj .region Wy with k | k
  ·exact XJ k
  ·simp only [fM,decide_eq_true_iff] at k;rw [k];simp
 ·rcases key Ci .note Wx with k | k
  ·exact XJ k
  ·simp only [fM,decide_eq_true_iff] at k;rw [k];simp
theorem ahH {s:List UInt8} {v:Int} (h:(jE s v).2.2=0):zq (jE s v).1 (jE s v).2.1:=by
 have mo:=ahF s v;obtain ⟨g1,g2,g3,g4⟩:=OD (s.drop (ak s).2.1);have q1:=QT (λf=>!hasTag (aH (ak s).1 v) f.tag) (jY (s.drop (ak s).2.1)).1;have q2:=aeS (λf=>!hasTag (aH (ak s).1 v) f.tag) (jY (s.drop (ak s).2.1)).1;unfold jE at h mo ⊢;by_cases c1:v < 1
 ·rw [aj c1] at h;exact absurd h (by decide)
 rw [ah c1] at h mo ⊢;by_cases c2:3 < v
 ·rw [aj c2] at h;exact absurd h (by decide)
 rw [ah c2] at h mo ⊢;by_cases c3:65536 < s.length
 ·rw [aj c3] at h;exact absurd h (by decide)
 rw [ah c3] at h mo ⊢;by_cases c4:(ak s).2.2≠0
 ·rw [aj c4] at h;exact absurd h c4
 rw [ah c4] at h mo ⊢;by_cases c5:8 < (ak s).1
 ·rw [aj c5] at h;exact absurd h (by decide)
 rw [ah c5] at h mo ⊢;by_cases c6:jw (ak s).1=0
 ·rw [aj c6] at h;exact absurd h (by decide)
 rw [ah c6] at h mo ⊢;by_cases c7:v < jw (ak s).1
 ·rw [aj c7] at h;exact absurd h (by decide)
 rw [ah c7] at h mo ⊢;by_cases c8:(jY (s.drop (ak s).2.1)).2≠0
 ·rw [aj c8] at h;exact absurd h c8
 rw [ah c8] at h mo ⊢;simp only at h mo ⊢;generalize iQ (aH (ak s).1 v) { dw with kind:=((ak s).1:Nat) } (iZ (aH (ak s).1 v) (jY (s.drop (ak s).2.1)).1)=R at *;by_cases c9:R.2≠0
 ·rw [aj c9] at h;exact absurd h c9
 rw [ah c9] at h mo ⊢;by_cases d1:fZ R.1 (iK (aH (ak s).1 v) (jY (s.drop (ak s).2.1)).1) v≠0
 ·rw [aj d1] at h;exact absurd h d1
 rw [ah d1] at mo ⊢;refine ⟨mo,apc (by simpa using d1), ?_, ?_⟩
 ·unfold iK;simp only;omega
 ·unfold iK;simp only;omega
theorem ae1:GV.g [.i .i64 0,.i .u64 0,.i .u64 0,.i .u64 0,.i .u64 0,.i .u64 0,.i .u64 0,.i .u64 0,.i .u64 0,.i .u64 0,.i .u64 0,.i .u64 0,.i .u64 0,.i .u64 0,.i .u64 0,.i .u64 0,.i .i64 0,.b false,.s [],.s [],.s [],.l [],.l [],.l []]=fC dw []:=rfl
end S
end Go.Proofs.YtnlegpmfkopalaaGreatDoor
