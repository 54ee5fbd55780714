/- What the trees compute: plain laws. -/
import Derived.Test.YthgifdbaegpbpaaGreatDoorKVe5
namespace Go.Proofs.YthgifdbaegpbpaaGreatDoor
open Go Go.aK
set_option linter.unusedSimpArgs false
set_option linter.unusedVariables false
set_option maxRecDepth 100000
namespace V
/-- The field that stands next, within so many lists, above a tag; how many bytes it took; the code. -/
def fA (rec:List UInt8->List aS×Int) (w:Nat) (ahead:Nat) (s:List UInt8):aS×Nat×Int:=
 if (aj s).2.2≠0 then (.mk 0 0 0 [] [],0,(aj s).2.2)
 else if (aj s).1 / 4=0 then (.mk 0 0 0 [] [],0,18)
 else if 4294967296 < (aj s).1 / 4 then (.mk 0 0 0 [] [],0,18)
 else if 3<=(aj s).1 % 4 then (.mk 0 0 0 [] [],0,8)
 else if (aj s).1 / 4<=ahead then (.mk 0 0 0 [] [],0,7)
 else
  let r:=s.drop (aj s).2.1
  let k:=(aj s).2.1+(aj r).2.1
  if (aj r).2.2≠0 then (.mk 0 0 0 [] [],0,(aj r).2.2)
  else if (aj s).1 % 4=0 then (.mk ((aj s).1 / 4:Nat) 0 (aj r).1 [] [],k,0)
  else if s.length - k < (aj r).1 then (.mk 0 0 0 [] [],0,1)
  else if (aj s).1 % 4=1 then (.mk ((aj s).1 / 4:Nat) 1 0 ((s.drop k).take (aj r).1) [],k+(aj r).1,0)
  else if 8<=w then (.mk 0 0 0 [] [],0,9)
  else if (rec ((s.drop k).take (aj r).1)).2≠0 then (.mk 0 0 0 [] [],0,(rec ((s.drop k).take (aj r).1)).2)
  else (.mk ((aj s).1 / 4:Nat) 2 0 [] (rec ((s.drop k).take (aj r).1)).1,k+(aj r).1,0)
/-- Fields, within so many lists, above a tag. -/
def bG:Nat->Nat->Nat->List UInt8->List aS×Int
 | 0,_,_,_=>([],0)
 | N+1,w,ahead,s=>if s=[] then ([],0) else
   if (fA (λt=>bG N (w+1) 0 t) w ahead s).2.2≠0 then ([],(fA (λt=>bG N (w+1) 0 t) w ahead s).2.2)
   else if (bG N w ((aj s).1 / 4) (s.drop (fA (λt=>bG N (w+1) 0 t) w ahead s).2.1)).2≠0 then ([],(bG N w ((aj s).1 / 4) (s.drop (fA (λt=>bG N (w+1) 0 t) w ahead s).2.1)).2)
   else ((fA (λt=>bG N (w+1) 0 t) w ahead s).1::(bG N w ((aj s).1 / 4) (s.drop (fA (λt=>bG N (w+1) 0 t) w ahead s).2.1)).1,0)
theorem ad1 (n:Nat) (hn:n < 18446744073709551616):gI .and .u64 (n:Int) 3=some (.i .u64 ((n:Int) % 4)):=by
 have wu:∀y:Int,IntKind.u64.wrap y=y % 18446744073709551616:=λy=>by simp [IntKind.wrap,IntKind.signed,IntKind.bits]
 have e:n &&& 3=n % 4:=adN n 2;have h1:(BitVec.ofInt 64 (n:Int)).toNat=n:=by rw [Dc];omega
 have h3:(BitVec.ofInt 64 3).toNat=3:=by decide
 show some (GV.i IntKind.u64 (IntKind.u64.wrap ((BitVec.ofInt 64 (n:Int) &&& BitVec.ofInt 64 3).toNat:Int)))=_
 rw [WA,h1,h3,e,wu];congr 2;omega
theorem aoJ (n:Nat):pY .shr .u64 (n:Int) 2=some (.i .u64 ((n:Int) / 4)):=by
 show some (GV.i IntKind.u64 ((n:Int).fdiv (2 ^ 2)))=_
 rw [WO _ (by decide)];rfl
theorem alQ (t y w:GV) (s:List UInt8) (at':Nat) (h:at'<=s.length) (hs:s.length<=100000000) (n x:GV) :
 TT.lim 11 [t,y,w,.s s,.i .i64 at',n,x]=some [.i .i64 0,.i .i64 (aj (s.drop at')).2.2,.i .u64 ((aj (s.drop at')).1:Nat),.s s,.i .i64 ((at'+(aj (s.drop at')).2.1:Nat):Int)]:=by
 have k:=zD s at' h (by omega);refine ay rfl rfl ?_;simp [k]
theorem alS (t y w:GV) (s:List UInt8) (at':Nat) (h:at'<=s.length) (hs:s.length<=100000000) (n:GV) :
 ∃a,TT.lim 12 [t,y,w,.s s,.i .i64 at',n,.s []]=some
  (if (aj (s.drop at')).2.2≠0 then [.i .i64 0,.i .i64 (aj (s.drop at')).2.2,.s [],.s s,.i .i64 (a:Nat)]
  else if s.length - (at'+(aj (s.drop at')).2.1) < (aj (s.drop at')).1 then [.i .i64 0,.i .i64 1,.s [],.s s,.i .i64 (a:Nat)]
  else [.i .i64 0,.i .i64 0,.s ((s.drop (at'+(aj (s.drop at')).2.1)).take (aj (s.drop at')).1),.s s,.i .i64 ((at'+(aj (s.drop at')).2.1+(aj (s.drop at')).1:Nat):Int)]):=by
 have k:=zD s at' h (by omega);by_cases he:(aj (s.drop at')).2.2=0;rotate_left
 ·refine ⟨at'+(aj (s.drop at')).2.1, ?_⟩
  rw [ak he];generalize (aj (s.drop at')).2.2=e at *;refine ay rfl rfl ?_;simp [k,he]
 have hv:=ig he;have hl:=hv.len;have hlt:=hv.lt;rw [cZ] at hl;rw [he] at k;refine ⟨at'+(aj (s.drop at')).2.1, ?_⟩;rw [ah (λx=>x he)];clear he;generalize (aj (s.drop at')).1=m at *;generalize (aj (s.drop at')).2.1=j at *;have w1:=wrap64 (n:=(s.length:Int) - ((at'+j:Nat):Int)) (by omega) (by omega);have w2:=dX (n:=(s.length:Int) - ((at'+j:Nat):Int)) (by omega) (by omega);by_cases c:s.length - (at'+j) < m
 ·have c':(s.length:Int) - ((at'+j:Nat):Int) < (m:Int):=by omega
  rw [ak c];generalize ((at'+j:Nat):Int)=A at *;refine ay rfl rfl ?_;simp [k,w1,w2,c']
 ·have c':¬ ((s.length:Int) - ((at'+j:Nat):Int) < (m:Int)):=by omega
  rw [ah c];have w3:=wrap64 (n:=(m:Int)) (by omega) (by omega);have w4:=wrap64 (n:=((at'+j:Nat):Int)+(m:Int)) (by omega) (by omega);have e4:((at'+j:Nat):Int)+(m:Int)=((at'+j+m:Nat):Int):=by omega
  rw [e4] at w4;have b1:(0:Int)<=((at'+j:Nat):Int)/\((at'+j:Nat):Int)<=((at'+j+m:Nat):Int)/\((at'+j+m:Nat):Int)<=s.length:=by omega
  have hsl:(s.take (at'+j+m)).drop (at'+j)=(s.drop (at'+j)).take m:=by rw [xP,show at'+j+m - (at'+j)=m by omega]
  have t1:(((at'+j:Nat):Int)).toNat=at'+j:=by omega
  have t2:(((at'+j+m:Nat):Int)).toNat=at'+j+m:=by omega
  generalize hA:((at'+j:Nat):Int)=A at *;generalize hB:((at'+j+m:Nat):Int)=B at *;refine ay rfl rfl ?_;simp [k,w1,w2,c',w3,e4,w4,b1,t1,t2,hsl]
/-- What is told for reading up to a size. -/
def Iu (N:Nat):Prop:=∀ (w ahead at':Nat) (s:List UInt8),at'<=s.length->s.length<=100000000->(s.drop at').length < N->w<=8->ahead < 18446744073709551616->∃a b,TT.lim 7 [.s s,.i .i64 (w:Nat),.i .u64 (ahead:Nat),.i .i64 (at':Nat)]=some [.i .i64 0,.l (aC (bG N w ahead (s.drop at')).1),.i .i64 (bG N w ahead (s.drop at')).2,.i .u64 (a:Nat),.s s,.i .i64 (b:Nat)]
theorem alN {N:Nat} (hN:Iu N) (t y:GV) (w:Nat) (hw:w<=8) (s:List UInt8) (at':Nat) (h:at'<=s.length) (hs:s.length<=100000000) (Nv:(s.drop at').length<=N) (n x:GV) :
 ∃a,TT.lim 13 [t,y,.i .i64 (w:Nat),.s s,.i .i64 at',n,x]=some
  (if (aj (s.drop at')).2.2≠0 then [.i .i64 0,.i .i64 (aj (s.drop at')).2.2,.l [],.s s,.i .i64 (a:Nat)]
  else if s.length - (at'+(aj (s.drop at')).2.1) < (aj (s.drop at')).1 then [.i .i64 0,.i .i64 1,.l [],.s s,.i .i64 (a:Nat)]
  else if 8<=w then [.i .i64 0,.i .i64 9,.l [],.s s,.i .i64 (a:Nat)]
  else [.i .i64 0,.i .i64 (bG N (w+1) 0 ((s.drop (at'+(aj (s.drop at')).2.1)).take (aj (s.drop at')).1)).2,.l (aC (bG N (w+1) 0 ((s.drop (at'+(aj (s.drop at')).2.1)).take (aj (s.drop at')).1)).1),.s s,.i .i64 ((at'+(aj (s.drop at')).2.1+(aj (s.drop at')).1:Nat):Int)]):=by
 have k:=zD s at' h (by omega);by_cases he:(aj (s.drop at')).2.2=0;rotate_left
 ·refine ⟨at'+(aj (s.drop at')).2.1, ?_⟩
  rw [ak he];generalize (aj (s.drop at')).2.2=e at *;refine ay rfl rfl ?_;simp [k,he]
 have hv:=ig he;have hl:=hv.len;have hlt:=hv.lt;have hp:=hv.pos;rw [cZ] at hl Nv;rw [he] at k;by_cases c:s.length - (at'+(aj (s.drop at')).2.1) < (aj (s.drop at')).1
 ·refine ⟨at'+(aj (s.drop at')).2.1, ?_⟩
  rw [ah (λx=>x he),ak c];clear he;generalize (aj (s.drop at')).1=m at *;generalize (aj (s.drop at')).2.1=j at *;have w1:=wrap64 (n:=(s.length:Int) - ((at'+j:Nat):Int)) (by omega) (by omega);have w2:=dX (n:=(s.length:Int) - ((at'+j:Nat):Int)) (by omega) (by omega);have c':(s.length:Int) - ((at'+j:Nat):Int) < (m:Int):=by omega
  generalize ((at'+j:Nat):Int)=A at *;refine ay rfl rfl ?_;simp [k,w1,w2,c']
 by_cases c8:8<=w
 ·refine ⟨at'+(aj (s.drop at')).2.1+(aj (s.drop at')).1, ?_⟩
  rw [ah (λx=>x he),ah c,ak c8];clear he;generalize (aj (s.drop at')).1=m at *;generalize (aj (s.drop at')).2.1=j at *;have w1:=wrap64 (n:=(s.length:Int) - ((at'+j:Nat):Int)) (by omega) (by omega);have w2:=dX (n:=(s.length:Int) - ((at'+j:Nat):Int)) (by omega) (by omega);have c':¬ ((s.length:Int) - ((at'+j:Nat):Int) < (m:Int)):=by omega
  have w3:=wrap64 (n:=(m:Int)) (by omega) (by omega);have w4:=wrap64 (n:=((at'+j:Nat):Int)+(m:Int)) (by omega) (by omega);have e4:((at'+j:Nat):Int)+(m:Int)=((at'+j+m:Nat):Int):=by omega
  rw [e4] at w4;have b1:(0:Int)<=((at'+j:Nat):Int)/\((at'+j:Nat):Int)<=((at'+j+m:Nat):Int)/\((at'+j+m:Nat):Int)<=s.length:=by omega
  have wH:(8:Int)<=(w:Int):=by omega
  generalize hA:((at'+j:Nat):Int)=A at *;generalize hB:((at'+j+m:Nat):Int)=B at *;refine ay rfl rfl ?_;simp [k,w1,w2,c',w3,e4,w4,b1,wH]
 ·refine ⟨0, ?_⟩
  rw [ah (λx=>x he),ah c,ah c8];clear he;generalize (aj (s.drop at')).1=m at *;generalize (aj (s.drop at')).2.1=j at *;have hr:=hN (w+1) 0 0 ((s.drop (at'+j)).take m) (by omega) (by rw [jR,cZ];omega) (by rw [dF,jR,cZ];omega) (by omega) (by omega);obtain ⟨a,b,hr⟩:=hr;rw [dF] at hr;have w1:=wrap64 (n:=(s.length:Int) - ((at'+j:Nat):Int)) (by omega) (by omega);have w2:=dX (n:=(s.length:Int) - ((at'+j:Nat):Int)) (by omega) (by omega);have c':¬ ((s.length:Int) - ((at'+j:Nat):Int) < (m:Int)):=by omega
  have w3:=wrap64 (n:=(m:Int)) (by omega) (by omega);have w4:=wrap64 (n:=((at'+j:Nat):Int)+(m:Int)) (by omega) (by omega);have e4:((at'+j:Nat):Int)+(m:Int)=((at'+j+m:Nat):Int):=by omega
  rw [e4] at w4;have b1:(0:Int)<=((at'+j:Nat):Int)/\((at'+j:Nat):Int)<=((at'+j+m:Nat):Int)/\((at'+j+m:Nat):Int)<=s.length:=by omega
  have hsl:(s.take (at'+j+m)).drop (at'+j)=(s.drop (at'+j)).take m:=by rw [xP,show at'+j+m - (at'+j)=m by omega]
  have t1:(((at'+j:Nat):Int)).toNat=at'+j:=by omega
  have t2:(((at'+j+m:Nat):Int)).toNat=at'+j+m:=by omega
  have wH:¬ (8:Int)<=(w:Int):=by omega
  have w5:=wrap64 (n:=(w:Int)+1) (by omega) (by omega);have e5:(w:Int)+1=((w+1:Nat):Int):=by omega
  simp only [rD] at hr;rw [<- e5] at hr;generalize (s.drop (at'+j)).take m=T at *;generalize bG N (w+1) 0 T=R at *;generalize hA:((at'+j:Nat):Int)=A at *;generalize hB:((at'+j+m:Nat):Int)=B at *;generalize hW:(w:Int)=W at *;clear e5;refine ay rfl rfl ?_;simp [k,w1,w2,c',w3,e4,w4,b1,t1,t2,hsl,wH,w5,hr]
theorem alP {N:Nat} (hN:Iu N) (w ahead:Nat) (hw:w<=8) (ha:ahead < 18446744073709551616) (s:List UInt8) (at':Nat) (h:at'<=s.length) (hs:s.length<=100000000) (Nv:(s.drop at').length<=N+1) :
 ∃a b:Nat,TT.lim 9 [.i .i64 (w:Nat),.i .u64 (ahead:Nat),.s s,.i .i64 at']=some (.i .i64 0::((iR (fA (λt=>bG N (w+1) 0 t) w ahead (s.drop at')).1).cells++[.i .i64 (fA (λt=>bG N (w+1) 0 t) w ahead (s.drop at')).2.2,.i .u64 (a:Nat),.s s,.i .i64 (b:Nat)]))/\
  ((fA (λt=>bG N (w+1) 0 t) w ahead (s.drop at')).2.2=0->a=(aj (s.drop at')).1 / 4/\b=at'+(fA (λt=>bG N (w+1) 0 t) w ahead (s.drop at')).2.1/\1<=(fA (λt=>bG N (w+1) 0 t) w ahead (s.drop at')).2.1/\b<=s.length):=by
 have k:=zD s at' h (by omega);have fn:aC []=[]:=by simp only [aC]
 have hz:(iR (.mk 0 0 0 [] [])).cells=[.i .u64 0,.i .i64 0,.i .u64 0,.s [],.l []]:=by rw [Gf,fn]
 unfold fA;by_cases he:(aj (s.drop at')).2.2=0;rotate_left
 ·refine ⟨ahead,at'+(aj (s.drop at')).2.1, ?_, ?_⟩
  ·simp only [ak he]
   rw [hz];generalize (aj (s.drop at')).2.2=e at *;refine ay rfl rfl ?_;simp [k,he]
  ·simp only [ak he];exact λx=>absurd x he
 have hv:=ig he;have hl:=hv.len;have hlt:=hv.lt;have hp:=hv.pos;rw [cZ] at hl Nv;have hdd:(s.drop at').drop (aj (s.drop at')).2.1=s.drop (at'+(aj (s.drop at')).2.1):=by rw [mD]
 rw [hdd];have hud:(s.drop at').length=s.length - at':=cZ;rw [hud];rw [he] at k;simp only [ah (λx=>x he:¬ (aj (s.drop at')).2.2≠0)];have hdk:∀j2:Nat,(s.drop at').drop ((aj (s.drop at')).2.1+j2)=s.drop (at'+(aj (s.drop at')).2.1+j2):=λj2=>by rw [mD,iY]
 rw [hdk];clear he hv hdd hud hdk;generalize (aj (s.drop at')).1=n at *;generalize (aj (s.drop at')).2.1=j at *;have S:=aoJ n;have A:=ad1 n hlt;have wA:=wrap64 (n:=(n:Int) % 4) (by omega) (by omega);by_cases c1:n / 4=0
 ·refine ⟨ahead,at'+j, ?_, ?_⟩
  ·simp only [ak c1]
   rw [hz];have c1':(n:Int) / 4=0:=by omega
   generalize (n:Int) / 4=q at *;refine ay rfl rfl ?_;simp [k,S,A,wA,c1']
  ·simp only [ak c1];exact λx=>absurd x (by decide)
 have c1':¬ (n:Int) / 4=0:=by omega
 simp only [ah c1];by_cases c2:4294967296 < n / 4
 ·refine ⟨ahead,at'+j, ?_, ?_⟩
  ·simp only [ak c2]
   rw [hz];have c2':4294967296 < (n:Int) / 4:=by omega
   generalize (n:Int) / 4=q at *;refine ay rfl rfl ?_;simp [k,S,A,wA,c1',c2']
  ·simp only [ak c2];exact λx=>absurd x (by decide)
 have c2':¬ 4294967296 < (n:Int) / 4:=by omega
 simp only [ah c2];by_cases c3:3<=n % 4
 ·refine ⟨ahead,at'+j, ?_, ?_⟩
  ·simp only [ak c3]
   rw [hz];have c3':3<=(n:Int) % 4:=by omega
   generalize (n:Int) / 4=q at *;generalize (n:Int) % 4=y at *;refine ay rfl rfl ?_;simp [k,S,A,wA,c1',c2',c3']
  ·simp only [ak c3];exact λx=>absurd x (by decide)
 have c3':¬ 3<=(n:Int) % 4:=by omega
 simp only [ah c3];by_cases c4:n / 4<=ahead
 ·refine ⟨ahead,at'+j, ?_, ?_⟩
  ·simp only [ak c4]
   rw [hz];have iG:(n:Int) / 4<=(ahead:Int):=by omega
   generalize (n:Int) / 4=q at *;generalize (n:Int) % 4=y at *;generalize (ahead:Int)=AH at *;refine ay rfl rfl ?_;simp [k,S,A,wA,c1',c2',c3',iG]
  ·simp only [ak c4];exact λx=>absurd x (by decide)
 have iG:¬ (n:Int) / 4<=(ahead:Int):=by omega
 simp only [ah c4];have qn:((n / 4:Nat):Int)=(n:Int) / 4:=by omega
 have hj:at'+j<=s.length:=by omega
 rcases (show n % 4=0\/n % 4=1\/n % 4=2 by omega) with y0 | y1 | y2
 ·have y':(n:Int) % 4=0:=by omega
  have kn:=alQ (.i .u64 ((n:Int) / 4)) (.i .i64 0) (.i .i64 (w:Nat)) s (at'+j) hj hs (.i .u64 0) (.s []);rw [y'] at A wA;by_cases e2:(aj (s.drop (at'+j))).2.2=0
  ·have hv2:=ig e2
   have hl2:=hv2.len;rw [cZ] at hl2;refine ⟨n / 4,at'+j+(aj (s.drop (at'+j))).2.1, ?_, ?_⟩
   ·simp only [ah (λx=>x e2:¬ (aj (s.drop (at'+j))).2.2≠0),ak y0]
    rw [Gf,fn,qn];rw [e2] at kn;clear hv2 hl2 e2;generalize (aj (s.drop (at'+j))).1=m at *;generalize ((at'+j+(aj (s.drop (at'+j))).2.1:Nat):Int)=B at *;generalize ((at'+j:Nat):Int)=AT at *;generalize (n:Int) / 4=q at *;generalize (ahead:Int)=AH at *;refine ay rfl rfl ?_;simp [k,S,A,wA,c1',c2',iG,kn]
   ·simp only [ah (λx=>x e2:¬ (aj (s.drop (at'+j))).2.2≠0),ak y0]
    refine λ_=>⟨?_, ?_, ?_, ?_⟩<;>first | trivial | rfl | omega
  ·refine ⟨n / 4,at'+j+(aj (s.drop (at'+j))).2.1, ?_, ?_⟩
   ·simp only [ak e2]
    rw [hz,qn];generalize (aj (s.drop (at'+j))).1=m at *;generalize ((at'+j+(aj (s.drop (at'+j))).2.1:Nat):Int)=B at *;generalize (aj (s.drop (at'+j))).2.2=e at *;generalize ((at'+j:Nat):Int)=AT at *;generalize (n:Int) / 4=q at *;generalize (ahead:Int)=AH at *;refine ay rfl rfl ?_;simp [k,S,A,wA,c1',c2',iG,kn,e2]
   ·simp only [ak e2];exact λx=>absurd x e2
 ·have y':(n:Int) % 4=1:=by omega
  have y0:¬ n % 4=0:=by omega
  obtain ⟨a,kn⟩:=alS (.i .u64 ((n:Int) / 4)) (.i .i64 1) (.i .i64 (w:Nat)) s (at'+j) hj hs (.i .u64 0);rw [y'] at A wA;have hlen:s.length - at' - (j+(aj (s.drop (at'+j))).2.1)=s.length - (at'+j+(aj (s.drop (at'+j))).2.1):=by omega
  by_cases e2:(aj (s.drop (at'+j))).2.2=0
  ·have hv2:=ig e2
   have hl2:=hv2.len;rw [cZ] at hl2;rw [ah (λx=>x e2)] at kn;simp only [ah (λx=>x e2:¬ (aj (s.drop (at'+j))).2.2≠0),ah y0];rw [hlen];by_cases c:s.length - (at'+j+(aj (s.drop (at'+j))).2.1) < (aj (s.drop (at'+j))).1
   ·rw [ak c] at kn
    simp only [ak c];refine ⟨n / 4,a, ?_,λx=>absurd x (by decide)⟩;rw [hz,qn];generalize ((at'+j:Nat):Int)=AT at *;generalize (n:Int) / 4=q at *;generalize (ahead:Int)=AH at *;refine ay rfl rfl ?_;simp [k,S,A,wA,c1',c2',iG,kn]
   ·rw [ah c] at kn
    simp only [ah c,ak y1];refine ⟨n / 4,at'+j+(aj (s.drop (at'+j))).2.1+(aj (s.drop (at'+j))).1, ?_,λ_=>⟨rfl,by omega,by omega,by omega⟩⟩;rw [Gf,fn,qn];generalize (s.drop (at'+j+(aj (s.drop (at'+j))).2.1)).take (aj (s.drop (at'+j))).1=T at *;generalize ((at'+j+(aj (s.drop (at'+j))).2.1+(aj (s.drop (at'+j))).1:Nat):Int)=B at *;generalize ((at'+j:Nat):Int)=AT at *;generalize (n:Int) / 4=q at *;generalize (ahead:Int)=AH at *;refine ay rfl rfl ?_;simp [k,S,A,wA,c1',c2',iG,kn]
  ·rw [ak e2] at kn
   simp only [ak e2];refine ⟨n / 4,a, ?_,λx=>absurd x e2⟩;rw [hz,qn];generalize (aj (s.drop (at'+j))).2.2=e at *;generalize ((at'+j:Nat):Int)=AT at *;generalize (n:Int) / 4=q at *;generalize (ahead:Int)=AH at *;refine ay rfl rfl ?_;simp [k,S,A,wA,c1',c2',iG,kn,e2]
 ·have y':(n:Int) % 4=2:=by omega
  have y0:¬ n % 4=0:=by omega
  have y1:¬ n % 4=1:=by omega
  obtain ⟨a,kn⟩:=alN hN (.i .u64 ((n:Int) / 4)) (.i .i64 2) w hw s (at'+j) hj hs (by rw [cZ];omega) (.i .u64 0) (.s []);rw [y'] at A wA;have hlen:s.length - at' - (j+(aj (s.drop (at'+j))).2.1)=s.length - (at'+j+(aj (s.drop (at'+j))).2.1):=by omega
  by_cases e2:(aj (s.drop (at'+j))).2.2=0
  ·have hv2:=ig e2
   have hl2:=hv2.len;rw [cZ] at hl2;rw [ah (λx=>x e2)] at kn;simp only [ah (λx=>x e2:¬ (aj (s.drop (at'+j))).2.2≠0),ah y0];rw [hlen];by_cases c:s.length - (at'+j+(aj (s.drop (at'+j))).2.1) < (aj (s.drop (at'+j))).1
   ·rw [ak c] at kn
    simp only [ak c];refine ⟨n / 4,a, ?_,λx=>absurd x (by decide)⟩;rw [hz,qn];generalize ((at'+j:Nat):Int)=AT at *;generalize (n:Int) / 4=q at *;generalize (ahead:Int)=AH at *;refine ay rfl rfl ?_;simp [k,S,A,wA,c1',c2',iG,kn]
   ·rw [ah c] at kn
    simp only [ah c,ah y1];by_cases c8:8<=w
    ·rw [ak c8] at kn
     simp only [ak c8];refine ⟨n / 4,a, ?_,λx=>absurd x (by decide)⟩;rw [hz,qn];generalize ((at'+j:Nat):Int)=AT at *;generalize (n:Int) / 4=q at *;generalize (ahead:Int)=AH at *;refine ay rfl rfl ?_;simp [k,S,A,wA,c1',c2',iG,kn]
    ·rw [ah c8] at kn
     simp only [ah c8];generalize (s.drop (at'+j+(aj (s.drop (at'+j))).2.1)).take (aj (s.drop (at'+j))).1=T at *;by_cases e3:(bG N (w+1) 0 T).2=0
     ·simp only [ah (λx=>x e3:¬ (bG N (w+1) 0 T).2≠0)]
      refine ⟨n / 4,at'+j+(aj (s.drop (at'+j))).2.1+(aj (s.drop (at'+j))).1, ?_,λ_=>⟨rfl,by omega,by omega,by omega⟩⟩;rw [Gf,qn];rw [e3] at kn;clear e3 c e2 hv2 hl2 hlen;generalize bG N (w+1) 0 T=R at *;generalize ((at'+j+(aj (s.drop (at'+j))).2.1+(aj (s.drop (at'+j))).1:Nat):Int)=B at *;generalize ((at'+j:Nat):Int)=AT at *;generalize (n:Int) / 4=q at *;generalize (ahead:Int)=AH at *;refine ay rfl rfl ?_;simp [k,S,A,wA,c1',c2',iG,kn]
     ·simp only [ak e3]
      refine ⟨n / 4,at'+j+(aj (s.drop (at'+j))).2.1+(aj (s.drop (at'+j))).1, ?_,λx=>absurd x e3⟩;rw [hz,qn];clear c e2 hv2 hl2 hlen;generalize bG N (w+1) 0 T=R at *;generalize ((at'+j+(aj (s.drop (at'+j))).2.1+(aj (s.drop (at'+j))).1:Nat):Int)=B at *;generalize ((at'+j:Nat):Int)=AT at *;generalize (n:Int) / 4=q at *;generalize (ahead:Int)=AH at *;refine ay rfl rfl ?_;simp [k,S,A,wA,c1',c2',iG,kn,e3]
  ·rw [ak e2] at kn
   simp only [ak e2];refine ⟨n / 4,a, ?_,λx=>absurd x e2⟩;rw [hz,qn];generalize (aj (s.drop (at'+j))).2.2=e at *;generalize ((at'+j:Nat):Int)=AT at *;generalize (n:Int) / 4=q at *;generalize (ahead:Int)=AH at *;refine ay rfl rfl ?_;simp [k,S,A,wA,c1',c2',iG,kn,e2]
def KU (N:Nat):Prop:=∀ (w:Nat) (acc:List aS) (ahead at':Nat) (s:List UInt8),w<=8->acc.length+(s.drop at').length<=200000000->at'<=s.length->s.length<=100000000->(s.drop at').length < N->ahead < 18446744073709551616->
    ∃a b:Nat,TT.lim 8 [.l (aC acc),.i .i64 (w:Nat),.i .u64 (ahead:Nat),.s s,.i .i64 (at':Nat)]=some (if (bG N w ahead (s.drop at')).2=0 then [.i .i64 1,.l (aC (acc++(bG N w ahead (s.drop at')).1)),.i .u64 (a:Nat),.s s,.i .i64 (b:Nat)] else [.i .i64 0,.i .i64 (bG N w ahead (s.drop at')).2,.i .u64 (a:Nat),.s s,.i .i64 (b:Nat)])
theorem ab1:∀ (N w ahead:Nat) (s:List UInt8),(bG N w ahead s).2≠0->(bG N w ahead s).1=[]
 | 0,_,_,_,_=>rfl
 | N+1,w,ahead,s,h=>by
   unfold bG at h ⊢;by_cases h1:s=[]
   ·rw [ak h1]
   rw [ah h1] at h ⊢;by_cases h2:(fA (λt=>bG N (w+1) 0 t) w ahead s).2.2≠0
   ·rw [ak h2]
   rw [ah h2] at h ⊢;by_cases h3:(bG N w ((aj s).1 / 4) (s.drop (fA (λt=>bG N (w+1) 0 t) w ahead s).2.1)).2≠0
   ·rw [ak h3]
   ·rw [ah h3] at h;exact absurd rfl h
theorem alO {N:Nat} (hN:Iu N) (hL:KU N):KU (N+1):=by
 intro w acc ahead at' s hw hac h hs hl ha;have hud:(s.drop at').length=s.length - at':=cZ;have wl:=wrap64 (n:=(s.length:Int) - (at':Int)) (by omega) (by omega);unfold bG;by_cases h1:s.drop at'=[]
 ·have hle:s.length - at'=0:=by rw [<- hud,h1];rfl
  have hp:¬ at' < s.length:=by omega
  refine ⟨ahead,at', ?_⟩;rw [ak h1];simp only [if_true,pI];refine ay rfl rfl ?_;simp [wl,hp]
 have hlp:0 < s.length - at':=by
  rw [<- hud];exact Bq.2 h1
 have hp:at' < s.length:=by omega
 simp only [ah h1];obtain ⟨a,b,hn,hok⟩:=alP hN w ahead hw ha s at' h hs (by omega);have la:=oU acc;by_cases he:(fA (λt=>bG N (w+1) 0 t) w ahead (s.drop at')).2.2=0;rotate_left
 ·refine ⟨a,b, ?_⟩
  rw [ak he];generalize fA (λt=>bG N (w+1) 0 t) w ahead (s.drop at')=o at *;obtain ⟨f,used,e⟩:=o;obtain ⟨t,y,n,tx,k⟩:=f;simp only at *;rw [ah he];rw [Gf] at hn;simp only [jv,eP] at hn;refine ay rfl rfl ?_;simp [wl,hp,hn,he]
 obtain ⟨ea,eb,hu,hb⟩:=hok he;have hv0:(aj (s.drop at')).2.2=0:=by
  by_cases c:(aj (s.drop at')).2.2=0
  ·exact c
  ·exfalso
   unfold fA at he;rw [ak c] at he;exact c he
 have SB:=(ig hv0).lt;simp only [ah (λx=>x he:¬ (fA (λt=>bG N (w+1) 0 t) w ahead (s.drop at')).2.2≠0)];rw [he] at hn;have hdd:(s.drop at').drop (fA (λt=>bG N (w+1) 0 t) w ahead (s.drop at')).2.1=s.drop b:=by rw [mD,<- eb]
 rw [hdd];rw [<- ea];clear hdd he hok;have aiJ:(s.drop b).length=s.length - b:=cZ;obtain ⟨a2,b2,h2⟩:=hL w (acc++[(fA (λt=>bG N (w+1) 0 t) w ahead (s.drop at')).1]) a b s hw (by rw [jD,uw];omega) hb hs (by omega) (by omega);refine ⟨a2,b2, ?_⟩;generalize fA (λt=>bG N (w+1) 0 t) w ahead (s.drop at')=o at *;obtain ⟨f,used,e⟩:=o;obtain ⟨t,y,n,tx,k⟩:=f;simp only at *;rw [Gf] at hn;simp only [jv,eP] at hn;have hfa:aC (acc++[.mk t y n tx k])=aC acc++[lV t y n tx k]:=by rw [Nc];simp only [aC,iR];rfl
 have hel:(lV t y n tx k).fF 5=true:=rfl;have hfe:GV.g [.i .u64 t,.i .i64 y,.i .u64 n,.s tx,.l (aC k)]=lV t y n tx k:=rfl;have c1:2 * ((aC acc).length+1) * 64<=281474976710656/\(aC acc).length+1<=281474976710656:=by omega
 rw [hfa] at h2;clear hfa ea eb SB hv0 hu hb hud aiJ hac hlp h1 la;by_cases h3:(bG N w a (s.drop b)).2=0
 ·rw [ak h3] at h2
  simp only [ah (λx=>x h3:¬ (bG N w a (s.drop b)).2≠0)];simp only [if_true];have happ:acc++[aS.mk t y n tx k]++(bG N w a (s.drop b)).1=acc++(aS.mk t y n tx k::(bG N w a (s.drop b)).1):=by simp
  rw [happ] at h2;clear happ h3;generalize aC (acc++(aS.mk t y n tx k::(bG N w a (s.drop b)).1))=R at *;generalize lV t y n tx k=E at *;generalize aC acc=A at *;refine ay rfl rfl ?_;simp [wl,hp,hn,hfe,hel,c1,h2]
 ·rw [ah h3] at h2
  simp only [ak h3];rw [ah h3];generalize bG N w a (s.drop b)=RR at *;generalize lV t y n tx k=E at *;generalize aC acc=A at *;refine ay rfl rfl ?_;simp [wl,hp,hn,hfe,hel,c1,h2]
theorem alR {N:Nat} (hL:KU N):Iu N:=by
 intro w ahead at' s h hs hl hw ha;have hud:(s.drop at').length=s.length - at':=cZ;obtain ⟨a,b,h0⟩:=hL w [] ahead at' s hw (by simp only [xR];omega) h hs hl ha;have fn:aC []=[]:=by simp only [aC]
 refine ⟨a,b, ?_⟩;rw [fn,eP] at h0;have hbad:=ab1 N w ahead (s.drop at');generalize bG N w ahead (s.drop at')=R at *;by_cases h3:R.2=0
 ·rw [ak h3] at h0
  rw [h3];refine ay rfl rfl ?_;simp [h0]
 ·rw [ah h3] at h0
  rw [hbad h3,fn];refine ay rfl rfl ?_;simp [h0]
theorem ab3:∀N:Nat,Iu N/\KU N
 | 0=>⟨λw ahead at' s _ _ hl _ _=>absurd hl (by omega),λw acc ahead at' s _ _ _ _ hl _=>absurd hl (by omega)⟩
 | N+1=>by
   have ih:=ab3 N;have hl:=alO ih.1 ih.2;exact ⟨alR hl,hl⟩
/-- What wire.Get reads. -/
def qQ (s:List UInt8):List aS×Int:=if 65536 < s.length then ([],4) else bG (s.length+1) 0 0 s
theorem ari (s:List UInt8) (hs:s.length<=140737488351232):TT.lim 6 [.s s]=some [.l (aC (qQ s).1),.i .i64 (qQ s).2]:=by
 unfold qQ;have fn:aC []=[]:=by simp only [aC]
 by_cases c:65536 < s.length
 ·have c':(65536:Int) < s.length:=by omega
  rw [ak c,fn];refine aG rfl rfl ?_ rfl;simp [c']
 ·have c':¬ (65536:Int) < s.length:=by omega
  obtain ⟨a,b,h0⟩:=(ab3 (s.length+1)).1 0 0 0 s (by omega) (by omega) (by rw [dF];omega) (by omega) (by omega);rw [dF] at h0;rw [ah c];simp only [rD] at h0;generalize bG (s.length+1) 0 0 s=R at *;refine aG rfl rfl ?_ rfl;simp [c',h0]
def qH (l:List bY):List GV:=l.map λs=>GV.i .u64 s.tag
theorem aaw (l:List bY) (hl:l.length<=1000):∀ (m i:Nat) (acc:List GV),i+m=l.length->acc.length+m<=2000->TT.lim 26 [.l acc,.l (l.map bF),.i .i64 l.length,.i .i64 i]=some [.i .i64 0,.l (acc++qH (l.drop i))]
 | 0,i,acc,hi,ha=>by
   have h:¬ ((i:Int) < l.length):=by omega
   have e:l.drop i=[]:=dQ (by omega);rw [e];show _=some [GV.i .i64 0,.l (acc++[])]
   rw [pI];refine ay rfl rfl ?_;simp [h]
 | m+1,i,acc,hi,ha=>by
   have hlt:i < l.length:=by omega
   have h:((i:Int) < l.length):=by omega
   have hat:(l.map bF)[i]? = some (bF l[i]):=by rw [jw,dA hlt];rfl
   have hcast:((i+1:Nat):Int)=(i:Int)+1:=by omega
   have hw:=wrap64 (n:=(i:Int)+1) (by omega) (by omega);have hd:l.drop i=l[i]::l.drop (i+1):=eH hlt;have ih:=aaw l hl m (i+1) (acc++[.i .u64 l[i].tag]) (by omega) (by rw [jD,uw];omega);rw [hd];have hq:acc++qH (l[i]::l.drop (i+1))=acc++[GV.i .u64 l[i].tag]++qH (l.drop (i+1)):=by
    rw [show qH (l[i]::l.drop (i+1))=GV.i .u64 l[i].tag::qH (l.drop (i+1)) from rfl,rE];rfl
   rw [hq];rw [hcast] at ih;have c1:2 * (acc.length+1) * 8<=281474976710656/\acc.length+1<=281474976710656:=by omega
   clear hq hd;generalize acc++[GV.i .u64 l[i].tag]++qH (l.drop (i+1))=R at *;generalize l[i]=s at *;generalize l.map bF=SP at *;refine ay rfl rfl ?_;simp [h,hat,c1,GV.fF,hw,ih]
theorem aja (k v:Int) (h1:1<=v) (h3:v<=3) (hk:nG k<=v):TT.lim 25 [.i .i64 k,.i .i64 v]=some [.l (qH (bD k v))]:=by
 have hkn:=SS k v h1 h3 hk;have k8:=JA k v;have h0:=aaw (bD k v) (by omega) (bD k v).length 0 [] (by omega) (by simp;omega);rw [dF,eP] at h0;simp only [rD] at h0;have hal:(((bD k v).map bF).length:Int)=((bD k v).length:Int):=by rw [Bo]
 generalize qH (bD k v)=TG at *;generalize (bD k v).map bF=SP at *;generalize ((bD k v).length:Int)=L at *;refine aG rfl rfl ?_ rfl;simp [hkn,hal,h0]
/-- The names for tags, as a map. -/
def Az (xs:List GV) (l:List bY):List GV:=l.foldl (λm s=>kS (.i .u64 s.tag) (.s s.name) m) xs
theorem YB (l:List bY) (hl:l.length<=1000) (x0 x1 x2:GV):∀ (m i:Nat) (xs:List GV),i+m=l.length->TT.lim 24 [x0,x1,x2,.l (l.map bF),.i .i64 l.length,.i .i64 i,.l xs]=some [.i .i64 0,.l (Az xs (l.drop i))]
 | 0,i,xs,hi=>by
   have h:¬ ((i:Int) < l.length):=by omega
   have e:l.drop i=[]:=dQ (by omega);rw [e];show _=some [GV.i .i64 0,.l xs]
   refine ay rfl rfl ?_;simp [h]
 | m+1,i,xs,hi=>by
   have hlt:i < l.length:=by omega
   have h:((i:Int) < l.length):=by omega
   have hat:(l.map bF)[i]? = some (bF l[i]):=by rw [jw,dA hlt];rfl
   have hcast:((i+1:Nat):Int)=(i:Int)+1:=by omega
   have hw:=wrap64 (n:=(i:Int)+1) (by omega) (by omega);have hd:l.drop i=l[i]::l.drop (i+1):=eH hlt;have ih:=YB l hl x0 x1 x2 m (i+1) (kS (.i .u64 l[i].tag) (.s l[i].name) xs) (by omega);rw [hd];show _=some [GV.i .i64 0,.l (Az (kS (.i .u64 l[i].tag) (.s l[i].name) xs) (l.drop (i+1)))]
   rw [hcast] at ih;generalize Az (kS (.i .u64 l[i].tag) (.s l[i].name) xs) (l.drop (i+1))=R at *;generalize l[i]=s at *;generalize l.map bF=SP at *;refine ay rfl rfl ?_;simp [h,hat,hw,ih]
theorem abm (t:Int):∀ (l:List bY) (xs:List GV),l.Pairwise (λa b=>a.tag < b.tag)->gG (.i .u64 t) (Az xs l)=(match l.find? (λs=>decide (s.tag=t)) with
 | some s=>some (.s s.name)
 | none=>gG (.i .u64 t) xs)
 | [],xs,_=>rfl
 | s::l,xs,hp=>by
   rw [KJ] at hp;have ih:=abm t l (kS (.i .u64 s.tag) (.s s.name) xs) hp.2;show gG (.i .u64 t) (Az (kS (.i .u64 s.tag) (.s s.name) xs) l)=_
   rw [ih,List.find?_cons];by_cases h:s.tag=t
   ·have hno:l.find? (λs=>decide (s.tag=t))=none:=by
     rw [WX];intro x hx;have:=hp.1 x hx;simp;omega
    rw [hno];simp only [h,decide_true];rw [wE,ak rfl]
   ·simp only [h,decide_false]
    cases hf:l.find? (λs=>decide (s.tag=t)) with
    | some x=>rfl
    | none=>
      simp only;rw [wE,ah (λe=>h e.symm)]
def zY (xs:List GV) (l:List bY):List GV:=l.foldl (λm s=>kS (.i .u64 s.tag) (.b true) m) xs
theorem acT (l:List bY) (hl:l.length<=1000) (x0:GV):∀ (m i:Nat) (xs:List GV),i+m=l.length->TT.lim 28 [x0,.l (qH l),.i .i64 l.length,.i .i64 i,.l xs]=some [.i .i64 0,.l (zY xs (l.drop i))]
 | 0,i,xs,hi=>by
   have h:¬ ((i:Int) < l.length):=by omega
   have e:l.drop i=[]:=dQ (by omega);rw [e];show _=some [GV.i .i64 0,.l xs]
   refine ay rfl rfl ?_;simp [h]
 | m+1,i,xs,hi=>by
   have hlt:i < l.length:=by omega
   have h:((i:Int) < l.length):=by omega
   have hat:(qH l)[i]? = some (.i .u64 l[i].tag):=by unfold qH;rw [jw,dA hlt];rfl
   have hcast:((i+1:Nat):Int)=(i:Int)+1:=by omega
   have hw:=wrap64 (n:=(i:Int)+1) (by omega) (by omega);have hd:l.drop i=l[i]::l.drop (i+1):=eH hlt;have ih:=acT l hl x0 m (i+1) (kS (.i .u64 l[i].tag) (.b true) xs) (by omega);rw [hd];show _=some [GV.i .i64 0,.l (zY (kS (.i .u64 l[i].tag) (.b true) xs) (l.drop (i+1)))]
   rw [hcast] at ih;generalize zY (kS (.i .u64 l[i].tag) (.b true) xs) (l.drop (i+1))=R at *;generalize l[i]=s at *;generalize qH l=TG at *;refine ay rfl rfl ?_;simp [h,hat,hw,ih]
theorem XP (t:Int):∀ (l:List bY) (xs:List GV),gG (.i .u64 t) (zY xs l)=if hasTag l t=true then some (.b true) else gG (.i .u64 t) xs
 | [],xs=>rfl
 | s::l,xs=>by
   have ih:=XP t l (kS (.i .u64 s.tag) (.b true) xs);show gG (.i .u64 t) (zY (kS (.i .u64 s.tag) (.b true) xs) l)=_
   rw [ih,wE];unfold hasTag;rw [P7];by_cases h:t=s.tag
   ·simp [h]
   ·simp [h]
def gK (l:List bY) (fs:List aS):List aS:=fs.filter λf=>hasTag l f.tag
def jm (l:List bY) (fs:List aS):List aS:=fs.filter λf=>!hasTag l f.tag
theorem acU (l:List bY) (fs:List aS) (hfs:fs.length<=1000000):∀ (m i:Nat) (a b:List aS),i+m=fs.length->a.length+b.length+m<=3000000->TT.lim 29 [.l (aC fs),.l (aC a),.l (aC b),.i .i64 fs.length,.i .i64 i,.l (zY [] l)]=some [.i .i64 0,.l (aC (a++gK l (fs.drop i))),.l (aC (b++jm l (fs.drop i)))]
 | 0,i,a,b,hi,ha=>by
   have h:¬ ((i:Int) < fs.length):=by omega
   have e:fs.drop i=[]:=dQ (by omega);rw [e];have e1:gK l []=[]:=rfl;have e2:jm l []=[]:=rfl;rw [e1,e2,pI,pI];refine ay rfl rfl ?_;simp [h]
 | m+1,i,a,b,hi,ha=>by
   have h:((i:Int) < fs.length):=by omega
   obtain ⟨t,y,n,s,k,g1,g2,g3,g4⟩:=Jl (l:=fs) (i:=i) (by omega);have hcast:((i+1:Nat):Int)=(i:Int)+1:=by omega
   have hw:=wrap64 (n:=(i:Int)+1) (by omega) (by omega);have hg:=XP t l [];have hfa:∀z:List aS,aC (z++[.mk t y n s k])=aC z++[lV t y n s k]:=λz=>by rw [Nc];simp only [aC,iR];rfl
   have hel:(lV t y n s k).fF 5=true:=rfl;have hfe:GV.g [.i .u64 t,.i .i64 y,.i .u64 n,.s s,.l (aC k)]=lV t y n s k:=rfl;have la:=oU a;have lb:=oU b;have ih:=λa b ha=>acU l fs hfs m (i+1) a b (by omega) ha;simp only [hcast] at ih;rw [g3];have hn0:gG (.i .u64 t) []=none:=rfl;cases ht:hasTag l t with
   | true=>
     have e1:gK l (.mk t y n s k::fs.drop (i+1))=.mk t y n s k::gK l (fs.drop (i+1)):=by unfold gK;rw [Qa (by exact ht)]
     have e2:jm l (.mk t y n s k::fs.drop (i+1))=jm l (fs.drop (i+1)):=by unfold jm;rw [P9 (by show ¬ (!hasTag l t)=true;rw [ht];decide)]
     rw [e1,e2];have ih:=ih (a++[.mk t y n s k]) b (by rw [jD,uw];omega);rw [hfa,rE,Ij] at ih;rw [ht,ak rfl] at hg;have c1:2 * ((aC a).length+1) * 64<=281474976710656/\(aC a).length+1<=281474976710656:=by omega
     generalize aC (a++.mk t y n s k::gK l (fs.drop (i+1)))=R1 at *;generalize aC (b++jm l (fs.drop (i+1)))=R2 at *;clear hfa la lb e1 e2;generalize zY [] l=MP at *;generalize aC a=A at *;generalize aC b=B at *;refine ay rfl rfl ?_;simp [h,g2,hg,hfe,hel,c1,hw,ih]
   | false=>
     have e1:gK l (.mk t y n s k::fs.drop (i+1))=gK l (fs.drop (i+1)):=by unfold gK;rw [P9 (by show ¬ hasTag l t=true;rw [ht];decide)]
     have e2:jm l (.mk t y n s k::fs.drop (i+1))=.mk t y n s k::jm l (fs.drop (i+1)):=by unfold jm;rw [Qa (by show (!hasTag l t)=true;rw [ht];rfl)]
     rw [e1,e2];have ih:=ih a (b++[.mk t y n s k]) (by rw [jD,uw];omega);rw [hfa,rE,Ij] at ih;rw [ht,ah (by decide),hn0] at hg;have c1:2 * ((aC b).length+1) * 64<=281474976710656/\(aC b).length+1<=281474976710656:=by omega
     generalize aC (a++gK l (fs.drop (i+1)))=R1 at *;generalize aC (b++.mk t y n s k::jm l (fs.drop (i+1)))=R2 at *;clear hfa la lb e1 e2;generalize zY [] l=MP at *;generalize aC a=A at *;generalize aC b=B at *;refine ay rfl rfl ?_;simp [h,g2,hg,hfe,hel,c1,hw,ih]
theorem ab2 {rec:List UInt8->List aS×Int} {w ahead:Nat} {s:List UInt8} (hs:s.length<=100000000) (hr:∀t:List UInt8,t.length+2<=s.length->gU (rec t).1/\(rec t).1.length<=1000000/\gZ (rec t).1<=t.length) (h:(fA rec w ahead s).2.2=0) :
 uO (fA rec w ahead s).1/\vY (fA rec w ahead s).1+1<=(fA rec w ahead s).2.1/\(fA rec w ahead s).2.1<=s.length/\(fA rec w ahead s).1.tag=((aj s).1 / 4:Nat):=by
 unfold fA at h ⊢;by_cases e1:(aj s).2.2=0;rotate_left
 ·simp only [ak e1] at h;exact absurd h e1
 have v1:=ig e1;simp only [ah (λx=>x e1:¬ (aj s).2.2≠0)] at h ⊢;by_cases c1:(aj s).1 / 4=0
 ·simp only [ak c1] at h;exact absurd h (by decide)
 simp only [ah c1] at h ⊢;by_cases c2:4294967296 < (aj s).1 / 4
 ·simp only [ak c2] at h;exact absurd h (by decide)
 simp only [ah c2] at h ⊢;by_cases c3:3<=(aj s).1 % 4
 ·simp only [ak c3] at h;exact absurd h (by decide)
 simp only [ah c3] at h ⊢;by_cases c4:(aj s).1 / 4<=ahead
 ·simp only [ak c4] at h;exact absurd h (by decide)
 simp only [ah c4] at h ⊢;by_cases e2:(aj (s.drop (aj s).2.1)).2.2=0;rotate_left
 ·simp only [ak e2] at h;exact absurd h e2
 have v2:=ig e2;have l1:=v1.len;have p1:=v1.pos;have l2:=v2.len;have p2:=v2.pos;have t1:=v1.lt;have t2:=v2.lt;rw [cZ] at l2;simp only [ah (λx=>x e2:¬ (aj (s.drop (aj s).2.1)).2.2≠0)] at h ⊢;by_cases y0:(aj s).1 % 4=0
 ·simp only [ak y0] at h ⊢
  simp only [uO,gU,vY,gZ];refine ⟨⟨⟨by omega,by omega,by omega,by omega,by omega,by omega,by simp,by simp⟩,trivial⟩,by omega,by omega,rfl⟩
 simp only [ah y0] at h ⊢;by_cases c:s.length - ((aj s).2.1+(aj (s.drop (aj s).2.1)).2.1) < (aj (s.drop (aj s).2.1)).1
 ·simp only [ak c] at h;exact absurd h (by decide)
 simp only [ah c] at h ⊢;by_cases y1:(aj s).1 % 4=1
 ·simp only [ak y1] at h ⊢
  simp only [uO,gU,vY,gZ];refine ⟨⟨⟨by omega,by omega,by omega,by omega,by omega,by omega,by rw [jR,cZ];omega,by simp⟩,trivial⟩,by omega,by omega,rfl⟩
 simp only [ah y1] at h ⊢;by_cases c8:8<=w
 ·simp only [ak c8] at h;exact absurd h (by decide)
 simp only [ah c8] at h ⊢;have hl:((s.drop ((aj s).2.1+(aj (s.drop (aj s).2.1)).2.1)).take (aj (s.drop (aj s).2.1)).1).length=(aj (s.drop (aj s).2.1)).1:=by rw [jR,cZ];omega
 obtain ⟨r1,r2,r3⟩:=hr ((s.drop ((aj s).2.1+(aj (s.drop (aj s).2.1)).2.1)).take (aj (s.drop (aj s).2.1)).1) (by rw [hl];omega);rw [hl] at r3;generalize (s.drop ((aj s).2.1+(aj (s.drop (aj s).2.1)).2.1)).take (aj (s.drop (aj s).2.1)).1=T at *;by_cases e3:(rec T).2=0;rotate_left
 ·simp only [ak e3] at h;exact absurd h e3
 simp only [ah (λx=>x e3:¬ (rec T).2≠0)] at h ⊢;simp only [uO,vY];refine ⟨⟨⟨by omega,by omega,by omega,by omega,by omega,by omega,by simp,r2⟩,r1⟩,by omega,by omega,rfl⟩
theorem OH:∀ (N w ahead:Nat) (s:List UInt8),s.length<=1000000->gU (bG N w ahead s).1/\(bG N w ahead s).1.length<=1000000/\gZ (bG N w ahead s).1<=s.length
 | 0,w,ahead,s,_=>by simp only [bG,gU,gZ];simp
 | N+1,w,ahead,s,hs=>by
   unfold bG;by_cases h1:s=[]
   ·rw [ak h1];simp only [gU,gZ];simp
   rw [ah h1];by_cases h2:(fA (λt=>bG N (w+1) 0 t) w ahead s).2.2=0;rotate_left
   ·rw [ak h2];simp only [gU,gZ];simp
   rw [ah (λx=>x h2)];obtain ⟨o1,o2,o3,o4⟩:=ab2 (rec:=λt=>bG N (w+1) 0 t) (w:=w) (ahead:=ahead) (s:=s) (by omega) (λt ht=>OH N (w+1) 0 t (by omega)) h2;have hd:(s.drop (fA (λt=>bG N (w+1) 0 t) w ahead s).2.1).length=s.length - (fA (λt=>bG N (w+1) 0 t) w ahead s).2.1:=cZ;obtain ⟨i1,i2,i3⟩:=OH N w ((aj s).1 / 4) (s.drop (fA (λt=>bG N (w+1) 0 t) w ahead s).2.1) (by omega);rw [hd] at i3;split
   ·simp only [gU,gZ];simp
   ·simp only [gU,gZ]
    have:∀l:List aS,l.length<=gZ l:=λl=>by
     induction l with
     | nil=>simp [gZ]
     | cons f l ih=>simp only [pJ,gZ];omega
    have hl:=this (bG N w ((aj s).1 / 4) (s.drop (fA (λt=>bG N (w+1) 0 t) w ahead s).2.1)).1;refine ⟨⟨o1,i1⟩, ?_, ?_⟩
    ·simp only [pJ];omega
    ·omega
theorem Ru (s:List UInt8):gU (qQ s).1/\(qQ s).1.length<=1000000/\gZ (qQ s).1<=65536:=by
 unfold qQ;by_cases c:65536 < s.length
 ·rw [ak c];simp only [gU,gZ];simp
 ·rw [ah c]
  obtain ⟨h1,h2,h3⟩:=OH (s.length+1) 0 0 s (by omega);exact ⟨h1,h2,by omega⟩
def aS.typ:aS->Int
 | .mk _ y _ _ _=>y
def aS.num:aS->Int
 | .mk _ _ n _ _=>n
def aS.txt:aS->List UInt8
 | .mk _ _ _ s _=>s
/-- What the known fields make for a message. -/
def jW (l:List bY):aB->List aS->aB×Int
 | b,[]=>(b,0)
 | b,f::r=>match l.find? (λs=>decide (s.tag=f.tag)) with
   | some s=>(match placeOf s.name with
     | some p=>if aI f.typ f.num f.txt p=0 then jW l (setB b f.num f.txt p) r else (gQ,aI f.typ f.num f.txt p)
     | none=>(gQ,26))
   | none=>(gQ,26)
theorem YC (l:List bY) (hl:l.Pairwise (λa b=>a.tag < b.tag)) (hpl:∀s∈l,placeOf s.name≠none) (fs:List aS) (hok:gU fs) (hlen:fs.length<=1000000) (hin:∀f∈fs,hasTag l f.tag=true) (x0 x1:GV):∀ (m i:Nat) (b:aB),i+m=fs.length->Bv b []->
 TT.lim 31 ([x0,x1,.l (aC fs),.i .i64 fs.length,.i .i64 i]++(bJ b []).cells++[.l (Az [] l)])=some (if (jW l b (fs.drop i)).2=0 then .i .i64 1::(bJ (jW l b (fs.drop i)).1 []).cells else [.i .i64 0,.i .i64 (jW l b (fs.drop i)).2])
 | 0,i,b,hi,hb=>by
   have h:¬ ((i:Int) < fs.length):=by omega
   have e:fs.drop i=[]:=dQ (by omega);rw [e];unfold jW;rw [ak rfl];rw [qW];simp only [jv,eP];refine ay rfl rfl ?_;simp [h]
 | m+1,i,b,hi,hb=>by
   have h:((i:Int) < fs.length):=by omega
   obtain ⟨t,y,n,s,k,g1,g2,g3,g4⟩:=Jl (l:=fs) (i:=i) (by omega);have hcast:((i+1:Nat):Int)=(i:Int)+1:=by omega
   have hw:=wrap64 (n:=(i:Int)+1) (by omega) (by omega);have hf:=Cb hok _ g4;simp only [uO] at hf;have ht:=hin _ g4;have Ny:=abm t l [] hl;have fn:aC []=[]:=by simp only [aC]
   obtain ⟨sp,hsp⟩:∃sp,l.find? (λs=>decide (s.tag=t))=some sp:=by
    unfold hasTag at ht;obtain ⟨sp,h1,h2⟩:=List.any_eq_true.1 ht;cases hq:l.find? (λs=>decide (s.tag=t)) with
    | some x=>exact ⟨x,rfl⟩
    | none=>
      have:=(WX.1 hq) sp h1;have h3:t=sp.tag:=Ol h2;simp [h3] at this
   have hmem:=adL hsp;rw [hsp] at Ny;simp only at Ny;obtain ⟨p,hp⟩:∃p,placeOf sp.name=some p:=by
    cases hq:placeOf sp.name with
    | some p=>exact ⟨p,rfl⟩
    | none=>exact absurd hq (hpl sp hmem)
   have hwt:=aj8 (aC k) b [] (F5 hb.d) hb.t (by simp [gZ]) t y n s ⟨hf.1.2.2.2.2.1,hf.1.2.2.2.2.2.1⟩ hf.1.2.2.2.2.2.2.1 sp.name;rw [fn] at hwt;unfold Wp at hwt;rw [hp] at hwt;simp only at hwt;unfold Wq at hwt;rw [g3];unfold jW;have e1:aS.tag (.mk t y n s k)=t:=rfl;have e2:aS.typ (.mk t y n s k)=y:=rfl;have e3:aS.num (.mk t y n s k)=n:=rfl;have e4:aS.txt (.mk t y n s k)=s:=rfl;rw [e1,hsp,e2,e3,e4];simp only [hp];have hfe:GV.g [.i .u64 t,.i .i64 y,.i .u64 n,.s s,.l (aC k)]=lV t y n s k:=rfl;rw [hfe] at hwt;by_cases hc:aI y n s p=0
   ·rw [ak hc] at hwt
    simp only [ak hc];obtain ⟨q1,q2,q3⟩:=acJ hb.body hb.d hb.t ⟨hf.1.2.2.2.2.1,hf.1.2.2.2.2.2.1⟩ hf.1.2.2.2.2.2.2.1 hc;have ih:=YC l hl hpl fs hok hlen hin x0 x1 m (i+1) (setB b n s p) (by omega) ⟨q1,q2,q3,by simp only [gU],by simp⟩;rw [hcast] at ih;generalize jW l (setB b n s p) (fs.drop (i+1))=R at *;generalize setB b n s p=B at *;clear q1 q2 q3 hc hsp hmem hp ht hf;generalize Az [] l=MP at *;generalize sp.name=nm at *;generalize aC fs=G at *;rw [qW] at ih;rw [qW];simp only [jv,eP] at ih ⊢;refine ay rfl rfl ?_;simp [↓qA,h,g2,hfe,Ny,gV,hwt,hw,ih]
   ·rw [ah hc] at hwt
    simp only [ah hc];generalize aI y n s p=e at *;clear hsp hmem hp ht hf;generalize Az [] l=MP at *;generalize sp.name=nm at *;generalize aC fs=G at *;rw [qW];simp only [jv,eP];refine ay rfl rfl ?_;simp [↓qA,h,g2,hfe,Ny,gV,hwt,hc]
/-- What is read, or why not. -/
def vO (s:List UInt8) (v:Int):aB×List aS×Int:=
 if v < 1 then (gQ,[],16) else if 3 < v then (gQ,[],16) else
 if 65536 < s.length then (gQ,[],4) else
 if (aj s).2.2≠0 then (gQ,[],(aj s).2.2) else
 if 8 < (aj s).1 then (gQ,[],15) else
 if nG (aj s).1=0 then (gQ,[],15) else if v < nG (aj s).1 then (gQ,[],15) else
 if (qQ (s.drop (aj s).2.1)).2≠0 then (gQ,[],(qQ (s.drop (aj s).2.1)).2) else
 let l:=bD (aj s).1 v
 let fs:=(qQ (s.drop (aj s).2.1)).1
 let r:=jW l { gQ with kind:=(aj s).1 } (gK l fs)
 if r.2≠0 then (gQ,[],r.2) else
 if yB r.1 (jm l fs) v≠0 then (gQ,[],yB r.1 (jm l fs) v) else (r.1,jm l fs,0)
theorem VU (p:aS->Bool):∀l:List aS,gZ (l.filter p)<=gZ l
 | []=>by simp [gZ]
 | f::l=>by
   have ih:=VU p l;rw [List.filter_cons];split
   ·simp only [gZ];omega
   ·simp only [gZ];omega
theorem split_ok (l:List bY) (hl:l.length<=1000) (fs:List aS) (hlen:fs.length<=1000000) (hsz:gZ fs<=1000000):TT.lim 27 [.l (aC fs),.l (qH l)]=some [.l (aC (gK l fs)),.l (aC (jm l fs))]:=by
 have h0:=acT l hl (.l (aC fs)) l.length 0 [] (by omega);have h1:=acU l fs hlen fs.length 0 [] [] (by omega) (by simp;omega);have fn:aC []=[]:=by simp only [aC]
 rw [dF] at h0 h1;rw [eP,eP,fn] at h1;simp only [rD] at h0 h1;have c1:=Rk (gK l fs) (jS (VU _ fs) hsz);have c2:=Rk (jm l fs) (jS (VU _ fs) hsz);have lt:(qH l).length=l.length:=by unfold qH;rw [Bo]
 have lf:=oU fs;generalize aC (gK l fs)=W at *;generalize aC (jm l fs)=O at *;generalize aC fs=G at *;generalize zY [] l=MP at *;generalize qH l=TG at *;refine aG rfl rfl ?_ rfl;simp [lt,lf,h0,h1,c1,c2]
theorem MF (l:List bY):∀ (fs:List aS) (b:aB),gU fs->Bv b []->Bv (jW l b fs).1 []
 | [],b,_,hb=>hb
 | f::fs,b,hf,hb=>by
   simp only [gU] at hf;unfold jW;cases l.find? (λs=>decide (s.tag=f.tag)) with
   | none=>exact ER
   | some s=>
     simp only;cases placeOf s.name with
     | none=>exact ER
     | some p=>
       simp only;by_cases hc:aI f.typ f.num f.txt p=0
       ·rw [ak hc]
        have h1:=hf.1;cases f with
        | mk t y n s k=>
          simp only [uO] at h1;obtain ⟨q1,q2,q3⟩:=acJ hb.body hb.d hb.t ⟨h1.1.2.2.2.2.1,h1.1.2.2.2.2.2.1⟩ h1.1.2.2.2.2.2.2.1 hc;exact MF l fs _ hf.2 ⟨q1,q2,q3,by simp only [gU],by simp⟩
       ·rw [ah hc];exact ER
theorem PV (k:Int) (h : -9223372036854775808<=k/\k<=9223372036854775807):Bv { gQ with kind:=k } []:=by
 have z:=ER;exact ⟨{ z.body with kind:=h },z.d,z.t,z.f8,z.len⟩
theorem BZ (p:aS->Bool):∀ {l:List aS},gU l->gU (l.filter p)
 | [],_=>by simp only [List.filter_nil,gU]
 | f::l,h=>by
   simp only [gU] at h;have ih:=BZ p h.2;rw [List.filter_cons];split
   ·simp only [gU];exact ⟨h.1,ih⟩
   ·exact ih
set_option maxHeartbeats 4000000 in
theorem decode_ok (s:List UInt8) (v:Int) (hs:s.length<=140737488351232):TT.lim 2 [.s s,.i .i64 v]=some [bJ (vO s v).1 (aC (vO s v).2.1),.i .i64 (vO s v).2.2]:=by
 have fn:aC []=[]:=by simp only [aC]
 have hz:GV.g [.i .i64 0,.i .u64 0,.i .u64 0,.i .u64 0,.i .u64 0,.i .u64 0,.i .u64 0,.i .u64 0,.i .u64 0,.i .u64 0,.i .u64 0,.i .u64 0,.i .u64 0,.i .u64 0,.i .u64 0,.i .u64 0,.i .i64 0,.b false,.s [],.s [],.s [],.l [],.l [],.l []]=bJ gQ []:=rfl;unfold vO;by_cases c1:v < 1
 ·rw [ak c1]
  simp only;rw [fn,<- hz];refine aG rfl rfl ?_ rfl;simp [c1]
 rw [ah c1];by_cases c2:3 < v
 ·rw [ak c2]
  simp only;rw [fn,<- hz];refine aG rfl rfl ?_ rfl;simp [c1,c2]
 rw [ah c2];by_cases c3:65536 < s.length
 ·rw [ak c3]
  have c3':(65536:Int) < s.length:=by omega
  simp only;rw [fn,<- hz];refine aG rfl rfl ?_ rfl;simp [c1,c2,c3']
 rw [ah c3];have c3':¬ (65536:Int) < s.length:=by omega
 have kg:=tC s (by omega);by_cases e1:(aj s).2.2=0;rotate_left
 ·rw [ak e1]
  simp only;rw [fn,<- hz];generalize (aj s).2.2=e at *;refine aG rfl rfl ?_ rfl;simp [c1,c2,c3',kg,e1]
 rw [ah (λx=>x e1)];rw [e1] at kg;have v1:=ig e1;have l1:=v1.len;have t1:=v1.lt;have hdl:(s.drop (aj s).2.1).length=s.length - (aj s).2.1:=cZ;have hwg:=ari (s.drop (aj s).2.1) (by omega);obtain ⟨g1,g2,g3⟩:=Ru (s.drop (aj s).2.1);clear v1 e1 hdl;generalize qQ (s.drop (aj s).2.1)=F at *;generalize hT:s.drop (aj s).2.1=T at *;generalize (aj s).1=n at *;generalize (aj s).2.1=j at *;have hsub:(s.take s.length).drop j=T:=by rw [pK];exact hT
 have j0:(j:Int)<=s.length:=by omega
 have f0:=SL 0;have f00:nG 0=0:=rfl;rw [f00] at f0;by_cases c4:8 < n
 ·rw [ak c4]
  have iG:¬ (n:Int)<=8:=by omega
  simp only;rw [fn,<- hz];refine aG rfl rfl ?_ rfl;simp [c1,c2,c3',kg,iG,f0]
 rw [ah c4];have iG:(n:Int)<=8:=by omega
 have wn:=wrap64 (n:=(n:Int)) (by omega) (by omega);have kf:=SL (n:Int);by_cases c5:nG n=0
 ·rw [ak c5]
  rw [c5] at kf;simp only;rw [fn,<- hz];refine aG rfl rfl ?_ rfl;simp [c1,c2,c3',kg,iG,wn,kf]
 rw [ah c5];by_cases c6:v < nG n
 ·rw [ak c6]
  simp only;rw [fn,<- hz];generalize nG n=fk at *;refine aG rfl rfl ?_ rfl;simp [c1,c2,c3',kg,iG,wn,kf,c5,c6]
 rw [ah c6];by_cases e2:F.2=0;rotate_left
 ·rw [ak e2]
  simp only;rw [fn,<- hz];generalize nG n=fk at *;refine aG rfl rfl ?_ rfl;simp [c1,c2,c3',kg,iG,wn,kf,c5,c6,hsub,hT,j0,hwg,e2]
 rw [ah (λx=>x e2)];rw [e2] at hwg;have kn:=SS n v (by omega) (by omega) (by omega);have kt:=aja n v (by omega) (by omega) (by omega);have k8:=JA n v;have kz:=YB (bD n v) (by omega) (.i .i64 v) (.i .i64 n) (.l (aC F.1)) (bD n v).length 0 [] (by omega);rw [dF] at kz;simp only [rD] at kz;have ks:=split_ok (bD n v) (by omega) F.1 g2 (by omega);have kd:=YC (bD n v) (aav n v).1 (NP n v) (gK (bD n v) F.1) (BZ _ g1) (jS (KH _ _) g2) (λf hf=>(E5.1 hf).2) (.i .i64 v) (.l (aC (jm (bD n v) F.1))) (gK (bD n v) F.1).length 0 { gQ with kind:=n } (by omega) (PV n (by omega));rw [dF] at kd;simp only [rD] at kd;have hdw:=MF (bD n v) (gK (bD n v) F.1) { gQ with kind:=n } (BZ _ g1) (PV n (by omega));have kc:=aj0 (jW (bD n v) { gQ with kind:=n } (gK (bD n v) F.1)).1 (jm (bD n v) F.1) v hdw.body hdw.t.few (BZ _ g1) (jS (KH _ _) g2);have hal:(((bD n v).map bF).length:Int)=((bD n v).length:Int):=by rw [Bo]
 have hwl:=oU (gK (bD n v) F.1);have hcz:(bJ { gQ with kind:=(n:Int) } []).cells=[.i .i64 (n:Int),.i .u64 0,.i .u64 0,.i .u64 0,.i .u64 0,.i .u64 0,.i .u64 0,.i .u64 0,.i .u64 0,.i .u64 0,.i .u64 0,.i .u64 0,.i .u64 0,.i .u64 0,.i .u64 0,.i .u64 0,.i .i64 0,.b false,.s [],.s [],.s [],.l [],.l [],.l []]:=rfl;rw [hcz] at kd;simp only [jv,eP] at kd;simp only;clear hdw hcz g1 g2 g3 k8;generalize jW (bD n v) { gQ with kind:=(n:Int) } (gK (bD n v) F.1)=R at *;generalize jm (bD n v) F.1=O at *;generalize aC (gK (bD n v) F.1)=W at *;generalize (gK (bD n v) F.1).length=WL at *;generalize aC F.1=FG at *;generalize Az [] (bD n v)=MP at *;generalize (bD n v).map bF=SP at *;generalize qH (bD n v)=TG at *;generalize ((bD n v).length:Int)=L at *;generalize nG n=fk at *;by_cases e3:R.2=0;rotate_left
 ·rw [ah e3] at kd
  rw [ak e3];simp only;rw [fn,<- hz];generalize aC O=OG at *;clear kc;refine aG rfl rfl ?_ rfl;simp -implicitDefEqProofs (maxSteps:=10000000) [↓qA,c1,c2,c3',kg,iG,wn,kf,c5,c6,hsub,hT,j0,hwg,kn,hal,kz,kt,ks,hwl,kd,e3]
 rw [ak e3] at kd;rw [ah (λx=>x e3)];rw [qW] at kd;by_cases e4:yB R.1 O v=0
 ·rw [ah (λx=>x e4)]
  rw [e4] at kc;simp only;generalize aC O=OG at *;clear e3 e4;refine aG rfl rfl ?_ rfl;simp -implicitDefEqProofs (maxSteps:=10000000) [↓qA,c1,c2,c3',kg,iG,wn,kf,c5,c6,hsub,hT,j0,hwg,kn,hal,kz,kt,ks,hwl,kd,gV,kc]
 ·rw [ak e4]
  simp only;rw [fn,<- hz];generalize aC O=OG at *;generalize yB R.1 O v=ck at *;refine aG rfl rfl ?_ rfl;simp -implicitDefEqProofs (maxSteps:=10000000) [↓qA,c1,c2,c3',kg,iG,wn,kf,c5,c6,hsub,hT,j0,hwg,kn,hal,kz,kt,ks,hwl,kd,gV,kc,e4]
def RAll (N:Nat):Prop:=∀ (w:Nat) (s:List UInt8),w<=8->s.length<=1000000->s.length < N->TT.lim 104 [.s s,.i .i64 (w:Nat)]=some [.l (aC (bG N w 0 s).1),.i .i64 (bG N w 0 s).2]
set_option maxHeartbeats 4000000 in
theorem amM {N:Nat} (hN:RAll N) (w ahead:Nat) (hw:w<=8) (s:List UInt8) (hs:s.length<=1000000) (Nv:s.length<=N+1) :
 TT.lim 106 [.s s,.i .i64 (w:Nat),.i .u64 (ahead:Nat)]=some [iR (fA (λt=>bG N (w+1) 0 t) w ahead s).1,.i .i64 ((fA (λt=>bG N (w+1) 0 t) w ahead s).2.1:Nat),.i .i64 (fA (λt=>bG N (w+1) 0 t) w ahead s).2.2]:=by
 have k:=AU s (by omega);have fn:aC []=[]:=by simp only [aC]
 have hz:iR (.mk 0 0 0 [] [])=.g [.i .u64 0,.i .i64 0,.i .u64 0,.s [],.l []]:=by simp only [iR,fn]
 unfold fA;by_cases he:(aj s).2.2=0;rotate_left
 ·simp only [ak he]
  rw [hz];generalize (aj s).2.2=e at *;refine aG rfl rfl ?_ rfl;simp [k,he]
 have hv:=ig he;have hl:=hv.len;have hlt:=hv.lt;have hpp:=hv.pos;have hld:(s.drop (aj s).2.1).length=s.length - (aj s).2.1:=cZ;have k2:=AU (s.drop (aj s).2.1) (by omega);rw [he] at k;simp only [ah (λx=>x he:¬ (aj s).2.2≠0)];clear he hv;generalize (aj s).1=n at *;generalize (aj s).2.1=j at *;have t1:(n:Int).tdiv 4=(n:Int) / 4:=WQ (by omega);have t2:(n:Int).tmod 4=(n:Int) % 4:=P5 (by omega);have u1:=dX (n:=(n:Int) / 4) (by omega) (by omega);have u2:=dX (n:=(n:Int) % 4) (by omega) (by omega);have wA:=wrap64 (n:=(n:Int) % 4) (by omega) (by omega);have z0:IntKind.u64.wrap 0=0:=dX (by decide) (by decide);have z1:IntKind.u64.wrap 1=1:=dX (by decide) (by decide);have z2:IntKind.u64.wrap 2=2:=dX (by decide) (by decide);have z3:IntKind.u64.wrap 3=3:=dX (by decide) (by decide);have y2:IntKind.i64.wrap 2=2:=wrap64 (by decide) (by decide);have y3:IntKind.i64.wrap 3=3:=wrap64 (by decide) (by decide);by_cases c1:n / 4=0
 ·simp only [ak c1]
  rw [hz];have c1':(n:Int) / 4=0:=by omega
  generalize (n:Int) / 4=q at *;refine aG rfl rfl ?_ rfl;simp [k,t1,u1,c1',z0]
 have c1':¬ (n:Int) / 4=0:=by omega
 simp only [ah c1];by_cases c2:4294967296 < n / 4
 ·simp only [ak c2]
  rw [hz];have c2':4294967296 < (n:Int) / 4:=by omega
  generalize (n:Int) / 4=q at *;refine aG rfl rfl ?_ rfl;simp [k,t1,u1,c1',c2']
 have c2':¬ 4294967296 < (n:Int) / 4:=by omega
 simp only [ah c2];by_cases c3:3<=n % 4
 ·simp only [ak c3]
  rw [hz];have c3':(n:Int) % 4=3:=by omega
  generalize (n:Int) / 4=q at *;generalize (n:Int) % 4=y at *;refine aG rfl rfl ?_ rfl;simp [k,t1,t2,u1,u2,wA,c1',c2',c3',z3,y3]
 have c3':¬ (n:Int) % 4=3:=by omega
 simp only [ah c3];by_cases c4:n / 4<=ahead
 ·simp only [ak c4]
  rw [hz];have iG:(n:Int) / 4<=(ahead:Int):=by omega
  generalize (n:Int) / 4=q at *;generalize (n:Int) % 4=y at *;generalize (ahead:Int)=AH at *;refine aG rfl rfl ?_ rfl;simp [k,t1,t2,u1,u2,wA,c1',c2',c3',iG]
 have iG:¬ (n:Int) / 4<=(ahead:Int):=by omega
 simp only [ah c4];have qn:((n / 4:Nat):Int)=(n:Int) / 4:=by omega
 have hj:j<=s.length:=by omega
 by_cases e2:(aj (s.drop j)).2.2=0;rotate_left
 ·simp only [ak e2]
  rw [hz];generalize (aj (s.drop j)).2.2=e at *;generalize (aj (s.drop j)).2.1=j2 at *;generalize (aj (s.drop j)).1=m at *;generalize (n:Int) / 4=q at *;generalize (n:Int) % 4=y at *;generalize (ahead:Int)=AH at *;refine aG rfl rfl ?_ rfl;simp -implicitDefEqProofs (maxSteps:=10000000) [k,k2,jq,jr,z0,z1,z2,y2,hj,t1,t2,u1,u2,wA,c1',c2',c3',iG,e2]
 have hv2:=ig e2;have hl2:=hv2.len;have hlt2:=hv2.lt;have atg:=hv2.pos;rw [e2] at k2;simp only [ah (λx=>x e2:¬ (aj (s.drop j)).2.2≠0)];clear e2 hv2;generalize (aj (s.drop j)).1=m at *;generalize (aj (s.drop j)).2.1=j2 at *;rw [hld] at hl2;obtain ⟨J,hJ⟩:∃J,J=j+j2:=⟨_,rfl⟩
 rw [<- hJ];have w1:=wrap64 (n:=(J:Int)) (by omega) (by omega);have hjj:((j:Int)+j2)=(J:Int):=by omega
 by_cases y0:n % 4=0
 ·have y0':(n:Int) % 4=0:=by omega
  simp only [ak y0];simp only [iR,fn];rw [qn];generalize (n:Int) / 4=q at *;generalize (n:Int) % 4=y at *;generalize (ahead:Int)=AH at *;subst y0';refine aG rfl rfl ?_ rfl;simp -implicitDefEqProofs (maxSteps:=10000000) [k,k2,jq,jr,z0,z1,z2,y2,hj,t1,t2,u1,u2,wA,c1',c2',iG,hjj,w1]
 have y0':¬ (n:Int) % 4=0:=by omega
 simp only [ah y0];have w2:=wrap64 (n:=(s.length:Int) - (J:Int)) (by omega) (by omega);have w3:=dX (n:=(s.length:Int) - (J:Int)) (by omega) (by omega);by_cases c5:s.length - J < m
 ·simp only [ak c5]
  rw [hz];have FI:(s.length:Int) - (J:Int) < (m:Int):=by omega
  generalize (n:Int) / 4=q at *;generalize (n:Int) % 4=y at *;generalize (ahead:Int)=AH at *;refine aG rfl rfl ?_ rfl;simp -implicitDefEqProofs (maxSteps:=10000000) [k,k2,jq,jr,z0,z1,z2,y2,hj,t1,t2,u1,u2,wA,c1',c2',c3',iG,hjj,w1,w2,w3,y0',FI]
 have FI:¬ (s.length:Int) - (J:Int) < (m:Int):=by omega
 simp only [ah c5];have w4:=wrap64 (n:=(m:Int)) (by omega) (by omega);have w5:=wrap64 (n:=(J:Int)+m) (by omega) (by omega);obtain ⟨M,hM⟩:∃M,M=J+m:=⟨_,rfl⟩
 simp only [<- hM];have hm2:(J:Int)+m=(M:Int):=by omega
 rw [hm2] at w5;have b1:J<=M:=by omega
 have b2:M<=s.length:=by omega
 have hsub:M - J=m:=by omega
 have hdt:(s.drop J).take m=(s.take M).drop J:=by rw [xP,hsub]
 by_cases y1:n % 4=1
 ·have y1':(n:Int) % 4=1:=by omega
  simp only [ak y1];simp only [iR,fn];rw [qn,hdt];generalize (n:Int) / 4=q at *;generalize (n:Int) % 4=y at *;generalize (ahead:Int)=AH at *;subst y1';refine aG rfl rfl ?_ rfl;simp -implicitDefEqProofs (maxSteps:=10000000) [k,k2,jq,jr,z0,z1,z2,y2,hj,t1,t2,u1,u2,wA,c1',c2',iG,hjj,w1,w2,w3,w4,w5,hm2,FI,b1,b2,hsub]
 have y1':¬ (n:Int) % 4=1:=by omega
 have Wu:(n:Int) % 4=2:=by omega
 simp only [ah y1];by_cases c6:8<=w
 ·simp only [ak c6]
  rw [hz];have LW:(w:Int)=8:=by omega
  generalize (n:Int) / 4=q at *;generalize (n:Int) % 4=y at *;generalize (ahead:Int)=AH at *;subst Wu;refine aG rfl rfl ?_ rfl;simp -implicitDefEqProofs (maxSteps:=10000000) [k,k2,jq,jr,z0,z1,z2,y2,hj,t1,t2,u1,u2,wA,c1',c2',iG,hjj,w1,w2,w3,w4,w5,hm2,FI,b1,b2,hsub,LW]
 have LW:¬ (w:Int)=8:=by omega
 simp only [ah c6];have hlt3:((s.drop J).take m).length=m:=by rw [jR,cZ];omega
 have ih:=hN (w+1) ((s.drop J).take m) (by omega) (by omega) (by omega);have w6:=wrap64 (n:=(w:Int)+1) (by omega) (by omega);have hw1:((w+1:Nat):Int)=(w:Int)+1:=by omega
 rw [hw1] at ih;rw [hdt] at ih ⊢;generalize bG N (w+1) 0 ((s.take M).drop J)=R1 at *;by_cases c7:R1.2=0
 ·rw [c7] at ih
  simp only [ah (λx=>x c7:¬ R1.2≠0)];simp only [iR];rw [qn];generalize aC R1.1=RG at *;generalize (n:Int) / 4=q at *;generalize (n:Int) % 4=y at *;generalize (ahead:Int)=AH at *;subst Wu;refine aG rfl rfl ?_ rfl;simp -implicitDefEqProofs (maxSteps:=10000000) [k,k2,jq,jr,z0,z1,z2,y2,hj,t1,t2,u1,u2,wA,c1',c2',iG,hjj,w1,w2,w3,w4,w5,hm2,FI,b1,b2,hsub,LW,w6,ih]
 ·simp only [ak c7]
  rw [hz];generalize aC R1.1=RG at *;generalize R1.2=e at *;generalize (n:Int) / 4=q at *;generalize (n:Int) % 4=y at *;generalize (ahead:Int)=AH at *;subst Wu;refine aG rfl rfl ?_ rfl;simp -implicitDefEqProofs (maxSteps:=10000000) [k,k2,jq,jr,z0,z1,z2,y2,hj,t1,t2,u1,u2,wA,c1',c2',iG,hjj,w1,w2,w3,w4,w5,hm2,FI,b1,b2,hsub,LW,w6,ih,c7]
def KT (N:Nat):Prop:=∀ (w:Nat) (acc:List aS) (ahead:Nat) (s:List UInt8),w<=8->s.length<=1000000->acc.length+s.length<=200000000->s.length < N->ahead < 18446744073709551616->
    TT.lim 105 [.s s,.i .i64 (w:Nat),.l (aC acc),.i .u64 (ahead:Nat)]=some (if (bG N w ahead s).2=0 then [.i .i64 1,.l (aC (acc++(bG N w ahead s).1))] else [.i .i64 0,.i .i64 (bG N w ahead s).2])
theorem alG {N:Nat} (hN:RAll N) (hL:KT N):KT (N+1):=by
 intro w acc ahead s hw hs hac hl ha;unfold bG;by_cases h1:s=[]
 ·subst h1
  rw [ak rfl];simp only [if_true,pI];refine ay rfl rfl ?_;simp
 have hlp:0 < s.length:=Bq.2 h1;have ate:(0:Int) < s.length:=by omega
 simp only [ah h1];have hn:=amM hN w ahead hw s hs (by omega);have la:=oU acc;by_cases he:(fA (λt=>bG N (w+1) 0 t) w ahead s).2.2=0;rotate_left
 ·rw [ak he]
  generalize fA (λt=>bG N (w+1) 0 t) w ahead s=o at *;simp only [ah he];obtain ⟨⟨t,y,n,tx,k⟩,used,e⟩:=o;simp only [iR] at *;refine ay rfl rfl ?_;simp [hlp,h1,hn,he]
 have hv0:(aj s).2.2=0:=by
  by_cases c:(aj s).2.2=0
  ·exact c
  ·exfalso
   unfold fA at he;rw [ak c] at he;exact c he
 have SB:=(ig hv0).lt;obtain ⟨r1,r2,r3,r4⟩:=ab2 (rec:=λt=>bG N (w+1) 0 t) (w:=w) (ahead:=ahead) (s:=s) (by omega) (λt ht=>OH N (w+1) 0 t (by omega)) he;simp only [ah (λx=>x he:¬ (fA (λt=>bG N (w+1) 0 t) w ahead s).2.2≠0)];rw [he] at hn;have hdl:(s.drop (fA (λt=>bG N (w+1) 0 t) w ahead s).2.1).length=s.length - (fA (λt=>bG N (w+1) 0 t) w ahead s).2.1:=cZ;have h2:=hL w (acc++[(fA (λt=>bG N (w+1) 0 t) w ahead s).1]) ((aj s).1 / 4) (s.drop (fA (λt=>bG N (w+1) 0 t) w ahead s).2.1) hw (by omega) (by rw [jD,uw];omega) (by omega) (by omega);clear hdl;generalize fA (λt=>bG N (w+1) 0 t) w ahead s=o at *;obtain ⟨⟨t,y,n,tx,k⟩,used,e⟩:=o;simp only at *;have hdl:(s.drop used).length=s.length - used:=cZ;have hfa:aC (acc++[.mk t y n tx k])=aC acc++[lV t y n tx k]:=by rw [Nc];simp only [aC,iR];rfl
 have hel:(lV t y n tx k).fF 5=true:=rfl;have Am:=Ro t y n tx k;have hfe:GV.g [.i .u64 t,.i .i64 y,.i .u64 n,.s tx,.l (aC k)]=lV t y n tx k:=rfl;simp only [iR] at hn;have c1:2 * ((aC acc).length+1) * 64<=281474976710656/\(aC acc).length+1<=281474976710656:=by omega
 simp only [aS.tag] at r4;subst r4;rw [hfa] at h2;clear hfa SB hv0 hac la r1 r2 he;by_cases h3:(bG N w ((aj s).1 / 4) (s.drop used)).2=0
 ·rw [ak h3] at h2
  simp only [ah (λx=>x h3:¬ (bG N w ((aj s).1 / 4) (s.drop used)).2≠0)];simp only [if_true];have happ:acc++[aS.mk ((aj s).1 / 4:Nat) y n tx k]++(bG N w ((aj s).1 / 4) (s.drop used)).1=acc++(aS.mk ((aj s).1 / 4:Nat) y n tx k::(bG N w ((aj s).1 / 4) (s.drop used)).1):=by simp
  rw [happ] at h2;clear happ h3;generalize aC (acc++(aS.mk ((aj s).1 / 4:Nat) y n tx k::(bG N w ((aj s).1 / 4) (s.drop used)).1))=R at *;generalize lV ((aj s).1 / 4:Nat) y n tx k=E at *;generalize aC acc=A at *;generalize (((aj s).1 / 4:Nat):Int)=T at *;refine ay rfl rfl ?_;simp [hlp,h1,hn,r3,hfe,hel,Am,c1,h2]
 ·rw [ah h3] at h2
  simp only [ak h3];rw [ah h3];generalize bG N w ((aj s).1 / 4) (s.drop used)=RR at *;generalize lV ((aj s).1 / 4:Nat) y n tx k=E at *;generalize aC acc=A at *;generalize (((aj s).1 / 4:Nat):Int)=T at *;refine ay rfl rfl ?_;simp [hlp,h1,hn,r3,hfe,hel,Am,c1,h2]
theorem alH {N:Nat} (hL:KT N):RAll N:=by
 intro w s hw hs hl;have h0:=hL w [] 0 s hw hs (by simp only [xR];omega) hl (by omega);have fn:aC []=[]:=by simp only [aC]
 rw [fn,eP] at h0;have hbad:=ab1 N w 0 s;simp only [rD] at h0;generalize bG N w 0 s=R at *;by_cases h3:R.2=0
 ·rw [ak h3] at h0
  rw [h3];refine aG rfl rfl ?_ rfl;simp [h0]
 ·rw [ah h3] at h0
  rw [hbad h3,fn];refine aG rfl rfl ?_ rfl;simp [h0]
theorem abT:∀N:Nat,RAll N/\KT N
 | 0=>⟨λw s _ _ hl=>absurd hl (by omega),λw acc ahead s _ _ _ hl _=>absurd hl (by omega)⟩
 | N+1=>by
   have ih:=abT N;have hl:=alG ih.1 ih.2;exact ⟨alH hl,hl⟩
theorem anv (s:List UInt8) (hs:s.length<=1000000):TT.lim 103 [.s s]=some [.l (aC (qQ s).1),.i .i64 (qQ s).2]:=by
 unfold qQ;have fn:aC []=[]:=by simp only [aC]
 by_cases c:65536 < s.length
 ·have c':(65536:Int) < s.length:=by omega
  rw [ak c,fn];refine aG rfl rfl ?_ rfl;simp [c']
 ·have c':¬ (65536:Int) < s.length:=by omega
  have h0:=(abT (s.length+1)).1 0 s (by omega) hs (by omega);rw [ah c];simp only [rD] at h0;generalize bG (s.length+1) 0 0 s=R at *;refine aG rfl rfl ?_ rfl;simp [c',h0]
def Qi (b:aB) (L:GV) (ty n:Int) (s nm:List UInt8) (p:Pl):Prop:=TT.lim 139 (.i .i64 b.kind::(aY b++[L,.s nm,.i .i64 ty,.i .u64 n,.s s]))=some (if aI ty n s p=0 then .i .i64 1::aY (setB b n s p) else [.i .i64 0,.i .i64 (aI ty n s p)])
theorem anx (b:aB) (L:GV) (n:Int) (s:List UInt8) (h2:¬ n=0) (nm:List UInt8) (k:Nat) (hk:k < 15) (e:nm=nameOf (.num k)) (hu:TT.lim 113 [.s nm]=some [.i .i64 0]) :
 TT.lim 139 (.i .i64 b.kind::(aY b++[L,.s nm,.i .i64 0,.i .u64 n,.s s]))=some (.i .i64 1::aY (setB b n s (.num k))):=by
 rcases (show k=0\/k=1\/k=2\/k=3\/k=4\/k=5\/k=6\/k=7\/k=8\/k=9\/k=10\/k=11\/k=12\/k=13\/k=14 by omega) with rfl | rfl | rfl | rfl | rfl | rfl | rfl | rfl | rfl | rfl | rfl | rfl | rfl | rfl | rfl
 all_goals
  simp only [nameOf,kK,kN,kM,kC,kJ,kE,kP,kF,kQ,kH,ku,kG,kL,kD,kR] at e;subst e;refine ay rfl rfl ?_;simp -implicitDefEqProofs [aY,setB,jq,jr,hu,h2]
theorem anw (b:aB) (L:GV) (ty n:Int) (s:List UInt8) (hn:0<=n/\n < 18446744073709551616) (hs:s.length<=100000000) {nm:List UInt8} {p:Pl} (hp:placeOf nm=some p):Qi b L ty n s nm p:=by
 obtain ⟨e,hk, -⟩:=ak1 nm p hp;have hu:=nT hp;unfold Qi;by_cases h1:ty=bH p;rotate_left
 ·have e8:aI ty n s p=8:=by unfold aI;rw [ah h1]
  rw [e8,ah (by decide)];have ⟨g1,g2,g3⟩:0<=gu p/\(gu p).tdiv 3=bH p/\gu p<=5:=by cases p<;>simp [gu,bH]
  have g4:¬ gu p < 0:=by omega
  have g5:(ty=bH p)=False:=eq_false h1;have hw:=wrap64 (n:=bH p) (by cases p<;>simp [bH]) (by cases p<;>simp [bH]);generalize bH p=t at *;generalize gu p=u at *;clear hk e hp;refine ay rfl rfl ?_;simp [aY,hu,g2,g4,g5,hw]
 cases p with
 | num k=>
   have h1:ty=0:=h1;subst h1;simp only [gu] at hu;by_cases h2:n=0
   ·have e8:aI 0 n s (.num k)=17:=by unfold aI;simp [bH,h2]
    rw [e8,ah (by decide)];refine ay rfl rfl ?_;simp [aY,jq,jr,hu,h2]
   have e8:aI 0 n s (.num k)=0:=by unfold aI;simp [bH,h2,gY]
   rw [ak e8];exact anx b L n s h2 nm k hk e hu
 | rem=>
   have h1:ty=0:=h1;subst h1;simp only [gu] at hu;by_cases h2:n=0
   ·have e8:aI 0 n s .rem=17:=by unfold aI;simp [bH,h2]
    rw [e8,ah (by decide)];refine ay rfl rfl ?_;simp [aY,jq,jr,hu,h2]
   have e8:aI 0 n s .rem=0:=by unfold aI;simp [bH,h2,gY]
   rw [ak e8];have w1:=wrap64 (n:=n / 2) (by omega) (by omega);have t1:n.tdiv 2=n / 2:=WQ hn.1;have t2:n.tmod 2=n % 2:=P5 hn.1;have wu:=dX (n:=n / 2) (by omega) (by omega);simp only [setB,CZ,aY];by_cases h3:n % 2=0
   ·rw [ak h3]
    refine ay rfl rfl ?_;simp [jq,jr,hu,h2,t1,t2,h3,w1,wu]
   ·have w2:=wrap64 (n:=0 - n / 2) (by omega) (by omega)
    have w3:=wrap64 (n:=0 - n / 2 - 1) (by omega) (by omega);simp only [Int.zero_sub] at w2 w3;rw [ah h3];refine ay rfl rfl ?_;simp [jq,jr,hu,h2,t1,t2,h3,w1,w2,w3,wu]
 | allow=>
   have h1:ty=0:=h1;subst h1;simp only [gu] at hu;by_cases h2:n=0
   ·have e8:aI 0 n s .allow=17:=by unfold aI;simp [bH,h2]
    rw [e8,ah (by decide)];refine ay rfl rfl ?_;simp [aY,jq,jr,hu,h2]
   by_cases h3:n=1
   ·have e8:aI 0 n s .allow=0:=by unfold aI;simp [bH,h2,gY,h3]
    rw [ak e8];simp only [setB,aY];refine ay rfl rfl ?_;simp [jq,jr,hu,h2,h3]
   ·have e8:aI 0 n s .allow=18:=by unfold aI;simp [bH,h2,gY,h3]
    rw [e8,ah (by decide)];refine ay rfl rfl ?_;simp [aY,jq,jr,hu,h2,h3]
 | name=>
   have h1:ty=1:=h1;subst h1;have hc:=BM s 0 256 (by omega);simp only [gu] at hu;simp only [nameOf,jK] at e;subst e;have e8:aI 1 n s .name=if s=[] then 17 else fC s 0 256:=by unfold aI;simp [bH,gY]
   rw [e8];generalize fC s 0 256=u at *;simp only [setB,aY];by_cases h2:s=[]
   ·rw [ak h2,ah (by decide)]
    refine ay rfl rfl ?_;simp [jq,jr,hu,h2]
   rw [ah h2];by_cases h3:u=0
   ·rw [ak h3]
    refine ay rfl rfl ?_;simp [jq,jr,hu,h2,hc,h3]
   ·rw [ah h3]
    refine ay rfl rfl ?_;simp [jq,jr,hu,h2,hc,h3]
 | region=>
   have h1:ty=1:=h1;subst h1;have hc:=BM s 0 256 (by omega);simp only [gu] at hu;simp only [nameOf,jM] at e;subst e;have e8:aI 1 n s .region=if s=[] then 17 else fC s 0 256:=by unfold aI;simp [bH,gY]
   rw [e8];generalize fC s 0 256=u at *;simp only [setB,aY];by_cases h2:s=[]
   ·rw [ak h2,ah (by decide)]
    refine ay rfl rfl ?_;simp [jq,jr,hu,h2]
   rw [ah h2];by_cases h3:u=0
   ·rw [ak h3]
    refine ay rfl rfl ?_;simp [jq,jr,hu,h2,hc,h3]
   ·rw [ah h3]
    refine ay rfl rfl ?_;simp [jq,jr,hu,h2,hc,h3]
 | note=>
   have h1:ty=1:=h1;subst h1;have hc:=BM s 0 256 (by omega);simp only [gu] at hu;simp only [nameOf,jL] at e;subst e;have e8:aI 1 n s .note=if s=[] then 17 else fC s 0 256:=by unfold aI;simp [bH,gY]
   rw [e8];generalize fC s 0 256=u at *;simp only [setB,aY];by_cases h2:s=[]
   ·rw [ak h2,ah (by decide)]
    refine ay rfl rfl ?_;simp [jq,jr,hu,h2]
   rw [ah h2];by_cases h3:u=0
   ·rw [ak h3]
    refine ay rfl rfl ?_;simp [jq,jr,hu,h2,hc,h3]
   ·rw [ah h3]
    refine ay rfl rfl ?_;simp [jq,jr,hu,h2,hc,h3]
 | d=>
   have h1:ty=1:=h1;subst h1;have hc:=ab5 s hs;simp only [gu] at hu;have e8:aI 1 n s .d=if s=[] then 17 else (jd s).2:=by unfold aI;simp [bH,gY]
   rw [e8];simp only [setB,aY];generalize jd s=u at *;by_cases h2:s=[]
   ·rw [ak h2,ah (by decide)]
    refine ay rfl rfl ?_;simp [jq,jr,hu,h2]
   rw [ah h2];by_cases h3:u.2=0
   ·rw [ak h3]
    refine ay rfl rfl ?_;simp [jq,jr,hu,h2,hc,h3]
   ·rw [ah h3]
    refine ay rfl rfl ?_;simp [jq,jr,hu,h2,hc,h3]
 | t=>
   have h1:ty=1:=h1;subst h1;have hc:=am3 s hs;simp only [gu] at hu;have e8:aI 1 n s .t=if s=[] then 17 else if (lQ s).2=0 then (if (lQ s).1.length=0 then 17 else 0) else (lQ s).2:=by unfold aI;simp [bH,gY]
   rw [e8];simp only [setB,aY];generalize lQ s=u at *;by_cases h2:s=[]
   ·rw [ak h2,ah (by decide)]
    refine ay rfl rfl ?_;simp [jq,jr,hu,h2]
   rw [ah h2];by_cases h3:u.2=0
   ·rw [ak h3]
    by_cases h4:u.1.length=0
    ·rw [ak h4,ah (by decide)]
     have h5:=lq h4;refine ay rfl rfl ?_;simp [jq,jr,hu,h2,hc,h3,h5]
    ·rw [ah h4,ak rfl]
     have h5:u.1≠[]:=λe=>h4 (by rw [e];rfl);refine ay rfl rfl ?_;simp [jq,jr,hu,h2,hc,h3,h5]
   ·rw [ah h3,ah h3]
    refine ay rfl rfl ?_;simp [jq,jr,hu,h2,hc,h3]
/-- The rest of the specs has no such tag. -/
theorem ag9 {l:List bY} (hl:l.Pairwise (λa b=>a.tag < b.tag)) {i:Nat} (hi:i < l.length) {t:Int} (ht:l[i].tag=t):(l.drop (i+1)).find? (λx=>decide (x.tag=t))=none:=by
 rw [WX];intro x hx;have hp:(l.drop i).Pairwise (λa b=>a.tag < b.tag):=hl.sublist (List.drop_sublist _ _);rw [eH hi,KJ] at hp;have:=hp.1 x hx;simp only [decide_eq_true_iff];omega
theorem UZ (l:List bY) (hll:l.length<=1000) (hl:l.Pairwise (λa b=>a.tag < b.tag)) (hpl:∀s∈l,placeOf s.name≠none) (t y n:Int) (s:List UInt8) (hn:0<=n/\n < 18446744073709551616) (hs:s.length<=100000000) (x0 x1 x3 x4 x5 K R:GV):∀ (m i:Nat) (b:aB) (is:Bool),i+m=l.length->
 TT.lim 111 ([x0,x1,.b is,x3,x4,x5,.l (l.map bF),.i .i64 l.length,.i .i64 i,.i .u64 t,.i .i64 y,.i .u64 n,.s s,K,.i .i64 b.kind]++aY b++[R])=some (match (l.drop i).find? (λx=>decide (x.tag=t)) with
  | none=>.i .i64 1::.b is::.i .i64 b.kind::(aY b++[R])
  | some x=>match placeOf x.name with
    | some p=>if aI y n s p=0 then .i .i64 1::.b true::.i .i64 b.kind::(aY (setB b n s p)++[R]) else [.i .i64 0,.i .i64 (aI y n s p)]
    | none=>[])
 | 0,i,b,is,hi=>by
   have h:¬ ((i:Int) < l.length):=by omega
   have e:l.drop i=[]:=dQ (by omega);rw [e,List.find?_nil];simp only [aY,jv,eP];refine ay rfl rfl ?_;simp [h]
 | m+1,i,b,is,hi=>by
   have hlt:i < l.length:=by omega
   have h:((i:Int) < l.length):=by omega
   have hw:=wrap64 (n:=(i:Int)+1) (by omega) (by omega);have hcast:((i+1:Nat):Int)=(i:Int)+1:=by omega
   have hd:=eH hlt;have hget:(l.map bF)[i]? = some (.g [.i .u64 l[i].tag,.i .i64 l[i].use,.i .i64 l[i].from_,.s l[i].name]):=by rw [jw,dA hlt];rfl
   by_cases ht:l[i].tag=t;rotate_left
   ·have ih:=UZ l hll hl hpl t y n s hn hs x0 x1 x3 x4 x5 K R m (i+1) b is (by omega)
    rw [hd,List.find?_cons_of_neg (by simpa using ht)];rw [hcast] at ih;generalize (match (l.drop (i+1)).find? (λx=>decide (x.tag=t)) with
    | none=>GV.i .i64 1::.b is::.i .i64 b.kind::(aY b++[R])
    | some x=>match placeOf x.name with
      | some p=>if aI y n s p=0 then .i .i64 1::.b true::.i .i64 b.kind::(aY (setB b n s p)++[R]) else [.i .i64 0,.i .i64 (aI y n s p)]
      | none=>[])=out at *
    simp only [aY,jv,eP] at ih ⊢;generalize l.map bF=SP at *;generalize (l.length:Int)=LL at *;generalize l[i].tag=tg at *;generalize l[i].use=tu at *;generalize l[i].from_=tf at *;generalize l[i].name=tn at *;have ht':(tg=t)=False:=eq_false ht;clear ht hd;refine ay rfl rfl ?_;simp [h,hget,ht',hw,ih]
   ·rw [hd,List.find?_cons_of_pos (by simpa using ht)]
    have hfr:=ag9 hl hlt ht;obtain ⟨p,hp⟩:∃p,placeOf l[i].name=some p:=by
     cases hq:placeOf l[i].name with
     | some p=>exact ⟨p,rfl⟩
     | none=>exact absurd hq (hpl _ (iI hlt))
    have hws:=anw b R y n s hn hs hp;unfold Qi at hws;simp only [hp];by_cases hc:aI y n s p=0
    ·rw [ak hc] at hws ⊢
     have ih:=UZ l hll hl hpl t y n s hn hs x0 x1 x3 x4 x5 K R m (i+1) (setB b n s p) true (by omega);rw [hfr] at ih;rw [hcast,OV] at ih;simp only at ih;generalize setB b n s p=B at *;simp only [aY,jv,eP] at ih hws ⊢;generalize l.map bF=SP at *;generalize (l.length:Int)=LL at *;generalize l[i].tag=tg at *;generalize l[i].use=tu at *;generalize l[i].from_=tf at *;generalize l[i].name=tn at *;subst ht;clear hd hfr hc;refine ay rfl rfl ?_;simp [h,hget,hw,hws,ih]
    ·rw [ah hc] at hws ⊢
     generalize aI y n s p=e at *;simp only [aY,jv,eP] at hws ⊢;generalize l.map bF=SP at *;generalize (l.length:Int)=LL at *;generalize l[i].tag=tg at *;generalize l[i].use=tu at *;generalize l[i].from_=tf at *;generalize l[i].name=tn at *;subst ht;clear hd hfr;refine ay rfl rfl ?_;simp [h,hget,hw,hws,hc]
theorem YD (l:List bY):∀ (fs:List aS) (b:aB),(jW l b fs).2=0->(jW l b fs).1.kind=b.kind
 | [],b,_=>rfl
 | f::fs,b,h=>by
   unfold jW at h ⊢;cases hq:l.find? (λs=>decide (s.tag=f.tag)) with
   | none=>rw [hq] at h;exact absurd h (by simp)
   | some s=>
     rw [hq] at h;simp only at h ⊢;cases hp:placeOf s.name with
     | none=>rw [hp] at h;exact absurd h (by simp)
     | some p=>
       rw [hp] at h;simp only at h ⊢;by_cases hc:aI f.typ f.num f.txt p=0
       ·rw [ak hc] at h ⊢
        rw [YD l fs _ h,OV]
       ·rw [ah hc] at h;exact absurd h hc
theorem Z5 (t:Int):∀l:List bY,hasTag l t=(l.find? (λx=>decide (x.tag=t))).isSome
 | []=>rfl
 | x::l=>by
   have ih:=Z5 t l;unfold hasTag at ih ⊢;rw [P7,List.find?_cons,ih];by_cases h:t=x.tag
   ·subst h;simp
   ·have h2:¬ x.tag=t:=λe=>h e.symm
    simp [h,h2]
theorem ark {l:List bY} {f:aS} {r:List aS} (h:hasTag l f.tag=true):gK l (f::r)=f::gK l r:=by unfold gK;rw [Qa (by rw [h])]
theorem akw {l:List bY} {f:aS} {r:List aS} (h:hasTag l f.tag=true):jm l (f::r)=jm l r:=by unfold jm;rw [P9 (by rw [h];simp)]
theorem arj {l:List bY} {f:aS} {r:List aS} (h:hasTag l f.tag=false):gK l (f::r)=gK l r:=by unfold gK;rw [P9 (by rw [h];simp)]
theorem akv {l:List bY} {f:aS} {r:List aS} (h:hasTag l f.tag=false):jm l (f::r)=f::jm l r:=by unfold jm;rw [Qa (by rw [h];rfl)]
theorem UY (v k:Int) (h3:v<=3) (hk:0<=k/\k<=8) (fs:List aS) (hok:gU fs) (hlen:fs.length<=1000000):∀ (m i:Nat) (b:aB) (acc:List aS),i+m=fs.length->acc.length<=i->
 TT.lim 107 ([.i .i64 v,.i .u64 k,.l (aC fs),.i .i64 fs.length,.i .i64 i,.i .i64 b.kind]++aY b++[.l (aC acc)])=some (if (jW (bD k v) b (gK (bD k v) (fs.drop i))).2=0 then .i .i64 1::.i .i64 (jW (bD k v) b (gK (bD k v) (fs.drop i))).1.kind::(aY (jW (bD k v) b (gK (bD k v) (fs.drop i))).1++[.l (aC (acc++jm (bD k v) (fs.drop i)))]) else [.i .i64 0,.i .i64 (jW (bD k v) b (gK (bD k v) (fs.drop i))).2])
 | 0,i,b,acc,hi,ha=>by
   have h:¬ ((i:Int) < fs.length):=by omega
   have e:fs.drop i=[]:=dQ (by omega);rw [e];simp only [gK,jm,List.filter_nil,pI,jW,if_true];simp only [aY,jv,eP];refine ay rfl rfl ?_;simp [h]
 | m+1,i,b,acc,hi,ha=>by
   have h:((i:Int) < fs.length):=by omega
   have hw:=wrap64 (n:=(i:Int)+1) (by omega) (by omega);have hcast:((i+1:Nat):Int)=(i:Int)+1:=by omega
   obtain ⟨t,y,n,s,kk,g1,g2,g3,g4⟩:=Jl (l:=fs) (i:=i) (by omega);have hf:=Cb hok _ g4;simp only [uO] at hf;have hkn:=ach k v h3;have wk:=wrap64 (n:=k) (by omega) (by omega);have k8:=JA k v;have h0:=λ(b:aB)=>UZ (bD k v) (by omega) (aav k v).1 (NP k v) t y n s ⟨hf.1.2.2.2.2.1,hf.1.2.2.2.2.2.1⟩ hf.1.2.2.2.2.2.2.1 (.i .i64 v) (.i .u64 k) (.l (aC fs)) (.i .i64 fs.length) (.i .i64 i) (.l (aC kk)) (.l (aC acc)) (bD k v).length 0 b false (by omega);have h0:=h0 b;rw [dF] at h0;simp only [rD] at h0;have hal:(((bD k v).map bF).length:Int)=((bD k v).length:Int):=by rw [Bo]
   have hht:=Z5 t (bD k v);have la:=oU acc;rw [g3];have e1:aS.tag (.mk t y n s kk)=t:=rfl;have e2:aS.typ (.mk t y n s kk)=y:=rfl;have e3:aS.num (.mk t y n s kk)=n:=rfl;have e4:aS.txt (.mk t y n s kk)=s:=rfl;cases hq:(bD k v).find? (λx=>decide (x.tag=t)) with
   | none=>
     rw [hq] at h0 hht;simp only [Option.isSome_none] at hht;have ih:=UY v k h3 hk fs hok hlen m (i+1) b (acc++[.mk t y n s kk]) (by omega) (by rw [jD,uw];omega);rw [arj (f:=.mk t y n s kk) hht,akv (f:=.mk t y n s kk) hht];have happ:∀z:List aS,acc++[aS.mk t y n s kk]++z=acc++(aS.mk t y n s kk::z):=λz=>by simp
     rw [happ,hcast] at ih;have hfa:aC (acc++[.mk t y n s kk])=aC acc++[lV t y n s kk]:=by rw [Nc];simp only [aC,iR];rfl
     rw [hfa] at ih;have hel:(lV t y n s kk).fF 5=true:=rfl;have Am:=Ro t y n s kk;have hfe:GV.g [.i .u64 t,.i .i64 y,.i .u64 n,.s s,.l (aC kk)]=lV t y n s kk:=rfl;have c1:2 * ((aC acc).length+1) * 64<=281474976710656/\(aC acc).length+1<=281474976710656:=by omega
     generalize aC (acc++(aS.mk t y n s kk::jm (bD k v) (fs.drop (i+1))))=O at *;generalize jW (bD k v) b (gK (bD k v) (fs.drop (i+1)))=R at *;generalize (bD k v).map bF=SP at *;generalize ((bD k v).length:Int)=LL at *;generalize lV t y n s kk=E at *;generalize aC acc=A at *;generalize aC fs=FS at *;generalize (fs.length:Int)=FL at *;simp only [aY,jv,eP] at h0 ih ⊢;clear hht hq happ hfa g1 g3 g4 hf k8 e1 e2 e3 e4;by_cases hr:R.2=0
     ·rw [ak hr] at ih ⊢
      refine ay rfl rfl ?_;simp -implicitDefEqProofs (maxSteps:=10000000) [↓qA,h,hw,wk,hkn,hal,g2,Am,h0,hel,hfe,c1,ih]
     ·rw [ah hr] at ih ⊢
      refine ay rfl rfl ?_;simp -implicitDefEqProofs (maxSteps:=10000000) [↓qA,h,hw,wk,hkn,hal,g2,Am,h0,hel,hfe,c1,ih]
   | some x=>
     rw [hq] at h0 hht;simp only [Option.isSome_some] at hht;rw [ark (f:=.mk t y n s kk) hht,akw (f:=.mk t y n s kk) hht];have hmem:=adL hq;obtain ⟨p,hp⟩:∃p,placeOf x.name=some p:=by
      cases hq2:placeOf x.name with
      | some p=>exact ⟨p,rfl⟩
      | none=>exact absurd hq2 (NP k v x hmem)
     simp only [hp] at h0;have hdw:∀r,jW (bD k v) b (.mk t y n s kk::r)=if aI y n s p=0 then jW (bD k v) (setB b n s p) r else (gQ,aI y n s p):=λr=>by
      rw [jW,e1,hq,e2,e3,e4];simp only [hp]
     rw [hdw];have Am:=Ro t y n s kk;have hfe:GV.g [.i .u64 t,.i .i64 y,.i .u64 n,.s s,.l (aC kk)]=lV t y n s kk:=rfl;by_cases hc:aI y n s p=0
     ·rw [ak hc] at h0
      simp only [ak hc];have ih:=UY v k h3 hk fs hok hlen m (i+1) (setB b n s p) acc (by omega) (by omega);rw [hcast,OV] at ih;generalize aC (acc++jm (bD k v) (fs.drop (i+1)))=O at *;generalize jW (bD k v) (setB b n s p) (gK (bD k v) (fs.drop (i+1)))=R at *;generalize setB b n s p=B at *;generalize (bD k v).map bF=SP at *;generalize ((bD k v).length:Int)=LL at *;generalize lV t y n s kk=E at *;generalize aC acc=A at *;generalize aC fs=FS at *;generalize (fs.length:Int)=FL at *;simp only [aY,jv,eP] at h0 ih ⊢;clear hht hq hdw g1 g3 g4 hf k8 e1 e2 e3 e4;by_cases hr:R.2=0
      ·rw [ak hr] at ih ⊢
       refine ay rfl rfl ?_;simp -implicitDefEqProofs (maxSteps:=10000000) [↓qA,h,hw,wk,hkn,hal,g2,Am,h0,ih]
      ·rw [ah hr] at ih ⊢
       refine ay rfl rfl ?_;simp -implicitDefEqProofs (maxSteps:=10000000) [↓qA,h,hw,wk,hkn,hal,g2,Am,h0,ih]
     ·rw [ah hc] at h0
      simp only [ah hc];generalize aI y n s p=e at *;generalize (bD k v).map bF=SP at *;generalize ((bD k v).length:Int)=LL at *;generalize lV t y n s kk=E at *;generalize aC acc=A at *;generalize aC fs=FS at *;generalize (fs.length:Int)=FL at *;simp only [aY,jv,eP] at h0 ⊢;clear hht hq hdw g1 g3 g4 hf k8 e1 e2 e3 e4;refine ay rfl rfl ?_;simp -implicitDefEqProofs (maxSteps:=10000000) [↓qA,h,hw,wk,hkn,hal,g2,Am,h0]
set_option maxHeartbeats 4000000 in
theorem alT (s:List UInt8) (v:Int) (hs:s.length<=1000000):TT.lim 99 [.s s,.i .i64 v]=some [bJ (vO s v).1 (aC (vO s v).2.1),.i .i64 (vO s v).2.2]:=by
 have fn:aC []=[]:=by simp only [aC]
 have hz:GV.g [.i .i64 0,.i .u64 0,.i .u64 0,.i .u64 0,.i .u64 0,.i .u64 0,.i .u64 0,.i .u64 0,.i .u64 0,.i .u64 0,.i .u64 0,.i .u64 0,.i .u64 0,.i .u64 0,.i .u64 0,.i .u64 0,.i .i64 0,.b false,.s [],.s [],.s [],.l [],.l [],.l []]=bJ gQ []:=rfl;unfold vO;by_cases c1:v < 1
 ·rw [ak c1]
  simp only;rw [fn,<- hz];refine aG rfl rfl ?_ rfl;simp [c1]
 rw [ah c1];by_cases c2:3 < v
 ·rw [ak c2]
  simp only;rw [fn,<- hz];refine aG rfl rfl ?_ rfl;simp [c1,c2]
 rw [ah c2];by_cases c3:65536 < s.length
 ·rw [ak c3]
  have c3':(65536:Int) < s.length:=by omega
  simp only;rw [fn,<- hz];refine aG rfl rfl ?_ rfl;simp [c1,c2,c3']
 rw [ah c3];have c3':¬ (65536:Int) < s.length:=by omega
 have kg:=AU s (by omega);by_cases e1:(aj s).2.2=0;rotate_left
 ·rw [ak e1]
  simp only;rw [fn,<- hz];generalize (aj s).2.2=e at *;refine aG rfl rfl ?_ rfl;simp [c1,c2,c3',kg,e1]
 rw [ah (λx=>x e1)];rw [e1] at kg;have v1:=ig e1;have l1:=v1.len;have t1:=v1.lt;have hdl:(s.drop (aj s).2.1).length=s.length - (aj s).2.1:=cZ;have hwg:=anv (s.drop (aj s).2.1) (by omega);obtain ⟨g1,g2,g3⟩:=Ru (s.drop (aj s).2.1);clear v1 e1 hdl;generalize qQ (s.drop (aj s).2.1)=F at *;generalize hT:s.drop (aj s).2.1=T at *;generalize (aj s).1=n at *;generalize (aj s).2.1=j at *;have hsub:(s.take s.length).drop j=T:=by rw [pK];exact hT
 have j0:(j:Int)<=s.length:=by omega
 by_cases c4:8 < n
 ·rw [ak c4]
  have iG:¬ (n:Int)=0:=by omega
  have wG:(8:Int) < n:=by omega
  simp only;rw [fn,<- hz];refine aG rfl rfl ?_ rfl;simp [c1,c2,c3',kg,iG,wG]
 rw [ah c4];have wG:¬ (8:Int) < n:=by omega
 by_cases c5:nG n=0
 ·rw [ak c5]
  have iG:(n:Int)=0:=by
   by_cases h0:n=0
   ·omega
   ·exfalso
    rcases (show n=1\/n=2\/n=3\/n=4\/n=5\/n=6\/n=7\/n=8 by omega) with rfl | rfl | rfl | rfl | rfl | rfl | rfl | rfl<;>exact absurd c5 (by decide)
  simp only;rw [fn,<- hz];refine aG rfl rfl ?_ rfl;simp [c1,c2,c3',kg,iG]
 rw [ah c5];have n0:¬ (n:Int)=0:=by
  intro h0;rw [h0] at c5;exact c5 rfl
 have n1:¬ (n:Int) < 1:=by omega
 have hfk:nG n=if (n:Int)=6 then 2 else 1:=by
  rcases (show n=1\/n=2\/n=3\/n=4\/n=5\/n=6\/n=7\/n=8 by omega) with rfl | rfl | rfl | rfl | rfl | rfl | rfl | rfl<;>decide
 have wn:=wrap64 (n:=(n:Int)) (by omega) (by omega);have w6:IntKind.i64.wrap 6=6:=wrap64 (by decide) (by decide);have m0:¬ n=0:=by omega
 by_cases c6:v < nG n
 ·rw [ak c6]
  simp only;rw [fn,<- hz];rw [hfk] at c6;by_cases n6:(n:Int)=6
  ·rw [ak n6] at c6
   refine aG rfl rfl ?_ rfl;simp [c1,c2,c3',kg,n0,m0,wG,wn,w6,n6,c6]
  ·rw [ah n6] at c6
   exact absurd c6 c1
 rw [ah c6];have c7:(n:Int)=6->¬ v < 2:=λh=>by rw [hfk,ak h] at c6;exact c6
 clear c6 hfk c5 c4;by_cases e2:F.2=0;rotate_left
 ·rw [ak e2]
  simp only;rw [fn,<- hz];by_cases n6:(n:Int)=6
  ·have c7:=c7 n6
   refine aG rfl rfl ?_ rfl;simp [c1,c2,c3',kg,n0,m0,wG,wn,w6,n6,c7,hsub,hT,j0,hwg,e2]
  ·refine aG rfl rfl ?_ rfl
   simp [c1,c2,c3',kg,n0,m0,n1,wG,wn,w6,n6,hsub,hT,j0,hwg,e2]
 rw [ah (λx=>x e2)];rw [e2] at hwg;have kd:=UY v n (by omega) (by omega) F.1 g1 g2 F.1.length 0 { gQ with kind:=n } [] (by omega) (by simp);rw [dF,eP,fn] at kd;simp only [rD] at kd;have hdw:=MF (bD n v) (gK (bD n v) F.1) { gQ with kind:=n } (BZ _ g1) (PV n (by omega));have hdk:=YD (bD n v) (gK (bD n v) F.1) { gQ with kind:=n };have kc:=alL (jW (bD n v) { gQ with kind:=n } (gK (bD n v) F.1)).1 (jm (bD n v) F.1) v hdw.body hdw.t.few (BZ _ g1) (jS (KH _ _) g2);have hfl:=oU F.1;clear hdw g1 g2 g3;simp only;generalize jW (bD n v) { gQ with kind:=(n:Int) } (gK (bD n v) F.1)=R at *;simp only [aY,gQ,jv,eP,vF] at kd;simp only [gQ] at hdk;generalize jm (bD n v) F.1=O at *;generalize aC F.1=FG at *;by_cases e3:R.2=0;rotate_left
 ·rw [ah e3] at kd
  rw [ak e3];simp only;rw [fn,<- hz];by_cases n6:(n:Int)=6
  ·have c7:=c7 n6
   rw [n6] at kd;refine aG rfl rfl ?_ rfl;simp -implicitDefEqProofs (maxSteps:=10000000) [↓qA,c1,c2,c3',kg,n0,m0,wG,wn,w6,n6,c7,hsub,hT,j0,hwg,hfl,kd]
  ·refine aG rfl rfl ?_ rfl
   simp -implicitDefEqProofs (maxSteps:=10000000) [↓qA,c1,c2,c3',kg,n0,m0,n1,wG,wn,w6,n6,hsub,hT,j0,hwg,hfl,kd]
 rw [ak e3] at kd;rw [ah (λx=>x e3)];have hdk:=hdk e3;by_cases e4:yB R.1 O v=0
 ·rw [e4] at kc
  rw [ah (λx=>x e4)];simp only;generalize aC O=OG at *;unfold bJ at kc ⊢;by_cases n6:(n:Int)=6
  ·have c7:=c7 n6
   rw [n6] at kd;refine aG rfl rfl ?_ rfl;simp -implicitDefEqProofs (maxSteps:=10000000) [↓qA,c1,c2,c3',kg,n0,m0,wG,wn,w6,n6,c7,hsub,hT,j0,hwg,hfl,kd,kc]
  ·refine aG rfl rfl ?_ rfl
   simp -implicitDefEqProofs (maxSteps:=10000000) [↓qA,c1,c2,c3',kg,n0,m0,n1,wG,wn,w6,n6,hsub,hT,j0,hwg,hfl,kd,kc]
 ·rw [ak e4]
  simp only;rw [fn,<- hz];generalize aC O=OG at *;generalize yB R.1 O v=e at *;unfold bJ at kc;by_cases n6:(n:Int)=6
  ·have c7:=c7 n6
   rw [n6] at kd;refine aG rfl rfl ?_ rfl;simp -implicitDefEqProofs (maxSteps:=10000000) [↓qA,c1,c2,c3',kg,n0,m0,wG,wn,w6,n6,c7,hsub,hT,j0,hwg,hfl,kd,kc,e4]
  ·refine aG rfl rfl ?_ rfl
   simp -implicitDefEqProofs (maxSteps:=10000000) [↓qA,c1,c2,c3',kg,n0,m0,n1,wG,wn,w6,n6,hsub,hT,j0,hwg,hfl,kd,kc,e4]
theorem agl (s:List UInt8) (v:Int):Bv (vO s v).1 (vO s v).2.1:=by
 unfold vO;obtain ⟨g1,g2, -⟩:=Ru (s.drop (aj s).2.1);repeat' split
 all_goals first | exact ER | skip
 have h:=MF (bD (aj s).1 v) (gK (bD (aj s).1 v) (qQ (s.drop (aj s).2.1)).1) { gQ with kind:=(aj s).1 } (BZ _ g1) (PV (aj s).1 (by omega));simp only;split
 ·exact ER
 ·split
  ·exact ER
  ·exact ⟨h.body,h.d,h.t,BZ _ g1,jS (KH _ _) g2⟩
theorem schemaReads (gs:List GV) (h:hasArgs [(false,[.str]),(false,[.int .i64])] gs):TT.lim 1 gs=some [.b true]:=by
 obtain ⟨g,gs,rfl,h1,h⟩:=Z4 h;obtain ⟨v,gs,rfl,h2,h⟩:=Z4 h;obtain rfl:=ah6 h;simp only [dw.has] at h1 h2;obtain ⟨s,rfl, -⟩:=h1;obtain ⟨v,rfl, -⟩:=h2;clear h;by_cases c:6000 < s.length
 ·have c':(6000:Int) < s.length:=by omega
  refine aG rfl rfl ?_ rfl;simp [c']
 have c':¬ (6000:Int) < s.length:=by omega
 have k1:=decode_ok s v (by omega);have k2:=alT s v (by omega);have mo:=agl s v;generalize vO s v=D at *;have k3:=abq D.1 D.2.1 (F5 mo.d) mo.t mo.f8 mo.len;have k4:=amU D.1 D.1 D.2.1 D.2.1 mo.body mo.body (F5 mo.d) mo.t mo.f8 mo.f8 mo.len mo.len;rw [wW ⟨rfl,rfl⟩] at k4;clear mo;generalize aC D.2.1=R at *;unfold bJ at *;refine aG rfl rfl ?_ rfl;simp -implicitDefEqProofs (maxSteps:=10000000) [↓qA,c',k1,k2,k3,k4]
end V
end Go.Proofs.YthgifdbaegpbpaaGreatDoor
