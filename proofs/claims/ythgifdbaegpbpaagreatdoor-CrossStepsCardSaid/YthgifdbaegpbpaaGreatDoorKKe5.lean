/- What the trees compute: plain laws. -/
import Derived.Test.YthgifdbaegpbpaaGreatDoorKKe4
namespace Go.Proofs.YthgifdbaegpbpaaGreatDoor
open Go Go.aN
set_option linter.unusedSimpArgs false
set_option linter.unusedVariables false
set_option maxRecDepth 100000
namespace K
/-- The field that stands next, within so many lists, above a tag; how many bytes it took; the code. -/
def iO (rec:List UInt8->List aF×Int) (w:Nat) (ahead:Nat) (s:List UInt8):aF×Nat×Int:=
 if (au s).2.2≠0 then (.mk 0 0 0 [] [],0,(au s).2.2)
 else if (au s).1 / 4=0 then (.mk 0 0 0 [] [],0,18)
 else if 4294967296 < (au s).1 / 4 then (.mk 0 0 0 [] [],0,18)
 else if 3<=(au s).1 % 4 then (.mk 0 0 0 [] [],0,8)
 else if (au s).1 / 4<=ahead then (.mk 0 0 0 [] [],0,7)
 else
  let r:=s.drop (au s).2.1
  let k:=(au s).2.1+(au r).2.1
  if (au r).2.2≠0 then (.mk 0 0 0 [] [],0,(au r).2.2)
  else if (au s).1 % 4=0 then (.mk ((au s).1 / 4:Nat) 0 (au r).1 [] [],k,0)
  else if s.length - k < (au r).1 then (.mk 0 0 0 [] [],0,1)
  else if (au s).1 % 4=1 then (.mk ((au s).1 / 4:Nat) 1 0 ((s.drop k).take (au r).1) [],k+(au r).1,0)
  else if 8<=w then (.mk 0 0 0 [] [],0,9)
  else if (rec ((s.drop k).take (au r).1)).2≠0 then (.mk 0 0 0 [] [],0,(rec ((s.drop k).take (au r).1)).2)
  else (.mk ((au s).1 / 4:Nat) 2 0 [] (rec ((s.drop k).take (au r).1)).1,k+(au r).1,0)
/-- Fields, within so many lists, above a tag. -/
def dK:Nat->Nat->Nat->List UInt8->List aF×Int
 | 0,_,_,_=>([],0)
 | N+1,w,ahead,s=>if s=[] then ([],0) else
  if (iO (λt=>dK N (w+1) 0 t) w ahead s).2.2≠0 then ([],(iO (λt=>dK N (w+1) 0 t) w ahead s).2.2)
  else if (dK N w ((au s).1 / 4) (s.drop (iO (λt=>dK N (w+1) 0 t) w ahead s).2.1)).2≠0 then ([],(dK N w ((au s).1 / 4) (s.drop (iO (λt=>dK N (w+1) 0 t) w ahead s).2.1)).2)
  else ((iO (λt=>dK N (w+1) 0 t) w ahead s).1::(dK N w ((au s).1 / 4) (s.drop (iO (λt=>dK N (w+1) 0 t) w ahead s).2.1)).1,0)
theorem ae3 (n:Nat) (hn:n < 18446744073709551616):fE .and .u64 (n:Int) 3=some (.i .u64 ((n:Int) % 4)):=by
 have wu:∀y:Int,IntKind.u64.wrap y=y % 18446744073709551616:=λy=>by simp [IntKind.wrap,IntKind.signed,IntKind.bits]
 have e:n &&& 3=n % 4:=aeN n 2;have h1:(BitVec.ofInt 64 (n:Int)).toNat=n:=by rw [xu];omega
 have h3:(BitVec.ofInt 64 3).toNat=3:=by decide
 show some (GV.i IntKind.u64 (IntKind.u64.wrap ((BitVec.ofInt 64 (n:Int) &&& BitVec.ofInt 64 3).toNat:Int)))=_
 rw [XV,h1,h3,e,wu];congr 2;omega
theorem aoP (n:Nat):nY .shr .u64 (n:Int) 2=some (.i .u64 ((n:Int) / 4)):=by
 show some (GV.i IntKind.u64 ((n:Int).fdiv (2 ^ 2)))=_
 rw [L6 _ (by decide)];rfl
theorem am9 (t y w:GV) (s:List UInt8) (at':Nat) (h:at'<=s.length) (hs:s.length<=100000000) (n x:GV) :
 TT.lim 101 [t,y,w,.s s,.i .i64 at',n,x]=some [.i .i64 0,.i .i64 (au (s.drop at')).2.2,.i .u64 ((au (s.drop at')).1:Nat),.s s,.i .i64 ((at'+(au (s.drop at')).2.1:Nat):Int)]:=by
 have k:=zu s at' h (by omega);refine aA rfl rfl ?_;simp [k]
theorem anb (t y w:GV) (s:List UInt8) (at':Nat) (h:at'<=s.length) (hs:s.length<=100000000) (n:GV) :
 ∃a,TT.lim 102 [t,y,w,.s s,.i .i64 at',n,.s []]=some
  (if (au (s.drop at')).2.2≠0 then [.i .i64 0,.i .i64 (au (s.drop at')).2.2,.s [],.s s,.i .i64 (a:Nat)]
  else if s.length - (at'+(au (s.drop at')).2.1) < (au (s.drop at')).1 then [.i .i64 0,.i .i64 1,.s [],.s s,.i .i64 (a:Nat)]
  else [.i .i64 0,.i .i64 0,.s ((s.drop (at'+(au (s.drop at')).2.1)).take (au (s.drop at')).1),.s s,.i .i64 ((at'+(au (s.drop at')).2.1+(au (s.drop at')).1:Nat):Int)]):=by
 have k:=zu s at' h (by omega);by_cases he:(au (s.drop at')).2.2=0;rotate_left
 ·refine ⟨at'+(au (s.drop at')).2.1, ?_⟩
  rw [aj he];generalize (au (s.drop at')).2.2=e at *;refine aA rfl rfl ?_;simp [k,he]
 have hv:=jD he;have hl:=hv.len;have hlt:=hv.lt;rw [eP] at hl;rw [he] at k;refine ⟨at'+(au (s.drop at')).2.1, ?_⟩;rw [ah (λx=>x he)];clear he;generalize (au (s.drop at')).1=m at *;generalize (au (s.drop at')).2.1=j at *;have w1:=wrap64 (n:=(s.length:Int) - ((at'+j:Nat):Int)) (by omega) (by omega);have w2:=kC (n:=(s.length:Int) - ((at'+j:Nat):Int)) (by omega) (by omega);by_cases c:s.length - (at'+j) < m
 ·have c':(s.length:Int) - ((at'+j:Nat):Int) < (m:Int):=by omega
  rw [aj c];generalize ((at'+j:Nat):Int)=A at *;refine aA rfl rfl ?_;simp [k,w1,w2,c']
 ·have c':¬ ((s.length:Int) - ((at'+j:Nat):Int) < (m:Int)):=by omega
  rw [ah c];have w3:=wrap64 (n:=(m:Int)) (by omega) (by omega);have w4:=wrap64 (n:=((at'+j:Nat):Int)+(m:Int)) (by omega) (by omega);have e4:((at'+j:Nat):Int)+(m:Int)=((at'+j+m:Nat):Int):=by omega
  rw [e4] at w4;have b1:(0:Int)<=((at'+j:Nat):Int)/\((at'+j:Nat):Int)<=((at'+j+m:Nat):Int)/\((at'+j+m:Nat):Int)<=s.length:=by omega
  have hsl:(s.take (at'+j+m)).drop (at'+j)=(s.drop (at'+j)).take m:=by rw [F7,show at'+j+m - (at'+j)=m by omega]
  have t1:(((at'+j:Nat):Int)).toNat=at'+j:=by omega
  have t2:(((at'+j+m:Nat):Int)).toNat=at'+j+m:=by omega
  generalize hA:((at'+j:Nat):Int)=A at *;generalize hB:((at'+j+m:Nat):Int)=B at *;refine aA rfl rfl ?_;simp [k,w1,w2,c',w3,e4,w4,b1,t1,t2,hsl]
/-- What is told for reading up to a size. -/
def Jo (N:Nat):Prop:=∀ (w ahead at':Nat) (s:List UInt8),at'<=s.length->s.length<=100000000->(s.drop at').length < N->w<=8->ahead < 18446744073709551616->∃a b,TT.lim 97 [.s s,.i .i64 (w:Nat),.i .u64 (ahead:Nat),.i .i64 (at':Nat)]=some [.i .i64 0,.l (aC (dK N w ahead (s.drop at')).1),.i .i64 (dK N w ahead (s.drop at')).2,.i .u64 (a:Nat),.s s,.i .i64 (b:Nat)]
theorem am6 {N:Nat} (hN:Jo N) (t y:GV) (w:Nat) (hw:w<=8) (s:List UInt8) (at':Nat) (h:at'<=s.length) (hs:s.length<=100000000) (Ug:(s.drop at').length<=N) (n x:GV) :
 ∃a,TT.lim 103 [t,y,.i .i64 (w:Nat),.s s,.i .i64 at',n,x]=some
  (if (au (s.drop at')).2.2≠0 then [.i .i64 0,.i .i64 (au (s.drop at')).2.2,.l [],.s s,.i .i64 (a:Nat)]
  else if s.length - (at'+(au (s.drop at')).2.1) < (au (s.drop at')).1 then [.i .i64 0,.i .i64 1,.l [],.s s,.i .i64 (a:Nat)]
  else if 8<=w then [.i .i64 0,.i .i64 9,.l [],.s s,.i .i64 (a:Nat)]
  else [.i .i64 0,.i .i64 (dK N (w+1) 0 ((s.drop (at'+(au (s.drop at')).2.1)).take (au (s.drop at')).1)).2,.l (aC (dK N (w+1) 0 ((s.drop (at'+(au (s.drop at')).2.1)).take (au (s.drop at')).1)).1),.s s,.i .i64 ((at'+(au (s.drop at')).2.1+(au (s.drop at')).1:Nat):Int)]):=by
 have k:=zu s at' h (by omega);by_cases he:(au (s.drop at')).2.2=0;rotate_left
 ·refine ⟨at'+(au (s.drop at')).2.1, ?_⟩
  rw [aj he];generalize (au (s.drop at')).2.2=e at *;refine aA rfl rfl ?_;simp [k,he]
 have hv:=jD he;have hl:=hv.len;have hlt:=hv.lt;have hp:=hv.pos;rw [eP] at hl Ug;rw [he] at k;by_cases c:s.length - (at'+(au (s.drop at')).2.1) < (au (s.drop at')).1
 ·refine ⟨at'+(au (s.drop at')).2.1, ?_⟩
  rw [ah (λx=>x he),aj c];clear he;generalize (au (s.drop at')).1=m at *;generalize (au (s.drop at')).2.1=j at *;have w1:=wrap64 (n:=(s.length:Int) - ((at'+j:Nat):Int)) (by omega) (by omega);have w2:=kC (n:=(s.length:Int) - ((at'+j:Nat):Int)) (by omega) (by omega);have c':(s.length:Int) - ((at'+j:Nat):Int) < (m:Int):=by omega
  generalize ((at'+j:Nat):Int)=A at *;refine aA rfl rfl ?_;simp [k,w1,w2,c']
 by_cases c8:8<=w
 ·refine ⟨at'+(au (s.drop at')).2.1+(au (s.drop at')).1, ?_⟩
  rw [ah (λx=>x he),ah c,aj c8];clear he;generalize (au (s.drop at')).1=m at *;generalize (au (s.drop at')).2.1=j at *;have w1:=wrap64 (n:=(s.length:Int) - ((at'+j:Nat):Int)) (by omega) (by omega);have w2:=kC (n:=(s.length:Int) - ((at'+j:Nat):Int)) (by omega) (by omega);have c':¬ ((s.length:Int) - ((at'+j:Nat):Int) < (m:Int)):=by omega
  have w3:=wrap64 (n:=(m:Int)) (by omega) (by omega);have w4:=wrap64 (n:=((at'+j:Nat):Int)+(m:Int)) (by omega) (by omega);have e4:((at'+j:Nat):Int)+(m:Int)=((at'+j+m:Nat):Int):=by omega
  rw [e4] at w4;have b1:(0:Int)<=((at'+j:Nat):Int)/\((at'+j:Nat):Int)<=((at'+j+m:Nat):Int)/\((at'+j+m:Nat):Int)<=s.length:=by omega
  have DU:(8:Int)<=(w:Int):=by omega
  generalize hA:((at'+j:Nat):Int)=A at *;generalize hB:((at'+j+m:Nat):Int)=B at *;refine aA rfl rfl ?_;simp [k,w1,w2,c',w3,e4,w4,b1,DU]
 ·refine ⟨0, ?_⟩
  rw [ah (λx=>x he),ah c,ah c8];clear he;generalize (au (s.drop at')).1=m at *;generalize (au (s.drop at')).2.1=j at *;have hr:=hN (w+1) 0 0 ((s.drop (at'+j)).take m) (by omega) (by rw [oh,eP];omega) (by rw [eH,oh,eP];omega) (by omega) (by omega);obtain ⟨a,b,hr⟩:=hr;rw [eH] at hr;have w1:=wrap64 (n:=(s.length:Int) - ((at'+j:Nat):Int)) (by omega) (by omega);have w2:=kC (n:=(s.length:Int) - ((at'+j:Nat):Int)) (by omega) (by omega);have c':¬ ((s.length:Int) - ((at'+j:Nat):Int) < (m:Int)):=by omega
  have w3:=wrap64 (n:=(m:Int)) (by omega) (by omega);have w4:=wrap64 (n:=((at'+j:Nat):Int)+(m:Int)) (by omega) (by omega);have e4:((at'+j:Nat):Int)+(m:Int)=((at'+j+m:Nat):Int):=by omega
  rw [e4] at w4;have b1:(0:Int)<=((at'+j:Nat):Int)/\((at'+j:Nat):Int)<=((at'+j+m:Nat):Int)/\((at'+j+m:Nat):Int)<=s.length:=by omega
  have hsl:(s.take (at'+j+m)).drop (at'+j)=(s.drop (at'+j)).take m:=by rw [F7,show at'+j+m - (at'+j)=m by omega]
  have t1:(((at'+j:Nat):Int)).toNat=at'+j:=by omega
  have t2:(((at'+j+m:Nat):Int)).toNat=at'+j+m:=by omega
  have DU:¬ (8:Int)<=(w:Int):=by omega
  have w5:=wrap64 (n:=(w:Int)+1) (by omega) (by omega);have e5:(w:Int)+1=((w+1:Nat):Int):=by omega
  simp only [zF] at hr;rw [<- e5] at hr;generalize (s.drop (at'+j)).take m=T at *;generalize dK N (w+1) 0 T=R at *;generalize hA:((at'+j:Nat):Int)=A at *;generalize hB:((at'+j+m:Nat):Int)=B at *;generalize hW:(w:Int)=W at *;clear e5;refine aA rfl rfl ?_;simp [k,w1,w2,c',w3,e4,w4,b1,t1,t2,hsl,DU,w5,hr]
theorem am8 {N:Nat} (hN:Jo N) (w ahead:Nat) (hw:w<=8) (ha:ahead < 18446744073709551616) (s:List UInt8) (at':Nat) (h:at'<=s.length) (hs:s.length<=100000000) (Ug:(s.drop at').length<=N+1) :
 ∃a b:Nat,TT.lim 99 [.i .i64 (w:Nat),.i .u64 (ahead:Nat),.s s,.i .i64 at']=some (.i .i64 0::((nO (iO (λt=>dK N (w+1) 0 t) w ahead (s.drop at')).1).cells++[.i .i64 (iO (λt=>dK N (w+1) 0 t) w ahead (s.drop at')).2.2,.i .u64 (a:Nat),.s s,.i .i64 (b:Nat)]))/\
  ((iO (λt=>dK N (w+1) 0 t) w ahead (s.drop at')).2.2=0->a=(au (s.drop at')).1 / 4/\b=at'+(iO (λt=>dK N (w+1) 0 t) w ahead (s.drop at')).2.1/\1<=(iO (λt=>dK N (w+1) 0 t) w ahead (s.drop at')).2.1/\b<=s.length):=by
 have k:=zu s at' h (by omega);have fn:aC []=[]:=by simp only [aC]
 have hz:(nO (.mk 0 0 0 [] [])).cells=[.i .u64 0,.i .i64 0,.i .u64 0,.s [],.l []]:=by rw [Hf,fn]
 unfold iO;by_cases he:(au (s.drop at')).2.2=0;rotate_left
 ·refine ⟨ahead,at'+(au (s.drop at')).2.1, ?_, ?_⟩
  ·simp only [aj he]
   rw [hz];generalize (au (s.drop at')).2.2=e at *;refine aA rfl rfl ?_;simp [k,he]
  ·simp only [aj he];exact λx=>absurd x he
 have hv:=jD he;have hl:=hv.len;have hlt:=hv.lt;have hp:=hv.pos;rw [eP] at hl Ug;have hdd:(s.drop at').drop (au (s.drop at')).2.1=s.drop (at'+(au (s.drop at')).2.1):=by rw [oW]
 rw [hdd];have hud:(s.drop at').length=s.length - at':=eP;rw [hud];rw [he] at k;simp only [ah (λx=>x he:¬ (au (s.drop at')).2.2≠0)];have hdk:∀j2:Nat,(s.drop at').drop ((au (s.drop at')).2.1+j2)=s.drop (at'+(au (s.drop at')).2.1+j2):=λj2=>by rw [oW,iQ]
 rw [hdk];clear he hv hdd hud hdk;generalize (au (s.drop at')).1=n at *;generalize (au (s.drop at')).2.1=j at *;have S:=aoP n;have A:=ae3 n hlt;have wA:=wrap64 (n:=(n:Int) % 4) (by omega) (by omega);by_cases c1:n / 4=0
 ·refine ⟨ahead,at'+j, ?_, ?_⟩
  ·simp only [aj c1]
   rw [hz];have c1':(n:Int) / 4=0:=by omega
   generalize (n:Int) / 4=q at *;refine aA rfl rfl ?_;simp [k,S,A,wA,c1']
  ·simp only [aj c1];exact λx=>absurd x (by decide)
 have c1':¬ (n:Int) / 4=0:=by omega
 simp only [ah c1];by_cases c2:4294967296 < n / 4
 ·refine ⟨ahead,at'+j, ?_, ?_⟩
  ·simp only [aj c2]
   rw [hz];have c2':4294967296 < (n:Int) / 4:=by omega
   generalize (n:Int) / 4=q at *;refine aA rfl rfl ?_;simp [k,S,A,wA,c1',c2']
  ·simp only [aj c2];exact λx=>absurd x (by decide)
 have c2':¬ 4294967296 < (n:Int) / 4:=by omega
 simp only [ah c2];by_cases c3:3<=n % 4
 ·refine ⟨ahead,at'+j, ?_, ?_⟩
  ·simp only [aj c3]
   rw [hz];have c3':3<=(n:Int) % 4:=by omega
   generalize (n:Int) / 4=q at *;generalize (n:Int) % 4=y at *;refine aA rfl rfl ?_;simp [k,S,A,wA,c1',c2',c3']
  ·simp only [aj c3];exact λx=>absurd x (by decide)
 have c3':¬ 3<=(n:Int) % 4:=by omega
 simp only [ah c3];by_cases c4:n / 4<=ahead
 ·refine ⟨ahead,at'+j, ?_, ?_⟩
  ·simp only [aj c4]
   rw [hz];have nN:(n:Int) / 4<=(ahead:Int):=by omega
   generalize (n:Int) / 4=q at *;generalize (n:Int) % 4=y at *;generalize (ahead:Int)=AH at *;refine aA rfl rfl ?_;simp [k,S,A,wA,c1',c2',c3',nN]
  ·simp only [aj c4];exact λx=>absurd x (by decide)
 have nN:¬ (n:Int) / 4<=(ahead:Int):=by omega
 simp only [ah c4];have qn:((n / 4:Nat):Int)=(n:Int) / 4:=by omega
 have hj:at'+j<=s.length:=by omega
 rcases (show n % 4=0\/n % 4=1\/n % 4=2 by omega) with y0 | y1 | y2
 ·have y':(n:Int) % 4=0:=by omega
  have kn:=am9 (.i .u64 ((n:Int) / 4)) (.i .i64 0) (.i .i64 (w:Nat)) s (at'+j) hj hs (.i .u64 0) (.s []);rw [y'] at A wA;by_cases e2:(au (s.drop (at'+j))).2.2=0
  ·have hv2:=jD e2
   have hl2:=hv2.len;rw [eP] at hl2;refine ⟨n / 4,at'+j+(au (s.drop (at'+j))).2.1, ?_, ?_⟩
   ·simp only [ah (λx=>x e2:¬ (au (s.drop (at'+j))).2.2≠0),aj y0]
    rw [Hf,fn,qn];rw [e2] at kn;clear hv2 hl2 e2;generalize (au (s.drop (at'+j))).1=m at *;generalize ((at'+j+(au (s.drop (at'+j))).2.1:Nat):Int)=B at *;generalize ((at'+j:Nat):Int)=AT at *;generalize (n:Int) / 4=q at *;generalize (ahead:Int)=AH at *;refine aA rfl rfl ?_;simp [k,S,A,wA,c1',c2',nN,kn]
   ·simp only [ah (λx=>x e2:¬ (au (s.drop (at'+j))).2.2≠0),aj y0]
    refine λ_=>⟨?_, ?_, ?_, ?_⟩<;>first | trivial | rfl | omega
  ·refine ⟨n / 4,at'+j+(au (s.drop (at'+j))).2.1, ?_, ?_⟩
   ·simp only [aj e2]
    rw [hz,qn];generalize (au (s.drop (at'+j))).1=m at *;generalize ((at'+j+(au (s.drop (at'+j))).2.1:Nat):Int)=B at *;generalize (au (s.drop (at'+j))).2.2=e at *;generalize ((at'+j:Nat):Int)=AT at *;generalize (n:Int) / 4=q at *;generalize (ahead:Int)=AH at *;refine aA rfl rfl ?_;simp [k,S,A,wA,c1',c2',nN,kn,e2]
   ·simp only [aj e2];exact λx=>absurd x e2
 ·have y':(n:Int) % 4=1:=by omega
  have y0:¬ n % 4=0:=by omega
  obtain ⟨a,kn⟩:=anb (.i .u64 ((n:Int) / 4)) (.i .i64 1) (.i .i64 (w:Nat)) s (at'+j) hj hs (.i .u64 0);rw [y'] at A wA;have hlen:s.length - at' - (j+(au (s.drop (at'+j))).2.1)=s.length - (at'+j+(au (s.drop (at'+j))).2.1):=by omega
  by_cases e2:(au (s.drop (at'+j))).2.2=0
  ·have hv2:=jD e2
   have hl2:=hv2.len;rw [eP] at hl2;rw [ah (λx=>x e2)] at kn;simp only [ah (λx=>x e2:¬ (au (s.drop (at'+j))).2.2≠0),ah y0];rw [hlen];by_cases c:s.length - (at'+j+(au (s.drop (at'+j))).2.1) < (au (s.drop (at'+j))).1
   ·rw [aj c] at kn
    simp only [aj c];refine ⟨n / 4,a, ?_,λx=>absurd x (by decide)⟩;rw [hz,qn];generalize ((at'+j:Nat):Int)=AT at *;generalize (n:Int) / 4=q at *;generalize (ahead:Int)=AH at *;refine aA rfl rfl ?_;simp [k,S,A,wA,c1',c2',nN,kn]
   ·rw [ah c] at kn
    simp only [ah c,aj y1];refine ⟨n / 4,at'+j+(au (s.drop (at'+j))).2.1+(au (s.drop (at'+j))).1, ?_,λ_=>⟨rfl,by omega,by omega,by omega⟩⟩;rw [Hf,fn,qn];generalize (s.drop (at'+j+(au (s.drop (at'+j))).2.1)).take (au (s.drop (at'+j))).1=T at *;generalize ((at'+j+(au (s.drop (at'+j))).2.1+(au (s.drop (at'+j))).1:Nat):Int)=B at *;generalize ((at'+j:Nat):Int)=AT at *;generalize (n:Int) / 4=q at *;generalize (ahead:Int)=AH at *;refine aA rfl rfl ?_;simp [k,S,A,wA,c1',c2',nN,kn]
  ·rw [aj e2] at kn
   simp only [aj e2];refine ⟨n / 4,a, ?_,λx=>absurd x e2⟩;rw [hz,qn];generalize (au (s.drop (at'+j))).2.2=e at *;generalize ((at'+j:Nat):Int)=AT at *;generalize (n:Int) / 4=q at *;generalize (ahead:Int)=AH at *;refine aA rfl rfl ?_;simp [k,S,A,wA,c1',c2',nN,kn,e2]
 ·have y':(n:Int) % 4=2:=by omega
  have y0:¬ n % 4=0:=by omega
  have y1:¬ n % 4=1:=by omega
  obtain ⟨a,kn⟩:=am6 hN (.i .u64 ((n:Int) / 4)) (.i .i64 2) w hw s (at'+j) hj hs (by rw [eP];omega) (.i .u64 0) (.s []);rw [y'] at A wA;have hlen:s.length - at' - (j+(au (s.drop (at'+j))).2.1)=s.length - (at'+j+(au (s.drop (at'+j))).2.1):=by omega
  by_cases e2:(au (s.drop (at'+j))).2.2=0
  ·have hv2:=jD e2
   have hl2:=hv2.len;rw [eP] at hl2;rw [ah (λx=>x e2)] at kn;simp only [ah (λx=>x e2:¬ (au (s.drop (at'+j))).2.2≠0),ah y0];rw [hlen];by_cases c:s.length - (at'+j+(au (s.drop (at'+j))).2.1) < (au (s.drop (at'+j))).1
   ·rw [aj c] at kn
    simp only [aj c];refine ⟨n / 4,a, ?_,λx=>absurd x (by decide)⟩;rw [hz,qn];generalize ((at'+j:Nat):Int)=AT at *;generalize (n:Int) / 4=q at *;generalize (ahead:Int)=AH at *;refine aA rfl rfl ?_;simp [k,S,A,wA,c1',c2',nN,kn]
   ·rw [ah c] at kn
    simp only [ah c,ah y1];by_cases c8:8<=w
    ·rw [aj c8] at kn
     simp only [aj c8];refine ⟨n / 4,a, ?_,λx=>absurd x (by decide)⟩;rw [hz,qn];generalize ((at'+j:Nat):Int)=AT at *;generalize (n:Int) / 4=q at *;generalize (ahead:Int)=AH at *;refine aA rfl rfl ?_;simp [k,S,A,wA,c1',c2',nN,kn]
    ·rw [ah c8] at kn
     simp only [ah c8];generalize (s.drop (at'+j+(au (s.drop (at'+j))).2.1)).take (au (s.drop (at'+j))).1=T at *;by_cases e3:(dK N (w+1) 0 T).2=0
     ·simp only [ah (λx=>x e3:¬ (dK N (w+1) 0 T).2≠0)]
      refine ⟨n / 4,at'+j+(au (s.drop (at'+j))).2.1+(au (s.drop (at'+j))).1, ?_,λ_=>⟨rfl,by omega,by omega,by omega⟩⟩;rw [Hf,qn];rw [e3] at kn;clear e3 c e2 hv2 hl2 hlen;generalize dK N (w+1) 0 T=R at *;generalize ((at'+j+(au (s.drop (at'+j))).2.1+(au (s.drop (at'+j))).1:Nat):Int)=B at *;generalize ((at'+j:Nat):Int)=AT at *;generalize (n:Int) / 4=q at *;generalize (ahead:Int)=AH at *;refine aA rfl rfl ?_;simp [k,S,A,wA,c1',c2',nN,kn]
     ·simp only [aj e3]
      refine ⟨n / 4,at'+j+(au (s.drop (at'+j))).2.1+(au (s.drop (at'+j))).1, ?_,λx=>absurd x e3⟩;rw [hz,qn];clear c e2 hv2 hl2 hlen;generalize dK N (w+1) 0 T=R at *;generalize ((at'+j+(au (s.drop (at'+j))).2.1+(au (s.drop (at'+j))).1:Nat):Int)=B at *;generalize ((at'+j:Nat):Int)=AT at *;generalize (n:Int) / 4=q at *;generalize (ahead:Int)=AH at *;refine aA rfl rfl ?_;simp [k,S,A,wA,c1',c2',nN,kn,e3]
  ·rw [aj e2] at kn
   simp only [aj e2];refine ⟨n / 4,a, ?_,λx=>absurd x e2⟩;rw [hz,qn];generalize (au (s.drop (at'+j))).2.2=e at *;generalize ((at'+j:Nat):Int)=AT at *;generalize (n:Int) / 4=q at *;generalize (ahead:Int)=AH at *;refine aA rfl rfl ?_;simp [k,S,A,wA,c1',c2',nN,kn,e2]
def MJ (N:Nat):Prop:=∀ (w:Nat) (acc:List aF) (ahead at':Nat) (s:List UInt8),w<=8->acc.length+(s.drop at').length<=200000000->at'<=s.length->s.length<=100000000->(s.drop at').length < N->ahead < 18446744073709551616->
 ∃a b:Nat,TT.lim 98 [.l (aC acc),.i .i64 (w:Nat),.i .u64 (ahead:Nat),.s s,.i .i64 (at':Nat)]=some (if (dK N w ahead (s.drop at')).2=0 then [.i .i64 1,.l (aC (acc++(dK N w ahead (s.drop at')).1)),.i .u64 (a:Nat),.s s,.i .i64 (b:Nat)] else [.i .i64 0,.i .i64 (dK N w ahead (s.drop at')).2,.i .u64 (a:Nat),.s s,.i .i64 (b:Nat)])
theorem am4:∀ (N w ahead:Nat) (s:List UInt8),(dK N w ahead s).2≠0->(dK N w ahead s).1=[]
 | 0,_,_,_,_=>rfl
 | N+1,w,ahead,s,h=>by
  unfold dK at h ⊢;by_cases h1:s=[]
  ·rw [aj h1]
  rw [ah h1] at h ⊢;by_cases h2:(iO (λt=>dK N (w+1) 0 t) w ahead s).2.2≠0
  ·rw [aj h2]
  rw [ah h2] at h ⊢;by_cases h3:(dK N w ((au s).1 / 4) (s.drop (iO (λt=>dK N (w+1) 0 t) w ahead s).2.1)).2≠0
  ·rw [aj h3]
  ·rw [ah h3] at h;exact absurd rfl h
theorem am7 {N:Nat} (hN:Jo N) (hL:MJ N):MJ (N+1):=by
 intro w acc ahead at' s hw hac h hs hl ha;have hud:(s.drop at').length=s.length - at':=eP;have wl:=wrap64 (n:=(s.length:Int) - (at':Int)) (by omega) (by omega);unfold dK;by_cases h1:s.drop at'=[]
 ·have hle:s.length - at'=0:=by rw [<- hud,h1];rfl
  have hp:¬ at' < s.length:=by omega
  refine ⟨ahead,at', ?_⟩;rw [aj h1];simp only [if_true,nK];refine aA rfl rfl ?_;simp [wl,hp]
 have hlp:0 < s.length - at':=by
  rw [<- hud];exact Mc.2 h1
 have hp:at' < s.length:=by omega
 simp only [ah h1];obtain ⟨a,b,hn,hok⟩:=am8 hN w ahead hw ha s at' h hs (by omega);have la:=kU acc;by_cases he:(iO (λt=>dK N (w+1) 0 t) w ahead (s.drop at')).2.2=0;rotate_left
 ·refine ⟨a,b, ?_⟩
  rw [aj he];generalize iO (λt=>dK N (w+1) 0 t) w ahead (s.drop at')=o at *;obtain ⟨f,used,e⟩:=o;obtain ⟨t,y,n,tx,k⟩:=f;simp only at *;rw [ah he];rw [Hf] at hn;simp only [dW,cu] at hn;refine aA rfl rfl ?_;simp [wl,hp,hn,he]
 obtain ⟨ea,eb,hu,hb⟩:=hok he;have hv0:(au (s.drop at')).2.2=0:=by
  by_cases c:(au (s.drop at')).2.2=0
  ·exact c
  ·exfalso
   unfold iO at he;rw [aj c] at he;exact c he
 have aji:=(jD hv0).lt;simp only [ah (λx=>x he:¬ (iO (λt=>dK N (w+1) 0 t) w ahead (s.drop at')).2.2≠0)];rw [he] at hn;have hdd:(s.drop at').drop (iO (λt=>dK N (w+1) 0 t) w ahead (s.drop at')).2.1=s.drop b:=by rw [oW,<- eb]
 rw [hdd];rw [<- ea];clear hdd he hok;have ajc:(s.drop b).length=s.length - b:=eP;obtain ⟨a2,b2,h2⟩:=hL w (acc++[(iO (λt=>dK N (w+1) 0 t) w ahead (s.drop at')).1]) a b s hw (by rw [dQ,Bg];omega) hb hs (by omega) (by omega);refine ⟨a2,b2, ?_⟩;generalize iO (λt=>dK N (w+1) 0 t) w ahead (s.drop at')=o at *;obtain ⟨f,used,e⟩:=o;obtain ⟨t,y,n,tx,k⟩:=f;simp only at *;rw [Hf] at hn;simp only [dW,cu] at hn;have hfa:aC (acc++[.mk t y n tx k])=aC acc++[pG t y n tx k]:=by rw [Oq];simp only [aC,nO];rfl
 have hel:(pG t y n tx k).fO 5=true:=rfl;have hfe:GV.g [.i .u64 t,.i .i64 y,.i .u64 n,.s tx,.l (aC k)]=pG t y n tx k:=rfl;have c1:2 * ((aC acc).length+1) * 64<=281474976710656/\(aC acc).length+1<=281474976710656:=by omega
 rw [hfa] at h2;clear hfa ea eb aji hv0 hu hb hud ajc hac hlp h1 la;by_cases h3:(dK N w a (s.drop b)).2=0
 ·rw [aj h3] at h2
  simp only [ah (λx=>x h3:¬ (dK N w a (s.drop b)).2≠0)];simp only [if_true];have happ:acc++[aF.mk t y n tx k]++(dK N w a (s.drop b)).1=acc++(aF.mk t y n tx k::(dK N w a (s.drop b)).1):=by simp
  rw [happ] at h2;clear happ h3;generalize aC (acc++(aF.mk t y n tx k::(dK N w a (s.drop b)).1))=R at *;generalize pG t y n tx k=E at *;generalize aC acc=A at *;refine aA rfl rfl ?_;simp [wl,hp,hn,hfe,hel,c1,h2]
 ·rw [ah h3] at h2
  simp only [aj h3];rw [ah h3];generalize dK N w a (s.drop b)=RR at *;generalize pG t y n tx k=E at *;generalize aC acc=A at *;refine aA rfl rfl ?_;simp [wl,hp,hn,hfe,hel,c1,h2]
theorem ana {N:Nat} (hL:MJ N):Jo N:=by
 intro w ahead at' s h hs hl hw ha;have hud:(s.drop at').length=s.length - at':=eP;obtain ⟨a,b,h0⟩:=hL w [] ahead at' s hw (by simp only [vg];omega) h hs hl ha;have fn:aC []=[]:=by simp only [aC]
 refine ⟨a,b, ?_⟩;rw [fn,cu] at h0;have hbad:=am4 N w ahead (s.drop at');generalize dK N w ahead (s.drop at')=R at *;by_cases h3:R.2=0
 ·rw [aj h3] at h0
  rw [h3];refine aA rfl rfl ?_;simp [h0]
 ·rw [ah h3] at h0
  rw [hbad h3,fn];refine aA rfl rfl ?_;simp [h0]
theorem ada:∀N:Nat,Jo N/\MJ N
 | 0=>⟨λw ahead at' s _ _ hl _ _=>absurd hl (by omega),λw acc ahead at' s _ _ _ _ hl _=>absurd hl (by omega)⟩
 | N+1=>by
  have ih:=ada N;have hl:=am7 ih.1 ih.2;exact ⟨ana hl,hl⟩
/-- What wire.Get reads. -/
def vO (s:List UInt8):List aF×Int:=if 65536 < s.length then ([],4) else dK (s.length+1) 0 0 s
theorem arB (s:List UInt8) (hs:s.length<=140737488351232):TT.lim 96 [.s s]=some [.l (aC (vO s).1),.i .i64 (vO s).2]:=by
 unfold vO;have fn:aC []=[]:=by simp only [aC]
 by_cases c:65536 < s.length
 ·have c':(65536:Int) < s.length:=by omega
  rw [aj c,fn];refine aY rfl rfl ?_ rfl;simp [c']
 ·have c':¬ (65536:Int) < s.length:=by omega
  obtain ⟨a,b,h0⟩:=(ada (s.length+1)).1 0 0 0 s (by omega) (by omega) (by rw [eH];omega) (by omega) (by omega);rw [eH] at h0;rw [ah c];simp only [zF] at h0;generalize dK (s.length+1) 0 0 s=R at *;refine aY rfl rfl ?_ rfl;simp [c',h0]
def rC (l:List bV):List GV:=l.map λs=>GV.i .u64 s.tag
theorem abB (l:List bV) (hl:l.length<=1000):∀ (m i:Nat) (acc:List GV),i+m=l.length->acc.length+m<=2000->TT.lim 106 [.l acc,.l (l.map dV),.i .i64 l.length,.i .i64 i]=some [.i .i64 0,.l (acc++rC (l.drop i))]
 | 0,i,acc,hi,ha=>by
  have h:¬ ((i:Int) < l.length):=by omega
  have e:l.drop i=[]:=gZ (by omega);rw [e];show _=some [GV.i .i64 0,.l (acc++[])]
  rw [nK];refine aA rfl rfl ?_;simp [h]
 | m+1,i,acc,hi,ha=>by
  have hlt:i < l.length:=by omega
  have h:((i:Int) < l.length):=by omega
  have hat:(l.map dV)[i]? = some (dV l[i]):=by rw [jg,bU hlt];rfl
  have hcast:((i+1:Nat):Int)=(i:Int)+1:=by omega
  have hw:=wrap64 (n:=(i:Int)+1) (by omega) (by omega);have hd:l.drop i=l[i]::l.drop (i+1):=jw hlt;have ih:=abB l hl m (i+1) (acc++[.i .u64 l[i].tag]) (by omega) (by rw [dQ,Bg];omega);rw [hd];have hq:acc++rC (l[i]::l.drop (i+1))=acc++[GV.i .u64 l[i].tag]++rC (l.drop (i+1)):=by
   rw [show rC (l[i]::l.drop (i+1))=GV.i .u64 l[i].tag::rC (l.drop (i+1)) from rfl,List.append_assoc];rfl
  rw [hq];rw [hcast] at ih;have c1:2 * (acc.length+1) * 8<=281474976710656/\acc.length+1<=281474976710656:=by omega
  clear hq hd;generalize acc++[GV.i .u64 l[i].tag]++rC (l.drop (i+1))=R at *;generalize l[i]=s at *;generalize l.map dV=SP at *;refine aA rfl rfl ?_;simp [h,hat,c1,GV.fO,hw,ih]
theorem ajH (k v:Int) (h1:1<=v) (h3:v<=3) (hk:jm k<=v):TT.lim 105 [.i .i64 k,.i .i64 v]=some [.l (rC (aH k v))]:=by
 have hkn:=O6 k v h1 h3 hk;have k8:=yX k v;have h0:=abB (aH k v) (by omega) (aH k v).length 0 [] (by omega) (by simp;omega);rw [eH,cu] at h0;simp only [zF] at h0;have hal:(((aH k v).map dV).length:Int)=((aH k v).length:Int):=by rw [wC]
 generalize rC (aH k v)=TG at *;generalize (aH k v).map dV=SP at *;generalize ((aH k v).length:Int)=L at *;refine aY rfl rfl ?_ rfl;simp [hkn,hal,h0]
/-- The names for tags, as a map. -/
def Ai (xs:List GV) (l:List bV):List GV:=l.foldl (λm s=>jR (.i .u64 s.tag) (.s s.name) m) xs
theorem ZE (l:List bV) (hl:l.length<=1000) (x0 x1 x2:GV):∀ (m i:Nat) (xs:List GV),i+m=l.length->TT.lim 104 [x0,x1,x2,.l (l.map dV),.i .i64 l.length,.i .i64 i,.l xs]=some [.i .i64 0,.l (Ai xs (l.drop i))]
 | 0,i,xs,hi=>by
  have h:¬ ((i:Int) < l.length):=by omega
  have e:l.drop i=[]:=gZ (by omega);rw [e];show _=some [GV.i .i64 0,.l xs]
  refine aA rfl rfl ?_;simp [h]
 | m+1,i,xs,hi=>by
  have hlt:i < l.length:=by omega
  have h:((i:Int) < l.length):=by omega
  have hat:(l.map dV)[i]? = some (dV l[i]):=by rw [jg,bU hlt];rfl
  have hcast:((i+1:Nat):Int)=(i:Int)+1:=by omega
  have hw:=wrap64 (n:=(i:Int)+1) (by omega) (by omega);have hd:l.drop i=l[i]::l.drop (i+1):=jw hlt;have ih:=ZE l hl x0 x1 x2 m (i+1) (jR (.i .u64 l[i].tag) (.s l[i].name) xs) (by omega);rw [hd];show _=some [GV.i .i64 0,.l (Ai (jR (.i .u64 l[i].tag) (.s l[i].name) xs) (l.drop (i+1)))]
  rw [hcast] at ih;generalize Ai (jR (.i .u64 l[i].tag) (.s l[i].name) xs) (l.drop (i+1))=R at *;generalize l[i]=s at *;generalize l.map dV=SP at *;refine aA rfl rfl ?_;simp [h,hat,hw,ih]
theorem acz (t:Int):∀ (l:List bV) (xs:List GV),l.Pairwise (λa b=>a.tag < b.tag)->gV (.i .u64 t) (Ai xs l)=(match l.find? (λs=>decide (s.tag=t)) with
 | some s=>some (.s s.name)
 | none=>gV (.i .u64 t) xs)
 | [],xs,_=>rfl
 | s::l,xs,hp=>by
  rw [sG] at hp;have ih:=acz t l (jR (.i .u64 s.tag) (.s s.name) xs) hp.2;show gV (.i .u64 t) (Ai (jR (.i .u64 s.tag) (.s s.name) xs) l)=_
  rw [ih,List.find?_cons];by_cases h:s.tag=t
  ·have hno:l.find? (λs=>decide (s.tag=t))=none:=by
    rw [List.find?_eq_none];intro x hx;have:=hp.1 x hx;simp;omega
   rw [hno];simp only [h,decide_true];rw [xH,aj rfl]
  ·simp only [h,decide_false]
   cases hf:l.find? (λs=>decide (s.tag=t)) with
   | some x=>rfl
   | none=>
    simp only;rw [xH,ah (λe=>h e.symm)]
def zO (xs:List GV) (l:List bV):List GV:=l.foldl (λm s=>jR (.i .u64 s.tag) (.b true) m) xs
theorem adH (l:List bV) (hl:l.length<=1000) (x0:GV):∀ (m i:Nat) (xs:List GV),i+m=l.length->TT.lim 108 [x0,.l (rC l),.i .i64 l.length,.i .i64 i,.l xs]=some [.i .i64 0,.l (zO xs (l.drop i))]
 | 0,i,xs,hi=>by
  have h:¬ ((i:Int) < l.length):=by omega
  have e:l.drop i=[]:=gZ (by omega);rw [e];show _=some [GV.i .i64 0,.l xs]
  refine aA rfl rfl ?_;simp [h]
 | m+1,i,xs,hi=>by
  have hlt:i < l.length:=by omega
  have h:((i:Int) < l.length):=by omega
  have hat:(rC l)[i]? = some (.i .u64 l[i].tag):=by unfold rC;rw [jg,bU hlt];rfl
  have hcast:((i+1:Nat):Int)=(i:Int)+1:=by omega
  have hw:=wrap64 (n:=(i:Int)+1) (by omega) (by omega);have hd:l.drop i=l[i]::l.drop (i+1):=jw hlt;have ih:=adH l hl x0 m (i+1) (jR (.i .u64 l[i].tag) (.b true) xs) (by omega);rw [hd];show _=some [GV.i .i64 0,.l (zO (jR (.i .u64 l[i].tag) (.b true) xs) (l.drop (i+1)))]
  rw [hcast] at ih;generalize zO (jR (.i .u64 l[i].tag) (.b true) xs) (l.drop (i+1))=R at *;generalize l[i]=s at *;generalize rC l=TG at *;refine aA rfl rfl ?_;simp [h,hat,hw,ih]
theorem YV (t:Int):∀ (l:List bV) (xs:List GV),gV (.i .u64 t) (zO xs l)=if hasTag l t=true then some (.b true) else gV (.i .u64 t) xs
 | [],xs=>rfl
 | s::l,xs=>by
  have ih:=YV t l (jR (.i .u64 s.tag) (.b true) xs);show gV (.i .u64 t) (zO (jR (.i .u64 s.tag) (.b true) xs) l)=_
  rw [ih,xH];unfold hasTag;rw [List.any_cons];by_cases h:t=s.tag
  ·simp [h]
  ·simp [h]
def jH (l:List bV) (fs:List aF):List aF:=fs.filter λf=>hasTag l f.tag
def gW (l:List bV) (fs:List aF):List aF:=fs.filter λf=>!hasTag l f.tag
theorem adI (l:List bV) (fs:List aF) (hfs:fs.length<=1000000):∀ (m i:Nat) (a b:List aF),i+m=fs.length->a.length+b.length+m<=3000000->TT.lim 109 [.l (aC fs),.l (aC a),.l (aC b),.i .i64 fs.length,.i .i64 i,.l (zO [] l)]=some [.i .i64 0,.l (aC (a++jH l (fs.drop i))),.l (aC (b++gW l (fs.drop i)))]
 | 0,i,a,b,hi,ha=>by
  have h:¬ ((i:Int) < fs.length):=by omega
  have e:fs.drop i=[]:=gZ (by omega);rw [e];have e1:jH l []=[]:=rfl;have e2:gW l []=[]:=rfl;rw [e1,e2,nK,nK];refine aA rfl rfl ?_;simp [h]
 | m+1,i,a,b,hi,ha=>by
  have h:((i:Int) < fs.length):=by omega
  obtain ⟨t,y,n,s,k,g1,g2,g3,g4⟩:=BX (l:=fs) (i:=i) (by omega);have hcast:((i+1:Nat):Int)=(i:Int)+1:=by omega
  have hw:=wrap64 (n:=(i:Int)+1) (by omega) (by omega);have hg:=YV t l [];have hfa:∀z:List aF,aC (z++[.mk t y n s k])=aC z++[pG t y n s k]:=λz=>by rw [Oq];simp only [aC,nO];rfl
  have hel:(pG t y n s k).fO 5=true:=rfl;have hfe:GV.g [.i .u64 t,.i .i64 y,.i .u64 n,.s s,.l (aC k)]=pG t y n s k:=rfl;have la:=kU a;have lb:=kU b;have ih:=λa b ha=>adI l fs hfs m (i+1) a b (by omega) ha;simp only [hcast] at ih;rw [g3];have hn0:gV (.i .u64 t) []=none:=rfl;cases ht:hasTag l t with
  | true=>
   have e1:jH l (.mk t y n s k::fs.drop (i+1))=.mk t y n s k::jH l (fs.drop (i+1)):=by unfold jH;rw [aeI (by exact ht)]
   have e2:gW l (.mk t y n s k::fs.drop (i+1))=gW l (fs.drop (i+1)):=by unfold gW;rw [aeH (by show ¬ (!hasTag l t)=true;rw [ht];decide)]
   rw [e1,e2];have ih:=ih (a++[.mk t y n s k]) b (by rw [dQ,Bg];omega);rw [hfa,List.append_assoc,Ym] at ih;rw [ht,aj rfl] at hg;have c1:2 * ((aC a).length+1) * 64<=281474976710656/\(aC a).length+1<=281474976710656:=by omega
   generalize aC (a++.mk t y n s k::jH l (fs.drop (i+1)))=R1 at *;generalize aC (b++gW l (fs.drop (i+1)))=R2 at *;clear hfa la lb e1 e2;generalize zO [] l=MP at *;generalize aC a=A at *;generalize aC b=B at *;refine aA rfl rfl ?_;simp [h,g2,hg,hfe,hel,c1,hw,ih]
  | false=>
   have e1:jH l (.mk t y n s k::fs.drop (i+1))=jH l (fs.drop (i+1)):=by unfold jH;rw [aeH (by show ¬ hasTag l t=true;rw [ht];decide)]
   have e2:gW l (.mk t y n s k::fs.drop (i+1))=.mk t y n s k::gW l (fs.drop (i+1)):=by unfold gW;rw [aeI (by show (!hasTag l t)=true;rw [ht];rfl)]
   rw [e1,e2];have ih:=ih a (b++[.mk t y n s k]) (by rw [dQ,Bg];omega);rw [hfa,List.append_assoc,Ym] at ih;rw [ht,ah (by decide),hn0] at hg;have c1:2 * ((aC b).length+1) * 64<=281474976710656/\(aC b).length+1<=281474976710656:=by omega
   generalize aC (a++jH l (fs.drop (i+1)))=R1 at *;generalize aC (b++.mk t y n s k::gW l (fs.drop (i+1)))=R2 at *;clear hfa la lb e1 e2;generalize zO [] l=MP at *;generalize aC a=A at *;generalize aC b=B at *;refine aA rfl rfl ?_;simp [h,g2,hg,hfe,hel,c1,hw,ih]
theorem am5 {rec:List UInt8->List aF×Int} {w ahead:Nat} {s:List UInt8} (hs:s.length<=100000000) (hr:∀t:List UInt8,t.length+2<=s.length->bW (rec t).1/\(rec t).1.length<=1000000/\bH (rec t).1<=t.length) (h:(iO rec w ahead s).2.2=0) :
 pI (iO rec w ahead s).1/\qy (iO rec w ahead s).1+1<=(iO rec w ahead s).2.1/\(iO rec w ahead s).2.1<=s.length/\(iO rec w ahead s).1.tag=((au s).1 / 4:Nat):=by
 unfold iO at h ⊢;by_cases e1:(au s).2.2=0;rotate_left
 ·simp only [aj e1] at h;exact absurd h e1
 have v1:=jD e1;simp only [ah (λx=>x e1:¬ (au s).2.2≠0)] at h ⊢;by_cases c1:(au s).1 / 4=0
 ·simp only [aj c1] at h;exact absurd h (by decide)
 simp only [ah c1] at h ⊢;by_cases c2:4294967296 < (au s).1 / 4
 ·simp only [aj c2] at h;exact absurd h (by decide)
 simp only [ah c2] at h ⊢;by_cases c3:3<=(au s).1 % 4
 ·simp only [aj c3] at h;exact absurd h (by decide)
 simp only [ah c3] at h ⊢;by_cases c4:(au s).1 / 4<=ahead
 ·simp only [aj c4] at h;exact absurd h (by decide)
 simp only [ah c4] at h ⊢;by_cases e2:(au (s.drop (au s).2.1)).2.2=0;rotate_left
 ·simp only [aj e2] at h;exact absurd h e2
 have v2:=jD e2;have l1:=v1.len;have p1:=v1.pos;have l2:=v2.len;have p2:=v2.pos;have t1:=v1.lt;have t2:=v2.lt;rw [eP] at l2;simp only [ah (λx=>x e2:¬ (au (s.drop (au s).2.1)).2.2≠0)] at h ⊢;by_cases y0:(au s).1 % 4=0
 ·simp only [aj y0] at h ⊢
  simp only [pI,bW,qy,bH];refine ⟨⟨⟨by omega,by omega,by omega,by omega,by omega,by omega,by simp,by simp⟩,trivial⟩,by omega,by omega,rfl⟩
 simp only [ah y0] at h ⊢;by_cases c:s.length - ((au s).2.1+(au (s.drop (au s).2.1)).2.1) < (au (s.drop (au s).2.1)).1
 ·simp only [aj c] at h;exact absurd h (by decide)
 simp only [ah c] at h ⊢;by_cases y1:(au s).1 % 4=1
 ·simp only [aj y1] at h ⊢
  simp only [pI,bW,qy,bH];refine ⟨⟨⟨by omega,by omega,by omega,by omega,by omega,by omega,by rw [oh,eP];omega,by simp⟩,trivial⟩,by omega,by omega,rfl⟩
 simp only [ah y1] at h ⊢;by_cases c8:8<=w
 ·simp only [aj c8] at h;exact absurd h (by decide)
 simp only [ah c8] at h ⊢;have hl:((s.drop ((au s).2.1+(au (s.drop (au s).2.1)).2.1)).take (au (s.drop (au s).2.1)).1).length=(au (s.drop (au s).2.1)).1:=by rw [oh,eP];omega
 obtain ⟨r1,r2,r3⟩:=hr ((s.drop ((au s).2.1+(au (s.drop (au s).2.1)).2.1)).take (au (s.drop (au s).2.1)).1) (by rw [hl];omega);rw [hl] at r3;generalize (s.drop ((au s).2.1+(au (s.drop (au s).2.1)).2.1)).take (au (s.drop (au s).2.1)).1=T at *;by_cases e3:(rec T).2=0;rotate_left
 ·simp only [aj e3] at h;exact absurd h e3
 simp only [ah (λx=>x e3:¬ (rec T).2≠0)] at h ⊢;simp only [pI,qy];refine ⟨⟨⟨by omega,by omega,by omega,by omega,by omega,by omega,by simp,r2⟩,r1⟩,by omega,by omega,rfl⟩
theorem WI:∀ (N w ahead:Nat) (s:List UInt8),s.length<=1000000->bW (dK N w ahead s).1/\(dK N w ahead s).1.length<=1000000/\bH (dK N w ahead s).1<=s.length
 | 0,w,ahead,s,_=>by simp only [dK,bW,bH];simp
 | N+1,w,ahead,s,hs=>by
  unfold dK;by_cases h1:s=[]
  ·rw [aj h1];simp only [bW,bH];simp
  rw [ah h1];by_cases h2:(iO (λt=>dK N (w+1) 0 t) w ahead s).2.2=0;rotate_left
  ·rw [aj h2];simp only [bW,bH];simp
  rw [ah (λx=>x h2)];obtain ⟨o1,o2,o3,o4⟩:=am5 (rec:=λt=>dK N (w+1) 0 t) (w:=w) (ahead:=ahead) (s:=s) (by omega) (λt ht=>WI N (w+1) 0 t (by omega)) h2;have hd:(s.drop (iO (λt=>dK N (w+1) 0 t) w ahead s).2.1).length=s.length - (iO (λt=>dK N (w+1) 0 t) w ahead s).2.1:=eP;obtain ⟨i1,i2,i3⟩:=WI N w ((au s).1 / 4) (s.drop (iO (λt=>dK N (w+1) 0 t) w ahead s).2.1) (by omega);rw [hd] at i3;split
  ·simp only [bW,bH];simp
  ·simp only [bW,bH]
   have:∀l:List aF,l.length<=bH l:=λl=>by
    induction l with
    | nil=>simp [bH]
    | cons f l ih=>simp only [iV,bH];omega
   have hl:=this (dK N w ((au s).1 / 4) (s.drop (iO (λt=>dK N (w+1) 0 t) w ahead s).2.1)).1;refine ⟨⟨o1,i1⟩, ?_, ?_⟩
   ·simp only [iV];omega
   ·omega
theorem ah3 (s:List UInt8):bW (vO s).1/\(vO s).1.length<=1000000/\bH (vO s).1<=65536:=by
 unfold vO;by_cases c:65536 < s.length
 ·rw [aj c];simp only [bW,bH];simp
 ·rw [ah c]
  obtain ⟨h1,h2,h3⟩:=WI (s.length+1) 0 0 s (by omega);exact ⟨h1,h2,by omega⟩
def aF.typ:aF->Int
 | .mk _ y _ _ _=>y
def aF.num:aF->Int
 | .mk _ _ n _ _=>n
def aF.txt:aF->List UInt8
 | .mk _ _ _ s _=>s
/-- What the known fields make for a message. -/
def pz (l:List bV):aB->List aF->aB×Int
 | b,[]=>(b,0)
 | b,f::r=>match l.find? (λs=>decide (s.tag=f.tag)) with
  | some s=>(match placeOf s.name with
   | some p=>if aK f.typ f.num f.txt p=0 then pz l (setB b f.num f.txt p) r else (bM,aK f.typ f.num f.txt p)
   | none=>(bM,26))
  | none=>(bM,26)
theorem ZF (l:List bV) (hl:l.Pairwise (λa b=>a.tag < b.tag)) (hpl:∀s∈l,placeOf s.name≠none) (fs:List aF) (hok:bW fs) (hlen:fs.length<=1000000) (hin:∀f∈fs,hasTag l f.tag=true) (x0 x1:GV):∀ (m i:Nat) (b:aB),i+m=fs.length->pW b []->
 TT.lim 110 ([x0,x1,.l (aC fs),.i .i64 fs.length,.i .i64 i]++(eY b []).cells++[.l (Ai [] l)])=some (if (pz l b (fs.drop i)).2=0 then .i .i64 1::(eY (pz l b (fs.drop i)).1 []).cells else [.i .i64 0,.i .i64 (pz l b (fs.drop i)).2])
 | 0,i,b,hi,hb=>by
  have h:¬ ((i:Int) < fs.length):=by omega
  have e:fs.drop i=[]:=gZ (by omega);rw [e];unfold pz;rw [aj rfl];rw [dR];simp only [dW,cu];refine aA rfl rfl ?_;simp [h]
 | m+1,i,b,hi,hb=>by
  have h:((i:Int) < fs.length):=by omega
  obtain ⟨t,y,n,s,k,g1,g2,g3,g4⟩:=BX (l:=fs) (i:=i) (by omega);have hcast:((i+1:Nat):Int)=(i:Int)+1:=by omega
  have hw:=wrap64 (n:=(i:Int)+1) (by omega) (by omega);have hf:=BZ hok _ g4;simp only [pI] at hf;have ht:=hin _ g4;have OQ:=acz t l [] hl;have fn:aC []=[]:=by simp only [aC]
  obtain ⟨sp,hsp⟩:∃sp,l.find? (λs=>decide (s.tag=t))=some sp:=by
   unfold hasTag at ht;obtain ⟨sp,h1,h2⟩:=List.any_eq_true.1 ht;cases hq:l.find? (λs=>decide (s.tag=t)) with
   | some x=>exact ⟨x,rfl⟩
   | none=>
    have:=(List.find?_eq_none.1 hq) sp h1;have h3:t=sp.tag:=Ak h2;simp [h3] at this
  have hmem:=List.mem_of_find?_eq_some hsp;rw [hsp] at OQ;simp only at OQ;obtain ⟨p,hp⟩:∃p,placeOf sp.name=some p:=by
   cases hq:placeOf sp.name with
   | some p=>exact ⟨p,rfl⟩
   | none=>exact absurd hq (hpl sp hmem)
  have hwt:=ald (aC k) b [] (TK hb.d) hb.t (by simp [bH]) t y n s ⟨hf.1.2.2.2.2.1,hf.1.2.2.2.2.2.1⟩ hf.1.2.2.2.2.2.2.1 sp.name;rw [fn] at hwt;unfold XL at hwt;rw [hp] at hwt;simp only at hwt;unfold XM at hwt;rw [g3];unfold pz;have e1:aF.tag (.mk t y n s k)=t:=rfl;have e2:aF.typ (.mk t y n s k)=y:=rfl;have e3:aF.num (.mk t y n s k)=n:=rfl;have e4:aF.txt (.mk t y n s k)=s:=rfl;rw [e1,hsp,e2,e3,e4];simp only [hp];have hfe:GV.g [.i .u64 t,.i .i64 y,.i .u64 n,.s s,.l (aC k)]=pG t y n s k:=rfl;rw [hfe] at hwt;by_cases hc:aK y n s p=0
  ·rw [aj hc] at hwt
   simp only [aj hc];obtain ⟨q1,q2,q3⟩:=ady hb.body hb.d hb.t ⟨hf.1.2.2.2.2.1,hf.1.2.2.2.2.2.1⟩ hf.1.2.2.2.2.2.2.1 hc;have ih:=ZF l hl hpl fs hok hlen hin x0 x1 m (i+1) (setB b n s p) (by omega) ⟨q1,q2,q3,by simp only [bW],by simp⟩;rw [hcast] at ih;generalize pz l (setB b n s p) (fs.drop (i+1))=R at *;generalize setB b n s p=B at *;clear q1 q2 q3 hc hsp hmem hp ht hf;generalize Ai [] l=MP at *;generalize sp.name=nm at *;generalize aC fs=G at *;rw [dR] at ih;rw [dR];simp only [dW,cu] at ih ⊢;refine aA rfl rfl ?_;simp [↓wS,h,g2,hfe,OQ,kG,hwt,hw,ih]
  ·rw [ah hc] at hwt
   simp only [ah hc];generalize aK y n s p=e at *;clear hsp hmem hp ht hf;generalize Ai [] l=MP at *;generalize sp.name=nm at *;generalize aC fs=G at *;rw [dR];simp only [dW,cu];refine aA rfl rfl ?_;simp [↓wS,h,g2,hfe,OQ,kG,hwt,hc]
/-- What is read, or why not. -/
def wQ (s:List UInt8) (v:Int):aB×List aF×Int:=
 if v < 1 then (bM,[],16) else if 3 < v then (bM,[],16) else
 if 65536 < s.length then (bM,[],4) else
 if (au s).2.2≠0 then (bM,[],(au s).2.2) else
 if 8 < (au s).1 then (bM,[],15) else
 if jm (au s).1=0 then (bM,[],15) else if v < jm (au s).1 then (bM,[],15) else
 if (vO (s.drop (au s).2.1)).2≠0 then (bM,[],(vO (s.drop (au s).2.1)).2) else
 let l:=aH (au s).1 v
 let fs:=(vO (s.drop (au s).2.1)).1
 let r:=pz l { bM with kind:=(au s).1 } (jH l fs)
 if r.2≠0 then (bM,[],r.2) else
 if gB r.1 (gW l fs) v≠0 then (bM,[],gB r.1 (gW l fs) v) else (r.1,gW l fs,0)
theorem QK (p:aF->Bool):∀l:List aF,bH (l.filter p)<=bH l
 | []=>by simp [bH]
 | f::l=>by
  have ih:=QK p l;rw [Jd];split
  ·simp only [bH];omega
  ·simp only [bH];omega
theorem split_ok (l:List bV) (hl:l.length<=1000) (fs:List aF) (hlen:fs.length<=1000000) (hsz:bH fs<=1000000):TT.lim 107 [.l (aC fs),.l (rC l)]=some [.l (aC (jH l fs)),.l (aC (gW l fs))]:=by
 have h0:=adH l hl (.l (aC fs)) l.length 0 [] (by omega);have h1:=adI l fs hlen fs.length 0 [] [] (by omega) (by simp;omega);have fn:aC []=[]:=by simp only [aC]
 rw [eH] at h0 h1;rw [cu,cu,fn] at h1;simp only [zF] at h0 h1;have c1:=Oj (jH l fs) (iR (QK _ fs) hsz);have c2:=Oj (gW l fs) (iR (QK _ fs) hsz);have lt:(rC l).length=l.length:=by unfold rC;rw [wC]
 have lf:=kU fs;generalize aC (jH l fs)=W at *;generalize aC (gW l fs)=O at *;generalize aC fs=G at *;generalize zO [] l=MP at *;generalize rC l=TG at *;refine aY rfl rfl ?_ rfl;simp [lt,lf,h0,h1,c1,c2]
theorem Tc (l:List bV):∀ (fs:List aF) (b:aB),bW fs->pW b []->pW (pz l b fs).1 []
 | [],b,_,hb=>hb
 | f::fs,b,hf,hb=>by
  simp only [bW] at hf;unfold pz;cases l.find? (λs=>decide (s.tag=f.tag)) with
  | none=>exact LV
  | some s=>
   simp only;cases placeOf s.name with
   | none=>exact LV
   | some p=>
    simp only;by_cases hc:aK f.typ f.num f.txt p=0
    ·rw [aj hc]
     have h1:=hf.1;cases f with
     | mk t y n s k=>
      simp only [pI] at h1;obtain ⟨q1,q2,q3⟩:=ady hb.body hb.d hb.t ⟨h1.1.2.2.2.2.1,h1.1.2.2.2.2.2.1⟩ h1.1.2.2.2.2.2.2.1 hc;exact Tc l fs _ hf.2 ⟨q1,q2,q3,by simp only [bW],by simp⟩
    ·rw [ah hc];exact LV
theorem XQ (k:Int) (h : -9223372036854775808<=k/\k<=9223372036854775807):pW { bM with kind:=k } []:=by
 have z:=LV;exact ⟨{ z.body with kind:=h },z.d,z.t,z.f8,z.len⟩
theorem J3 (p:aF->Bool):∀ {l:List aF},bW l->bW (l.filter p)
 | [],_=>by simp only [List.filter_nil,bW]
 | f::l,h=>by
  simp only [bW] at h;have ih:=J3 p h.2;rw [Jd];split
  ·simp only [bW];exact ⟨h.1,ih⟩
  ·exact ih
set_option maxHeartbeats 4000000 in
theorem decode_ok (s:List UInt8) (v:Int) (hs:s.length<=140737488351232):TT.lim 93 [.s s,.i .i64 v]=some [eY (wQ s v).1 (aC (wQ s v).2.1),.i .i64 (wQ s v).2.2]:=by
 have fn:aC []=[]:=by simp only [aC]
 have hz:GV.g [.i .i64 0,.i .u64 0,.i .u64 0,.i .u64 0,.i .u64 0,.i .u64 0,.i .u64 0,.i .u64 0,.i .u64 0,.i .u64 0,.i .u64 0,.i .u64 0,.i .u64 0,.i .u64 0,.i .u64 0,.i .u64 0,.i .i64 0,.b false,.s [],.s [],.s [],.l [],.l [],.l []]=eY bM []:=rfl;unfold wQ;by_cases c1:v < 1
 ·rw [aj c1]
  simp only;rw [fn,<- hz];refine aY rfl rfl ?_ rfl;simp [c1]
 rw [ah c1];by_cases c2:3 < v
 ·rw [aj c2]
  simp only;rw [fn,<- hz];refine aY rfl rfl ?_ rfl;simp [c1,c2]
 rw [ah c2];by_cases c3:65536 < s.length
 ·rw [aj c3]
  have c3':(65536:Int) < s.length:=by omega
  simp only;rw [fn,<- hz];refine aY rfl rfl ?_ rfl;simp [c1,c2,c3']
 rw [ah c3];have c3':¬ (65536:Int) < s.length:=by omega
 have kg:=uG s (by omega);by_cases e1:(au s).2.2=0;rotate_left
 ·rw [aj e1]
  simp only;rw [fn,<- hz];generalize (au s).2.2=e at *;refine aY rfl rfl ?_ rfl;simp [c1,c2,c3',kg,e1]
 rw [ah (λx=>x e1)];rw [e1] at kg;have v1:=jD e1;have l1:=v1.len;have t1:=v1.lt;have hdl:(s.drop (au s).2.1).length=s.length - (au s).2.1:=eP;have hwg:=arB (s.drop (au s).2.1) (by omega);obtain ⟨g1,g2,g3⟩:=ah3 (s.drop (au s).2.1);clear v1 e1 hdl;generalize vO (s.drop (au s).2.1)=F at *;generalize hT:s.drop (au s).2.1=T at *;generalize (au s).1=n at *;generalize (au s).2.1=j at *;have hsub:(s.take s.length).drop j=T:=by rw [yx];exact hT
 have j0:(j:Int)<=s.length:=by omega
 have f0:=UQ 0;have f00:jm 0=0:=rfl;rw [f00] at f0;by_cases c4:8 < n
 ·rw [aj c4]
  have nN:¬ (n:Int)<=8:=by omega
  simp only;rw [fn,<- hz];refine aY rfl rfl ?_ rfl;simp [c1,c2,c3',kg,nN,f0]
 rw [ah c4];have nN:(n:Int)<=8:=by omega
 have wn:=wrap64 (n:=(n:Int)) (by omega) (by omega);have kf:=UQ (n:Int);by_cases c5:jm n=0
 ·rw [aj c5]
  rw [c5] at kf;simp only;rw [fn,<- hz];refine aY rfl rfl ?_ rfl;simp [c1,c2,c3',kg,nN,wn,kf]
 rw [ah c5];by_cases c6:v < jm n
 ·rw [aj c6]
  simp only;rw [fn,<- hz];generalize jm n=fk at *;refine aY rfl rfl ?_ rfl;simp [c1,c2,c3',kg,nN,wn,kf,c5,c6]
 rw [ah c6];by_cases e2:F.2=0;rotate_left
 ·rw [aj e2]
  simp only;rw [fn,<- hz];generalize jm n=fk at *;refine aY rfl rfl ?_ rfl;simp [c1,c2,c3',kg,nN,wn,kf,c5,c6,hsub,hT,j0,hwg,e2]
 rw [ah (λx=>x e2)];rw [e2] at hwg;have kn:=O6 n v (by omega) (by omega) (by omega);have kt:=ajH n v (by omega) (by omega) (by omega);have k8:=yX n v;have kz:=ZE (aH n v) (by omega) (.i .i64 v) (.i .i64 n) (.l (aC F.1)) (aH n v).length 0 [] (by omega);rw [eH] at kz;simp only [zF] at kz;have ks:=split_ok (aH n v) (by omega) F.1 g2 (by omega);have kd:=ZF (aH n v) (CG n v).1 (abz n v) (jH (aH n v) F.1) (J3 _ g1) (iR (Rw _ _) g2) (λf hf=>(vk.1 hf).2) (.i .i64 v) (.l (aC (gW (aH n v) F.1))) (jH (aH n v) F.1).length 0 { bM with kind:=n } (by omega) (XQ n (by omega));rw [eH] at kd;simp only [zF] at kd;have hdw:=Tc (aH n v) (jH (aH n v) F.1) { bM with kind:=n } (J3 _ g1) (XQ n (by omega));have kc:=ab9 (pz (aH n v) { bM with kind:=n } (jH (aH n v) F.1)).1 (gW (aH n v) F.1) v hdw.body hdw.t.few (J3 _ g1) (iR (Rw _ _) g2);have hal:(((aH n v).map dV).length:Int)=((aH n v).length:Int):=by rw [wC]
 have hwl:=kU (jH (aH n v) F.1);have hcz:(eY { bM with kind:=(n:Int) } []).cells=[.i .i64 (n:Int),.i .u64 0,.i .u64 0,.i .u64 0,.i .u64 0,.i .u64 0,.i .u64 0,.i .u64 0,.i .u64 0,.i .u64 0,.i .u64 0,.i .u64 0,.i .u64 0,.i .u64 0,.i .u64 0,.i .u64 0,.i .i64 0,.b false,.s [],.s [],.s [],.l [],.l [],.l []]:=rfl;rw [hcz] at kd;simp only [dW,cu] at kd;simp only;clear hdw hcz g1 g2 g3 k8;generalize pz (aH n v) { bM with kind:=(n:Int) } (jH (aH n v) F.1)=R at *;generalize gW (aH n v) F.1=O at *;generalize aC (jH (aH n v) F.1)=W at *;generalize (jH (aH n v) F.1).length=WL at *;generalize aC F.1=FG at *;generalize Ai [] (aH n v)=MP at *;generalize (aH n v).map dV=SP at *;generalize rC (aH n v)=TG at *;generalize ((aH n v).length:Int)=L at *;generalize jm n=fk at *;by_cases e3:R.2=0;rotate_left
 ·rw [ah e3] at kd
  rw [aj e3];simp only;rw [fn,<- hz];generalize aC O=OG at *;clear kc;refine aY rfl rfl ?_ rfl;simp -implicitDefEqProofs (maxSteps:=10000000) [↓wS,c1,c2,c3',kg,nN,wn,kf,c5,c6,hsub,hT,j0,hwg,kn,hal,kz,kt,ks,hwl,kd,e3]
 rw [aj e3] at kd;rw [ah (λx=>x e3)];rw [dR] at kd;by_cases e4:gB R.1 O v=0
 ·rw [ah (λx=>x e4)]
  rw [e4] at kc;simp only;generalize aC O=OG at *;clear e3 e4;refine aY rfl rfl ?_ rfl;simp -implicitDefEqProofs (maxSteps:=10000000) [↓wS,c1,c2,c3',kg,nN,wn,kf,c5,c6,hsub,hT,j0,hwg,kn,hal,kz,kt,ks,hwl,kd,kG,kc]
 ·rw [aj e4]
  simp only;rw [fn,<- hz];generalize aC O=OG at *;generalize gB R.1 O v=ck at *;refine aY rfl rfl ?_ rfl;simp -implicitDefEqProofs (maxSteps:=10000000) [↓wS,c1,c2,c3',kg,nN,wn,kf,c5,c6,hsub,hT,j0,hwg,kn,hal,kz,kt,ks,hwl,kd,kG,kc,e4]
theorem IW (n:Nat) (x:List UInt8) (hn:n < 18446744073709551616):au (aS n++x)=(n,(aS n).length,0):=FQ n x hn
theorem arw (n:Nat):1<=(aS n).length:=zx n
theorem WJ:∀ (N:Nat) (L:List aF) (w ahead:Nat),bW L->qB L->wL L<=1000000000000->iJ w (ahead:Int) L=0->w<=8->(bJ L).length < N->dK N w ahead (bJ L)=(L,0)
 | 0,L,w,ahead,_,_,_,_,_,h=>by omega
 | N+1,[],w,ahead,_,_,_,_,_,_=>by
  unfold dK;rw [aj (by simp only [bJ])]
 | N+1,.mk t y n s k::L,w,ahead,hok,hty,hw,hc,h8,hl=>by
  have hwl:=hw;simp only [wL,wF] at hw;have hkl:=Hg (bH k+1) k (by omega) (by simp only [bW,pI] at hok;exact hok.1.2) (by simp only [qB,Df] at hty;exact hty.1.2.2) (by omega);obtain ⟨t1,t2,y1,y2,y3,tk⟩:=TN (LG hty (.mk t y n s k) (by simp));simp only [bW,pI] at hok;have OV:=LG hty (.mk t y n s k) (by simp);simp only [Df] at OV;have aja:qB L:=by simp only [qB] at hty;exact hty.2
  -- the checks
  unfold iJ at hc;by_cases h1:(aF.mk t y n s k).tag=0
  ·rw [aj h1] at hc;exact absurd hc (by decide)
  rw [ah h1] at hc;by_cases h2:4294967296 < (aF.mk t y n s k).tag
  ·rw [aj h2] at hc;exact absurd hc (by decide)
  rw [ah h2] at hc;by_cases h3:(aF.mk t y n s k).tag<=(ahead:Int)
  ·rw [aj h3] at hc;exact absurd hc (by decide)
  rw [ah h3] at hc;by_cases h4:wP w (.mk t y n s k)=0;rotate_left
  ·rw [aj h4] at hc;exact absurd hc h4
  rw [ah (λe=>e h4)] at hc;have h3:¬ t<=(ahead:Int):=h3;have hc:iJ w t L=0:=hc;clear h1 h2;have hT:((t.toNat:Nat):Int)=t:=by omega
  have hN:(4 * t+y).toNat=4 * t.toNat+y.toNat:=by omega
  have hv1:∀x,au (aS (4 * t+y).toNat++x)=((4 * t+y).toNat,(aS (4 * t+y).toNat).length,0):=λx=>IW _ x (by omega);have hd4:(4 * t+y).toNat / 4=t.toNat:=by omega
  have hm4:(4 * t+y).toNat % 4=y.toNat:=by omega
  have ih:=WJ N L w t.toNat hok.2 aja (by omega) (by rw [hT];exact hc) h8;simp only [bJ,J4] at hl ⊢;simp only [dQ] at hl;have p1:=arw (4 * t+y).toNat;have hne:¬ (aS (4 * t+y).toNat++(if y=0 then aS n.toNat else if y=1 then aS s.length++s else aS (bJ k).length++bJ k)++bJ L=[]):=by
   intro e;have:=sU List.length e;simp only [dQ,vg] at this;omega
  unfold dK;rw [ah hne]
  -- one field
  have one:iO (λt=>dK N (w+1) 0 t) w ahead (aS (4 * t+y).toNat++(if y=0 then aS n.toNat else if y=1 then aS s.length++s else aS (bJ k).length++bJ k)++bJ L)=(.mk t y n s k,(aS (4 * t+y).toNat).length+(if y=0 then aS n.toNat else if y=1 then aS s.length++s else aS (bJ k).length++bJ k).length,0):=by
   unfold iO;rw [List.append_assoc,hv1];simp only [ne_eq,not_true_eq_false,if_false,hd4,hm4,qH];rw [ah (by omega),ah (by omega),ah (by omega),ah (by omega)];rcases y3 with hy | hy | hy
   ·subst hy
    have e:=OV.2.1;obtain ⟨e1,e2⟩:s=[]/\k=[]:=by
     rcases e with e | e | e
     ·exact e.2
     ·exact absurd e.1 (by decide)
     ·exact absurd e.1 (by decide)
    subst e1;subst e2;simp only [if_true];rw [IW _ _ (by omega)];simp only [not_true_eq_false,if_false,Int.toNat_zero,if_true];rw [hT,show ((n.toNat:Nat):Int)=n by omega]
   ·subst hy
    have e:=OV.2.1;obtain ⟨e1,e2⟩:n=0/\k=[]:=by
     rcases e with e | e | e
     ·exact absurd e.1 (by decide)
     ·exact e.2
     ·exact absurd e.1 (by decide)
    subst e1;subst e2;simp only [show ((1:Int)=0)=False from by simp,show ((1:Int)=1)=True from by simp,if_false,if_true];rw [List.append_assoc,IW _ _ (by omega)];simp only [not_true_eq_false,if_false];rw [ah (show ¬ Int.toNat 1=0 by decide),ah (by simp only [dQ];omega),aj (show Int.toNat 1=1 by decide)];rw [<- oW,qH,qH,RF];rw [hT];simp only [dQ,iQ]
   ·subst hy
    have e:=OV.2.1;obtain ⟨e1,e2⟩:n=0/\s=[]:=by
     rcases e with e | e | e
     ·exact absurd e.1 (by decide)
     ·exact absurd e.1 (by decide)
     ·exact e.2
    subst e1;subst e2;have h5:¬ 8<=w/\iJ (w+1) 0 k=0:=by
     unfold wP at h4;rw [ah (by decide),ah (by decide),aj rfl,aj ⟨rfl,rfl⟩] at h4;by_cases c:8<=w
     ·rw [aj c] at h4;exact absurd h4 (by decide)
     ·rw [ah c] at h4;exact ⟨c,h4⟩
    have ik:=WJ N k (w+1) 0 hok.1.2 tk (by omega) h5.2 (by omega) (by
     simp only [ah (show ¬ (2:Int)=0 by decide),ah (show ¬ (2:Int)=1 by decide),dQ] at hl;omega)
    simp only [show ((2:Int)=0)=False from by simp,show ((2:Int)=1)=False from by simp,if_false];rw [List.append_assoc,IW _ _ (by omega)];simp only [not_true_eq_false,if_false];rw [ah (show ¬ Int.toNat 2=0 by decide),ah (by simp only [dQ];omega),ah (show ¬ Int.toNat 2=1 by decide),ah h5.1];rw [<- oW,qH,qH,RF];rw [ik];simp only [not_true_eq_false,if_false];rw [hT];simp only [dQ,iQ]
  rw [one];simp only [ne_eq,not_true_eq_false,if_false];rw [List.append_assoc,hv1];simp only [hd4];have hdrop:∀A B C:List UInt8,(A++(B++C)).drop (A.length+B.length)=C:=λA B C=>by rw [<- oW,qH,qH]
  rw [hdrop,ih (by omega)];simp
end K
end Go.Proofs.YthgifdbaegpbpaaGreatDoor
