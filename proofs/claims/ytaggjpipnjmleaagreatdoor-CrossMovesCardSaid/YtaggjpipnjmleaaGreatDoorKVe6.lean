/- What the trees compute: plain laws. -/
import Derived.Test.YtaggjpipnjmleaaGreatDoorKVe5
namespace Go.Proofs.YtaggjpipnjmleaaGreatDoor
open Go Go.aJ
set_option linter.unusedSimpArgs false
set_option linter.unusedVariables false
set_option maxRecDepth 100000
namespace V
def RAll (N:Nat):Prop:=∀ (w:Nat) (s:List UInt8),w<=8->s.length<=1000000->s.length < N->TT.lim 198 [.s s,.i .i64 (w:Nat)]=some [.l (au (bI N w 0 s).1),.i .i64 (bI N w 0 s).2]
set_option maxHeartbeats 4000000 in
theorem ao8 {N:Nat} (hN:RAll N) (w ahead:Nat) (hw:w<=8) (s:List UInt8) (hs:s.length<=1000000) (OI:s.length<=N+1) :
 TT.lim 200 [.s s,.i .i64 (w:Nat),.i .u64 (ahead:Nat)]=some [fG (fO (λt=>bI N (w+1) 0 t) w ahead s).1,.i .i64 ((fO (λt=>bI N (w+1) 0 t) w ahead s).2.1:Nat),.i .i64 (fO (λt=>bI N (w+1) 0 t) w ahead s).2.2]:=by
 have k:=Ar s (by omega);have fn:au []=[]:=by simp only [au]
 have hz:fG (.mk 0 0 0 [] [])=.g [.i .u64 0,.i .i64 0,.i .u64 0,.s [],.l []]:=by simp only [fG,fn]
 unfold fO;by_cases he:(ak s).2.2=0;rotate_left
 ·simp only [aj he]
  rw [hz];generalize (ak s).2.2=e at *;refine aG rfl rfl ?_ rfl;simp [k,he]
 have hv:=iD he;have hl:=hv.len;have hlt:=hv.lt;have hpp:=hv.pos;have hld:(s.drop (ak s).2.1).length=s.length - (ak s).2.1:=dh;have k2:=Ar (s.drop (ak s).2.1) (by omega);rw [he] at k;simp only [ah (λx=>x he:¬ (ak s).2.2≠0)];clear he hv;generalize (ak s).1=n at *;generalize (ak s).2.1=j at *;have t1:(n:Int).tdiv 4=(n:Int) / 4:=Yn (by omega);have t2:(n:Int).tmod 4=(n:Int) % 4:=Rq (by omega);have u1:=dF (n:=(n:Int) / 4) (by omega) (by omega);have u2:=dF (n:=(n:Int) % 4) (by omega) (by omega);have wA:=wrap64 (n:=(n:Int) % 4) (by omega) (by omega);have z0:IntKind.u64.wrap 0=0:=dF (by decide) (by decide);have z1:IntKind.u64.wrap 1=1:=dF (by decide) (by decide);have z2:IntKind.u64.wrap 2=2:=dF (by decide) (by decide);have z3:IntKind.u64.wrap 3=3:=dF (by decide) (by decide);have y2:IntKind.i64.wrap 2=2:=wrap64 (by decide) (by decide);have y3:IntKind.i64.wrap 3=3:=wrap64 (by decide) (by decide);by_cases c1:n / 4=0
 ·simp only [aj c1]
  rw [hz];have c1':(n:Int) / 4=0:=by omega
  generalize (n:Int) / 4=q at *;refine aG rfl rfl ?_ rfl;simp [k,t1,u1,c1',z0]
 have c1':¬ (n:Int) / 4=0:=by omega
 simp only [ah c1];by_cases c2:4294967296 < n / 4
 ·simp only [aj c2]
  rw [hz];have c2':4294967296 < (n:Int) / 4:=by omega
  generalize (n:Int) / 4=q at *;refine aG rfl rfl ?_ rfl;simp [k,t1,u1,c1',c2']
 have c2':¬ 4294967296 < (n:Int) / 4:=by omega
 simp only [ah c2];by_cases c3:3<=n % 4
 ·simp only [aj c3]
  rw [hz];have c3':(n:Int) % 4=3:=by omega
  generalize (n:Int) / 4=q at *;generalize (n:Int) % 4=y at *;refine aG rfl rfl ?_ rfl;simp [k,t1,t2,u1,u2,wA,c1',c2',c3',z3,y3]
 have c3':¬ (n:Int) % 4=3:=by omega
 simp only [ah c3];by_cases c4:n / 4<=ahead
 ·simp only [aj c4]
  rw [hz];have iR:(n:Int) / 4<=(ahead:Int):=by omega
  generalize (n:Int) / 4=q at *;generalize (n:Int) % 4=y at *;generalize (ahead:Int)=AH at *;refine aG rfl rfl ?_ rfl;simp [k,t1,t2,u1,u2,wA,c1',c2',c3',iR]
 have iR:¬ (n:Int) / 4<=(ahead:Int):=by omega
 simp only [ah c4];have qn:((n / 4:Nat):Int)=(n:Int) / 4:=by omega
 have hj:j<=s.length:=by omega
 by_cases e2:(ak (s.drop j)).2.2=0;rotate_left
 ·simp only [aj e2]
  rw [hz];generalize (ak (s.drop j)).2.2=e at *;generalize (ak (s.drop j)).2.1=j2 at *;generalize (ak (s.drop j)).1=m at *;generalize (n:Int) / 4=q at *;generalize (n:Int) % 4=y at *;generalize (ahead:Int)=AH at *;refine aG rfl rfl ?_ rfl;simp -implicitDefEqProofs (maxSteps:=10000000) [k,k2,jE,jF,z0,z1,z2,y2,hj,t1,t2,u1,u2,wA,c1',c2',c3',iR,e2]
 have hv2:=iD e2;have hl2:=hv2.len;have hlt2:=hv2.lt;have auu:=hv2.pos;rw [e2] at k2;simp only [ah (λx=>x e2:¬ (ak (s.drop j)).2.2≠0)];clear e2 hv2;generalize (ak (s.drop j)).1=m at *;generalize (ak (s.drop j)).2.1=j2 at *;rw [hld] at hl2;obtain ⟨J,hJ⟩:∃J,J=j+j2:=⟨_,rfl⟩
 rw [<- hJ];have w1:=wrap64 (n:=(J:Int)) (by omega) (by omega);have hjj:((j:Int)+j2)=(J:Int):=by omega
 by_cases y0:n % 4=0
 ·have y0':(n:Int) % 4=0:=by omega
  simp only [aj y0];simp only [fG,fn];rw [qn];generalize (n:Int) / 4=q at *;generalize (n:Int) % 4=y at *;generalize (ahead:Int)=AH at *;subst y0';refine aG rfl rfl ?_ rfl;simp -implicitDefEqProofs (maxSteps:=10000000) [k,k2,jE,jF,z0,z1,z2,y2,hj,t1,t2,u1,u2,wA,c1',c2',iR,hjj,w1]
 have y0':¬ (n:Int) % 4=0:=by omega
 simp only [ah y0];have w2:=wrap64 (n:=(s.length:Int) - (J:Int)) (by omega) (by omega);have w3:=dF (n:=(s.length:Int) - (J:Int)) (by omega) (by omega);by_cases c5:s.length - J < m
 ·simp only [aj c5]
  rw [hz];have FX:(s.length:Int) - (J:Int) < (m:Int):=by omega
  generalize (n:Int) / 4=q at *;generalize (n:Int) % 4=y at *;generalize (ahead:Int)=AH at *;refine aG rfl rfl ?_ rfl;simp -implicitDefEqProofs (maxSteps:=10000000) [k,k2,jE,jF,z0,z1,z2,y2,hj,t1,t2,u1,u2,wA,c1',c2',c3',iR,hjj,w1,w2,w3,y0',FX]
 have FX:¬ (s.length:Int) - (J:Int) < (m:Int):=by omega
 simp only [ah c5];have w4:=wrap64 (n:=(m:Int)) (by omega) (by omega);have w5:=wrap64 (n:=(J:Int)+m) (by omega) (by omega);obtain ⟨M,hM⟩:∃M,M=J+m:=⟨_,rfl⟩
 simp only [<- hM];have hm2:(J:Int)+m=(M:Int):=by omega
 rw [hm2] at w5;have b1:J<=M:=by omega
 have b2:M<=s.length:=by omega
 have hsub:M - J=m:=by omega
 have hdt:(s.drop J).take m=(s.take M).drop J:=by rw [yt,hsub]
 by_cases y1:n % 4=1
 ·have y1':(n:Int) % 4=1:=by omega
  simp only [aj y1];simp only [fG,fn];rw [qn,hdt];generalize (n:Int) / 4=q at *;generalize (n:Int) % 4=y at *;generalize (ahead:Int)=AH at *;subst y1';refine aG rfl rfl ?_ rfl;simp -implicitDefEqProofs (maxSteps:=10000000) [k,k2,jE,jF,z0,z1,z2,y2,hj,t1,t2,u1,u2,wA,c1',c2',iR,hjj,w1,w2,w3,w4,w5,hm2,FX,b1,b2,hsub]
 have y1':¬ (n:Int) % 4=1:=by omega
 have X4:(n:Int) % 4=2:=by omega
 simp only [ah y1];by_cases c6:8<=w
 ·simp only [aj c6]
  rw [hz];have uN:(w:Int)=8:=by omega
  generalize (n:Int) / 4=q at *;generalize (n:Int) % 4=y at *;generalize (ahead:Int)=AH at *;subst X4;refine aG rfl rfl ?_ rfl;simp -implicitDefEqProofs (maxSteps:=10000000) [k,k2,jE,jF,z0,z1,z2,y2,hj,t1,t2,u1,u2,wA,c1',c2',iR,hjj,w1,w2,w3,w4,w5,hm2,FX,b1,b2,hsub,uN]
 have uN:¬ (w:Int)=8:=by omega
 simp only [ah c6];have hlt3:((s.drop J).take m).length=m:=by rw [jL,dh];omega
 have ih:=hN (w+1) ((s.drop J).take m) (by omega) (by omega) (by omega);have w6:=wrap64 (n:=(w:Int)+1) (by omega) (by omega);have hw1:((w+1:Nat):Int)=(w:Int)+1:=by omega
 rw [hw1] at ih;rw [hdt] at ih ⊢;generalize bI N (w+1) 0 ((s.take M).drop J)=R1 at *;by_cases c7:R1.2=0
 ·rw [c7] at ih
  simp only [ah (λx=>x c7:¬ R1.2≠0)];simp only [fG];rw [qn];generalize au R1.1=RG at *;generalize (n:Int) / 4=q at *;generalize (n:Int) % 4=y at *;generalize (ahead:Int)=AH at *;subst X4;refine aG rfl rfl ?_ rfl;simp -implicitDefEqProofs (maxSteps:=10000000) [k,k2,jE,jF,z0,z1,z2,y2,hj,t1,t2,u1,u2,wA,c1',c2',iR,hjj,w1,w2,w3,w4,w5,hm2,FX,b1,b2,hsub,uN,w6,ih]
 ·simp only [aj c7]
  rw [hz];generalize au R1.1=RG at *;generalize R1.2=e at *;generalize (n:Int) / 4=q at *;generalize (n:Int) % 4=y at *;generalize (ahead:Int)=AH at *;subst X4;refine aG rfl rfl ?_ rfl;simp -implicitDefEqProofs (maxSteps:=10000000) [k,k2,jE,jF,z0,z1,z2,y2,hj,t1,t2,u1,u2,wA,c1',c2',iR,hjj,w1,w2,w3,w4,w5,hm2,FX,b1,b2,hsub,uN,w6,ih,c7]
def MC (N:Nat):Prop:=∀ (w:Nat) (acc:List aF) (ahead:Nat) (s:List UInt8),w<=8->s.length<=1000000->acc.length+s.length<=200000000->s.length < N->ahead < 18446744073709551616->
    TT.lim 199 [.s s,.i .i64 (w:Nat),.l (au acc),.i .u64 (ahead:Nat)]=some (if (bI N w ahead s).2=0 then [.i .i64 1,.l (au (acc++(bI N w ahead s).1))] else [.i .i64 0,.i .i64 (bI N w ahead s).2])
theorem aoy {N:Nat} (hN:RAll N) (hL:MC N):MC (N+1):=by
 intro w acc ahead s hw hs hac hl ha;unfold bI;by_cases h1:s=[]
 ·subst h1
  rw [aj rfl];simp only [if_true,lq];refine aB rfl rfl ?_;simp
 have hlp:0 < s.length:=AZ.2 h1;have aur:(0:Int) < s.length:=by omega
 simp only [ah h1];have hn:=ao8 hN w ahead hw s hs (by omega);have la:=iw acc;by_cases he:(fO (λt=>bI N (w+1) 0 t) w ahead s).2.2=0;rotate_left
 ·rw [aj he]
  generalize fO (λt=>bI N (w+1) 0 t) w ahead s=o at *;simp only [ah he];obtain ⟨⟨t,y,n,tx,k⟩,used,e⟩:=o;simp only [fG] at *;refine aB rfl rfl ?_;simp [hlp,h1,hn,he]
 have hv0:(ak s).2.2=0:=by
  by_cases c:(ak s).2.2=0
  ·exact c
  ·exfalso
   unfold fO at he;rw [aj c] at he;exact c he
 have UR:=(iD hv0).lt;obtain ⟨r1,r2,r3,r4, -⟩:=adA (rec:=λt=>bI N (w+1) 0 t) (w:=w) (ahead:=ahead) (s:=s) (by omega) (λt ht=>Qe N (w+1) 0 t (by omega)) he;simp only [ah (λx=>x he:¬ (fO (λt=>bI N (w+1) 0 t) w ahead s).2.2≠0)];rw [he] at hn;have hdl:(s.drop (fO (λt=>bI N (w+1) 0 t) w ahead s).2.1).length=s.length - (fO (λt=>bI N (w+1) 0 t) w ahead s).2.1:=dh;have h2:=hL w (acc++[(fO (λt=>bI N (w+1) 0 t) w ahead s).1]) ((ak s).1 / 4) (s.drop (fO (λt=>bI N (w+1) 0 t) w ahead s).2.1) hw (by omega) (by rw [dX,qO];omega) (by omega) (by omega);clear hdl;generalize fO (λt=>bI N (w+1) 0 t) w ahead s=o at *;obtain ⟨⟨t,y,n,tx,k⟩,used,e⟩:=o;simp only at *;have hdl:(s.drop used).length=s.length - used:=dh;have hfa:au (acc++[.mk t y n tx k])=au acc++[gK t y n tx k]:=by rw [BP];simp only [au,fG];rfl
 have hel:(gK t y n tx k).eU 5=true:=rfl;have zW:=Ub t y n tx k;have hfe:GV.g [.i .u64 t,.i .i64 y,.i .u64 n,.s tx,.l (au k)]=gK t y n tx k:=rfl;simp only [fG] at hn;have c1:2 * ((au acc).length+1) * 64<=281474976710656/\(au acc).length+1<=281474976710656:=by omega
 simp only [aF.tag] at r4;subst r4;rw [hfa] at h2;clear hfa UR hv0 hac la r1 r2 he;by_cases h3:(bI N w ((ak s).1 / 4) (s.drop used)).2=0
 ·rw [aj h3] at h2
  simp only [ah (λx=>x h3:¬ (bI N w ((ak s).1 / 4) (s.drop used)).2≠0)];simp only [if_true];have happ:acc++[aF.mk ((ak s).1 / 4:Nat) y n tx k]++(bI N w ((ak s).1 / 4) (s.drop used)).1=acc++(aF.mk ((ak s).1 / 4:Nat) y n tx k::(bI N w ((ak s).1 / 4) (s.drop used)).1):=by simp
  rw [happ] at h2;clear happ h3;generalize au (acc++(aF.mk ((ak s).1 / 4:Nat) y n tx k::(bI N w ((ak s).1 / 4) (s.drop used)).1))=R at *;generalize gK ((ak s).1 / 4:Nat) y n tx k=E at *;generalize au acc=A at *;generalize (((ak s).1 / 4:Nat):Int)=T at *;refine aB rfl rfl ?_;simp [hlp,h1,hn,r3,hfe,hel,zW,c1,h2]
 ·rw [ah h3] at h2
  simp only [aj h3];rw [ah h3];generalize bI N w ((ak s).1 / 4) (s.drop used)=RR at *;generalize gK ((ak s).1 / 4:Nat) y n tx k=E at *;generalize au acc=A at *;generalize (((ak s).1 / 4:Nat):Int)=T at *;refine aB rfl rfl ?_;simp [hlp,h1,hn,r3,hfe,hel,zW,c1,h2]
theorem aoz {N:Nat} (hL:MC N):RAll N:=by
 intro w s hw hs hl;have h0:=hL w [] 0 s hw hs (by simp only [uD];omega) hl (by omega);have fn:au []=[]:=by simp only [au]
 rw [fn,dK] at h0;have hbad:=adz N w 0 s;simp only [lZ] at h0;generalize bI N w 0 s=R at *;by_cases h3:R.2=0
 ·rw [aj h3] at h0
  rw [h3];refine aG rfl rfl ?_ rfl;simp [h0]
 ·rw [ah h3] at h0
  rw [hbad h3,fn];refine aG rfl rfl ?_ rfl;simp [h0]
theorem adp:∀N:Nat,RAll N/\MC N
 | 0=>⟨λw s _ _ hl=>absurd hl (by omega),λw acc ahead s _ _ _ hl _=>absurd hl (by omega)⟩
 | N+1=>by
   have ih:=adp N;have hl:=aoy ih.1 ih.2;exact ⟨aoz hl,hl⟩
theorem apO (s:List UInt8) (hs:s.length<=1000000):TT.lim 197 [.s s]=some [.l (au (lU s).1),.i .i64 (lU s).2]:=by
 unfold lU;have fn:au []=[]:=by simp only [au]
 by_cases c:65536 < s.length
 ·have c':(65536:Int) < s.length:=by omega
  rw [aj c,fn];refine aG rfl rfl ?_ rfl;simp [c']
 ·have c':¬ (65536:Int) < s.length:=by omega
  have h0:=(adp (s.length+1)).1 0 s (by omega) hs (by omega);rw [ah c];simp only [lZ] at h0;generalize bI (s.length+1) 0 0 s=R at *;refine aG rfl rfl ?_ rfl;simp [c',h0]
def RP (b:aU) (L:GV) (ty n:Int) (s nm:List UInt8) (p:Pl):Prop:=TT.lim 214 (.i .i64 b.kind::(fB b++[L,.s nm,.i .i64 ty,.i .u64 n,.s s]))=some (if dY ty n s p=0 then .i .i64 1::fB (setB b n s p) else [.i .i64 0,.i .i64 (dY ty n s p)])
theorem apQ (b:aU) (L:GV) (n:Int) (s:List UInt8) (h2:¬ n=0) (nm:List UInt8) (k:Nat) (hk:k < 15) (e:nm=nameOf (.num k)) (hu:TT.lim 146 [.s nm]=some [.i .i64 0]) :
 TT.lim 214 (.i .i64 b.kind::(fB b++[L,.s nm,.i .i64 0,.i .u64 n,.s s]))=some (.i .i64 1::fB (setB b n s (.num k))):=by
 rcases (show k=0\/k=1\/k=2\/k=3\/k=4\/k=5\/k=6\/k=7\/k=8\/k=9\/k=10\/k=11\/k=12\/k=13\/k=14 by omega) with rfl | rfl | rfl | rfl | rfl | rfl | rfl | rfl | rfl | rfl | rfl | rfl | rfl | rfl | rfl
 all_goals
  simp only [nameOf,Ht,Hy,Hw,He,Hr,Hg,Hz,Hl,HY,Hq,G9,Ho,Hu,Hf,H6] at e;subst e;refine aB rfl rfl ?_;simp -implicitDefEqProofs [fB,setB,jE,jF,hu,h2]
theorem apP (b:aU) (L:GV) (ty n:Int) (s:List UInt8) (hn:0<=n/\n < 18446744073709551616) (hs:s.length<=100000000) {nm:List UInt8} {p:Pl} (hp:placeOf nm=some p):RP b L ty n s nm p:=by
 obtain ⟨e,hk, -⟩:=wB nm p hp;have hu:=ae0 hp;unfold RP;by_cases h1:ty=bH p;rotate_left
 ·have e8:dY ty n s p=8:=by unfold dY;rw [ah h1]
  rw [e8,ah (by decide)];have ⟨g1,g2,g3⟩:0<=jC p/\(jC p).tdiv 3=bH p/\jC p<=5:=by cases p<;>simp [jC,bH]
  have g4:¬ jC p < 0:=by omega
  have g5:(ty=bH p)=False:=eq_false h1;have hw:=wrap64 (n:=bH p) (by cases p<;>simp [bH]) (by cases p<;>simp [bH]);generalize bH p=t at *;generalize jC p=u at *;clear hk e hp;refine aB rfl rfl ?_;simp [fB,hu,g2,g4,g5,hw]
 cases p with
 | num k=>
   have h1:ty=0:=h1;subst h1;simp only [jC] at hu;by_cases h2:n=0
   ·have e8:dY 0 n s (.num k)=17:=by unfold dY;simp [bH,h2]
    rw [e8,ah (by decide)];refine aB rfl rfl ?_;simp [fB,jE,jF,hu,h2]
   have e8:dY 0 n s (.num k)=0:=by unfold dY;simp [bH,h2,pz]
   rw [aj e8];exact apQ b L n s h2 nm k hk e hu
 | rem=>
   have h1:ty=0:=h1;subst h1;simp only [jC] at hu;by_cases h2:n=0
   ·have e8:dY 0 n s .rem=17:=by unfold dY;simp [bH,h2]
    rw [e8,ah (by decide)];refine aB rfl rfl ?_;simp [fB,jE,jF,hu,h2]
   have e8:dY 0 n s .rem=0:=by unfold dY;simp [bH,h2,pz]
   rw [aj e8];have w1:=wrap64 (n:=n / 2) (by omega) (by omega);have t1:n.tdiv 2=n / 2:=Yn hn.1;have t2:n.tmod 2=n % 2:=Rq hn.1;have wu:=dF (n:=n / 2) (by omega) (by omega);simp only [setB,C9,fB];by_cases h3:n % 2=0
   ·rw [aj h3]
    refine aB rfl rfl ?_;simp [jE,jF,hu,h2,t1,t2,h3,w1,wu]
   ·have w2:=wrap64 (n:=0 - n / 2) (by omega) (by omega)
    have w3:=wrap64 (n:=0 - n / 2 - 1) (by omega) (by omega);simp only [Int.zero_sub] at w2 w3;rw [ah h3];refine aB rfl rfl ?_;simp [jE,jF,hu,h2,t1,t2,h3,w1,w2,w3,wu]
 | allow=>
   have h1:ty=0:=h1;subst h1;simp only [jC] at hu;by_cases h2:n=0
   ·have e8:dY 0 n s .allow=17:=by unfold dY;simp [bH,h2]
    rw [e8,ah (by decide)];refine aB rfl rfl ?_;simp [fB,jE,jF,hu,h2]
   by_cases h3:n=1
   ·have e8:dY 0 n s .allow=0:=by unfold dY;simp [bH,h2,pz,h3]
    rw [aj e8];simp only [setB,fB];refine aB rfl rfl ?_;simp [jE,jF,hu,h2,h3]
   ·have e8:dY 0 n s .allow=18:=by unfold dY;simp [bH,h2,pz,h3]
    rw [e8,ah (by decide)];refine aB rfl rfl ?_;simp [fB,jE,jF,hu,h2,h3]
 | name=>
   have h1:ty=1:=h1;subst h1;have hc:=F5 s 0 256 (by omega);simp only [jC] at hu;simp only [nameOf,Ep] at e;subst e;have e8:dY 1 n s .name=if s=[] then 17 else jK s 0 256:=by unfold dY;simp [bH,pz]
   rw [e8];generalize jK s 0 256=u at *;simp only [setB,fB];by_cases h2:s=[]
   ·rw [aj h2,ah (by decide)]
    refine aB rfl rfl ?_;simp [jE,jF,hu,h2]
   rw [ah h2];by_cases h3:u=0
   ·rw [aj h3]
    refine aB rfl rfl ?_;simp [jE,jF,hu,h2,hc,h3]
   ·rw [ah h3]
    refine aB rfl rfl ?_;simp [jE,jF,hu,h2,hc,h3]
 | region=>
   have h1:ty=1:=h1;subst h1;have hc:=F5 s 0 256 (by omega);simp only [jC] at hu;simp only [nameOf,Et] at e;subst e;have e8:dY 1 n s .region=if s=[] then 17 else jK s 0 256:=by unfold dY;simp [bH,pz]
   rw [e8];generalize jK s 0 256=u at *;simp only [setB,fB];by_cases h2:s=[]
   ·rw [aj h2,ah (by decide)]
    refine aB rfl rfl ?_;simp [jE,jF,hu,h2]
   rw [ah h2];by_cases h3:u=0
   ·rw [aj h3]
    refine aB rfl rfl ?_;simp [jE,jF,hu,h2,hc,h3]
   ·rw [ah h3]
    refine aB rfl rfl ?_;simp [jE,jF,hu,h2,hc,h3]
 | note=>
   have h1:ty=1:=h1;subst h1;have hc:=F5 s 0 256 (by omega);simp only [jC] at hu;simp only [nameOf,Es] at e;subst e;have e8:dY 1 n s .note=if s=[] then 17 else jK s 0 256:=by unfold dY;simp [bH,pz]
   rw [e8];generalize jK s 0 256=u at *;simp only [setB,fB];by_cases h2:s=[]
   ·rw [aj h2,ah (by decide)]
    refine aB rfl rfl ?_;simp [jE,jF,hu,h2]
   rw [ah h2];by_cases h3:u=0
   ·rw [aj h3]
    refine aB rfl rfl ?_;simp [jE,jF,hu,h2,hc,h3]
   ·rw [ah h3]
    refine aB rfl rfl ?_;simp [jE,jF,hu,h2,hc,h3]
 | d=>
   have h1:ty=1:=h1;subst h1;have hc:=adE s hs;simp only [jC] at hu;have e8:dY 1 n s .d=if s=[] then 17 else (jo s).2:=by unfold dY;simp [bH,pz]
   rw [e8];simp only [setB,fB];generalize jo s=u at *;by_cases h2:s=[]
   ·rw [aj h2,ah (by decide)]
    refine aB rfl rfl ?_;simp [jE,jF,hu,h2]
   rw [ah h2];by_cases h3:u.2=0
   ·rw [aj h3]
    refine aB rfl rfl ?_;simp [jE,jF,hu,h2,hc,h3]
   ·rw [ah h3]
    refine aB rfl rfl ?_;simp [jE,jF,hu,h2,hc,h3]
 | t=>
   have h1:ty=1:=h1;subst h1;have hc:=apo s hs;simp only [jC] at hu;have e8:dY 1 n s .t=if s=[] then 17 else if (lg s).2=0 then (if (lg s).1.length=0 then 17 else 0) else (lg s).2:=by unfold dY;simp [bH,pz]
   rw [e8];simp only [setB,fB];generalize lg s=u at *;by_cases h2:s=[]
   ·rw [aj h2,ah (by decide)]
    refine aB rfl rfl ?_;simp [jE,jF,hu,h2]
   rw [ah h2];by_cases h3:u.2=0
   ·rw [aj h3]
    by_cases h4:u.1.length=0
    ·rw [aj h4,ah (by decide)]
     have h5:=jQ h4;refine aB rfl rfl ?_;simp [jE,jF,hu,h2,hc,h3,h5]
    ·rw [ah h4,aj rfl]
     have h5:u.1≠[]:=λe=>h4 (by rw [e];rfl);refine aB rfl rfl ?_;simp [jE,jF,hu,h2,hc,h3,h5]
   ·rw [ah h3,ah h3]
    refine aB rfl rfl ?_;simp [jE,jF,hu,h2,hc,h3]
/-- The rest of the specs has no such tag. -/
theorem ajE {l:List bW} (hl:l.Pairwise (λa b=>a.tag < b.tag)) {i:Nat} (hi:i < l.length) {t:Int} (ht:l[i].tag=t):(l.drop (i+1)).find? (λx=>decide (x.tag=t))=none:=by
 rw [Yv];intro x hx;have hp:(l.drop i).Pairwise (λa b=>a.tag < b.tag):=hl.sublist (List.drop_sublist _ _);rw [dZ hi,wS] at hp;have:=hp.1 x hx;simp only [decide_eq_true_iff];omega
theorem WW (l:List bW) (hll:l.length<=1000) (hl:l.Pairwise (λa b=>a.tag < b.tag)) (hpl:∀s∈l,placeOf s.name≠none) (t y n:Int) (s:List UInt8) (hn:0<=n/\n < 18446744073709551616) (hs:s.length<=100000000) (x0 x1 x3 x4 x5 K R:GV):∀ (m i:Nat) (b:aU) (is:Bool),i+m=l.length->
 TT.lim 202 ([x0,x1,.b is,x3,x4,x5,.l (l.map bD),.i .i64 l.length,.i .i64 i,.i .u64 t,.i .i64 y,.i .u64 n,.s s,K,.i .i64 b.kind]++fB b++[R])=some (match (l.drop i).find? (λx=>decide (x.tag=t)) with
  | none=>.i .i64 1::.b is::.i .i64 b.kind::(fB b++[R])
  | some x=>match placeOf x.name with
    | some p=>if dY y n s p=0 then .i .i64 1::.b true::.i .i64 b.kind::(fB (setB b n s p)++[R]) else [.i .i64 0,.i .i64 (dY y n s p)]
    | none=>[])
 | 0,i,b,is,hi=>by
   have h:¬ ((i:Int) < l.length):=by omega
   have e:l.drop i=[]:=dN (by omega);rw [e,List.find?_nil];simp only [fB,gu,dK];refine aB rfl rfl ?_;simp [h]
 | m+1,i,b,is,hi=>by
   have hlt:i < l.length:=by omega
   have h:((i:Int) < l.length):=by omega
   have hw:=wrap64 (n:=(i:Int)+1) (by omega) (by omega);have hcast:((i+1:Nat):Int)=(i:Int)+1:=by omega
   have hd:=dZ hlt;have hget:(l.map bD)[i]? = some (.g [.i .u64 l[i].tag,.i .i64 l[i].use,.i .i64 l[i].from_,.s l[i].name]):=by rw [iF,bV hlt];rfl
   by_cases ht:l[i].tag=t;rotate_left
   ·have ih:=WW l hll hl hpl t y n s hn hs x0 x1 x3 x4 x5 K R m (i+1) b is (by omega)
    rw [hd,List.find?_cons_of_neg (by simpa using ht)];rw [hcast] at ih;generalize (match (l.drop (i+1)).find? (λx=>decide (x.tag=t)) with
    | none=>GV.i .i64 1::.b is::.i .i64 b.kind::(fB b++[R])
    | some x=>match placeOf x.name with
      | some p=>if dY y n s p=0 then .i .i64 1::.b true::.i .i64 b.kind::(fB (setB b n s p)++[R]) else [.i .i64 0,.i .i64 (dY y n s p)]
      | none=>[])=out at *
    simp only [fB,gu,dK] at ih ⊢;generalize l.map bD=SP at *;generalize (l.length:Int)=LL at *;generalize l[i].tag=tg at *;generalize l[i].use=tu at *;generalize l[i].from_=tf at *;generalize l[i].name=tn at *;have ht':(tg=t)=False:=eq_false ht;clear ht hd;refine aB rfl rfl ?_;simp [h,hget,ht',hw,ih]
   ·rw [hd,List.find?_cons_of_pos (by simpa using ht)]
    have hfr:=ajE hl hlt ht;obtain ⟨p,hp⟩:∃p,placeOf l[i].name=some p:=by
     cases hq:placeOf l[i].name with
     | some p=>exact ⟨p,rfl⟩
     | none=>exact absurd hq (hpl _ (fP hlt))
    have hws:=apP b R y n s hn hs hp;unfold RP at hws;simp only [hp];by_cases hc:dY y n s p=0
    ·rw [aj hc] at hws ⊢
     have ih:=WW l hll hl hpl t y n s hn hs x0 x1 x3 x4 x5 K R m (i+1) (setB b n s p) true (by omega);rw [hfr] at ih;rw [hcast,Qp] at ih;simp only at ih;generalize setB b n s p=B at *;simp only [fB,gu,dK] at ih hws ⊢;generalize l.map bD=SP at *;generalize (l.length:Int)=LL at *;generalize l[i].tag=tg at *;generalize l[i].use=tu at *;generalize l[i].from_=tf at *;generalize l[i].name=tn at *;subst ht;clear hd hfr hc;refine aB rfl rfl ?_;simp [h,hget,hw,hws,ih]
    ·rw [ah hc] at hws ⊢
     generalize dY y n s p=e at *;simp only [fB,gu,dK] at hws ⊢;generalize l.map bD=SP at *;generalize (l.length:Int)=LL at *;generalize l[i].tag=tg at *;generalize l[i].use=tu at *;generalize l[i].from_=tf at *;generalize l[i].name=tn at *;subst ht;clear hd hfr;refine aB rfl rfl ?_;simp [h,hget,hw,hws,hc]
theorem aag (l:List bW):∀ (fs:List aF) (b:aU),(jR l b fs).2=0->(jR l b fs).1.kind=b.kind
 | [],b,_=>rfl
 | f::fs,b,h=>by
   unfold jR at h ⊢;cases hq:l.find? (λs=>decide (s.tag=f.tag)) with
   | none=>rw [hq] at h;exact absurd h (by simp)
   | some s=>
     rw [hq] at h;simp only at h ⊢;cases hp:placeOf s.name with
     | none=>rw [hp] at h;exact absurd h (by simp)
     | some p=>
       rw [hp] at h;simp only at h ⊢;by_cases hc:dY f.typ f.num f.txt p=0
       ·rw [aj hc] at h ⊢
        rw [aag l fs _ h,Qp]
       ·rw [ah hc] at h;exact absurd h hc
theorem aa8 (t:Int):∀l:List bW,hasTag l t=(l.find? (λx=>decide (x.tag=t))).isSome
 | []=>rfl
 | x::l=>by
   have ih:=aa8 t l;unfold hasTag at ih ⊢;rw [Rt,List.find?_cons,ih];by_cases h:t=x.tag
   ·subst h;simp
   ·have h2:¬ x.tag=t:=λe=>h e.symm
    simp [h,h2]
theorem asw {l:List bW} {f:aF} {r:List aF} (h:hasTag l f.tag=true):gX l (f::r)=f::gX l r:=by unfold gX;rw [Rx (by rw [h])]
theorem amY {l:List bW} {f:aF} {r:List aF} (h:hasTag l f.tag=true):iZ l (f::r)=iZ l r:=by unfold iZ;rw [Rw (by rw [h];simp)]
theorem asv {l:List bW} {f:aF} {r:List aF} (h:hasTag l f.tag=false):gX l (f::r)=gX l r:=by unfold gX;rw [Rw (by rw [h];simp)]
theorem amX {l:List bW} {f:aF} {r:List aF} (h:hasTag l f.tag=false):iZ l (f::r)=f::iZ l r:=by unfold iZ;rw [Rx (by rw [h];rfl)]
theorem WV (v k:Int) (h3:v<=3) (hk:0<=k/\k<=8) (fs:List aF) (hok:dw fs) (hlen:fs.length<=1000000):∀ (m i:Nat) (b:aU) (acc:List aF),i+m=fs.length->acc.length<=i->
 TT.lim 201 ([.i .i64 v,.i .u64 k,.l (au fs),.i .i64 fs.length,.i .i64 i,.i .i64 b.kind]++fB b++[.l (au acc)])=some (if (jR (aQ k v) b (gX (aQ k v) (fs.drop i))).2=0 then .i .i64 1::.i .i64 (jR (aQ k v) b (gX (aQ k v) (fs.drop i))).1.kind::(fB (jR (aQ k v) b (gX (aQ k v) (fs.drop i))).1++[.l (au (acc++iZ (aQ k v) (fs.drop i)))]) else [.i .i64 0,.i .i64 (jR (aQ k v) b (gX (aQ k v) (fs.drop i))).2])
 | 0,i,b,acc,hi,ha=>by
   have h:¬ ((i:Int) < fs.length):=by omega
   have e:fs.drop i=[]:=dN (by omega);rw [e];simp only [gX,iZ,List.filter_nil,lq,jR,if_true];simp only [fB,gu,dK];refine aB rfl rfl ?_;simp [h]
 | m+1,i,b,acc,hi,ha=>by
   have h:((i:Int) < fs.length):=by omega
   have hw:=wrap64 (n:=(i:Int)+1) (by omega) (by omega);have hcast:((i+1:Nat):Int)=(i:Int)+1:=by omega
   obtain ⟨t,y,n,s,kk,g1,g2,g3,g4⟩:=vU (l:=fs) (i:=i) (by omega);have hf:=tq hok _ g4;simp only [l9] at hf;have hkn:=Xa k v h3;have wk:=wrap64 (n:=k) (by omega) (by omega);have k8:=vZ k v;have h0:=λ(b:aU)=>WW (aQ k v) (by omega) (Ku k v).1 (O7 k v) t y n s ⟨hf.1.2.2.2.2.1,hf.1.2.2.2.2.2.1⟩ hf.1.2.2.2.2.2.2.1 (.i .i64 v) (.i .u64 k) (.l (au fs)) (.i .i64 fs.length) (.i .i64 i) (.l (au kk)) (.l (au acc)) (aQ k v).length 0 b false (by omega);have h0:=h0 b;rw [bY] at h0;simp only [lZ] at h0;have hal:(((aQ k v).map bD).length:Int)=((aQ k v).length:Int):=by rw [vH]
   have hht:=aa8 t (aQ k v);have la:=iw acc;rw [g3];have e1:aF.tag (.mk t y n s kk)=t:=rfl;have e2:aF.typ (.mk t y n s kk)=y:=rfl;have e3:aF.num (.mk t y n s kk)=n:=rfl;have e4:aF.txt (.mk t y n s kk)=s:=rfl;cases hq:(aQ k v).find? (λx=>decide (x.tag=t)) with
   | none=>
     rw [hq] at h0 hht;simp only [Option.isSome_none] at hht;have ih:=WV v k h3 hk fs hok hlen m (i+1) b (acc++[.mk t y n s kk]) (by omega) (by rw [dX,qO];omega);rw [asv (f:=.mk t y n s kk) hht,amX (f:=.mk t y n s kk) hht];have happ:∀z:List aF,acc++[aF.mk t y n s kk]++z=acc++(aF.mk t y n s kk::z):=λz=>by simp
     rw [happ,hcast] at ih;have hfa:au (acc++[.mk t y n s kk])=au acc++[gK t y n s kk]:=by rw [BP];simp only [au,fG];rfl
     rw [hfa] at ih;have hel:(gK t y n s kk).eU 5=true:=rfl;have zW:=Ub t y n s kk;have hfe:GV.g [.i .u64 t,.i .i64 y,.i .u64 n,.s s,.l (au kk)]=gK t y n s kk:=rfl;have c1:2 * ((au acc).length+1) * 64<=281474976710656/\(au acc).length+1<=281474976710656:=by omega
     generalize au (acc++(aF.mk t y n s kk::iZ (aQ k v) (fs.drop (i+1))))=O at *;generalize jR (aQ k v) b (gX (aQ k v) (fs.drop (i+1)))=R at *;generalize (aQ k v).map bD=SP at *;generalize ((aQ k v).length:Int)=LL at *;generalize gK t y n s kk=E at *;generalize au acc=A at *;generalize au fs=FS at *;generalize (fs.length:Int)=FL at *;simp only [fB,gu,dK] at h0 ih ⊢;clear hht hq happ hfa g1 g3 g4 hf k8 e1 e2 e3 e4;by_cases hr:R.2=0
     ·rw [aj hr] at ih ⊢
      refine aB rfl rfl ?_;simp -implicitDefEqProofs (maxSteps:=10000000) [↓jH,h,hw,wk,hkn,hal,g2,zW,h0,hel,hfe,c1,ih]
     ·rw [ah hr] at ih ⊢
      refine aB rfl rfl ?_;simp -implicitDefEqProofs (maxSteps:=10000000) [↓jH,h,hw,wk,hkn,hal,g2,zW,h0,hel,hfe,c1,ih]
   | some x=>
     rw [hq] at h0 hht;simp only [Option.isSome_some] at hht;rw [asw (f:=.mk t y n s kk) hht,amY (f:=.mk t y n s kk) hht];have hmem:=afk hq;obtain ⟨p,hp⟩:∃p,placeOf x.name=some p:=by
      cases hq2:placeOf x.name with
      | some p=>exact ⟨p,rfl⟩
      | none=>exact absurd hq2 (O7 k v x hmem)
     simp only [hp] at h0;have hdw:∀r,jR (aQ k v) b (.mk t y n s kk::r)=if dY y n s p=0 then jR (aQ k v) (setB b n s p) r else (fJ,dY y n s p):=λr=>by
      rw [jR,e1,hq,e2,e3,e4];simp only [hp]
     rw [hdw];have zW:=Ub t y n s kk;have hfe:GV.g [.i .u64 t,.i .i64 y,.i .u64 n,.s s,.l (au kk)]=gK t y n s kk:=rfl;by_cases hc:dY y n s p=0
     ·rw [aj hc] at h0
      simp only [aj hc];have ih:=WV v k h3 hk fs hok hlen m (i+1) (setB b n s p) acc (by omega) (by omega);rw [hcast,Qp] at ih;generalize au (acc++iZ (aQ k v) (fs.drop (i+1)))=O at *;generalize jR (aQ k v) (setB b n s p) (gX (aQ k v) (fs.drop (i+1)))=R at *;generalize setB b n s p=B at *;generalize (aQ k v).map bD=SP at *;generalize ((aQ k v).length:Int)=LL at *;generalize gK t y n s kk=E at *;generalize au acc=A at *;generalize au fs=FS at *;generalize (fs.length:Int)=FL at *;simp only [fB,gu,dK] at h0 ih ⊢;clear hht hq hdw g1 g3 g4 hf k8 e1 e2 e3 e4;by_cases hr:R.2=0
      ·rw [aj hr] at ih ⊢
       refine aB rfl rfl ?_;simp -implicitDefEqProofs (maxSteps:=10000000) [↓jH,h,hw,wk,hkn,hal,g2,zW,h0,ih]
      ·rw [ah hr] at ih ⊢
       refine aB rfl rfl ?_;simp -implicitDefEqProofs (maxSteps:=10000000) [↓jH,h,hw,wk,hkn,hal,g2,zW,h0,ih]
     ·rw [ah hc] at h0
      simp only [ah hc];generalize dY y n s p=e at *;generalize (aQ k v).map bD=SP at *;generalize ((aQ k v).length:Int)=LL at *;generalize gK t y n s kk=E at *;generalize au acc=A at *;generalize au fs=FS at *;generalize (fs.length:Int)=FL at *;simp only [fB,gu,dK] at h0 ⊢;clear hht hq hdw g1 g3 g4 hf k8 e1 e2 e3 e4;refine aB rfl rfl ?_;simp -implicitDefEqProofs (maxSteps:=10000000) [↓jH,h,hw,wk,hkn,hal,g2,zW,h0]
set_option maxHeartbeats 4000000 in
theorem adC (s:List UInt8) (v:Int) (hs:s.length<=1000000):TT.lim 193 [.s s,.i .i64 v]=some [bP (jZ s v).1 (au (jZ s v).2.1),.i .i64 (jZ s v).2.2]:=by
 have fn:au []=[]:=by simp only [au]
 have hz:GV.g [.i .i64 0,.i .u64 0,.i .u64 0,.i .u64 0,.i .u64 0,.i .u64 0,.i .u64 0,.i .u64 0,.i .u64 0,.i .u64 0,.i .u64 0,.i .u64 0,.i .u64 0,.i .u64 0,.i .u64 0,.i .u64 0,.i .i64 0,.b false,.s [],.s [],.s [],.l [],.l [],.l []]=bP fJ []:=rfl;unfold jZ;by_cases c1:v < 1
 ·rw [aj c1]
  simp only;rw [fn,<- hz];refine aG rfl rfl ?_ rfl;simp [c1]
 rw [ah c1];by_cases c2:3 < v
 ·rw [aj c2]
  simp only;rw [fn,<- hz];refine aG rfl rfl ?_ rfl;simp [c1,c2]
 rw [ah c2];by_cases c3:65536 < s.length
 ·rw [aj c3]
  have c3':(65536:Int) < s.length:=by omega
  simp only;rw [fn,<- hz];refine aG rfl rfl ?_ rfl;simp [c1,c2,c3']
 rw [ah c3];have c3':¬ (65536:Int) < s.length:=by omega
 have kg:=Ar s (by omega);by_cases e1:(ak s).2.2=0;rotate_left
 ·rw [aj e1]
  simp only;rw [fn,<- hz];generalize (ak s).2.2=e at *;refine aG rfl rfl ?_ rfl;simp [c1,c2,c3',kg,e1]
 rw [ah (λx=>x e1)];rw [e1] at kg;have v1:=iD e1;have l1:=v1.len;have t1:=v1.lt;have hdl:(s.drop (ak s).2.1).length=s.length - (ak s).2.1:=dh;have hwg:=apO (s.drop (ak s).2.1) (by omega);obtain ⟨g1,g2,g3, -⟩:=Oz (s.drop (ak s).2.1);clear v1 e1 hdl;generalize lU (s.drop (ak s).2.1)=F at *;generalize hT:s.drop (ak s).2.1=T at *;generalize (ak s).1=n at *;generalize (ak s).2.1=j at *;have hsub:(s.take s.length).drop j=T:=by rw [mZ];exact hT
 have j0:(j:Int)<=s.length:=by omega
 by_cases c4:8 < n
 ·rw [aj c4]
  have iR:¬ (n:Int)=0:=by omega
  have wZ:(8:Int) < n:=by omega
  simp only;rw [fn,<- hz];refine aG rfl rfl ?_ rfl;simp [c1,c2,c3',kg,iR,wZ]
 rw [ah c4];have wZ:¬ (8:Int) < n:=by omega
 by_cases c5:lH n=0
 ·rw [aj c5]
  have iR:(n:Int)=0:=by
   by_cases h0:n=0
   ·omega
   ·exfalso
    rcases (show n=1\/n=2\/n=3\/n=4\/n=5\/n=6\/n=7\/n=8 by omega) with rfl | rfl | rfl | rfl | rfl | rfl | rfl | rfl<;>exact absurd c5 (by decide)
  simp only;rw [fn,<- hz];refine aG rfl rfl ?_ rfl;simp [c1,c2,c3',kg,iR]
 rw [ah c5];have n0:¬ (n:Int)=0:=by
  intro h0;rw [h0] at c5;exact c5 rfl
 have n1:¬ (n:Int) < 1:=by omega
 have hfk:lH n=if (n:Int)=6 then 2 else 1:=by
  rcases (show n=1\/n=2\/n=3\/n=4\/n=5\/n=6\/n=7\/n=8 by omega) with rfl | rfl | rfl | rfl | rfl | rfl | rfl | rfl<;>decide
 have wn:=wrap64 (n:=(n:Int)) (by omega) (by omega);have w6:IntKind.i64.wrap 6=6:=wrap64 (by decide) (by decide);have m0:¬ n=0:=by omega
 by_cases c6:v < lH n
 ·rw [aj c6]
  simp only;rw [fn,<- hz];rw [hfk] at c6;by_cases n6:(n:Int)=6
  ·rw [aj n6] at c6
   refine aG rfl rfl ?_ rfl;simp [c1,c2,c3',kg,n0,m0,wZ,wn,w6,n6,c6]
  ·rw [ah n6] at c6
   exact absurd c6 c1
 rw [ah c6];have c7:(n:Int)=6->¬ v < 2:=λh=>by rw [hfk,aj h] at c6;exact c6
 clear c6 hfk c5 c4;by_cases e2:F.2=0;rotate_left
 ·rw [aj e2]
  simp only;rw [fn,<- hz];by_cases n6:(n:Int)=6
  ·have c7:=c7 n6
   refine aG rfl rfl ?_ rfl;simp [c1,c2,c3',kg,n0,m0,wZ,wn,w6,n6,c7,hsub,hT,j0,hwg,e2]
  ·refine aG rfl rfl ?_ rfl
   simp [c1,c2,c3',kg,n0,m0,n1,wZ,wn,w6,n6,hsub,hT,j0,hwg,e2]
 rw [ah (λx=>x e2)];rw [e2] at hwg;have kd:=WV v n (by omega) (by omega) F.1 g1 g2 F.1.length 0 { fJ with kind:=n } [] (by omega) (by simp);rw [bY,dK,fn] at kd;simp only [lZ] at kd;have hdw:=NR (aQ n v) (gX (aQ n v) F.1) { fJ with kind:=n } (BQ _ g1) (Ri n (by omega));have hdk:=aag (aQ n v) (gX (aQ n v) F.1) { fJ with kind:=n };have kc:=WU (jR (aQ n v) { fJ with kind:=n } (gX (aQ n v) F.1)).1 (iZ (aQ n v) F.1) v hdw.body hdw.t.few (BQ _ g1) (jl (LY _ _) g2);have hfl:=iw F.1;clear hdw g1 g2 g3;simp only;generalize jR (aQ n v) { fJ with kind:=(n:Int) } (gX (aQ n v) F.1)=R at *;simp only [fB,fJ,gu,dK,vI] at kd;simp only [fJ] at hdk;generalize iZ (aQ n v) F.1=O at *;generalize au F.1=FG at *;by_cases e3:R.2=0;rotate_left
 ·rw [ah e3] at kd
  rw [aj e3];simp only;rw [fn,<- hz];by_cases n6:(n:Int)=6
  ·have c7:=c7 n6
   rw [n6] at kd;refine aG rfl rfl ?_ rfl;simp -implicitDefEqProofs (maxSteps:=10000000) [↓jH,c1,c2,c3',kg,n0,m0,wZ,wn,w6,n6,c7,hsub,hT,j0,hwg,hfl,kd]
  ·refine aG rfl rfl ?_ rfl
   simp -implicitDefEqProofs (maxSteps:=10000000) [↓jH,c1,c2,c3',kg,n0,m0,n1,wZ,wn,w6,n6,hsub,hT,j0,hwg,hfl,kd]
 rw [aj e3] at kd;rw [ah (λx=>x e3)];have hdk:=hdk e3;by_cases e4:jG R.1 O v=0
 ·rw [e4] at kc
  rw [ah (λx=>x e4)];simp only;generalize au O=OG at *;unfold bP at kc ⊢;by_cases n6:(n:Int)=6
  ·have c7:=c7 n6
   rw [n6] at kd;refine aG rfl rfl ?_ rfl;simp -implicitDefEqProofs (maxSteps:=10000000) [↓jH,c1,c2,c3',kg,n0,m0,wZ,wn,w6,n6,c7,hsub,hT,j0,hwg,hfl,kd,kc]
  ·refine aG rfl rfl ?_ rfl
   simp -implicitDefEqProofs (maxSteps:=10000000) [↓jH,c1,c2,c3',kg,n0,m0,n1,wZ,wn,w6,n6,hsub,hT,j0,hwg,hfl,kd,kc]
 ·rw [aj e4]
  simp only;rw [fn,<- hz];generalize au O=OG at *;generalize jG R.1 O v=e at *;unfold bP at kc;by_cases n6:(n:Int)=6
  ·have c7:=c7 n6
   rw [n6] at kd;refine aG rfl rfl ?_ rfl;simp -implicitDefEqProofs (maxSteps:=10000000) [↓jH,c1,c2,c3',kg,n0,m0,wZ,wn,w6,n6,c7,hsub,hT,j0,hwg,hfl,kd,kc,e4]
  ·refine aG rfl rfl ?_ rfl
   simp -implicitDefEqProofs (maxSteps:=10000000) [↓jH,c1,c2,c3',kg,n0,m0,n1,wZ,wn,w6,n6,hsub,hT,j0,hwg,hfl,kd,kc,e4]
theorem aaf (s:List UInt8) (v:Int):qB (jZ s v).1 (jZ s v).2.1:=by
 unfold jZ;obtain ⟨g1,g2, -⟩:=Oz (s.drop (ak s).2.1);repeat' split
 all_goals first | exact nY | skip
 have h:=NR (aQ (ak s).1 v) (gX (aQ (ak s).1 v) (lU (s.drop (ak s).2.1)).1) { fJ with kind:=(ak s).1 } (BQ _ g1) (Ri (ak s).1 (by omega));simp only;split
 ·exact nY
 ·split
  ·exact nY
  ·exact ⟨h.body,h.d,h.t,BQ _ g1,jl (LY _ _) g2⟩
theorem agd {b:aU} {fl:List aF} {v:Int} (h:jG b fl v=0):(∀n∈fH,∀q,placeOf n=some q->lV (aQ b.kind v) n=false->uY b q=true)/\(∀s∈aQ b.kind v,∀q,placeOf s.name=some q->qj b q=0)/\Bv b=0/\EK (aQ b.kind v) fl=0:=by
 unfold jG at h;by_cases h1:v < 1
 ·rw [aj h1] at h;exact absurd h (by decide)
 rw [ah h1] at h;by_cases h2:3 < v
 ·rw [aj h2] at h;exact absurd h (by decide)
 rw [ah h2] at h;by_cases h3:aQ b.kind v=[]
 ·rw [aj h3] at h;exact absurd h (by decide)
 rw [ah h3] at h;by_cases h4:fH.all (λn=>lV (aQ b.kind v) n || mM b n)=false
 ·rw [aj h4] at h;exact absurd h (by decide)
 rw [ah h4] at h;by_cases h5:kS b (aQ b.kind v)≠0
 ·rw [aj h5] at h;exact absurd h h5
 rw [ah h5] at h;by_cases h6:Bv b≠0
 ·rw [aj h6] at h;exact absurd h h6
 rw [ah h6] at h;refine ⟨λn hn q hq hx=>?_,λs hs q hq=>?_,by simpa using h6,h⟩
 ·rw [Yf] at h4
  have:=List.all_eq_true.1 h4 n hn;rw [hx,wO] at this;unfold mM at this;rw [hq] at this;exact this
 ·have:=acr b _ (by simpa using h5) s hs
  unfold qJ at this;rw [hq] at this;exact this
theorem akC {l:List bW} {n:List UInt8}:lV l n=true↔∃s∈l,s.name=n:=by
 unfold lV;rw [List.any_eq_true];exact ⟨λ⟨s,h,e⟩=>⟨s,h,KJ e⟩,λ⟨s,h,e⟩=>⟨s,h,zN e⟩⟩
theorem XQ {s:List UInt8} (h:jK s 0 256=0):s.length<=600:=by
 unfold jK at h;split at h
 ·cases h
 ·split at h
  ·cases h
  ·omega
theorem aq2 {b:aU} {fl:List aF} {v:Int} (h:jG b fl v=0):Short b:=by
 obtain ⟨c1,c2, -, -⟩:=agd h;have key:∀n q,placeOf n=some q->qj b q=0\/uY b q=true:=λn q e=>by
  cases hx:lV (aQ b.kind v) n with
  | true=>
    obtain ⟨s,hs,es⟩:=akC.1 hx;exact .inl (c2 s hs q (by rw [es];exact e))
  | false=>exact .inr (c1 n (wB n q e).2.2 q e hx)
 refine ⟨?_, ?_, ?_⟩
 ·rcases key Ep .name ac6 with k | k
  ·exact XQ k
  ·simp only [uY,decide_eq_true_iff] at k;rw [k];simp
 ·rcases key Et .region ac8 with k | k
  ·exact XQ k
  ·simp only [uY,decide_eq_true_iff] at k;rw [k];simp
 ·rcases key Es .note ac7 with k | k
  ·exact XQ k
  ·simp only [uY,decide_eq_true_iff] at k;rw [k];simp
theorem aiL {s:List UInt8} {v:Int} (h:(jZ s v).2.2=0):wV (jZ s v).1 (jZ s v).2.1:=by
 have mo:=aaf s v;obtain ⟨g1,g2,g3,g4⟩:=Oz (s.drop (ak s).2.1);have q1:=QM (λf=>!hasTag (aQ (ak s).1 v) f.tag) (lU (s.drop (ak s).2.1)).1;have q2:=ae8 (λf=>!hasTag (aQ (ak s).1 v) f.tag) (lU (s.drop (ak s).2.1)).1;unfold jZ at h mo ⊢;by_cases c1:v < 1
 ·rw [aj c1] at h;exact absurd h (by decide)
 rw [ah c1] at h mo ⊢;by_cases c2:3 < v
 ·rw [aj c2] at h;exact absurd h (by decide)
 rw [ah c2] at h mo ⊢;by_cases c3:65536 < s.length
 ·rw [aj c3] at h;exact absurd h (by decide)
 rw [ah c3] at h mo ⊢;by_cases c4:(ak s).2.2≠0
 ·rw [aj c4] at h;exact absurd h c4
 rw [ah c4] at h mo ⊢;by_cases c5:8 < (ak s).1
 ·rw [aj c5] at h;exact absurd h (by decide)
 rw [ah c5] at h mo ⊢;by_cases c6:lH (ak s).1=0
 ·rw [aj c6] at h;exact absurd h (by decide)
 rw [ah c6] at h mo ⊢;by_cases c7:v < lH (ak s).1
 ·rw [aj c7] at h;exact absurd h (by decide)
 rw [ah c7] at h mo ⊢;by_cases c8:(lU (s.drop (ak s).2.1)).2≠0
 ·rw [aj c8] at h;exact absurd h c8
 rw [ah c8] at h mo ⊢;simp only at h mo ⊢;generalize jR (aQ (ak s).1 v) { fJ with kind:=((ak s).1:Nat) } (gX (aQ (ak s).1 v) (lU (s.drop (ak s).2.1)).1)=R at *;by_cases c9:R.2≠0
 ·rw [aj c9] at h;exact absurd h c9
 rw [ah c9] at h mo ⊢;by_cases d1:jG R.1 (iZ (aQ (ak s).1 v) (lU (s.drop (ak s).2.1)).1) v≠0
 ·rw [aj d1] at h;exact absurd h d1
 rw [ah d1] at mo ⊢;refine ⟨mo,aq2 (by simpa using d1), ?_, ?_⟩
 ·unfold iZ;simp only;omega
 ·unfold iZ;simp only;omega
theorem afz (b:aU) (fl:List aF) (x y:Int):qB (nC b fl x y).1 (nC b fl x y).2.1:=by
 unfold nC;split
 ·exact aaf _ y
 ·exact nY
theorem aiV (b:aU) (fl:List aF) (x:Int):(oQ b fl x).1.length<=65536:=by
 unfold oQ;split
 ·split
  ·simp
  ·simp only;omega
 ·simp
theorem X6:GV.g [.i .i64 0,.i .u64 0,.i .u64 0,.i .u64 0,.i .u64 0,.i .u64 0,.i .u64 0,.i .u64 0,.i .u64 0,.i .u64 0,.i .u64 0,.i .u64 0,.i .u64 0,.i .u64 0,.i .u64 0,.i .u64 0,.i .i64 0,.b false,.s [],.s [],.s [],.l [],.l [],.l []]=bP fJ []:=rfl
theorem ao3 {b:aU} {fl:List aF} (hm:wV b fl) (x y:Int):TT.lim 135 [bP b (au fl),.i .i64 x,.i .i64 y]=some [bP (nC b fl x y).1 (au (nC b fl x y).2.1),.i .i64 (nC b fl x y).2.2]:=by
 have k1:=adH hm x;have hle:=aiV b fl x;have k2:=adC (oQ b fl x).1 y (by omega);have fn:au []=[]:=by simp only [au]
 unfold nC;generalize oQ b fl x=E at *;generalize au fl=r at *;by_cases c:E.2=0
 ·rw [aj c]
  rw [c] at k1;generalize jZ E.1 y=D at *;generalize au D.2.1=r2 at *;refine aG rfl rfl ?_ rfl;simp -implicitDefEqProofs (maxSteps:=10000000) [↓jH,fM,k1,k2]
 ·rw [ah c]
  simp only;rw [fn,<- X6];refine aG rfl rfl ?_ rfl;simp -implicitDefEqProofs (maxSteps:=10000000) [↓jH,fM,k1,c]
theorem al6 (b:aU) (r:List GV) (x y:Int) (h:x < y):TT.lim 20 [bP b r,.i .i64 x,.i .i64 y]=some [bP fJ [],.i .i64 16]:=by
 rw [<- X6];refine aG rfl rfl ?_ rfl;simp -implicitDefEqProofs (maxSteps:=10000000) [h]
theorem alM (b:aU) (r:List GV) (x y:Int) (h:y < x):TT.lim 127 [bP b r,.i .i64 x,.i .i64 y]=some [bP fJ [],.i .i64 16]:=by
 rw [<- X6];refine aG rfl rfl ?_ rfl;simp -implicitDefEqProofs (maxSteps:=10000000) [h]
theorem aoR (s:List UInt8) (v:Int) (hs:s.length<=6000):∃ (RS:List UInt8) (RE:Int),TT.lim 223 [.s s,.i .i64 v]=some [.s RS,.i .i64 RE]/\
 (((jZ s v).2.2≠0/\RS=[]/\RE=(jZ s v).2.2)\/((jZ s v).2.2=0/\TT.lim 136 [bP (jZ s v).1 (au (jZ s v).2.1),.i .i64 v]=some [.s RS,.i .i64 RE])):=by
 have k1:=decode_ok s v (by omega);by_cases e:(jZ s v).2.2=0
 ·have w:=aiL e
  have k2:=ac2 w v;have k3:=adH w v;refine ⟨_,_, ?_,.inr ⟨e,k3⟩⟩;rw [e] at k1;clear k3 w e;generalize jZ s v=D at *;generalize oQ D.1 D.2.1 v=E at *;generalize au D.2.1=r at *;refine aG rfl rfl ?_ rfl;simp -implicitDefEqProofs (maxSteps:=10000000) [↓jH,fM,k1,k2]
 ·refine ⟨[],_, ?_,.inl ⟨e,rfl,rfl⟩⟩
  generalize jZ s v=D at *;generalize au D.2.1=r at *;refine aG rfl rfl ?_ rfl;simp -implicitDefEqProofs (maxSteps:=10000000) [↓jH,fM,k1,e]
end V
end Go.Proofs.YtaggjpipnjmleaaGreatDoor
