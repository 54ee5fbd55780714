/- What the trees compute: plain laws. -/
import Derived.Test.YtpioimdhbbgniaaGreatDoorKLT
import Derived.Test.YtpioimdhbbgniaaGreatDoorAbsPl
import Derived.Test.YtpioimdhbbgniaaGreatDoorAbsGo
import Derived.Test.YtpioimdhbbgniaaGreatDoorAbsTold2
import Derived.Test.YtpioimdhbbgniaaGreatDoorAbsTold3
import Derived.Test.YtpioimdhbbgniaaGreatDoorAbsFields
import Derived.Test.YtpioimdhbbgniaaGreatDoorAbsSortF
import Derived.Test.YtpioimdhbbgniaaGreatDoorAbsRep
import Derived.Lib.TrimUEq
import Derived.Lib.MapLaws
namespace Go.Proofs.YtpioimdhbbgniaaGreatDoor
open Go Go.aJ
set_option linter.unusedSimpArgs false
set_option linter.unusedVariables false
set_option maxRecDepth 100000
namespace L
theorem Fe:∀a b:List UInt8,Op.bytesLess a b=decide (a < b)
 | _,[]=>by simp [Op.bytesLess]
 | [],_::_=>by simp [Op.bytesLess]
 | a::x,b::y=>by
   rw [Op.bytesLess,Fe x y,yP];simp [adx]
/-- An entry: key and value. A row: its entries and its number. -/
abbrev dH:=List UInt8×List UInt8
abbrev Row:=List dH×Int
def ent (x:dH):GV:=.g [.s x.1,.s x.2]
def row (r:Row):GV:=.g [.l (r.1.map ent),.i .u64 r.2]
@[simp] theorem aqb (x:dH):(ent x).cells=[.s x.1,.s x.2]:=rfl
@[simp] theorem arH (r:Row):(row r).cells=[.l (r.1.map ent),.i .u64 r.2]:=rfl
@[simp] theorem aqc (x:dH):(ent x).scalar=false:=rfl
@[simp] theorem arI (r:Row):(row r).scalar=false:=rfl
/-- Texts and lists of no more than any machine bears. -/
def yS (d:List dH):Prop:=d.length<=140737488351232/\∀x∈d,x.1.length<=140737488351232/\x.2.length<=140737488351232
def Rows (l:List Row):Prop:=l.length<=140737488351232/\∀r∈l,yS r.1/\0<=r.2/\r.2 < 18446744073709551616
def Dt (x:dH):Bool:=decide (x.1.length+x.2.length<=600)
def iV (d:List dH):Bool:=d.all Dt&&decide (d.length<=40)
def aP (n:Nat):List UInt8:=if n < 128 then [UInt8.ofNat n] else UInt8.ofNat (n % 128+128)::aP (n / 128)
termination_by n
decreasing_by omega
theorem Aa {n:Nat} (h:n < 128):aP n=[UInt8.ofNat n]:=by rw [aP,ak h]
theorem Il {n:Nat} (h:¬ n < 128):aP n=UInt8.ofNat (n % 128+128)::aP (n / 128):=by rw [aP,ah h]
def fF (n:Nat):Nat:=(aP n).length
theorem amg {n:Int} (h0:0<=n):n.fdiv (2 ^ (7:Nat))=n / 128:=by
 rw [KU _ (by decide)];rfl
theorem acz {n:Nat}:nH .shr .u64 (n:Int) 7=some (.i .u64 ((n / 128:Nat):Int)):=by
 have:((n:Int)).fdiv (2 ^ (7:Nat))=((n / 128:Nat):Int):=by rw [amg (by omega)];omega
 simp [nH,IntKind.bits];exact this
theorem yK (n:Nat):0 < fF n:=by unfold fF;rw [aP];split<;>simp
theorem Et {n:Nat} (h:¬ n < 128):fF n=fF (n / 128)+1:=by unfold fF;rw [Il h];rfl
theorem adi:∀ (k n:Nat),0 < k->n < 128 ^ k->fF n<=k
 | 0,_,h,_=>by omega
 | k+1,n,_,h=>by
   by_cases hn:n < 128
   ·unfold fF;rw [Aa hn];simp
   ·rw [Et hn]
    cases k with
    | zero=>simp at h;omega
    | succ k=>
      have:n / 128 < 128 ^ (k+1):=by rw [EP] at h;omega
      have:=adi (k+1) (n / 128) (by omega) this;omega
theorem BR {n:Nat} (h:n < 18446744073709551616):fF n<=10:=adi 10 n (by omega) (by omega)
theorem aif:∀ (n s:Nat),s+fF n<=1000->n < 18446744073709551616->TT.lim 43 [.i .u64 n,.i .i64 s]=some [.i .i64 0,.i .i64 ((s+fF n - 1:Nat):Int)]:=by
 intro n;induction n using Nat.strongRecOn with
 | _ n ih=>
   intro s hs hn;refine aA rfl rfl ?_;by_cases h:n < 128
   ·have h':¬ (128:Int)<=n:=by omega
    simp [h',fF,Aa h]
   ·have h':(128:Int)<=n:=by omega
    have hv:=Et h;have hp:=yK (n / 128);have hw:=wrap64 (n:=(s:Int)+1) (by omega) (by omega);have ih':TT.lim 43 [.i .u64 ((n / 128:Nat):Int),.i .i64 ((s:Int)+1)]=_:=ih (n / 128) (by omega) (s+1) (by omega) (by omega);have hn':s+fF n - 1=s+1+fF (n / 128) - 1:=by omega
    rw [hn'];have h7:nH .shr .u64 (n:Int) 7=some (.i .u64 ((n / 128:Nat):Int)):=acz;generalize ((n / 128:Nat):Int)=q at h7 ih';simp [h',hw,h7,ih']
theorem Kv (n:Nat) (hn:n < 18446744073709551616):TT.lim 42 [.i .u64 n]=some [.i .i64 (fF n)]:=by
 have hp:=yK n;have h9:TT.lim 43 [.i .u64 n,.i .i64 1]=_:=aif n 1 (by have:=BR hn;omega) hn;rw [show 1+fF n - 1=fF n by omega] at h9;refine bF rfl rfl ?_ rfl;simp [h9]
/-- The bytes of a number, each with its high bit set. -/
def jh:Nat->Nat->List Nat
 | 0,_=>[]
 | k+1,n=>(n % 128+128)::jh k (n / 128)
def iq (n:Nat):GV:=.i .u8 n
theorem adR (n:Nat) (hn:n < 18446744073709551616):eH .and .u64 (n:Int) 127=some (.i .u64 ((n % 128:Nat):Int)):=by
 have h1:((BitVec.ofInt 64 (n:Int) &&& BitVec.ofInt 64 127).toNat:Nat)=n % 128:=by
  rw [WQ,wC,wC];have e1:((n:Int) % ((2 ^ 64:Nat):Int)).toNat=n:=by omega
  have e2:((127:Int) % ((2 ^ 64:Nat):Int)).toNat=2 ^ 7 - 1:=by decide
  rw [e1,e2,adD]
 show some (GV.i .u64 (IntKind.u64.wrap (((BitVec.ofInt 64 (n:Int) &&& BitVec.ofInt 64 127).toNat:Nat):Int)))=_
 rw [h1,jL (by omega) (by omega)]
theorem XL (n:Nat) (hn:n < 256):eH .and .u8 (n:Int) 127=some (.i .u8 ((n % 128:Nat):Int)):=by
 have:∀x:Fin 256,IntKind.u8.wrap (((BitVec.ofInt IntKind.u8.bits ((x.val:Nat):Int) &&& BitVec.ofInt IntKind.u8.bits 127).toNat:Nat):Int)=((x.val % 128:Nat):Int):=by decide +kernel
 show some (GV.i .u8 _)=some (GV.i .u8 _)
 exact tq (λz=>some (GV.i .u8 z)) (this ⟨n,hn⟩)
theorem ajj (n:Nat) (hn:n < 128):eH .or .u8 (n:Int) 128=some (.i .u8 ((n+128:Nat):Int)):=by
 have:∀x:Fin 128,IntKind.u8.wrap (((BitVec.ofInt IntKind.u8.bits ((x.val:Nat):Int) ||| BitVec.ofInt IntKind.u8.bits 128).toNat:Nat):Int)=((x.val+128:Nat):Int):=by decide +kernel
 show some (GV.i .u8 _)=some (GV.i .u8 _)
 exact tq (λz=>some (GV.i .u8 z)) (this ⟨n,hn⟩)
theorem ao1 {n:Int} (h0:0<=n) (h1:n < 256):IntKind.u8.wrap n=n:=by
 have:IntKind.u8.wrap n=n % 256:=by simp [IntKind.wrap,IntKind.signed,IntKind.bits]
 rw [this];omega
@[simp] theorem apY (n:Nat):(iq n).cells=[iq n]:=rfl
@[simp] theorem ap0 (n:Nat):(iq n).scalar=true:=rfl
@[simp] theorem apZ (n:Nat) (v:GV):(iq n).put 0 [v]=some v:=rfl
theorem Yc:∀l:List Nat,(∀x∈l,x < 256)->nP (l.map iq)=some (l.map UInt8.ofNat)
 | [],_=>rfl
 | a::l,h=>by
   have h1:=h a (by simp);have h2:=Yc l λx hx=>h x (by simp [hx]);simp only [iy,iq,nP] at h2 ⊢;rw [ak (by omega)];have:(λn:Nat=>GV.i .u8 (n:Int))=iq:=rfl;rw [h2];simp
theorem aaV:∀ (m n:Nat) (done:List Nat),n < 18446744073709551616->done.length+m < 1000->
 TT.lim 44 [.i .u64 n,.l ((done++List.replicate m 0).map iq),.i .i64 ((done.length+m:Nat):Int),.i .i64 done.length]=some [.i .i64 0,.l ((done++jh m n).map iq)]
 | 0,n,done,hn,hd=>by
   refine aA rfl rfl ?_;simp [jh]
 | m+1,n,done,hn,hd=>by
   have hlt:(done.length:Int) < ((done.length+(m+1):Nat):Int):=by omega
   have hw:=wrap64 (n:=(done.length:Int)+1) (by omega) (by omega);have hw8:=ao1 (n:=((n % 128:Nat):Int)) (by omega) (by omega);have h7:nH .shr .u64 (n:Int) 7=some (.i .u64 ((n / 128:Nat):Int)):=acz;have ha:=adR n hn;have ho:=ajj (n % 128) (by omega);have ih:=aaV m (n / 128) (done++[n % 128+128]) (by omega) (by simp;omega);have hlen:(done++[n % 128+128]).length+m=done.length+(m+1):=by simp;omega
   rw [hlen] at ih;have hl2:(((done++[n % 128+128]).length:Nat):Int)=(done.length:Int)+1:=by simp
   rw [hl2] at ih;have hset:((done++List.replicate (m+1) 0).map iq).set done.length (iq (n % 128+128))=(done++[n % 128+128]++List.replicate m 0).map iq:=by
    rw [IB,<- List.map_set,List.set_append_right _ _ (cZ _),xK];simp
   have hget:((done++List.replicate (m+1) 0).map iq)[done.length]? = some (iq 0):=by
    rw [iQ,sH (cZ _),xK,IB];rfl
   have hll:((done++List.replicate (m+1) 0).map iq).length=done.length+(m+1):=by simp
   have hv:done++jh (m+1) n=done++[n % 128+128]++jh m (n / 128):=by simp [jh]
   rw [hv];generalize hL:(done++List.replicate (m+1) 0).map iq=L at *;refine aA rfl rfl ?_;have hix:(0:Int)<=(done.length:Int)/\(done.length:Int) < (L.length:Int):=by rw [hll];omega
   have hob:GV.i IntKind.u8 ((n % 128+128:Nat):Int)=iq (n % 128+128):=rfl;have SX:L.set done.length (GV.i IntKind.u8 ((n % 128+128:Nat):Int))=(done++[n % 128+128]++List.replicate m 0).map iq:=hset;generalize (done++[n % 128+128]++List.replicate m 0).map iq=L2 at ih SX;generalize (done++[n % 128+128]++jh m (n / 128)).map iq=L3 at ih ⊢;generalize ((n / 128:Nat):Int)=q at h7 ih;generalize ((n % 128+128:Nat):Int)=z at ho SX;generalize ((n % 128:Nat):Int)=rr at ha hw8 ho;generalize ((done.length+(m+1):Nat):Int)=N at hlt ih ⊢;simp [hlt,ha,hw8,ho,hix,hget,h7,hw,SX,ih]
theorem WA:∀m n,(jh m n).length=m
 | 0,_=>rfl
 | m+1,n=>by simp [jh,WA m]
theorem WB:∀m n,∀x∈jh m n,x < 256
 | 0,_,x,h=>by simp [jh] at h
 | m+1,n,x,h=>by
   simp only [jh,dn] at h;rcases h with rfl | h
   ·omega
   ·exact WB m _ x h
/-- The last byte without its high bit: as numbers are written. -/
theorem adh:∀ (s n:Nat),fF n=s+1->∃x,(jh (s+1) n)[s]? = some x/\((jh (s+1) n).set s (x % 128)).map UInt8.ofNat=aP n
 | 0,n,h=>by
   have hn:n < 128:=by
    by_cases hn:n < 128
    ·exact hn
    ·rw [Et hn] at h;have:=yK (n / 128);omega
   refine ⟨n % 128+128,by simp [jh], ?_⟩;rw [Aa hn];simp [jh];rw [Lc hn]
 | s+1,n,h=>by
   have hn:¬ n < 128:=by
    intro hn;unfold fF at h;rw [Aa hn] at h;simp at h
   rw [Et hn] at h;obtain ⟨x,h1,h2⟩:=adh s (n / 128) (by omega);refine ⟨x,by simp only [jh,pW] at h1 ⊢;exact h1, ?_⟩;rw [Il hn,<- h2];simp [jh]
theorem vX (n:Nat) (hn:n < 18446744073709551616):TT.lim 41 [.i .u64 n]=some [.s (aP n)]:=by
 have h8:=Kv n hn;have hp:=yK n;have hs:=BR hn;obtain ⟨s,hs1⟩:∃s,fF n=s+1:=⟨fF n - 1,by omega⟩
 obtain ⟨x,h1,h2⟩:=adh s n hs1;rw [hs1] at h8;have h10:TT.lim 44 [.i .u64 n,.l ((List.replicate (s+1) 0).map iq),.i .i64 ((s+1:Nat):Int),.i .i64 0]=some [.i .i64 0,.l ((jh (s+1) n).map iq)]:=by
  have:=aaV (s+1) n [] hn (by simp;omega);simpa using this
 have hr:(List.replicate (s+1) 0).map iq=List.replicate (s+1) (GV.i .u8 0):=by rw [List.map_replicate];rfl
 rw [hr] at h10;have hx:x < 256:=WB _ _ x (qF h1);have ha:=XL x hx;have hget:((jh (s+1) n).map iq)[s]? = some (iq x):=by rw [iQ,h1];rfl
 have hset:((jh (s+1) n).map iq).set s (GV.i .u8 ((x % 128:Nat):Int))=((jh (s+1) n).set s (x % 128)).map iq:=(List.map_set (f:=iq) (l:=jh (s+1) n) (i:=s) (a:=x % 128)).symm;have hb:=Yc ((jh (s+1) n).set s (x % 128)) (λy hy=>by
  rcases Xk hy with hy | rfl
  ·exact WB _ _ y hy
  ·omega)
 rw [h2] at hb;have hlen:(((jh (s+1) n).set s (x % 128)).map iq).length=s+1:=by simp [WA]
 have hlr:(List.replicate (s+1) (GV.i .u8 0)).length=s+1:=by simp
 have hl1:((jh (s+1) n).map iq).length=s+1:=by simp [WA]
 generalize ((jh (s+1) n).set s (x % 128)).map iq=L3 at hset hb hlen;generalize (jh (s+1) n).map iq=L2 at h10 hget hset hl1;generalize hrep:List.replicate (s+1) (GV.i .u8 0)=L1 at h10 hlr;refine bF rfl rfl ?_ rfl;have hw:=wrap64 (n:=(s:Int)) (by omega) (by omega);have hcast:((s+1:Nat):Int)=(s:Int)+1:=by omega
 rw [hcast] at h8 h10;have hc1:(0:Int)<=(s:Int)+1/\(s:Int)+1<=281474976710656/\(s:Int)+1<=1152921504606846976:=by omega
 have hc2:((s:Int)+1).toNat=s+1:=by omega
 have hlt:(s:Int) < (s:Int)+1:=by omega
 have hs2:(s:Int)+1 - 1=(s:Int):=by omega
 generalize hM:((x % 128:Nat):Int)=M at ha hset;have hxx:iq x=.i .u8 x:=rfl;have h48:s+1<=281474976710656:=by omega
 have hg2:L2[s]'(by omega)=iq x:=by have:=hget;rw [bK (by omega)] at this;exact Ci this
 simp [h8,hc1,hc2,hrep,hlr,h10,hl1,hs2,hw,hlt,hget,hg2,ha,hset,hxx,hlen,hb,h48,GV.fQ]
theorem QY (a b:List UInt8):dU (a++b)=dU a++dU b:=by simp [dU]
@[simp] theorem Ya (a:List UInt8):(dU a).length=a.length:=by simp [dU]
theorem I9 (a:List UInt8):(dU a).all (GV.fQ 1)=true:=by
 rw [List.all_eq_true];intro x hx;obtain ⟨b,_,rfl⟩:=oC.1 hx;rfl
theorem Q5:∀a:List UInt8,nP (dU a)=some a
 | []=>rfl
 | x::a=>by
   have ih:=Q5 a;simp only [dU,iy,nP] at ih ⊢;have:=x.toNat_lt;rw [ak (by omega),ih];simp
def gY (x:dH):List UInt8:=aP x.1.length++x.1++aP x.2.length++x.2
def iF (d:List dH):List UInt8:=aP d.length++d.flatMap gY
theorem kQ {n:Nat} (h:n < 18446744073709551616):(aP n).length<=10:=BR h
theorem afp (x:dH) (h1:x.1.length<=140737488351232) (h2:x.2.length<=140737488351232):TT.lim 46 [ent x]=some [.s (gY x)]:=by
 have k1:=vX x.1.length (by omega);have k2:=vX x.2.length (by omega);have l1:=kQ (n:=x.1.length) (by omega);have l2:=kQ (n:=x.2.length) (by omega);have w1:=jL (n:=(x.1.length:Int)) (by omega) (by omega);have w2:=jL (n:=(x.2.length:Int)) (by omega) (by omega);refine bF rfl rfl ?_ rfl;have c1:((aP x.1.length).length:Int)+(x.1.length:Int)<=9223372036854775807:=by omega
 have c2:((aP x.1.length).length:Int)+((x.1.length:Int)+((aP x.2.length).length:Int))<=9223372036854775807:=by omega
 have c3:((aP x.1.length).length:Int)+((x.1.length:Int)+(((aP x.2.length).length:Int)+(x.2.length:Int)))<=9223372036854775807:=by omega
 simp [w1,w2,k1,k2,c1,c2,c3,gY,Int.add_assoc]
theorem Zr {x:dH} (h:Dt x=true):(gY x).length<=620:=by
 unfold Dt at h;simp only [decide_eq_true_iff] at h;have l1:=kQ (n:=x.1.length) (by omega);have l2:=kQ (n:=x.2.length) (by omega);simp only [gY,bY];omega
theorem RU:∀d:List dH,d.all Dt=true->(d.flatMap gY).length<=620 * d.length
 | [],_=>by simp
 | x::d,h=>by
   rw [uw,aG] at h;have:=Zr h.1;have:=RU d h.2;simp only [iK,bY,jT];omega
theorem aaW (d:List dH) (hf:d.all Dt=true) (hl:d.length<=40):∀ (m i:Nat) (acc:List UInt8),i+m=d.length->acc.length<=10+620 * i->
 TT.lim 45 [.l (d.map ent),.i .i64 d.length,.i .i64 i,.l (dU acc)]=some [.i .i64 0,.l (dU (acc++(d.drop i).flatMap gY))]
 | 0,i,acc,hi,ha=>by
   have h0:d.drop i=[]:=iZ (by omega);refine aA rfl rfl ?_;have h:¬ ((i:Int) < d.length):=by omega
   simp [h,h0]
 | m+1,i,acc,hi,ha=>by
   have hlt:i < d.length:=by omega
   have hx:=List.all_eq_true.1 hf d[i] (jE hlt);have hx1:=hx;unfold Dt at hx1;simp only [decide_eq_true_iff] at hx1;have hp:=afp d[i] (by omega) (by omega);have hpl:=Zr hx;have ih:TT.lim 45 [.l (d.map ent),.i .i64 d.length,.i .i64 ((i:Int)+1),.l (dU (acc++gY d[i]))]=_:=aaW d hf hl m (i+1) (acc++gY d[i]) (by omega) (by simp;omega);rw [QY] at ih;have hd:(d.drop i).flatMap gY=gY d[i]++(d.drop (i+1)).flatMap gY:=by rw [kS hlt,iK]
   rw [hd,<- List.append_assoc];refine aA rfl rfl ?_;have h:((i:Int) < d.length):=by omega
   have hw:=wrap64 (n:=(i:Int)+1) (by omega) (by omega);have hok:=I9 (gY d[i]);have hb:2 * (acc.length+(gY d[i]).length)<=281474976710656/\acc.length+(gY d[i]).length<=281474976710656:=by omega
   have he:GV.g [GV.s d[i].1,GV.s d[i].2]=ent d[i]:=rfl;simp [-List.all_eq_true,h,hlt,he,hp,hok,hb,hw,ih]
theorem TB (d:List dH) (hf:iV d=true):TT.lim 40 [.l (d.map ent)]=some [.s (iF d)]:=by
 unfold iV at hf;rw [aG,decide_eq_true_iff] at hf;have k:=vX d.length (by omega);have l1:=kQ (n:=d.length) (by omega);have w1:=jL (n:=(d.length:Int)) (by omega) (by omega);have h11:TT.lim 45 [.l (d.map ent),.i .i64 d.length,.i .i64 0,.l (dU (aP d.length))]=_:=aaW d hf.1 hf.2 d.length 0 (aP d.length) (by omega) (by omega);rw [fH] at h11;have hb:2 * (aP d.length).length<=281474976710656/\(aP d.length).length<=281474976710656:=by omega
 have hok:=I9 (aP d.length);have hfl:=RU d hf.1;have hc:(aP d.length).length+(List.flatMap gY d).length<=281474976710656:=by omega
 have hbg:=Q5 (aP d.length++d.flatMap gY);refine bF rfl rfl ?_ rfl;unfold iF;generalize d.flatMap gY=F at *;simp [-List.all_eq_true,w1,k,hb,hok,h11,hc,hbg]
def iT (s:List UInt8) (lo hi:Int):Int:=if (s.length:Int) < lo then 13 else if hi < (s.length:Int) then 13 else if Lib.validD s=true then 0 else 11
theorem agq (s:List UInt8) (h:s.length<=140737488351232):TT.lim 28 [.s s]=some [.b (Lib.validD s)]:=by
 have h21:TT.lim 29 [.s s]=some [.b (Lib.validD s)]:=Hz (Ds:=Ds) (k:=29) (f:=Ik) rfl (by simp only [Ik];rw [ak (by omega)]);refine bF rfl rfl ?_ rfl;simp [h21]
theorem AO (s:List UInt8) (lo hi:Int) (h:s.length<=140737488351232):TT.lim 27 [.s s,.i .i64 lo,.i .i64 hi]=some [.i .i64 (iT s lo hi)]:=by
 have h20:=agq s h;refine bF rfl rfl ?_ rfl;unfold iT;by_cases h1:(s.length:Int) < lo
 ·simp [h1]
 ·by_cases h2:hi < (s.length:Int)
  ·simp [h1,h2]
  ·cases hv:Lib.validD s<;>rw [hv] at h20<;>simp [h1,h2,h20,hv]
def pz (x:dH):Int:=if iT x.1 1 64≠0 then iT x.1 1 64 else iT x.2 0 256
theorem Zt (x:dH) (h1:x.1.length<=140737488351232) (h2:x.2.length<=140737488351232):TT.lim 35 [ent x]=some [.i .i64 (pz x)]:=by
 have k1:=AO x.1 1 64 h1;have k2:=AO x.2 0 256 h2;refine bF rfl rfl ?_ rfl;unfold pz;by_cases h:iT x.1 1 64=0
 ·simp [k1,h,k2]
 ·simp [k1,h]
def pq:Option (List UInt8)->List dH->Int
 | _,[]=>0
 | p,x::xs=>if pz x≠0 then pz x else match p with
   | none=>pq (some x.1) xs
   | some k=>if x.1=k then 14 else if Op.bytesLess x.1 k=true then 7 else pq (some x.1) xs
def tagged (r:Int):List GV:=if r=0 then [.i .i64 1] else [.i .i64 0,.i .i64 r]
def prevK (d:List dH) (i:Nat):Option (List UInt8):=if i=0 then none else (d[i - 1]?).map (·.1)
theorem aaX (d:List dH) (hd:yS d):∀m i:Nat,i+m=d.length->TT.lim 34 [.l (d.map ent),.i .i64 d.length,.i .i64 i]=some (tagged (pq (prevK d i) (d.drop i)))
 | 0,i,hi=>by
   have h0:d.drop i=[]:=iZ (by omega);refine aA rfl rfl ?_;have h:¬ ((i:Int) < d.length):=by omega
   simp [h,h0,pq,tagged]
 | m+1,i,hi=>by
   have hlt:i < d.length:=by omega
   have hx:=hd.2 d[i] (jE hlt);have hp:=Zt d[i] hx.1 hx.2;have ih:TT.lim 34 [.l (d.map ent),.i .i64 d.length,.i .i64 ((i:Int)+1)]=_:=aaX d hd m (i+1) (by omega);have hpk:prevK d (i+1)=some d[i].1:=by unfold prevK;rw [ah (by omega)];simp [hlt]
   rw [hpk] at ih;have hdr:d.drop i=d[i]::d.drop (i+1):=kS hlt;rw [hdr];refine aA rfl rfl ?_;have h:((i:Int) < d.length):=by omega
   have hw:=wrap64 (n:=(i:Int)+1) (by omega) (by have:=hd.1;omega);have he:GV.g [GV.s d[i].1,GV.s d[i].2]=ent d[i]:=rfl;by_cases h1:pz d[i]=0;rotate_left
   ·simp [h,hlt,he,hp,h1,pq,tagged]
   by_cases h0:i=0
   ·subst h0
    simp only [Ag,WY] at hw ih;simp [h,hlt,he,hp,h1,pq,prevK,hw];simpa using ih
   ·have hi1:i - 1 < d.length:=by omega
    have hpk2:prevK d i=some d[i - 1].1:=by unfold prevK;rw [ah h0];simp [hi1]
    have hw2:=wrap64 (n:=(i:Int) - 1) (by omega) (by have:=hd.1;omega);have hi0:¬ ((i:Int)=0):=by omega
    have hge:(0:Int)<=(i:Int) - 1:=by omega
    have ht:((i:Int) - 1).toNat=i - 1:=by omega
    have hnl:(1:Int)<=(i:Int):=by omega
    rw [hpk2];by_cases h2:d[i].1=d[i - 1].1
    ·have h2':(d[i].1=d[i - 1].1)=True:=eq_true h2
     clear h2;simp [h,hlt,he,hp,h1,hi0,h0,hw2,ht,hi1,h2',pq,tagged,hnl]
    ·cases h3:Op.bytesLess d[i].1 d[i - 1].1 with
     | true=>simp [h,hlt,he,hp,h1,hi0,h0,hw2,ht,hi1,h2,h3,pq,tagged,hnl]
     | false=>simp [h,hlt,he,hp,h1,hi0,h0,hw2,ht,hi1,h2,h3,pq,hw,ih,hnl]
def qL (d:List dH):Int:=if d.length=0 then 12 else if 16 < d.length then 13 else pq none d
theorem Yn (d:List dH) (hd:yS d):TT.lim 33 [.l (d.map ent)]=some [.i .i64 (qL d)]:=by
 have h17:TT.lim 34 [.l (d.map ent),.i .i64 d.length,.i .i64 0]=_:=aaX d hd d.length 0 (by omega);have hpk:prevK d 0=none:=rfl;rw [hpk,fH] at h17;have w1:=jL (n:=(d.length:Int)) (by omega) (by have:=hd.1;omega);refine bF rfl rfl ?_ rfl;unfold qL;by_cases h0:d.length=0
 ·have h0':(d.length:Int)=0:=by omega
  have:d=[]:=jD h0;subst this;simp [IntKind.wrap,IntKind.signed]
 ·have h0':¬ (d.length:Int)=0:=by omega
  by_cases h1:16 < d.length
  ·have h1':(16:Int) < (d.length:Int):=by omega
   simp [w1,h0,h1,h0',h1']
  ·have h1':¬ (16:Int) < (d.length:Int):=by omega
   by_cases h2:pq none d=0
   ·simp only [tagged,h2,if_true] at h17
    simp [w1,h0,h1,h0',h1',h17,h2]
   ·simp only [tagged,h2,if_false] at h17
    simp [w1,h0,h1,h0',h1',h17]
def uh (r:Row):Int:=if qL r.1≠0 then qL r.1 else if r.2=0 then 18 else 0
theorem aen (r:Row) (hd:yS r.1):TT.lim 39 [row r]=some [.i .i64 (uh r)]:=by
 have k:=Yn r.1 hd;refine bF rfl rfl ?_ rfl;unfold uh;by_cases h:qL r.1=0
 ·by_cases h2:r.2=0
  ·simp [k,h,h2]
  ·simp [k,h,h2]
 ·simp [k,h]
theorem Yt (d:List dH) (h:d.length<=40):TT.lim 104 [.l (d.map ent)]=some [.l (d.map ent)]:=by
 refine Hz (Ds:=Ds) (k:=104) (f:=Fh 32 2) rfl ?_;have hall:(d.map ent).all (GV.fQ 2)=true:=by
  rw [List.all_eq_true];intro x hx;obtain ⟨r,_,rfl⟩:=oC.1 hx;rfl
 simp only [Fh];rw [ak ⟨by rw [BX];omega,hall⟩]
abbrev K (r:Row):List UInt8:=iF r.1
/-- How many rows at the head have lesser keys. -/
def XH (k:List UInt8):List Row->Nat
 | []=>0
 | r::rs=>if Op.bytesLess (K r) k=true then XH k rs+1 else 0
def XU:List Row->List Row->Bool
 | _,[]=>true
 | t,r::rs=>match t.drop (XH (K r) t) with
   | []=>false
   | s::t'=>decide (K s=K r)&&decide (r.2<=s.2)&&XU (s::t') rs
theorem L9 (a b:List UInt8):Op.bytesLess a b=true↔a < b:=by rw [Fe];simp
/-- Rows whose keys rise. -/
def Ak (l:List Row):Prop:=l.Pairwise λa b=>K a < K b
def qJ:Option (List UInt8)->List Row->Int
 | _,[]=>0
 | p,r::rs=>if uh r≠0 then uh r else match p with
   | none=>qJ (some (K r)) rs
   | some k=>if K r=k then 14 else if Op.bytesLess (K r) k=true then 7 else qJ (some (K r)) rs
theorem aaY (t:List Row) (ht:Rows t) (hf:∀r∈t,iV r.1=true):∀ (m i:Nat) (p:List UInt8),i+m=t.length->
 TT.lim 38 [.s p,.l (t.map row),.i .i64 t.length,.i .i64 i]=some (tagged (qJ (if i=0 then none else some p) (t.drop i)))
 | 0,i,p,hi=>by
   have h0:t.drop i=[]:=iZ (by omega);refine aA rfl rfl ?_;have h:¬ ((i:Int) < t.length):=by omega
   simp [h,h0,qJ,tagged]
 | m+1,i,p,hi=>by
   have hlt:i < t.length:=by omega
   have hr:=ht.2 t[i] (jE hlt);have k15:=aen t[i] hr.1;have k6:=TB t[i].1 (hf _ (jE hlt));have hrow:GV.g [.l (t[i].1.map ent),.i .u64 t[i].2]=row t[i]:=rfl;have ih:TT.lim 38 [.s (iF t[i].1),.l (t.map row),.i .i64 t.length,.i .i64 ((i:Int)+1)]=_:=aaY t ht hf m (i+1) (iF t[i].1) (by omega);rw [ah (by omega)] at ih;rw [kS hlt];refine aA rfl rfl ?_;have h:((i:Int) < t.length):=by omega
   have hw:=wrap64 (n:=(i:Int)+1) (by omega) (by have:=ht.1;omega);by_cases h1:uh t[i]=0;rotate_left
   ·simp [-List.getElem_cons_drop,h,hlt,hrow,k15,h1,qJ,tagged]
   by_cases h0:i=0
   ·subst h0
    simp only [Ag,WY] at hw ih;simp [-List.getElem_cons_drop,h,hlt,hrow,k15,h1,k6,hw,qJ];have hn:(0:Int) < (t.length:Int):=by omega
    simpa using ih
   ·have hi0:0 < i:=by omega
    by_cases h2:iF t[i].1=p
    ·have h2':(iF t[i].1=p)=True:=eq_true h2
     clear h2;simp [-List.getElem_cons_drop,h,hlt,hrow,k15,h1,k6,hi0,h0,h2',qJ,tagged]
    ·cases h3:Op.bytesLess (iF t[i].1) p with
     | true=>simp [-List.getElem_cons_drop,h,hlt,hrow,k15,h1,k6,hi0,h0,h2,h3,qJ,tagged]
     | false=>simp [-List.getElem_cons_drop,h,hlt,hrow,k15,h1,k6,hi0,h0,h2,h3,hw,ih,qJ]
def vS (t:List Row):Int:=if 256 < t.length then 13 else qJ none t
theorem Yo (t:List Row) (ht:Rows t) (hf:∀r∈t,iV r.1=true):TT.lim 37 [.l (t.map row)]=some [.i .i64 (vS t)]:=by
 have h38:TT.lim 38 [.s [],.l (t.map row),.i .i64 t.length,.i .i64 0]=_:=aaY t ht hf t.length 0 [] (by omega);rw [ak rfl,fH] at h38;refine bF rfl rfl ?_ rfl;unfold vS;by_cases h1:256 < t.length
 ·have h1':(256:Int) < (t.length:Int):=by omega
  simp [h1,h1']
 ·have h1':¬ (256:Int) < (t.length:Int):=by omega
  by_cases h2:qJ none t=0
  ·simp only [tagged,h2,if_true] at h38
   simp [h1,h1',h38,h2]
  ·simp only [tagged,h2,if_false] at h38
   simp [h1,h1',h38,h2]
theorem Yr:∀ {t:List Row} (p:Option (List UInt8)),Ak t->(∀r∈t,uh r=0)->(∀k,p=some k->∀r∈t,k < K r)->qJ p t=0
 | [],p,_,_,_=>by cases p<;>rfl
 | r::t,p,ht,hc,hp=>by
   have ht':=vG.1 ht;have ih:=Yr (t:=t) (some (K r)) ht'.2 (λx hx=>hc x (by simp [hx])) (λk hk x hx=>by cases hk;exact ht'.1 x hx);unfold qJ;rw [ah (by simp [hc r (by simp)])];cases p with
   | none=>exact ih
   | some k=>
     have hk:=hp k rfl r (by simp);have h1:¬ K r=k:=λe=>by rw [e] at hk;exact Qx _ hk
     have h2:¬ Op.bytesLess (K r) k=true:=λe=>Qx _ (Qy hk ((L9 _ _).1 e));simp only;rw [ah h1,ah h2];exact ih
theorem Rows.perm {l m:List Row} (h:l.Perm m) (hl:Rows l):Rows m:=⟨by rw [<- h.length_eq];exact hl.1,λr hr=>hl.2 r (h.mem_iff.2 hr)⟩
def Pos (t:List Row):Prop:=∀r∈t,0 < r.2/\r.2 < 18446744073709551616
theorem afV {d:List dH} (h:iV d=true):d.length<=40:=by
 unfold iV at h;simp at h;omega
def EF (t:List Row):Prop:=∀r∈t,iV r.1=true
def Ok (t:List Row):Prop:=t.length<=256/\Ak t/\∀r∈t,uh r=0
theorem Yq:∀ {t:List Row} (p:Option (List UInt8)),qJ p t=0->Ak t/\(∀r∈t,uh r=0)/\∀k,p=some k->∀r∈t,k < K r
 | [],p,_=>⟨List.Pairwise.nil,by simp,by simp⟩
 | r::t,p,h=>by
   unfold qJ at h;by_cases h1:uh r=0;rotate_left
   ·rw [ak h1] at h;exact absurd h h1
   rw [ah (by simp [h1])] at h;have main:∀ (h:qJ (some (K r)) t=0),Ak (r::t)/\∀x∈r::t,uh x=0:=by
    intro h;obtain ⟨i1,i2,i3⟩:=Yq (some (K r)) h;refine ⟨List.Pairwise.cons (i3 _ rfl) i1,λx hx=>?_⟩;rcases dn.1 hx with rfl | hx
    ·exact h1
    ·exact i2 x hx
   cases p with
   | none=>exact ⟨(main h).1,(main h).2,by simp⟩
   | some k=>
     simp only at h;split at h
     ·cases h
     next h2=>
     split at h
     ·cases h
     next h3=>
     refine ⟨(main h).1,(main h).2, ?_⟩;rintro _ ⟨⟩ x hx
     have hk:k < K r:=by
      rcases List.le_iff_lt_or_eq.1 (List.not_lt.1 λe=>h3 ((L9 _ _).2 e)) with e | e
      ·exact e
      ·exact absurd e.symm h2
     rcases dn.1 hx with rfl | hx
     ·exact hk
     ·exact Qy hk ((vG.1 (main h).1).1 x hx)
theorem Rf (t:List Row):vS t=0↔Ok t:=by
 unfold vS Ok;constructor
 ·intro h
  split at h
  ·cases h
  ·obtain ⟨h1,h2,_⟩:=Yq none h
   exact ⟨by omega,h1,h2⟩
 ·rintro ⟨h1,h2,h3⟩
  rw [ah (by omega)];exact Yr none h2 h3 (by simp)
theorem Vx (r:Row):uh r=0↔qL r.1=0/\r.2≠0:=by
 unfold uh;by_cases h:qL r.1=0
 ·simp [h]
 ·simp [h]
structure Tb (t:List Row):Prop where
 ok:Ok t
 rows:Rows t
 few:EF t
theorem Tb.pos {t:List Row} (h:Tb t):Pos t:=λr hr=>by
 have h1:=((Vx r).1 (h.ok.2.2 r hr)).2;have h2:=(h.rows.2 r hr).2;omega
theorem Tb.rise {t:List Row} (h:Tb t):Ak t:=h.ok.2.1
structure xE (t:List Row):Prop where
 len:t.length<=300
 few:EF t
 rows:Rows t
theorem Tb.good {t:List Row} (h:Tb t):xE t:=⟨Nat.le_trans h.ok.1 (by decide),h.few,h.rows⟩
theorem xE.tb {t:List Row} (h:xE t) (ho:Ok t):Tb t:=⟨ho,h.rows,h.few⟩
abbrev Sn:=Int×List Row
def vP (p x:List UInt8):Int:=if x=p then 14 else if Op.bytesLess x p=true then 7 else 0
theorem JH {d:List dH} (hf:iV d=true):(iF d).length<=30000:=by
 unfold iV at hf;rw [aG,decide_eq_true_iff] at hf;have l1:=kQ (n:=d.length) (by omega);have:=RU d hf.1;unfold iF;simp only [bY];omega
def common:List UInt8->List UInt8->Nat
 | a::x,b::y=>if a=b then common x y+1 else 0
 | _,_=>0
theorem Rk (b:List UInt8):common [] b=0:=by unfold common;rfl
theorem aeF (a:List UInt8):common a []=0:=by cases a<;>rfl
theorem MQ:∀a b:List UInt8,common a b<=a.length/\common a b<=b.length
 | [],b=>by simp [common]
 | _::_,[]=>by simp [common]
 | a::x,b::y=>by
   unfold common;have:=MQ x y;split
   ·simp only [jT];omega
   ·omega
theorem YC:∀a b:List UInt8,a.take (common a b)=b.take (common a b)
 | [],b=>by simp [common]
 | _::_,[]=>by simp [common]
 | a::x,b::y=>by
   unfold common;split
   ·next e=>subst e;rw [wI,wI,YC x y]
   ·simp
theorem YA (a b:List UInt8) (ha:a.length<=140737488351232) (hb:b.length<=140737488351232):∀m i:Nat,i+m=a.length->TT.lim 74 [.s a,.s b,.i .i64 i]=some [.i .i64 0,.i .i64 ((i+common (a.drop i) (b.drop i):Nat):Int)]
 | 0,i,hi=>by
   have h0:a.drop i=[]:=iZ (by omega);have h:¬ ((i:Int) < a.length):=by omega
   refine aA rfl rfl ?_;simp [h,h0,Rk]
 | m+1,i,hi=>by
   have hlt:i < a.length:=by omega
   have h:((i:Int) < a.length):=by omega
   by_cases hlb:i < b.length;rotate_left
   ·have h0:b.drop i=[]:=iZ (by omega)
    have h1:¬ ((i:Int) < b.length):=by omega
    refine aA rfl rfl ?_;simp [h,h0,h1,aeF]
   have hb1:((i:Int) < b.length):=by omega
   have ih:TT.lim 74 [.s a,.s b,.i .i64 ((i:Int)+1)]=_:=YA a b ha hb m (i+1) (by omega);have hw:=wrap64 (n:=(i:Int)+1) (by omega) (by omega);rw [kS hlt,kS hlb];unfold common;by_cases e:a[i]=b[i]
   ·rw [ak e]
    have e':((a[i].toNat:Int)=(b[i].toNat:Int))=True:=eq_true (by rw [e]);have e2:((i+(common (a.drop (i+1)) (b.drop (i+1))+1):Nat):Int)=((i+1+common (a.drop (i+1)) (b.drop (i+1)):Nat):Int):=by omega
    rw [e2];refine aA rfl rfl ?_;simp [h,hlt,hlb,hb1,e',hw,ih]
   ·rw [ah e]
    have e':¬ (a[i].toNat:Int)=(b[i].toNat:Int):=λh=>e (XC.1 (by omega));refine aA rfl rfl ?_;simp [h,hlt,hlb,hb1,e']
theorem Rj (a b:List UInt8) (ha:a.length<=140737488351232) (hb:b.length<=140737488351232):TT.lim 73 [.s a,.s b]=some [.i .i64 (common a b)]:=by
 have k:TT.lim 74 [.s a,.s b,.i .i64 0]=_:=YA a b ha hb a.length 0 (by omega);rw [fH,fH,iH] at k;refine bF rfl rfl ?_ rfl;simp [k]
/-- A text behind another one, as it is written. -/
def oL (a s:List UInt8):List UInt8:=aP (common a s)++aP (s.length - common a s)++s.drop (common a s)
theorem ajg (a s:List UInt8) (ha:a.length<=100000000) (hs:s.length<=100000000):TT.lim 72 [.s a,.s s]=some [.s (oL a s)]:=by
 have k:=Rj a s (by omega) (by omega);have hl:=MQ a s;have p1:=vX (common a s) (by omega);have p2:=vX (s.length - common a s) (by omega);have l1:=kQ (n:=common a s) (by omega);have l2:=kQ (n:=s.length - common a s) (by omega);have w1:=jL (n:=(common a s:Int)) (by omega) (by omega);have w2:=jL (n:=(s.length:Int) - (common a s:Int)) (by omega) (by omega);have w3:=wrap64 (n:=(s.length:Int) - (common a s:Int)) (by omega) (by omega);have e2:(s.length:Int) - (common a s:Int)=((s.length - common a s:Nat):Int):=by omega
 rw [e2] at w2 w3;refine bF rfl rfl ?_ rfl;unfold oL;generalize common a s=c at *;have h1:((aP c).length:Int)+((aP (s.length - c)).length:Int)<=9223372036854775807:=by omega
 have h2:((aP c).length:Int)+((aP (s.length - c)).length:Int)+((s.length:Int) - (c:Int))<=9223372036854775807:=by omega
 have h3:(c:Int)<=s.length:=by omega
 have h4:((s.length - c:Nat):Int)=(s.length:Int) - c:=by omega
 have hd:(s.take s.length).drop c=s.drop c:=by rw [xI]
 rw [<- e2] at w2 w3;rw [<- e2] at p2;simp [k,p1,p2,w1,w2,w3,h1,h2,h3,h4,hd]
def jB:List UInt8->Nat
 | []=>0
 | b::r=>b.toNat % 128+128 * jB r
def mF:Nat->List UInt8->Option Nat
 | 0,_=>none
 | _+1,[]=>none
 | n+1,b::r=>if b.toNat < 128 then some 1 else (mF n r).map (· + 1)
def qC (k:Nat) (b:Nat):Int:=if k=10/\1 < b then 3 else if 1 < k/\b=0 then 2 else 0
/-- The number that a text begins with, in how many bytes, or why there is none. -/
def au (s:List UInt8):Nat×Nat×Int:=match mF 10 s with
 | none=>(0,0,if 10<=s.length then 3 else 1)
 | some k=>if qC k (s.getD (k - 1) 0).toNat≠0 then (0,0,qC k (s.getD (k - 1) 0).toNat) else (jB (s.take k),k,0)
theorem Qd:∀ {n:Nat} {s:List UInt8} {k:Nat},mF n s=some k->1<=k/\k<=n/\k<=s.length/\(s.getD (k - 1) 0).toNat < 128
 | 0,s,k,h=>by simp [mF] at h
 | n+1,[],k,h=>by simp [mF] at h
 | n+1,b::r,k,h=>by
   unfold mF at h;split at h
   ·next hb=>cases h;simpa using hb
   ·obtain ⟨j,hj,rfl⟩:=aX.1 h
    obtain ⟨h1,h2,h3,h4⟩:=Qd hj;obtain ⟨i,rfl⟩:∃i,j=i+1:=⟨j - 1,by omega⟩
    refine ⟨by omega,by omega,by simp;omega, ?_⟩;simpa using h4
theorem adn:∀ (s:List UInt8),jB s < 128 ^ s.length
 | []=>by simp [jB]
 | b::r=>by
   have:=adn r;simp only [jB,jT,EP];omega
theorem acw (b i:Nat) (hb:b < 128) (hi:i<=9) (h9:i=9->b<=1):nH .shl .u64 (b:Int) ((7 * i:Nat):Int)=some (.i .u64 ((b * 128 ^ i:Nat):Int)):=by
 have e:min ((7 * i:Nat):Int).toNat 64=7 * i:=by simp;omega
 have e2:(2:Int) ^ (7 * i)=((128 ^ i:Nat):Int):=by rw [Int.pow_mul];simp
 have hlt:b * 128 ^ i < 18446744073709551616:=by
  rcases xJ i 9 with h | h
  ·have:(128:Nat) ^ i<=128 ^ 8:=Ld (by omega) (by omega)
   have h2:b * 128 ^ i<=127 * 128 ^ 8:=Nat.mul_le_mul (by omega) this;omega
  ·have hi9:i=9:=by omega
   subst hi9;have:=h9 rfl;omega
 unfold nH;rw [ah (by omega)];show some (GV.i .u64 (IntKind.u64.wrap ((b:Int) * 2 ^ (min ((7 * i:Nat):Int).toNat 64))))=_
 rw [e,e2,<- Int.natCast_mul,jL (by omega) (by omega)]
theorem orI (a c i:Nat) (ha:a < 2 ^ i) (h:a+c * 2 ^ i < 18446744073709551616):eH .or .u64 (a:Int) ((c * 2 ^ i:Nat):Int)=some (.i .u64 ((a+c * 2 ^ i:Nat):Int)):=by
 have h1:((BitVec.ofInt 64 (a:Int) ||| BitVec.ofInt 64 ((c * 2 ^ i:Nat):Int)).toNat:Nat)=a+c * 2 ^ i:=by
  rw [BitVec.toNat_or,wC,wC];generalize hC:c * 2 ^ i=C at *;have e1:((a:Int) % ((2 ^ 64:Nat):Int)).toNat=a:=by omega
  have e2:((C:Int) % ((2 ^ 64:Nat):Int)).toNat=C:=by omega
  rw [e1,e2,<- hC,Nat.or_comm,Cb,IC];exact (adF ha c).symm
 show some (GV.i .u64 (IntKind.u64.wrap (((BitVec.ofInt 64 (a:Int) ||| BitVec.ofInt 64 ((c * 2 ^ i:Nat):Int)).toNat:Nat):Int)))=_
 rw [h1,jL (by omega) (by omega)]
theorem Gy (i:Nat):128 ^ i=2 ^ (7 * i):=by rw [Nat.pow_mul]
/-- Some number, whichever. -/
theorem acy (a b:Int) (hb:0<=b):∃r,nH .shl .u64 a b=some (.i .u64 r):=by
 unfold nH;rw [ah (by omega)];exact ⟨_,rfl⟩
theorem or_some (a b:Int):∃r,eH .or .u64 a b=some (.i .u64 r):=⟨_,rfl⟩
def zu (s:List UInt8) (acc:Int) (i:Nat):List GV:=match mF (10 - i) (s.drop i) with
 | none=>[.i .i64 1,.s s]
 | some k=>if qC (i+k) (s.getD (i+k - 1) 0).toNat≠0 then [.i .i64 0,.i .u64 0,.i .i64 0,.i .i64 (qC (i+k) (s.getD (i+k - 1) 0).toNat)]
   else [.i .i64 0,.i .u64 (acc+((128 ^ i * jB ((s.drop i).take k):Nat):Int)),.i .i64 ((i+k:Nat):Int),.i .i64 0]
theorem getLoop (s:List UInt8) (hs:s.length<=140737488351232):∀ (m i:Nat) (acc:Int),i+m=min s.length 10->(i<=9->0<=acc/\acc < ((128 ^ i:Nat):Int))->
 TT.lim 86 [.s s,.i .u64 acc,.i .i64 ((min s.length 10:Nat):Int),.i .i64 i]=some (zu s acc i)
 | 0,i,acc,hi,ha=>by
   have h:¬ ((i:Int) < ((min s.length 10:Nat):Int)):=by omega
   have hv:mF (10 - i) (s.drop i)=none:=by
    rcases xJ i 10 with h1 | h1
    ·have:s.drop i=[]:=iZ (by omega)
     rw [this];obtain ⟨j,hj⟩:∃j,10 - i=j+1:=⟨10 - i - 1,by omega⟩
     rw [hj];rfl
    ·have:10 - i=0:=by omega
     rw [this];unfold mF;rfl
   unfold zu;rw [hv];generalize ((min s.length 10:Nat):Int)=M at *;refine aA rfl rfl ?_;simp [h]
 | m+1,i,acc,hi,ha=>by
   have hlt:i < s.length:=by omega
   have h9:i<=9:=by omega
   have h:((i:Int) < ((min s.length 10:Nat):Int)):=by omega
   obtain ⟨a1,a2⟩:=ha h9;obtain ⟨n,rfl⟩:∃n:Nat,acc=n:=⟨acc.toNat,by omega⟩
   have hb:=(s[i]).toNat_lt;have k7:=XL (s[i]).toNat (by omega);have w8:=jL (n:=(((s[i]).toNat % 128:Nat):Int)) (by omega) (by omega);have wi:=wrap64 (n:=7 * (i:Int)) (by omega) (by omega);have wj:=wrap64 (n:=(i:Int)+1) (by omega) (by omega);have hd:s.drop i=s[i]::s.drop (i+1):=kS hlt;obtain ⟨j,hj⟩:∃j,10 - i=j+1:=⟨10 - i - 1,by omega⟩
   have hj':10 - (i+1)=j:=by omega
   have e7:(7 * (i:Int))=((7 * i:Nat):Int):=by omega
   have hgd:s.getD i 0=s[i]:=by simp [List.getD,hlt]
   by_cases hc:128<=(s[i]).toNat
   ·-- another one follows
    have hc':((128:Int)<=((s[i]).toNat:Int)):=by omega
    have step:∃V:Int,(i+1<=9->0<=V/\V < ((128 ^ (i+1):Nat):Int)/\V=n+(((s[i]).toNat % 128 * 128 ^ i:Nat):Int))/\(∃S,nH .shl .u64 ((((s[i]).toNat % 128:Nat)):Int) (7 * (i:Int))=some (.i .u64 S)/\eH .or .u64 (n:Int) S=some (.i .u64 V)):=by
     rcases xJ i 9 with h1 | h1
     ·have k1:=acw ((s[i]).toNat % 128) i (by omega) (by omega) (by omega)
      have hp:(s[i]).toNat % 128 * 128 ^ i<=127 * 128 ^ i:=rC _ (by omega);have hpp:128 ^ (i+1)=128 * 128 ^ i:=by rw [EP,Cb]
      have hq:(128:Nat) ^ i<=128 ^ 8:=Ld (by omega) (by omega);have k2:=orI n ((s[i]).toNat % 128) (7 * i) (by rw [<- Gy];omega) (by rw [<- Gy];omega);rw [<- Gy] at k2;refine ⟨_,λ_=>⟨by omega, ?_,rfl⟩,_,by rw [e7];exact k1,by rw [k2];simp⟩;rw [hpp];omega
     ·obtain ⟨S,hS⟩:=acy ((((s[i]).toNat % 128:Nat)):Int) (7 * (i:Int)) (by omega)
      obtain ⟨V,hV⟩:=or_some (n:Int) S;exact ⟨V,λh=>by omega,S,hS,hV⟩
    obtain ⟨V,hV,S,hS,hO⟩:=step;have ih:TT.lim 86 [.s s,.i .u64 V,.i .i64 ((min s.length 10:Nat):Int),.i .i64 ((i:Int)+1)]=_:=getLoop s hs m (i+1) V (by omega) (λh=>⟨(hV h).1,(hV h).2.1⟩);have hout:zu s n i=zu s V (i+1):=by
     unfold zu;rw [hd,hj,hj'];have hv:mF (j+1) (s[i]::s.drop (i+1))=(mF j (s.drop (i+1))).map (· + 1):=by
      show (if (s[i]).toNat < 128 then _ else _)=_
      rw [ah (by omega)]
     rw [hv];cases hx:mF j (s.drop (i+1)) with
     | none=>rfl
     | some k=>
       obtain ⟨q1,q2,_,_⟩:=Qd hx;have hV':=hV (by omega);have e1:i+(k+1)=i+1+k:=by omega
       simp only [fV,e1];split
       ·rfl
       ·have e2:(n:Int)+((128 ^ i * jB ((s[i]::s.drop (i+1)).take (k+1)):Nat):Int)=V+((128 ^ (i+1) * jB ((s.drop (i+1)).take k):Nat):Int):=by
         rw [hV'.2.2,wI];have:128 ^ i * jB (s[i]::(s.drop (i+1)).take k)=(s[i]).toNat % 128 * 128 ^ i+128 ^ (i+1) * jB ((s.drop (i+1)).take k):=by
          show 128 ^ i * ((s[i]).toNat % 128+128 * jB _)=_
          rw [Nat.mul_add,EP,Xu,Cb (128 ^ i) ((s[i]).toNat % 128)]
         rw [this];omega
        rw [e2]
    rw [hout];generalize zu s V (i+1)=O at *;generalize ((min s.length 10:Nat):Int)=M at *;have em:(((s[i]).toNat % 128:Nat):Int)=((s[i]).toNat:Int) % 128:=by omega
    rw [em] at k7 w8 hS;refine aA rfl rfl ?_;simp [h,hlt,hc',k7,w8,wi,wj,hS,hO,ih]
   ·-- the last one
    have hc':¬ ((128:Int)<=((s[i]).toNat:Int)):=by omega
    have hv:mF (j+1) (s[i]::s.drop (i+1))=some 1:=by
     show (if (s[i]).toNat < 128 then _ else _)=_
     rw [ak (by omega)]
    have hout:zu s n i=if qC (i+1) (s[i]).toNat≠0 then [.i .i64 0,.i .u64 0,.i .i64 0,.i .i64 (qC (i+1) (s[i]).toNat)] else [.i .i64 0,.i .u64 ((n+(s[i]).toNat * 128 ^ i:Nat):Int),.i .i64 ((i:Int)+1),.i .i64 0]:=by
     unfold zu;rw [hd,hj,hv];have e1:i+1 - 1=i:=by omega
     have e2:128 ^ i * jB ((s[i]::s.drop (i+1)).take 1)=(s[i]).toNat * 128 ^ i:=by
      simp only [wI,QC,jB];rw [Lc (by omega),Cb];simp
     simp only [e1,hgd,e2];congr 1
    rw [hout];have step:∃S V,nH .shl .u64 ((((s[i]).toNat % 128:Nat)):Int) (7 * (i:Int))=some (.i .u64 S)/\eH .or .u64 (n:Int) S=some (.i .u64 V)/\(qC (i+1) (s[i]).toNat=0->V=((n+(s[i]).toNat * 128 ^ i:Nat):Int)):=by
     by_cases hbad:i=9/\1 < (s[i]).toNat
     ·obtain ⟨S,hS⟩:=acy ((((s[i]).toNat % 128:Nat)):Int) (7 * (i:Int)) (by omega)
      obtain ⟨V,hV⟩:=or_some (n:Int) S;refine ⟨S,V,hS,hV,λh=>?_⟩;unfold qC at h;rw [ak (by omega)] at h;cases h
     ·have k1:=acw ((s[i]).toNat % 128) i (by omega) (by omega) (by omega)
      have em:(s[i]).toNat % 128=(s[i]).toNat:=Lc (by omega);rw [em] at k1;have hp:(s[i]).toNat * 128 ^ i<=127 * 128 ^ i:=rC _ (by omega);have hb64:n+(s[i]).toNat * 128 ^ i < 18446744073709551616:=by
       rcases xJ i 9 with h1 | h1
       ·have hq:(128:Nat) ^ i<=128 ^ 8:=Ld (by omega) (by omega)
        omega
       ·have hi9:i=9:=by omega
        have h1:(s[i]).toNat<=1:=by omega
        have hq:(128:Nat) ^ i=128 ^ 9:=by rw [hi9]
        have hp2:(s[i]).toNat * 128 ^ i<=1 * 128 ^ i:=rC _ h1;omega
      have k2:=orI n (s[i]).toNat (7 * i) (by rw [<- Gy];omega) (by rw [<- Gy];omega);rw [<- Gy] at k2;exact ⟨_,_,by rw [e7,em];exact k1,k2,λ_=>rfl⟩
    obtain ⟨S,V,hS,hO,hV⟩:=step;generalize ((n+(s[i]).toNat * 128 ^ i:Nat):Int)=R at *;generalize ((min s.length 10:Nat):Int)=M at *;have bd:qC (i+1) (s[i]).toNat=if (i:Int)=9/\(1:Int) < ((s[i]).toNat:Int) then 3 else if (0:Int) < (i:Int)/\((s[i]).toNat:Int)=0 then 2 else 0:=by
     unfold qC;congr 1
     ·apply propext;omega
     ·congr 1
      apply propext;omega
    rw [bd] at hV ⊢;have em:(((s[i]).toNat % 128:Nat):Int)=((s[i]).toNat:Int) % 128:=by omega
    rw [em] at k7 w8 hS;refine aA rfl rfl ?_
    rcases (Qq ((i:Int)=9)).imp eq_true eq_false with q1 | q1<;>rcases (Qq ((1:Int) < ((s[i]).toNat:Int))).imp eq_true eq_false with q2 | q2<;>
     rcases (Qq ((0:Int) < (i:Int))).imp eq_true eq_false with q3 | q3<;>rcases (Qq (((s[i]).toNat:Int)=0)).imp eq_true eq_false with q4 | q4
    all_goals
     have q3n:(0 < i)=((0:Int) < (i:Int)):=propext (by omega);have q4n:((s[i]).toNat=0)=(((s[i]).toNat:Int)=0):=propext (by omega);rw [q3] at q3n;rw [q4] at q4n;simp only [q1,q2,q3,q4,and_self,and_true,and_false,false_and,true_and,if_true,if_false] at hV ⊢;first
     | (have hV:=hV trivial;subst hV)
     | skip
     simp [h,hlt,hc',k7,w8,wi,wj,hS,hO,q1,q2,q3,q4,q3n,q4n]
theorem tH (s:List UInt8) (hs:s.length<=140737488351232):TT.lim 85 [.s s]=some [.i .u64 ((au s).1:Nat),.i .i64 ((au s).2.1:Nat),.i .i64 (au s).2.2]:=by
 have k:TT.lim 86 [.s s,.i .u64 0,.i .i64 ((min s.length 10:Nat):Int),.i .i64 0]=_:=getLoop s hs (min s.length 10) 0 0 (by omega) (by simp);have hm:(if (10:Int) < (s.length:Int) then (10:Int) else (s.length:Int))=((min s.length 10:Nat):Int):=by split<;>omega
 unfold zu at k;rw [fH,Ce] at k;unfold au;generalize ((min s.length 10:Nat):Int)=M at *;refine bF rfl rfl ?_ rfl;cases hv:mF 10 s with
 | none=>
   rw [hv] at k;by_cases h10:10<=s.length
   ·have h1:(10:Int)<=s.length:=by omega
    simp [hm,k,h10,h1]
   ·have h1:¬ (10:Int)<=s.length:=by omega
    simp [hm,k,h10,h1]
 | some j=>
   rw [hv] at k;simp only [iH,Nat.pow_zero,Cc,WY] at k;by_cases hb:qC j (s.getD (j - 1) 0).toNat=0
   ·simp only [hb,ne_eq,not_true_eq_false,if_false] at k ⊢
    simp [hm,k]
   ·simp only [hb,ne_eq,not_false_eq_true,if_true] at k ⊢
    simp [hm,k]
theorem KH {n:Nat} (h:n < 256):(UInt8.ofNat n).toNat=n:=UInt8.toNat_ofNat_of_lt' h
def uq (n:Nat):Nat:=if n < 128 then n else uq (n / 128)
termination_by n
theorem adl {n:Nat} (h:n < 128):uq n=n:=by rw [uq,ak h]
theorem adk {n:Nat} (h:¬ n < 128):uq n=uq (n / 128):=by rw [uq,ah h]
theorem Qe {n:Nat} (h:n < 128):fF n=1:=by unfold fF;rw [Aa h];rfl
theorem aoV:∀n:Nat,uq n < 128/\(0 < n->0 < uq n)/\uq n * 128 ^ (fF n - 1)<=n:=by
 intro n;induction n using Nat.strongRecOn with
 | _ n ih=>
   by_cases h:n < 128
   ·rw [adl h,Qe h];simp;omega
   ·obtain ⟨h1,h2,h3⟩:=ih (n / 128) (by omega)
    rw [adk h,Et h];refine ⟨h1,λ_=>h2 (by omega), ?_⟩;have hp:=yK (n / 128);obtain ⟨j,hj⟩:∃j,fF (n / 128)=j+1:=⟨fF (n / 128) - 1,by omega⟩
    rw [hj] at h3 ⊢;simp only [Nat.add_sub_cancel] at h3 ⊢;have:uq (n / 128) * 128 ^ (j+1)=uq (n / 128) * 128 ^ j * 128:=by rw [EP,Xu]
    rw [this];omega
theorem aoT:∀ (n:Nat) (x:List UInt8),(aP n++x).getD (fF n - 1) 0=UInt8.ofNat (uq n):=by
 intro n;induction n using Nat.strongRecOn with
 | _ n ih=>
   intro x;by_cases h:n < 128
   ·rw [adl h,Qe h,Aa h];rfl
   ·have hp:=yK (n / 128)
    obtain ⟨j,hj⟩:∃j,fF (n / 128)=j+1:=⟨fF (n / 128) - 1,by omega⟩
    have:=ih (n / 128) (by omega) x;rw [adk h,Et h,Il h,<- this,hj];simp
theorem aoS:∀ (n k:Nat) (x:List UInt8),fF n<=k->mF k (aP n++x)=some (fF n):=by
 intro n;induction n using Nat.strongRecOn with
 | _ n ih=>
   intro k x hk;have hp:=yK n;obtain ⟨j,rfl⟩:∃j,k=j+1:=⟨k - 1,by omega⟩
   by_cases h:n < 128
   ·rw [Qe h,Aa h]
    show (if (UInt8.ofNat n).toNat < 128 then _ else _)=_
    rw [ak (by rw [KH (by omega)];exact h)]
   ·rw [Et h] at hk ⊢
    rw [Il h];show (if (UInt8.ofNat (n % 128+128)).toNat < 128 then _ else (mF j (aP (n / 128)++x)).map (· + 1))=_
    rw [ah (by rw [KH (by omega)];omega),ih (n / 128) (by omega) j x (by omega)];rfl
theorem aoW:∀n:Nat,jB (aP n)=n:=by
 intro n;induction n using Nat.strongRecOn with
 | _ n ih=>
   by_cases h:n < 128
   ·rw [Aa h]
    simp only [jB];rw [KH (by omega)];omega
   ·rw [Il h]
    simp only [jB];rw [ih (n / 128) (by omega),KH (by omega)];omega
theorem Es (n:Nat) (x:List UInt8) (hn:n < 18446744073709551616):au (aP n++x)=(n,(aP n).length,0):=by
 have h1:=aoS n 10 x (BR hn);obtain ⟨f1,f2,f3⟩:=aoV n;have hg:=aoT n x;have hb:qC (fF n) (UInt8.ofNat (uq n)).toNat=0:=by
  rw [KH (by omega)];unfold qC;rw [ah,ah]
  ·rintro ⟨h2,h3⟩
   by_cases h:n < 128
   ·rw [Qe h] at h2;omega
   ·have:=f2 (by omega);omega
  ·rintro ⟨h2,h3⟩
   rw [h2] at f3;have:2 * 128 ^ 9<=uq n * 128 ^ 9:=rC _ h3;simp only [show 10 - 1=9 from rfl] at f3;omega
 unfold au;rw [h1];simp only [hg,hb,ne_eq,not_true_eq_false,if_false];have:(aP n++x).take (fF n)=aP n:=by
  unfold fF;simp
 rw [this,aoW];rfl
theorem aoX (a:List UInt8) (b:UInt8):jB (a++[b])=jB a+128 ^ a.length * (b.toNat % 128):=by
 induction a with
 | nil=>simp [jB]
 | cons c a ih=>
   simp only [jM,jB,ih,jT,EP,Nat.mul_add,gX];rw [Cb (128 ^ a.length) 128,Xu]
/-- Bytes that are a number's writing. -/
theorem ab5:∀ (j k:Nat) (s:List UInt8),mF j s=some k->(1 < k->(s.getD (k - 1) 0)≠0)->aP (jB (s.take k))=s.take k/\(1 < k\/s.getD (k - 1) 0≠0->jB (s.take k)≠0)
 | 0,k,s,h,_=>by simp [mF] at h
 | j+1,k,[],h,_=>by simp [mF] at h
 | j+1,k,b::r,h,hz=>by
   unfold mF at h;split at h
   ·next hb=>
    cases h;simp only [wI,QC,jB,Nat.mul_zero,jU];rw [Lc hb];refine ⟨by rw [Aa hb];simp,λhh=>?_⟩;rcases hh with hh | hh
    ·omega
    ·intro e
     apply hh;simp only [xK,List.getD_cons_zero];exact XC.1 (by simpa using e)
   ·next hb=>
    obtain ⟨i,hi,rfl⟩:=aX.1 h;obtain ⟨q1,q2,q3,q4⟩:=Qd hi;obtain ⟨l,rfl⟩:∃l,i=l+1:=⟨i - 1,by omega⟩
    have hz':r.getD l 0≠0:=by have:=hz (by omega);simpa using this
    obtain ⟨e1,e2⟩:=ab5 j (l+1) r hi (λ_=>by simpa using hz');have e2:=e2 (.inr (by simpa using hz'));have hb8:=b.toNat_lt;rw [wI];simp only [jB];refine ⟨?_,λ_=>by omega⟩;rw [Il (by omega)];have a1:(b.toNat % 128+128 * jB (r.take (l+1))) % 128+128=b.toNat:=by omega
    have a2:(b.toNat % 128+128 * jB (r.take (l+1))) / 128=jB (r.take (l+1)):=by omega
    rw [a1,a2,e1];simp
structure VOk (s:List UInt8) (n k:Nat):Prop where
 pos:1<=k
 ten:k<=10
 len:k<=s.length
 lt:n < 18446744073709551616
 put:aP n=s.take k
theorem iY {s:List UInt8} (h:(au s).2.2=0):VOk s (au s).1 (au s).2.1:=by
 unfold au at h ⊢;cases hv:mF 10 s with
 | none=>
   rw [hv] at h;simp only at h;split at h<;>cases h
 | some k=>
   rw [hv] at h;simp only at h ⊢;obtain ⟨v1,v2,v3,v4⟩:=Qd hv;by_cases hb:qC k (s.getD (k - 1) 0).toNat=0
   ·simp only [hb,ne_eq,not_true_eq_false,if_false]
    have hz:1 < k->s.getD (k - 1) 0≠0:=by
     intro h1 h2;unfold qC at hb;rw [h2] at hb;split at hb
     ·cases hb
     ·rw [ak ⟨h1,rfl⟩] at hb;cases hb
    refine ⟨v1,v2,v3, ?_,(ab5 10 k s hv hz).1⟩;have e:s.take k=s.take (k - 1)++[s.getD (k - 1) 0]:=by
     obtain ⟨j,rfl⟩:∃j,k=j+1:=⟨k - 1,by omega⟩
     have:j < s.length:=by omega
     simp [List.getD,this]
    have h2:=adn (s.take (k - 1));rw [e,aoX,nK,IE (by omega)];rw [nK,IE (by omega)] at h2;rcases xJ k 10 with h3 | h3
    ·have hq:(128:Nat) ^ (k - 1)<=128 ^ 8:=Ld (by omega) (by omega)
     have hq2:128 ^ (k - 1) * ((s.getD (k - 1) 0).toNat % 128)<=128 ^ (k - 1) * 127:=QF _ (by omega);omega
    ·have hK10:k=10:=by omega
     have hb1:(s.getD (k - 1) 0).toNat<=1:=by
      unfold qC at hb;split at hb
      ·cases hb
      ·next h=>omega
     have hq:(128:Nat) ^ (k - 1)=128 ^ 9:=by rw [hK10]
     have hq2:128 ^ (k - 1) * ((s.getD (k - 1) 0).toNat % 128)<=128 ^ (k - 1) * 1:=QF _ (by omega);omega
   ·simp only [hb,ne_eq,not_false_eq_true,if_true] at h
theorem Ep {s:List UInt8} (h:(au s).2.2≠0):(au s).1=0/\(au s).2.1=0:=by
 unfold au at h ⊢;cases hv:mF 10 s with
 | none=>exact ⟨rfl,rfl⟩
 | some k=>
   rw [hv] at h;simp only at h ⊢;by_cases hb:qC k (s.getD (k - 1) 0).toNat=0
   ·simp only [hb,ne_eq,not_true_eq_false,if_false] at h
   ·simp only [hb,ne_eq,not_false_eq_true,if_true]
    exact ⟨trivial,trivial⟩
/-- Taken of a cursor. -/
theorem yJ (t:List UInt8) (at':Nat) (h:at'<=t.length) (ht:t.length<=140737488351232) :
 TT.lim 91 [.s t,.i .i64 at']=some [.i .i64 0,.i .u64 ((au (t.drop at')).1:Nat),.i .i64 (au (t.drop at')).2.2,.s t,.i .i64 ((at'+(au (t.drop at')).2.1:Nat):Int)]:=by
 have k:=tH (t.drop at') (by rw [dY];omega);have hd:(t.take t.length).drop at'=t.drop at':=by rw [xI]
 have h1:(at':Int)<=t.length:=by omega
 refine aA rfl rfl ?_;by_cases he:(au (t.drop at')).2.2=0
 ·have hv:=iY he
  have hl:=hv.len;have h10:=hv.ten;rw [dY] at hl;generalize (au (t.drop at')).1=n at *;generalize (au (t.drop at')).2.1=j at *;generalize (au (t.drop at')).2.2=e at *;have w1:=jL (n:=(j:Int)) (by omega) (by omega);have w2:=wrap64 (n:=(t.length:Int) - (at':Int)) (by omega) (by omega);have w3:=jL (n:=(t.length:Int) - (at':Int)) (by omega) (by omega);have w4:=wrap64 (n:=(j:Int)) (by omega) (by omega);have w5:=wrap64 (n:=(at':Int)+(j:Int)) (by omega) (by omega);have c1:¬ ((t.length:Int) - (at':Int) < (j:Int)):=by omega
  have c2:(at':Int)<=(at':Int)+(j:Int)/\(at':Int)+(j:Int)<=t.length:=by omega
  subst he;simp [hd,h1,k,w1,w2,w3,w4,w5,c1,c2]
 ·obtain ⟨e1,e2⟩:=Ep he
  rw [e1,e2] at k ⊢;generalize (au (t.drop at')).2.2=e at *;simp [hd,h1,k,he]
def jR (e:Int):List UInt8×Nat×Int:=([],0,e)
/-- The text that stands next, how many bytes it took, and the code. -/
def bg (s a0:List UInt8) (first:Bool):List UInt8×Nat×Int:=
 let a:=if first=true then [] else a0
 let v:=au s
 if v.2.2≠0 then jR v.2.2 else
 if a.length < v.1 then jR 23 else
 let v2:=au (s.drop v.2.1)
 if v2.2.2≠0 then jR v2.2.2 else
 if s.length - (v.2.1+v2.2.1) < v2.1 then jR 1 else
 let t:=a.take v.1++(s.drop (v.2.1+v2.2.1)).take v2.1
 if first=false/\Op.bytesLess a t=false then jR 7 else
 if v.1 < common a t then jR 23 else (t,v.2.1+v2.2.1+v2.1,0)
theorem ah0 (a t:List UInt8):(Op.bytesLess t a || t==a) = !(Op.bytesLess a t):=by
 rw [Fe,Fe,yP];simp only [kR,decide_eq_true_iff,beq_iff_eq,vC,decide_eq_false_iff_not];constructor
 ·rintro (h | h) h2
  ·exact Qx _ (Qy h h2)
  ·subst h;exact Qx _ h2
 ·intro h
  by_cases h1:t < a
  ·exact .inl h1
  ·exact .inr (List.le_antisymm (List.not_lt.1 h) (List.not_lt.1 h1))
theorem YB:∀ (k:Nat) (a x:List UInt8),k<=a.length->k<=common a (a.take k++x)
 | 0,a,x,h=>by omega
 | k+1,[],x,h=>by simp at h
 | k+1,b::a,x,h=>by
   rw [wI,jM];unfold common;rw [ak rfl];have:=YB k a x (by simpa using h);omega
theorem aj0 (t a:List UInt8) (first:Bool) (at':Nat) (h:at'<=t.length) (ht:t.length<=100000000) (ha:a.length<=100000000) :
 ∃at2:Nat,TT.lim 116 [.s t,.i .i64 at',.s a,.b first]=some [.i .i64 0,.s (bg (t.drop at') a first).1,.i .i64 (bg (t.drop at') a first).2.2,.s t,.i .i64 at2]/\
  ((bg (t.drop at') a first).2.2=0->at2=at'+(bg (t.drop at') a first).2.1):=by
 have k1:=yJ t at' h (by omega);by_cases he:(au (t.drop at')).2.2=0;rotate_left
 ·obtain ⟨e1,e2⟩:=Ep he
  have hp:bg (t.drop at') a first=jR (au (t.drop at')).2.2:=by unfold bg;simp only;rw [ak he]
  rw [e1,e2] at k1;rw [hp];clear e1 e2 hp;generalize (au (t.drop at')).2.2=e at *;refine ⟨at',aA rfl rfl ?_,λh=>absurd h he⟩;cases first<;>simp [k1,he,jR]
 have hv:=iY he;have hl:=hv.len;have h64:=hv.lt;have h10:=hv.ten;rw [dY] at hl
 have hpn:∀a':List UInt8,a'=(if first=true then [] else a)->bg (t.drop at') a first=(if a'.length < (au (t.drop at')).1 then jR 23 else
  if (au (t.drop (at'+(au (t.drop at')).2.1))).2.2≠0 then jR (au (t.drop (at'+(au (t.drop at')).2.1))).2.2 else
  if (t.length - at') - ((au (t.drop at')).2.1+(au (t.drop (at'+(au (t.drop at')).2.1))).2.1) < (au (t.drop (at'+(au (t.drop at')).2.1))).1 then jR 1 else
  if first=false/\Op.bytesLess a' (a'.take (au (t.drop at')).1++(t.drop (at'+((au (t.drop at')).2.1+(au (t.drop (at'+(au (t.drop at')).2.1))).2.1))).take (au (t.drop (at'+(au (t.drop at')).2.1))).1)=false then jR 7 else
  if (au (t.drop at')).1 < common a' (a'.take (au (t.drop at')).1++(t.drop (at'+((au (t.drop at')).2.1+(au (t.drop (at'+(au (t.drop at')).2.1))).2.1))).take (au (t.drop (at'+(au (t.drop at')).2.1))).1) then jR 23 else
  (a'.take (au (t.drop at')).1++(t.drop (at'+((au (t.drop at')).2.1+(au (t.drop (at'+(au (t.drop at')).2.1))).2.1))).take (au (t.drop (at'+(au (t.drop at')).2.1))).1,(au (t.drop at')).2.1+(au (t.drop (at'+(au (t.drop at')).2.1))).2.1+(au (t.drop (at'+(au (t.drop at')).2.1))).1,0)):=by
  intro a' ha';unfold bg;simp only [oQ,dY,<- ha',he,ne_eq,not_true_eq_false,if_false]
 rw [he] at k1;have k2:=yJ t (at'+(au (t.drop at')).2.1) (by omega) (by omega);have hv2:=λh=>iY (s:=t.drop (at'+(au (t.drop at')).2.1)) h;have hv3:=λh=>Ep (s:=t.drop (at'+(au (t.drop at')).2.1)) h;generalize hv0:au (t.drop at')=v at *;obtain ⟨n,i,e⟩:=v;simp only at *;generalize hv1:au (t.drop (at'+i))=v2 at *;obtain ⟨m,j,e2⟩:=v2;simp only at *;clear hv0 hv1 hv;subst he;simp only [Af] at k1 k2
 -- whichever is ahead
 cases first with
 | true=>
   have hp:=hpn [] rfl;rw [hp];clear hp hpn;by_cases c1:0 < n
   ·have c1':(0:Int) < n:=by omega
    rw [ak (by simpa using c1)];refine ⟨at'+i,aA rfl rfl ?_,λh=>by cases h⟩;simp [k1,c1,c1',jR]
   have c1':¬ (0:Int) < n:=by omega
   rw [ah (by simpa using c1)];by_cases c2:e2=0;rotate_left
   ·obtain ⟨q1,q2⟩:=hv3 c2
    subst q1;subst q2;rw [ak c2];refine ⟨at'+i,aA rfl rfl ?_,λh=>absurd h c2⟩;simp [k1,k2,c1,c1',c2,jR]
   subst c2;obtain ⟨q1,q2,q3,q4,_⟩:=hv2 rfl;rw [dY] at q3;rw [ah (by simp)];have w2:=wrap64 (n:=(t.length:Int) - ((at':Int)+(i:Int)+(j:Int))) (by omega) (by omega);have w3:=jL (n:=(t.length:Int) - ((at':Int)+(i:Int)+(j:Int))) (by omega) (by omega);by_cases c3:t.length - at' - (i+j) < m
   ·have c3':(t.length:Int) - ((at':Int)+(i:Int)+(j:Int)) < (m:Int):=by omega
    rw [ak c3];refine ⟨at'+i+j,aA rfl rfl ?_,λh=>by cases h⟩;simp [k1,k2,c1,c1',w2,w3,c3',jR]
   have c3':¬ (t.length:Int) - ((at':Int)+(i:Int)+(j:Int)) < (m:Int):=by omega
   rw [ah c3,ah (by simp)];have n0:n=0:=by omega
   subst n0;have hc:common [] ([]++(t.drop (at'+(i+j))).take m)=0:=Rk _;have w4:=wrap64 (n:=(m:Int)) (by omega) (by omega);have w5:=wrap64 (n:=(at':Int)+(i:Int)+(j:Int)+(m:Int)) (by omega) (by omega);have w0:=wrap64 (n:=(0:Int)) (by omega) (by omega);have ts:((t.take (at'+i+j+m)).drop (at'+i+j))=(t.drop (at'+(i+j))).take m:=by
    rw [<- gX,EJ];congr 1;omega
   have kc:=Rj [] ((t.drop (at'+(i+j))).take m) (by simp) (by simp;omega);rw [Rk] at kc;have c4:(at':Int)+(i:Int)+(j:Int)<=(at':Int)+(i:Int)+(j:Int)+(m:Int)/\(at':Int)+(i:Int)+(j:Int)+(m:Int)<=t.length:=by omega
   have c5:(0:Int)<=(at':Int)+(i:Int)+(j:Int):=by omega
   have t1:((at':Int)+(i:Int)+(j:Int)+(m:Int)).toNat=at'+i+j+m:=by omega
   have t2:((at':Int)+(i:Int)+(j:Int)).toNat=at'+i+j:=by omega
   rw [List.take_nil,ah (by rw [hc];omega)];have hl0:(((t.drop (at'+(i+j))).take m).length:Int)<=9223372036854775807:=by
    have:((t.drop (at'+(i+j))).take m).length<=t.length:=by rw [nK,dY];omega
    omega
   refine ⟨at'+i+j+m,aA rfl rfl ?_,λ_=>by simp only;omega⟩;rw [fJ];generalize (t.drop (at'+(i+j))).take m=X at *;simp [k1,k2,w0,w2,w3,w4,w5,c3',c4,c5,t1,t2,ts,kc,hl0]
 | false=>
   have hp:=hpn a rfl;rw [hp];clear hp hpn;have wa:=jL (n:=(a.length:Int)) (by omega) (by omega);by_cases c1:a.length < n
   ·have c1':(a.length:Int) < n:=by omega
    rw [ak c1];refine ⟨at'+i,aA rfl rfl ?_,λh=>by cases h⟩;simp [k1,c1,c1',wa,jR]
   have c1':¬ (a.length:Int) < n:=by omega
   rw [ah c1];by_cases c2:e2=0;rotate_left
   ·obtain ⟨q1,q2⟩:=hv3 c2
    subst q1;subst q2;rw [ak c2];refine ⟨at'+i,aA rfl rfl ?_,λh=>absurd h c2⟩;simp [k1,k2,c1,c1',c2,wa,jR]
   subst c2;obtain ⟨q1,q2,q3,q4,_⟩:=hv2 rfl;rw [dY] at q3;rw [ah (by simp)];have w2:=wrap64 (n:=(t.length:Int) - ((at':Int)+(i:Int)+(j:Int))) (by omega) (by omega);have w3:=jL (n:=(t.length:Int) - ((at':Int)+(i:Int)+(j:Int))) (by omega) (by omega);by_cases c3:t.length - at' - (i+j) < m
   ·have c3':(t.length:Int) - ((at':Int)+(i:Int)+(j:Int)) < (m:Int):=by omega
    rw [ak c3];refine ⟨at'+i+j,aA rfl rfl ?_,λh=>by cases h⟩;simp [k1,k2,c1,c1',w2,w3,c3',wa,jR]
   have c3':¬ (t.length:Int) - ((at':Int)+(i:Int)+(j:Int)) < (m:Int):=by omega
   rw [ah c3];have w4:=wrap64 (n:=(m:Int)) (by omega) (by omega);have w5:=wrap64 (n:=(at':Int)+(i:Int)+(j:Int)+(m:Int)) (by omega) (by omega);have wn:=wrap64 (n:=(n:Int)) (by omega) (by omega);have ts:((t.take (at'+i+j+m)).drop (at'+i+j))=(t.drop (at'+(i+j))).take m:=by
    rw [<- gX,EJ];congr 1;omega
   have hlx:((t.drop (at'+(i+j))).take m).length<=t.length:=by rw [nK,dY];omega
   have kc:=Rj a (a.take n++(t.drop (at'+(i+j))).take m) (by omega) (by rw [bY,nK];omega);have c4:(at':Int)+(i:Int)+(j:Int)<=(at':Int)+(i:Int)+(j:Int)+(m:Int)/\(at':Int)+(i:Int)+(j:Int)+(m:Int)<=t.length:=by omega
   have c5:(0:Int)<=(at':Int)+(i:Int)+(j:Int):=by omega
   have c6:(n:Int)<=a.length:=by omega
   have t1:((at':Int)+(i:Int)+(j:Int)+(m:Int)).toNat=at'+i+j+m:=by omega
   have t2:((at':Int)+(i:Int)+(j:Int)).toNat=at'+i+j:=by omega
   have hlm:(min n a.length:Nat)=n:=by omega
   have hl0:(n:Int)+(((t.drop (at'+(i+j))).take m).length:Int)<=9223372036854775807:=by omega
   have hle:=ah0 a (a.take n++(t.drop (at'+(i+j))).take m);generalize (t.drop (at'+(i+j))).take m=X at *;by_cases c7:Op.bytesLess a (a.take n++X)=false
   ·rw [ak ⟨rfl,c7⟩]
    rw [c7] at hle;refine ⟨at'+i+j+m,aA rfl rfl ?_,λh=>by cases h⟩;have hle':(Op.bytesLess (a.take n++X) a=true\/a.take n++X=a)=True:=eq_true (by simpa using hle);simp [k1,k2,wa,wn,w2,w3,w4,w5,c1',c3',c4,c5,c6,t1,t2,ts,hl0,hlm,hle',jR]
   ·rw [ah (λh=>c7 h.2)]
    have c7:Op.bytesLess a (a.take n++X)=true:=by simpa using c7
    rw [c7] at hle;have hle':(Op.bytesLess (a.take n++X) a=true\/a.take n++X=a)=False:=eq_false (by simpa using hle);by_cases c8:n < common a (a.take n++X)
    ·have CX:(n:Int) < (common a (a.take n++X):Int):=by omega
     rw [ak c8];refine ⟨at'+i+j+m,aA rfl rfl ?_,λh=>by cases h⟩;simp [k1,k2,wa,wn,w2,w3,w4,w5,c1',c3',c4,c5,c6,t1,t2,ts,hl0,hlm,hle',kc,CX,jR]
    ·have CX:¬ (n:Int) < (common a (a.take n++X):Int):=by omega
     rw [ah c8];refine ⟨at'+i+j+m,aA rfl rfl ?_,λ_=>by simp only;omega⟩;simp [k1,k2,wa,wn,w2,w3,w4,w5,c1',c3',c4,c5,c6,t1,t2,ts,hl0,hlm,hle',kc,CX]
theorem Vf {s a:List UInt8} {first:Bool} (h:(bg s a first).2.2=0):2<=(bg s a first).2.1/\(bg s a first).2.1<=s.length/\(bg s a first).1.length<=(if first=true then 0 else a.length)+(bg s a first).2.1:=by
 have hA:(if first=true then 0 else a.length)=(if first=true then [] else a).length:=by cases first<;>rfl
 rw [hA];clear hA;unfold bg at h ⊢;simp only at h ⊢;generalize (if first=true then [] else a)=a' at h ⊢;split at h
 ·next c=>exact absurd h c
 next c0=>
 rw [ah c0];split at h
 ·cases h
 next c1=>
 rw [ah c1];split at h
 ·next c=>exact absurd h c
 next c2=>
 rw [ah c2];split at h
 ·cases h
 next c3=>
 rw [ah c3];split at h
 ·cases h
 next c4=>
 rw [ah c4];split at h
 ·cases h
 next c5=>
 rw [ah c5];have v1:=iY (s:=s) (by simpa using c0);have v2:=iY (s:=s.drop (au s).2.1) (by simpa using c2);have p1:=v1.pos;have p2:=v2.pos;have l1:=v1.len;have l2:=v2.len;rw [dY] at l2;refine ⟨by simp only;omega,by simp only;omega, ?_⟩;simp only [bY,nK,dY];omega
theorem abC (a s:List UInt8) (hs:s.length<=100000000):(oL a s).length<=20+s.length:=by
 have hl:=MQ a s;have l1:=kQ (n:=common a s) (by omega);have l2:=kQ (n:=s.length - common a s) (by omega);unfold oL;simp only [bY,dY];omega
/-- A text that stands next: the text, how many bytes it took, the code. -/
def dD (s:List UInt8):List UInt8×Nat×Int:=
 if (au s).2.2≠0 then ([],0,(au s).2.2) else
 if s.length - (au s).2.1 < (au s).1 then ([],0,1) else
 ((s.drop (au s).2.1).take (au s).1,(au s).2.1+(au s).1,0)
theorem P6 {s:List UInt8} (h:(dD s).2.2=0):1<=(dD s).2.1/\(dD s).2.1<=s.length/\(dD s).1.length<=s.length:=by
 unfold dD at h ⊢;by_cases h1:(au s).2.2=0;rotate_left
 ·rw [ak h1] at h
  exact absurd h h1
 rw [ah (λe=>e h1)] at h ⊢;obtain ⟨v1,v2,v3,v4,v5⟩:=iY h1;by_cases h2:s.length - (au s).2.1 < (au s).1
 ·rw [ak h2] at h;cases h
 rw [ah h2];simp only [nK,dY];omega
theorem acV (t:List UInt8) (at':Nat) (h:at'<=t.length) (ht:t.length<=100000000) :
 ∃at2:Nat,TT.lim 112 [.s t,.i .i64 at']=some [.i .i64 0,.s (dD (t.drop at')).1,.i .i64 (dD (t.drop at')).2.2,.s t,.i .i64 at2]/\((dD (t.drop at')).2.2=0->at2=at'+(dD (t.drop at')).2.1):=by
 have k1:=yJ t at' h (by omega);unfold dD;by_cases he:(au (t.drop at')).2.2=0;rotate_left
 ·obtain ⟨e1,e2⟩:=Ep he
  rw [e1,e2] at k1;rw [ak he];generalize (au (t.drop at')).2.2=e at *;refine ⟨at',aA rfl rfl ?_,λh=>absurd h he⟩;simp [k1,he]
 obtain ⟨v1,v2,v3,v4,_⟩:=iY he;rw [ah (λe=>e he)];rw [he] at k1;rw [dY] at v3 ⊢;rw [oQ];generalize (au (t.drop at')).1=n at *;generalize (au (t.drop at')).2.1=i at *;have w1:=wrap64 (n:=(t.length:Int) - ((at':Int)+(i:Int))) (by omega) (by omega);have w2:=jL (n:=(t.length:Int) - ((at':Int)+(i:Int))) (by omega) (by omega);simp only [Af] at k1;by_cases c1:t.length - at' - i < n
 ·have c1':(t.length:Int) - ((at':Int)+(i:Int)) < (n:Int):=by omega
  rw [ak c1];refine ⟨at'+i,aA rfl rfl ?_,λh=>by cases h⟩;simp [k1,w1,w2,c1']
 ·have c1':¬ (t.length:Int) - ((at':Int)+(i:Int)) < (n:Int):=by omega
  rw [ah c1];have w3:=wrap64 (n:=(n:Int)) (by omega) (by omega);have w4:=wrap64 (n:=(at':Int)+(i:Int)+(n:Int)) (by omega) (by omega);have ts:((t.take (at'+i+n)).drop (at'+i))=(t.drop (at'+i)).take n:=by
   rw [EJ];congr 1;omega
  have c2:(at':Int)+(i:Int)<=(at':Int)+(i:Int)+(n:Int)/\(at':Int)+(i:Int)+(n:Int)<=t.length:=by omega
  have c3:(0:Int)<=(at':Int)+(i:Int):=by omega
  have t1:((at':Int)+(i:Int)+(n:Int)).toNat=at'+i+n:=by omega
  have t2:((at':Int)+(i:Int)).toNat=at'+i:=by omega
  generalize (t.drop (at'+i)).take n=X at *;refine ⟨at'+i+n,aA rfl rfl ?_,λ_=>by simp only;omega⟩;simp [k1,w1,w2,w3,w4,c1',c2,c3,t1,t2,ts]
/-- An entry that stands next. -/
def bQ (s:List UInt8):dH×Nat×Int:=
 if (dD s).2.2≠0 then (([],[]),0,(dD s).2.2) else
 if (dD (s.drop (dD s).2.1)).2.2≠0 then (([],[]),0,(dD (s.drop (dD s).2.1)).2.2) else
 if pz ((dD s).1,(dD (s.drop (dD s).2.1)).1)≠0 then (([],[]),0,pz ((dD s).1,(dD (s.drop (dD s).2.1)).1)) else
 (((dD s).1,(dD (s.drop (dD s).2.1)).1),(dD s).2.1+(dD (s.drop (dD s).2.1)).2.1,0)
theorem Nb {s:List UInt8} (h:(bQ s).2.2=0):2<=(bQ s).2.1/\(bQ s).2.1<=s.length/\pz (bQ s).1=0/\(bQ s).1.1.length<=s.length/\(bQ s).1.2.length<=s.length/\
 (dD s).2.2=0/\(dD (s.drop (dD s).2.1)).2.2=0/\(bQ s).1=((dD s).1,(dD (s.drop (dD s).2.1)).1)/\(bQ s).2.1=(dD s).2.1+(dD (s.drop (dD s).2.1)).2.1:=by
 unfold bQ at h ⊢;by_cases h1:(dD s).2.2=0;rotate_left
 ·rw [ak h1] at h;exact absurd h h1
 rw [ah (λe=>e h1)] at h ⊢;by_cases h2:(dD (s.drop (dD s).2.1)).2.2=0;rotate_left
 ·rw [ak h2] at h;exact absurd h h2
 rw [ah (λe=>e h2)] at h ⊢;by_cases h3:pz ((dD s).1,(dD (s.drop (dD s).2.1)).1)=0;rotate_left
 ·rw [ak h3] at h;exact absurd h h3
 rw [ah (λe=>e h3)];obtain ⟨a1,a2,a3⟩:=P6 h1;obtain ⟨b1,b2,b3⟩:=P6 h2;rw [dY] at b2 b3;exact ⟨by simp only;omega,by simp only;omega,h3,a3,by simp only;omega,h1,h2,rfl,rfl⟩
theorem afo (t:List UInt8) (at':Nat) (h:at'<=t.length) (ht:t.length<=100000000) :
 ∃at2:Nat,TT.lim 111 [.s t,.i .i64 at']=some [.i .i64 0,.s (bQ (t.drop at')).1.1,.s (bQ (t.drop at')).1.2,.i .i64 (bQ (t.drop at')).2.2,.s t,.i .i64 at2]/\((bQ (t.drop at')).2.2=0->at2=at'+(bQ (t.drop at')).2.1):=by
 obtain ⟨p,k1,e1⟩:=acV t at' h ht;unfold bQ;by_cases h1:(dD (t.drop at')).2.2=0;rotate_left
 ·rw [ak h1]
  generalize dD (t.drop at')=A at *;refine ⟨p,aA rfl rfl ?_,λh=>absurd h h1⟩;simp [k1,h1]
 have e1:=e1 h1;obtain ⟨a1,a2,a3⟩:=P6 h1;rw [dY] at a2 a3;have hdd:(t.drop at').drop (dD (t.drop at')).2.1=t.drop p:=by rw [oQ,e1]
 obtain ⟨q,k2,e2⟩:=acV t p (by omega) ht;rw [ah (λe=>e h1),hdd];rw [h1] at k1;by_cases h2:(dD (t.drop p)).2.2=0;rotate_left
 ·rw [ak h2]
  generalize dD (t.drop at')=A at *;generalize dD (t.drop p)=B at *;refine ⟨q,aA rfl rfl ?_,λh=>absurd h h2⟩;simp [k1,k2,h2]
 have e2:=e2 h2;obtain ⟨b1,b2,b3⟩:=P6 h2;rw [dY] at b2 b3;rw [ah (λe=>e h2)];rw [h2] at k2;have kc:=Zt ((dD (t.drop at')).1,(dD (t.drop p)).1) (by simp only;omega) (by simp only;omega);have TA:TT.lim 35 [.g [.s (dD (t.drop at')).1,.s (dD (t.drop p)).1]]=_:=kc;generalize dD (t.drop at')=A at *;generalize dD (t.drop p)=B at *;by_cases h3:pz (A.1,B.1)=0;rotate_left
 ·rw [ak h3]
  refine ⟨q,aA rfl rfl ?_,λh=>absurd h h3⟩;generalize pz (A.1,B.1)=E at *;simp [k1,k2,TA,h3]
 ·rw [ah (λe=>e h3)]
  rw [h3] at TA;refine ⟨q,aA rfl rfl ?_,λ_=>by simp only;omega⟩;simp [k1,k2,TA]
def wP (p:Option dH) (x:dH):Int:=match p with
 | none=>0
 | some k=>vP k.1 x.1
/-- Entries by rising keys: what is read, how many bytes it took, the code. -/
def dX:Nat->Option dH->List UInt8->List dH×Nat×Int
 | 0,_,_=>([],0,0)
 | m+1,p,s=>if (bQ s).2.2≠0 then ([],0,(bQ s).2.2) else
   if wP p (bQ s).1≠0 then ([],0,wP p (bQ s).1) else
   if (dX m (some (bQ s).1) (s.drop (bQ s).2.1)).2.2≠0 then ([],0,(dX m (some (bQ s).1) (s.drop (bQ s).2.1)).2.2) else
   ((bQ s).1::(dX m (some (bQ s).1) (s.drop (bQ s).2.1)).1,(bQ s).2.1+(dX m (some (bQ s).1) (s.drop (bQ s).2.1)).2.1,0)
theorem MW (m:Nat) (p:Option dH) (s:List UInt8):dX (m+1) p s=if (bQ s).2.2≠0 then ([],0,(bQ s).2.2) else
 if wP p (bQ s).1≠0 then ([],0,wP p (bQ s).1) else
 if (dX m (some (bQ s).1) (s.drop (bQ s).2.1)).2.2≠0 then ([],0,(dX m (some (bQ s).1) (s.drop (bQ s).2.1)).2.2) else
 ((bQ s).1::(dX m (some (bQ s).1) (s.drop (bQ s).2.1)).1,(bQ s).2.1+(dX m (some (bQ s).1) (s.drop (bQ s).2.1)).2.1,0):=rfl
def yA (acc:List dH) (t:List UInt8) (at2:Nat) (r:List dH×Nat×Int):List GV:=if r.2.2≠0 then [.i .i64 0,.i .i64 r.2.2,.s t,.i .i64 at2] else [.i .i64 1,.l ((acc++r.1).map ent),.s t,.i .i64 at2]
theorem afk (L:List GV) (n i at' at2:Int) (t:List UInt8) (x:dH) (e:Int) (h:i < n) (he:¬ e=0)
 (k:TT.lim 111 [.s t,.i .i64 at']=some [.i .i64 0,.s x.1,.s x.2,.i .i64 e,.s t,.i .i64 at2]) :
 TT.lim 110 [.l L,.i .i64 n,.i .i64 i,.s t,.i .i64 at']=some [.i .i64 0,.i .i64 e,.s t,.i .i64 at2]:=by
 refine aA rfl rfl ?_;simp [h,k,he]
theorem afi (L:List GV) (n at' at2:Int) (t:List UInt8) (x:dH) (R:List GV) (h:0 < n) (hb:2 * (L.length+1) * 32<=281474976710656/\L.length+1<=281474976710656)
 (k:TT.lim 111 [.s t,.i .i64 at']=some [.i .i64 0,.s x.1,.s x.2,.i .i64 0,.s t,.i .i64 at2])
 (ih:TT.lim 110 [.l (L++[ent x]),.i .i64 n,.i .i64 1,.s t,.i .i64 at2]=some R) :
 TT.lim 110 [.l L,.i .i64 n,.i .i64 0,.s t,.i .i64 at']=some R:=by
 have he:GV.g [.s x.1,.s x.2]=ent x:=rfl;have w1:=wrap64 (n:=1) (by omega) (by omega);refine aA rfl rfl ?_;simp [h,k,he,GV.fQ,hb,w1,ih]
theorem afj (L:List GV) (n:Int) (i:Nat) (at' at2:Int) (t:List UInt8) (p x:dH) (h:(i:Int)+1 < n) (hi:i+1<=100000000) (hl:L.length=i+1) (hg:L[i]? = some (ent p)) (hb:¬ vP p.1 x.1=0)
 (k:TT.lim 111 [.s t,.i .i64 at']=some [.i .i64 0,.s x.1,.s x.2,.i .i64 0,.s t,.i .i64 at2]) :
 TT.lim 110 [.l L,.i .i64 n,.i .i64 ((i:Int)+1),.s t,.i .i64 at']=some [.i .i64 0,.i .i64 (vP p.1 x.1),.s t,.i .i64 at2]:=by
 have h0:(0:Int) < (i:Int)+1:=by omega
 have hii:(i:Int) < (i:Int)+1:=by omega
 have w:=wrap64 (n:=(i:Int)) (by omega) (by omega);have hgi:L[i]'(by omega)=ent p:=by have:=hg;rw [bK (by omega)] at this;exact Ci this
 unfold vP at hb ⊢;by_cases e1:x.1=p.1
 ·have e1':(x.1=p.1)=True:=eq_true e1
  clear e1;refine aA rfl rfl ?_;simp [h,k,h0,hii,w,hl,hg,hgi,e1']
 ·by_cases e2:Op.bytesLess x.1 p.1=true
  ·refine aA rfl rfl ?_
   simp [h,k,h0,hii,w,hl,hg,hgi,e1,e2]
  ·simp [e1,e2] at hb
theorem afl (L:List GV) (n:Int) (i:Nat) (at' at2:Int) (t:List UInt8) (p x:dH) (R:List GV) (h:(i:Int)+1 < n) (hi:i+1<=100000000) (hl:(i:Int) < L.length) (hl2:L.length<=100000000) (hg:L[i]? = some (ent p)) (hb:vP p.1 x.1=0)
 (k:TT.lim 111 [.s t,.i .i64 at']=some [.i .i64 0,.s x.1,.s x.2,.i .i64 0,.s t,.i .i64 at2])
 (ih:TT.lim 110 [.l (L++[ent x]),.i .i64 n,.i .i64 ((i:Int)+1+1),.s t,.i .i64 at2]=some R) :
 TT.lim 110 [.l L,.i .i64 n,.i .i64 ((i:Int)+1),.s t,.i .i64 at']=some R:=by
 have h0:(0:Int) < (i:Int)+1:=by omega
 have hii:(i:Int) < (i:Int)+1:=by omega
 have w:=wrap64 (n:=(i:Int)) (by omega) (by omega);have w2:=wrap64 (n:=(i:Int)+1+1) (by omega) (by omega);have hl3:i < L.length:=by omega
 have hgi:L[i]=ent p:=by have:=hg;rw [bK hl3] at this;exact Ci this
 have he:GV.g [.s x.1,.s x.2]=ent x:=rfl;have hbb:2 * (L.length+1) * 32<=281474976710656/\L.length+1<=281474976710656:=by omega
 unfold vP at hb;have e1:¬ x.1=p.1:=by intro e;rw [ak e] at hb;exact absurd hb (by decide)
 rw [ah e1] at hb;have e2:¬ Op.bytesLess x.1 p.1=true:=by intro e;rw [ak e] at hb;exact absurd hb (by decide)
 have e2:Op.bytesLess x.1 p.1=false:=by simpa using e2
 refine aA rfl rfl ?_;simp [h,k,h0,hii,w,w2,hl,hl3,hg,hgi,e1,e2,he,GV.fQ,hbb,ih]
/-- What is ahead. -/
def ahW (acc:List dH) (p:Option dH):Prop:=(acc=[]/\p=none)\/∃a x,acc=a++[x]/\p=some x
theorem YS (t:List UInt8) (ht:t.length<=100000000) (n:Nat) (hn:n<=1000):∀ (m:Nat) (acc:List dH) (p:Option dH) (at':Nat),acc.length+m=n->ahW acc p->at'<=t.length->
 ∃at2:Nat,TT.lim 110 [.l (acc.map ent),.i .i64 n,.i .i64 acc.length,.s t,.i .i64 at']=some (yA acc t at2 (dX m p (t.drop at')))/\((dX m p (t.drop at')).2.2=0->at2=at'+(dX m p (t.drop at')).2.1)
 | 0,acc,p,at',hi,hp,h=>by
   have hlt:¬ ((acc.length:Int) < (n:Int)):=by omega
   refine ⟨at', ?_,λ_=>by simp [dX]⟩;have hl:(acc.map ent).length=acc.length:=by simp
   unfold dX yA;simp only [ne_eq,not_true_eq_false,if_false,mM];generalize acc.map ent=L at *;refine aA rfl rfl ?_;simp [hlt]
 | m+1,acc,p,at',hi,hp,h=>by
   obtain ⟨at2,k,e2⟩:=afo t at' h ht;rw [MW];by_cases h1:(bQ (t.drop at')).2.2=0;rotate_left
   ·rw [ak h1]
    refine ⟨at2, ?_,λh=>absurd h h1⟩;have:yA acc t at2 ([],0,(bQ (t.drop at')).2.2)=[.i .i64 0,.i .i64 (bQ (t.drop at')).2.2,.s t,.i .i64 at2]:=by unfold yA;rw [ak h1]
    rw [this];exact afk _ _ _ _ _ _ _ _ (by omega) h1 k
   rw [ah (λe=>e h1)];rw [h1] at k;have e2:=e2 h1;obtain ⟨a1,a2,_⟩:=Nb h1;rw [dY] at a2;have hdd:(t.drop at').drop (bQ (t.drop at')).2.1=t.drop at2:=by rw [oQ,e2]
   rw [hdd];have hat:at2<=t.length:=by omega
   generalize hX:(bQ (t.drop at')).1=x at *;obtain ⟨at3,ih,e3⟩:=YS t ht n hn m (acc++[x]) (some x) at2 (by rw [bY,uy];omega) (.inr ⟨acc,x,rfl,rfl⟩) hat;have hout:yA acc t at3 (if (dX m (some x) (t.drop at2)).2.2≠0 then ([],0,(dX m (some x) (t.drop at2)).2.2) else (x::(dX m (some x) (t.drop at2)).1,(bQ (t.drop at')).2.1+(dX m (some x) (t.drop at2)).2.1,0))=yA (acc++[x]) t at3 (dX m (some x) (t.drop at2)):=by
    unfold yA;by_cases hq:(dX m (some x) (t.drop at2)).2.2=0
    ·simp [hq]
    ·simp [hq]
   have hfin:((if (dX m (some x) (t.drop at2)).2.2≠0 then (([]:List dH),0,(dX m (some x) (t.drop at2)).2.2) else (x::(dX m (some x) (t.drop at2)).1,(bQ (t.drop at')).2.1+(dX m (some x) (t.drop at2)).2.1,0)).2.2=0->at3=at'+(if (dX m (some x) (t.drop at2)).2.2≠0 then (([]:List dH),0,(dX m (some x) (t.drop at2)).2.2) else (x::(dX m (some x) (t.drop at2)).1,(bQ (t.drop at')).2.1+(dX m (some x) (t.drop at2)).2.1,0)).2.1):=by
    by_cases hq:(dX m (some x) (t.drop at2)).2.2=0
    ·rw [ah (λe=>e hq)]
     intro _;have:=e3 hq;simp only;omega
    ·rw [ak hq]
     intro h;exact absurd h hq
   rw [xH] at ih;rcases hp with ⟨rfl,rfl⟩ | ⟨a,y,rfl,rfl⟩
   ·have hb0:wP none x=0:=rfl
    rw [hb0,ah (by simp)];refine ⟨at3, ?_,hfin⟩;rw [hout];exact afi [] n at' at2 t x _ (by simp at hi;omega) (by simp) k ih
   ·by_cases hb:vP y.1 x.1=0
    rotate_left
    ·have hb':wP (some y) x≠0:=hb
     rw [ak hb'];refine ⟨at2, ?_,λh=>absurd h hb⟩;have:yA (a++[y]) t at2 ([],0,wP (some y) x)=[.i .i64 0,.i .i64 (vP y.1 x.1),.s t,.i .i64 at2]:=by unfold yA;rw [ak hb'];rfl
     rw [this];have hl:((a++[y]).length:Int)=(a.length:Int)+1:=by simp
     rw [hl];rw [bY,uy] at hi;exact afj _ n a.length at' at2 t y x (by omega) (by omega) (by simp) (by simp) hb k
    ·have hb':¬ wP (some y) x≠0:=λe=>e hb
     rw [ah hb'];refine ⟨at3, ?_,hfin⟩;rw [hout];have hl:((a++[y]).length:Int)=(a.length:Int)+1:=by simp
     have hl2:((a++[y]++[x]).length:Int)=(a.length:Int)+1+1:=by simp;omega
     rw [hl];rw [hl2] at ih;rw [bY,uy] at hi;exact afl _ n a.length at' at2 t y x _ (by omega) (by omega) (by simp;omega) (by simp;omega) (by simp) hb k ih
def yc (e:Int):List dH×Nat×Int:=([],0,e)
/-- A descriptor that stands next. -/
def jZ (s:List UInt8):List dH×Nat×Int:=
 if (au s).2.2≠0 then yc (au s).2.2 else
 if (au s).1=0 then yc 12 else
 if 16 < (au s).1 then yc 13 else
 if (dX (au s).1 none (s.drop (au s).2.1)).2.2≠0 then yc (dX (au s).1 none (s.drop (au s).2.1)).2.2 else
 ((dX (au s).1 none (s.drop (au s).2.1)).1,(au s).2.1+(dX (au s).1 none (s.drop (au s).2.1)).2.1,0)
theorem afe (t:List UInt8) (at':Nat) (h:at'<=t.length) (ht:t.length<=100000000) :
 ∃at2:Nat,TT.lim 109 [.s t,.i .i64 at']=some [.i .i64 0,.l ((jZ (t.drop at')).1.map ent),.i .i64 (jZ (t.drop at')).2.2,.s t,.i .i64 at2]/\((jZ (t.drop at')).2.2=0->at2=at'+(jZ (t.drop at')).2.1):=by
 have k1:=yJ t at' h (by omega);unfold jZ;by_cases he:(au (t.drop at')).2.2=0;rotate_left
 ·obtain ⟨e1,e2⟩:=Ep he
  rw [e1,e2] at k1;rw [ak he];generalize (au (t.drop at')).2.2=e at *;refine ⟨at',aA rfl rfl ?_,λh=>absurd h he⟩;simp [k1,he,yc]
 obtain ⟨v1,v2,v3,v4,_⟩:=iY he;rw [ah (λe=>e he)];rw [he] at k1;rw [dY] at v3;rw [oQ];by_cases h16:16 < (au (t.drop at')).1
 ·have h0:¬ (au (t.drop at')).1=0:=by omega
  have zy:(16:Int) < ((au (t.drop at')).1:Nat):=by omega
  rw [ah h0,ak h16];generalize (au (t.drop at')).1=n at *;generalize (au (t.drop at')).2.1=i at *;refine ⟨at'+i,aA rfl rfl ?_,λh=>by cases h⟩;simp only [Af] at k1;simp [k1,h0,h16,zy,yc]
 obtain ⟨at2,k2,e2⟩:=YS t ht (au (t.drop at')).1 (by omega) (au (t.drop at')).1 [] none (at'+(au (t.drop at')).2.1) (by simp) (.inl ⟨rfl,rfl⟩) (by omega);generalize (au (t.drop at')).1=n at *;generalize (au (t.drop at')).2.1=i at *;by_cases h0:n=0
 ·rw [ak h0]
  have h0':((n:Int)=0)=True:=eq_true (by omega);refine ⟨at'+i,aA rfl rfl ?_,λh=>by cases h⟩;simp only [Af] at k1;simp [k1,h0,h0',yc]
 rw [ah h0,ah h16];have zy:¬ (16:Int) < (n:Int):=by omega
 have w:=wrap64 (n:=(n:Int)) (by omega) (by omega);have hc:(0:Int)<=(n:Int)/\32 * (n:Int)<=281474976710656/\(n:Int)<=1152921504606846976:=by omega
 have k2':TT.lim 110 [.l [],.i .i64 n,.i .i64 0,.s t,.i .i64 ((at':Int)+(i:Int))]=_:=k2;generalize hdl:dX n none (t.drop (at'+i))=r at *;refine ⟨at2,aA rfl rfl ?_,λh=>?_⟩
 ·simp only [Af] at k1
  unfold yA at k2';by_cases hq:r.2.2=0
  ·simp only [hq,ne_eq,not_true_eq_false,if_false,fJ] at k2' ⊢
   simp [k1,h0,h16,zy,w,hc,k2',GV.fQ]
  ·simp only [hq,ne_eq,not_false_eq_true,if_true] at k2' ⊢
   simp [k1,h0,h16,zy,w,hc,k2',GV.fQ,yc]
 ·by_cases hq:r.2.2=0
  ·rw [ah (λe=>e hq)]
   have:=e2 hq;simp only;omega
  ·rw [ak hq] at h
   exact absurd h hq
/-- A whole text, as a descriptor. -/
def oI (s:List UInt8):List dH×Int:=
 if (jZ s).2.2≠0 then ([],(jZ s).2.2) else if (jZ s).2.1 < s.length then ([],10) else ((jZ s).1,0)
theorem Rt:∀ (m:Nat) (p:Option dH) (s:List UInt8),(dX m p s).2.2=0->(dX m p s).2.1<=s.length/\(dX m p s).1.length=m/\∀x∈(dX m p s).1,pz x=0/\x.1.length<=s.length/\x.2.length<=s.length
 | 0,p,s,_=>by simp [dX]
 | m+1,p,s,h=>by
   rw [MW] at h ⊢;by_cases h1:(bQ s).2.2=0;rotate_left
   ·rw [ak h1] at h;exact absurd h h1
   rw [ah (λe=>e h1)] at h ⊢;by_cases h2:wP p (bQ s).1=0;rotate_left
   ·rw [ak h2] at h;exact absurd h h2
   rw [ah (λe=>e h2)] at h ⊢;by_cases h3:(dX m (some (bQ s).1) (s.drop (bQ s).2.1)).2.2=0;rotate_left
   ·rw [ak h3] at h;exact absurd h h3
   rw [ah (λe=>e h3)];obtain ⟨a1,a2,a3,a4,a5,_⟩:=Nb h1;obtain ⟨b1,b2,b3⟩:=Rt m (some (bQ s).1) _ h3;rw [dY] at b1;refine ⟨by simp only;omega,by simp [b2],λx hx=>?_⟩;rcases dn.1 hx with rfl | hx
   ·exact ⟨a3,a4,a5⟩
   ·obtain ⟨c1,c2,c3⟩:=b3 x hx
    rw [dY] at c2 c3;exact ⟨c1,by omega,by omega⟩
theorem YV {s:List UInt8} (h:(jZ s).2.2=0):(au s).2.2=0/\0 < (au s).1/\(au s).1<=16/\(dX (au s).1 none (s.drop (au s).2.1)).2.2=0/\(jZ s).1=(dX (au s).1 none (s.drop (au s).2.1)).1/\
 (jZ s).2.1=(au s).2.1+(dX (au s).1 none (s.drop (au s).2.1)).2.1/\(jZ s).2.1<=s.length:=by
 unfold jZ at h ⊢;by_cases h1:(au s).2.2=0;rotate_left
 ·rw [ak h1] at h;exact absurd h h1
 rw [ah (λe=>e h1)] at h ⊢;by_cases h2:(au s).1=0
 ·rw [ak h2] at h;exact absurd h (by simp [yc])
 rw [ah h2] at h ⊢;by_cases h3:16 < (au s).1
 ·rw [ak h3] at h;exact absurd h (by simp [yc])
 rw [ah h3] at h ⊢;by_cases h4:(dX (au s).1 none (s.drop (au s).2.1)).2.2=0;rotate_left
 ·rw [ak h4] at h;exact absurd h h4
 rw [ah (λe=>e h4)];obtain ⟨v1,v2,v3,_,_⟩:=iY h1;obtain ⟨d1,_,_⟩:=Rt _ _ _ h4;rw [dY] at d1;exact ⟨h1,by omega,by omega,h4,rfl,rfl,by simp only;omega⟩
theorem YW (s:List UInt8) (hs:s.length<=100000000):TT.lim 108 [.s s]=some [.l ((oI s).1.map ent),.i .i64 (oI s).2]:=by
 obtain ⟨at2,k,e2⟩:=afe s 0 (by omega) hs;rw [fH,show ((0:Nat):Int)=0 from rfl] at k;rw [fH] at e2;unfold oI;by_cases h1:(jZ s).2.2=0;rotate_left
 ·rw [ak h1]
  generalize jZ s=r at *;refine bF rfl rfl ?_ (by rfl);simp [k,h1]
 have e2:=e2 h1;obtain ⟨_,_,_,_,_,_,a7⟩:=YV h1;rw [ah (λe=>e h1)];rw [h1] at k;rw [iH] at e2;have w:=wrap64 (n:=(s.length:Int) - (at2:Int)) (by omega) (by omega);rw [<- e2] at a7 ⊢;generalize jZ s=r at *;by_cases h2:at2 < s.length
 ·rw [ak h2]
  refine bF rfl rfl ?_ rfl;simp [k,w,h2]
 ·rw [ah h2]
  refine bF rfl rfl ?_ rfl;simp [k,w,h2]
def D9 (e:Int):Row×Nat×Int:=(([],0),0,e)
/-- The row of a key, whose number stands next. -/
def eP (key s:List UInt8):Row×Nat×Int:=
 if (oI key).2≠0 then D9 (oI key).2 else
 if (au s).2.2≠0 then D9 (au s).2.2 else
 if (au s).1=0 then D9 17 else (((oI key).1,((au s).1:Nat)),(au s).2.1,0)
theorem Vm {key s:List UInt8} (h:(eP key s).2.2=0):(oI key).2=0/\(au s).2.2=0/\(au s).1≠0/\(eP key s).1=((oI key).1,(((au s).1:Nat):Int))/\(eP key s).2.1=(au s).2.1:=by
 unfold eP at h ⊢;by_cases h1:(oI key).2=0;rotate_left
 ·rw [ak h1] at h;exact absurd h h1
 rw [ah (λe=>e h1)] at h ⊢;by_cases h2:(au s).2.2=0;rotate_left
 ·rw [ak h2] at h;exact absurd h h2
 rw [ah (λe=>e h2)] at h ⊢;by_cases h3:(au s).1=0
 ·rw [ak h3] at h;exact absurd h (by simp [D9])
 rw [ah h3];exact ⟨h1,h2,h3,rfl,rfl⟩
theorem rowP (key t:List UInt8) (at':Nat) (h:at'<=t.length) (ht:t.length<=100000000) (hk:key.length<=100000000) :
 ∃at2:Nat,TT.lim 117 [.s key,.s t,.i .i64 at']=some [.i .i64 0,.l ((eP key (t.drop at')).1.1.map ent),.i .u64 (eP key (t.drop at')).1.2,.i .i64 (eP key (t.drop at')).2.2,.s t,.i .i64 at2]/\
  ((eP key (t.drop at')).2.2=0->at2=at'+(eP key (t.drop at')).2.1):=by
 have k1:=YW key hk;have k2:=yJ t at' h (by omega);unfold eP;generalize oI key=D at *;by_cases h1:D.2=0;rotate_left
 ·rw [ak h1]
  refine ⟨at',aA rfl rfl ?_,λh=>absurd h h1⟩;simp [k1,h1,D9]
 rw [ah (λe=>e h1)];by_cases h2:(au (t.drop at')).2.2=0;rotate_left
 ·obtain ⟨e1,e2⟩:=Ep h2
  rw [e1,e2] at k2;rw [ak h2];generalize au (t.drop at')=V at *;refine ⟨at',aA rfl rfl ?_,λh=>absurd h h2⟩;simp [k1,k2,h1,h2,D9]
 rw [ah (λe=>e h2)];rw [h2] at k2;simp only [Af] at k2;generalize au (t.drop at')=V at *;by_cases h3:V.1=0
 ·rw [ak h3]
  rw [h3] at k2;refine ⟨at'+V.2.1,aA rfl rfl ?_,λh=>by cases h⟩;simp [k1,k2,h1,D9]
 ·rw [ah h3]
  refine ⟨at'+V.2.1,aA rfl rfl ?_,λ_=>rfl⟩;simp [k1,k2,h1,h3]
/-- Rows, one behind the other. -/
def eX:Nat->List UInt8->Bool->List UInt8->List Row×Nat×Int
 | 0,_,_,_=>([],0,0)
 | m+1,a,first,s=>if (bg s a first).2.2≠0 then ([],0,(bg s a first).2.2) else
   if (eP (bg s a first).1 (s.drop (bg s a first).2.1)).2.2≠0 then ([],0,(eP (bg s a first).1 (s.drop (bg s a first).2.1)).2.2) else
   if (eX m (bg s a first).1 false (s.drop ((bg s a first).2.1+(eP (bg s a first).1 (s.drop (bg s a first).2.1)).2.1))).2.2≠0 then ([],0,(eX m (bg s a first).1 false (s.drop ((bg s a first).2.1+(eP (bg s a first).1 (s.drop (bg s a first).2.1)).2.1))).2.2) else
   ((eP (bg s a first).1 (s.drop (bg s a first).2.1)).1::(eX m (bg s a first).1 false (s.drop ((bg s a first).2.1+(eP (bg s a first).1 (s.drop (bg s a first).2.1)).2.1))).1,
    (bg s a first).2.1+(eP (bg s a first).1 (s.drop (bg s a first).2.1)).2.1+(eX m (bg s a first).1 false (s.drop ((bg s a first).2.1+(eP (bg s a first).1 (s.drop (bg s a first).2.1)).2.1))).2.1,0)
theorem OY (m:Nat) (a:List UInt8) (first:Bool) (s:List UInt8):eX (m+1) a first s=if (bg s a first).2.2≠0 then ([],0,(bg s a first).2.2) else
 if (eP (bg s a first).1 (s.drop (bg s a first).2.1)).2.2≠0 then ([],0,(eP (bg s a first).1 (s.drop (bg s a first).2.1)).2.2) else
 if (eX m (bg s a first).1 false (s.drop ((bg s a first).2.1+(eP (bg s a first).1 (s.drop (bg s a first).2.1)).2.1))).2.2≠0 then ([],0,(eX m (bg s a first).1 false (s.drop ((bg s a first).2.1+(eP (bg s a first).1 (s.drop (bg s a first).2.1)).2.1))).2.2) else
 ((eP (bg s a first).1 (s.drop (bg s a first).2.1)).1::(eX m (bg s a first).1 false (s.drop ((bg s a first).2.1+(eP (bg s a first).1 (s.drop (bg s a first).2.1)).2.1))).1,
  (bg s a first).2.1+(eP (bg s a first).1 (s.drop (bg s a first).2.1)).2.1+(eX m (bg s a first).1 false (s.drop ((bg s a first).2.1+(eP (bg s a first).1 (s.drop (bg s a first).2.1)).2.1))).2.1,0):=rfl
def yC (acc:List Row) (t:List UInt8) (at2:Nat) (r:List Row×Nat×Int):List GV:=if r.2.2≠0 then [.i .i64 0,.i .i64 r.2.2,.s t,.i .i64 at2] else [.i .i64 1,.l ((acc++r.1).map row),.s t,.i .i64 at2]
theorem aj7 (L:List GV) (a t X:List UInt8) (n i at' at2:Int) (first:Bool) (e:Int) (h:i < n) (hf:decide (i=0)=first) (he:¬ e=0)
 (k:TT.lim 116 [.s t,.i .i64 at',.s a,.b first]=some [.i .i64 0,.s X,.i .i64 e,.s t,.i .i64 at2]) :
 TT.lim 115 [.l L,.s a,.i .i64 n,.i .i64 i,.s t,.i .i64 at']=some [.i .i64 0,.i .i64 e,.s t,.i .i64 at2]:=by
 refine aA rfl rfl ?_;simp [h,hf,k,he]
theorem aj9 (L:List GV) (a t X:List UInt8) (D:List GV) (N:Int) (n i at' at2 at3:Int) (first:Bool) (e:Int) (h:i < n) (hf:decide (i=0)=first) (he:¬ e=0)
 (k:TT.lim 116 [.s t,.i .i64 at',.s a,.b first]=some [.i .i64 0,.s X,.i .i64 0,.s t,.i .i64 at2])
 (k2:TT.lim 117 [.s X,.s t,.i .i64 at2]=some [.i .i64 0,.l D,.i .u64 N,.i .i64 e,.s t,.i .i64 at3]) :
 TT.lim 115 [.l L,.s a,.i .i64 n,.i .i64 i,.s t,.i .i64 at']=some [.i .i64 0,.i .i64 e,.s t,.i .i64 at3]:=by
 refine aA rfl rfl ?_;simp [h,hf,k,k2,he]
theorem aj8 (L:List GV) (a t X:List UInt8) (D:List GV) (N:Int) (n i at' at2 at3:Int) (first:Bool) (R:List GV) (h:i < n) (hf:decide (i=0)=first) (hw:IntKind.i64.wrap (i+1)=i+1) (hb:L.length<=100000000)
 (k:TT.lim 116 [.s t,.i .i64 at',.s a,.b first]=some [.i .i64 0,.s X,.i .i64 0,.s t,.i .i64 at2])
 (k2:TT.lim 117 [.s X,.s t,.i .i64 at2]=some [.i .i64 0,.l D,.i .u64 N,.i .i64 0,.s t,.i .i64 at3])
 (ih:TT.lim 115 [.l (L++[.g [.l D,.i .u64 N]]),.s X,.i .i64 n,.i .i64 (i+1),.s t,.i .i64 at3]=some R) :
 TT.lim 115 [.l L,.s a,.i .i64 n,.i .i64 i,.s t,.i .i64 at']=some R:=by
 have hbb:2 * (L.length+1) * 32<=281474976710656/\L.length+1<=281474976710656:=by omega
 refine aA rfl rfl ?_;simp [h,hf,k,k2,hw,GV.fQ,hbb,ih]
theorem abS (t:List UInt8) (ht:t.length<=100000000) (n:Nat) (hn:n<=1000):∀ (m:Nat) (acc:List Row) (a:List UInt8) (at':Nat),acc.length+m=n->at'<=t.length->a.length<=at'->
 ∃at2:Nat,TT.lim 115 [.l (acc.map row),.s a,.i .i64 n,.i .i64 acc.length,.s t,.i .i64 at']=some (yC acc t at2 (eX m a (decide ((acc.length:Int)=0)) (t.drop at')))/\
  ((eX m a (decide ((acc.length:Int)=0)) (t.drop at')).2.2=0->at2=at'+(eX m a (decide ((acc.length:Int)=0)) (t.drop at')).2.1)
 | 0,acc,a,at',hi,h,ha=>by
   have hlt:¬ ((acc.length:Int) < (n:Int)):=by omega
   refine ⟨at', ?_,λ_=>by simp [eX]⟩;unfold eX yC;simp only [ne_eq,not_true_eq_false,if_false,mM];generalize acc.map row=L at *;refine aA rfl rfl ?_;simp [hlt]
 | m+1,acc,a,at',hi,h,ha=>by
   obtain ⟨at2,k,e2⟩:=aj0 t a (decide ((acc.length:Int)=0)) at' h ht (by omega);rw [OY];generalize hf:decide ((acc.length:Int)=0)=first at *
   by_cases h1:(bg (t.drop at') a first).2.2=0;rotate_left
   ·rw [ak h1]
    refine ⟨at2, ?_,λh=>absurd h h1⟩;have:yC acc t at2 ([],0,(bg (t.drop at') a first).2.2)=[.i .i64 0,.i .i64 (bg (t.drop at') a first).2.2,.s t,.i .i64 at2]:=by unfold yC;rw [ak h1]
    rw [this];exact aj7 _ _ _ _ _ _ _ _ _ _ (by omega) hf h1 k
   rw [ah (λe=>e h1)];rw [h1] at k;have e2:=e2 h1;obtain ⟨a1,a2,a3⟩:=Vf h1;rw [dY] at a2;have hdd:∀j,(t.drop at').drop ((bg (t.drop at') a first).2.1+j)=t.drop (at2+j):=by intro j;rw [oQ,e2,gX]
   have agW:(t.drop at').drop (bg (t.drop at') a first).2.1=t.drop at2:=by rw [oQ,e2]
   have hal:(bg (t.drop at') a first).1.length<=at2:=by split at a3<;>omega
   rw [hdd,agW];generalize (bg (t.drop at') a first).1=X at *;generalize (bg (t.drop at') a first).2.1=j1 at *;obtain ⟨at3,k2,e3⟩:=rowP X t at2 (by omega) ht (by omega);by_cases h2:(eP X (t.drop at2)).2.2=0;rotate_left
   ·rw [ak h2]
    refine ⟨at3, ?_,λh=>absurd h h2⟩;have:yC acc t at3 ([],0,(eP X (t.drop at2)).2.2)=[.i .i64 0,.i .i64 (eP X (t.drop at2)).2.2,.s t,.i .i64 at3]:=by unfold yC;rw [ak h2]
    rw [this];exact aj9 _ _ _ _ _ _ _ _ _ _ _ _ _ (by omega) hf h2 k k2
   rw [ah (λe=>e h2)];rw [h2] at k2;have e3:=e3 h2;obtain ⟨_,q2,_,_,q5⟩:=Vm h2;obtain ⟨v1,v2,v3,_,_⟩:=iY q2;rw [dY] at v3;have e3':at2+(eP X (t.drop at2)).2.1=at3:=e3.symm;rw [e3'];have hrow:GV.g [.l ((eP X (t.drop at2)).1.1.map ent),.i .u64 (eP X (t.drop at2)).1.2]=row (eP X (t.drop at2)).1:=rfl;obtain ⟨at4,ih,e4⟩:=abS t ht n hn m (acc++[(eP X (t.drop at2)).1]) X at3 (by rw [bY,uy];omega) (by omega) (by omega);have hfalse:decide (((acc++[(eP X (t.drop at2)).1]).length:Int)=0)=false:=by simp;omega
   have hl:((acc++[(eP X (t.drop at2)).1]).length:Int)=(acc.length:Int)+1:=by simp
   rw [hfalse] at ih e4;rw [hl,xH] at ih;generalize (eP X (t.drop at2)).1=Q at *;generalize (eP X (t.drop at2)).2.1=j2 at *;have hout:yC acc t at4 (if (eX m X false (t.drop at3)).2.2≠0 then ([],0,(eX m X false (t.drop at3)).2.2) else (Q::(eX m X false (t.drop at3)).1,j1+j2+(eX m X false (t.drop at3)).2.1,0))=yC (acc++[Q]) t at4 (eX m X false (t.drop at3)):=by
    unfold yC;by_cases hq:(eX m X false (t.drop at3)).2.2=0
    ·simp [hq]
    ·simp [hq]
   refine ⟨at4, ?_, ?_⟩
   ·rw [hout]
    exact aj8 _ _ _ _ _ _ _ _ _ _ _ _ _ (by omega) hf (wrap64 (by omega) (by omega)) (by simp;omega) k k2 (by rw [hrow];exact ih)
   ·by_cases hq:(eX m X false (t.drop at3)).2.2=0
    ·rw [ah (λe=>e hq)]
     intro _;have:=e4 hq;simp only;omega
    ·rw [ak hq]
     intro h;exact absurd h hq
def DJ (e:Int):List Row×Nat×Int:=([],0,e)
/-- A table that stands next. -/
def jP (s:List UInt8):List Row×Nat×Int:=
 if (au s).2.2≠0 then DJ (au s).2.2 else
 if 256 < (au s).1 then DJ 13 else
 if (eX (au s).1 [] true (s.drop (au s).2.1)).2.2≠0 then DJ (eX (au s).1 [] true (s.drop (au s).2.1)).2.2 else
 ((eX (au s).1 [] true (s.drop (au s).2.1)).1,(au s).2.1+(eX (au s).1 [] true (s.drop (au s).2.1)).2.1,0)
theorem ahO (t:List UInt8) (at':Nat) (h:at'<=t.length) (ht:t.length<=100000000) :
 ∃at2:Nat,TT.lim 114 [.s t,.i .i64 at']=some [.i .i64 0,.l ((jP (t.drop at')).1.map row),.i .i64 (jP (t.drop at')).2.2,.s t,.i .i64 at2]/\((jP (t.drop at')).2.2=0->at2=at'+(jP (t.drop at')).2.1):=by
 have k1:=yJ t at' h (by omega);unfold jP;by_cases he:(au (t.drop at')).2.2=0;rotate_left
 ·obtain ⟨e1,e2⟩:=Ep he
  rw [e1,e2] at k1;rw [ak he];generalize (au (t.drop at')).2.2=e at *;refine ⟨at',aA rfl rfl ?_,λh=>absurd h he⟩;simp [k1,he,DJ]
 obtain ⟨v1,v2,v3,v4,_⟩:=iY he;rw [ah (λe=>e he)];rw [he] at k1;rw [dY] at v3;rw [oQ];by_cases h16:256 < (au (t.drop at')).1
 ·have zy:(256:Int) < ((au (t.drop at')).1:Nat):=by omega
  rw [ak h16];generalize (au (t.drop at')).1=n at *;generalize (au (t.drop at')).2.1=i at *;refine ⟨at'+i,aA rfl rfl ?_,λh=>by cases h⟩;simp only [Af] at k1;simp [k1,h16,zy,DJ]
 obtain ⟨at2,k2,e2⟩:=abS t ht (au (t.drop at')).1 (by omega) (au (t.drop at')).1 [] [] (at'+(au (t.drop at')).2.1) (by simp) (by omega) (by simp);generalize (au (t.drop at')).1=n at *;generalize (au (t.drop at')).2.1=i at *;rw [ah h16];have zy:¬ (256:Int) < (n:Int):=by omega
 have w:=wrap64 (n:=(n:Int)) (by omega) (by omega);have hc:(0:Int)<=(n:Int)/\32 * (n:Int)<=281474976710656/\(n:Int)<=1152921504606846976:=by omega
 rw [show decide ((([]:List Row).length:Int)=0)=true from rfl] at k2 e2;have k2':TT.lim 115 [.l [],.s [],.i .i64 n,.i .i64 0,.s t,.i .i64 ((at':Int)+(i:Int))]=_:=k2;generalize eX n [] true (t.drop (at'+i))=r at *;refine ⟨at2,aA rfl rfl ?_,λh=>?_⟩
 ·simp only [Af] at k1
  unfold yC at k2';by_cases hq:r.2.2=0
  ·simp only [hq,ne_eq,not_true_eq_false,if_false,fJ] at k2' ⊢
   simp [k1,h16,zy,w,hc,k2',GV.fQ]
  ·simp only [hq,ne_eq,not_false_eq_true,if_true] at k2' ⊢
   simp [k1,h16,zy,w,hc,k2',GV.fQ,DJ]
 ·by_cases hq:r.2.2=0
  ·rw [ah (λe=>e hq)]
   have:=e2 hq;simp only;omega
  ·rw [ak hq] at h
   exact absurd h hq
/-- A whole text, as a table. -/
def oO (s:List UInt8):List Row×Int:=
 if (jP s).2.2≠0 then ([],(jP s).2.2) else if (jP s).2.1 < s.length then ([],10) else ((jP s).1,0)
theorem Ve:∀ (m:Nat) (a:List UInt8) (first:Bool) (s:List UInt8),(eX m a first s).2.2=0->(eX m a first s).2.1<=s.length/\(eX m a first s).1.length=m
 | 0,a,first,s,_=>by simp [eX]
 | m+1,a,first,s,h=>by
   rw [OY] at h ⊢;by_cases h1:(bg s a first).2.2=0;rotate_left
   ·rw [ak h1] at h;exact absurd h h1
   rw [ah (λe=>e h1)] at h ⊢;by_cases h2:(eP (bg s a first).1 (s.drop (bg s a first).2.1)).2.2=0;rotate_left
   ·rw [ak h2] at h;exact absurd h h2
   rw [ah (λe=>e h2)] at h ⊢;by_cases h3:(eX m (bg s a first).1 false (s.drop ((bg s a first).2.1+(eP (bg s a first).1 (s.drop (bg s a first).2.1)).2.1))).2.2=0;rotate_left
   ·rw [ak h3] at h;exact absurd h h3
   rw [ah (λe=>e h3)];obtain ⟨a1,a2,_⟩:=Vf h1;obtain ⟨_,q2,_,_,q5⟩:=Vm h2;obtain ⟨v1,v2,v3,_,_⟩:=iY q2;rw [dY] at v3;obtain ⟨b1,b2⟩:=Ve m _ _ _ h3;rw [dY] at b1;exact ⟨by simp only;omega,by simp [b2]⟩
theorem aaC {s:List UInt8} (h:(jP s).2.2=0):(au s).2.2=0/\(au s).1<=256/\(eX (au s).1 [] true (s.drop (au s).2.1)).2.2=0/\(jP s).1=(eX (au s).1 [] true (s.drop (au s).2.1)).1/\
 (jP s).2.1=(au s).2.1+(eX (au s).1 [] true (s.drop (au s).2.1)).2.1/\(jP s).2.1<=s.length:=by
 unfold jP at h ⊢;by_cases h1:(au s).2.2=0;rotate_left
 ·rw [ak h1] at h;exact absurd h h1
 rw [ah (λe=>e h1)] at h ⊢;by_cases h3:256 < (au s).1
 ·rw [ak h3] at h;exact absurd h (by simp [DJ])
 rw [ah h3] at h ⊢;by_cases h4:(eX (au s).1 [] true (s.drop (au s).2.1)).2.2=0;rotate_left
 ·rw [ak h4] at h;exact absurd h h4
 rw [ah (λe=>e h4)];obtain ⟨v1,v2,v3,_,_⟩:=iY h1;obtain ⟨d1,_⟩:=Ve _ _ _ _ h4;rw [dY] at d1;exact ⟨h1,by omega,h4,rfl,rfl,by simp only;omega⟩
theorem aoa (s:List UInt8) (hs:s.length<=100000000):TT.lim 113 [.s s]=some [.l ((oO s).1.map row),.i .i64 (oO s).2]:=by
 obtain ⟨at2,k,e2⟩:=ahO s 0 (by omega) hs;rw [fH,show ((0:Nat):Int)=0 from rfl] at k;rw [fH] at e2;unfold oO;by_cases h1:(jP s).2.2=0;rotate_left
 ·rw [ak h1]
  generalize jP s=r at *;refine bF rfl rfl ?_ (by rfl);simp [k,h1]
 have e2:=e2 h1;obtain ⟨_,_,_,_,_,a7⟩:=aaC h1;rw [ah (λe=>e h1)];rw [h1] at k;rw [iH] at e2;have w:=wrap64 (n:=(s.length:Int) - (at2:Int)) (by omega) (by omega);rw [<- e2] at a7 ⊢;generalize jP s=r at *;by_cases h2:at2 < s.length
 ·rw [ak h2]
  refine bF rfl rfl ?_ rfl;simp [k,w,h2]
 ·rw [ah h2]
  refine bF rfl rfl ?_ rfl;simp [k,w,h2]
def jA:List UInt8->List Row->List UInt8
 | _,[]=>[]
 | a,r::t=>oL a (iF r.1)++(aP r.2.toNat++jA (iF r.1) t)
/-- A table, as it is written. -/
def mD (t:List Row):List UInt8:=aP t.length++jA [] t
def yE (t:List Row):List UInt8×Int:=if vS t≠0 then ([],vS t) else (mD t,0)
theorem Vy:∀ (t:List Row) (a:List UInt8),(∀r∈t,iV r.1=true/\0<=r.2/\r.2 < 18446744073709551616)->(jA a t).length<=40000 * t.length
 | [],a,_=>by simp [jA]
 | r::t,a,h=>by
   obtain ⟨h1,h2,h3⟩:=h r (by simp);have hk:=JH h1;have ho:=abC a (iF r.1) (by omega);have hv:=kQ (n:=r.2.toNat) (by omega);have ih:=Vy t (iF r.1) λq hq=>h q (by simp [hq]);simp only [jA,bY,jT];omega
theorem ahU (L:List GV) (n i:Int) (D:List dH) (N:Int) (a k O V acc:List UInt8) (R:List GV) (j:Nat) (hi:i=j) (h:i < n) (hg:L[j]? = some (row (D,N))) (hw:IntKind.i64.wrap (i+1)=i+1) (k1:TT.lim 40 [.l (D.map ent)]=some [.s k]) (k2:TT.lim 72 [.s a,.s k]=some [.s O])
 (k3:TT.lim 41 [.i .u64 N]=some [.s V]) (hb1:2 * (acc.length+O.length)<=281474976710656/\acc.length+O.length<=281474976710656) (hb2:2 * (acc.length+(O.length+V.length))<=281474976710656/\acc.length+(O.length+V.length)<=281474976710656)
 (ih:TT.lim 71 [.s k,.l L,.i .i64 n,.i .i64 (i+1),.l (dU acc++(dU O++dU V))]=some R) :
 TT.lim 71 [.s a,.l L,.i .i64 n,.i .i64 i,.l (dU acc)]=some R:=by
 subst hi;have ok1:=I9 O;have ok2:=I9 V;refine aA rfl rfl ?_;simp [-List.all_eq_true,h,hg,hw,k1,k2,k3,ok1,ok2,hb1,hb2,gX,ih]
theorem aaJ (l:List Row) (hl:l.length<=1000) (hf:∀r∈l,iV r.1=true/\0<=r.2/\r.2 < 18446744073709551616):∀ (m i:Nat) (a acc:List UInt8),i+m=l.length->a.length<=100000->acc.length<=10+40000 * i->
 TT.lim 71 [.s a,.l (l.map row),.i .i64 l.length,.i .i64 i,.l (dU acc)]=some [.i .i64 0,.l (dU (acc++jA a (l.drop i)))]
 | 0,i,a,acc,hi,ha,hacc=>by
   have hd:l.drop i=[]:=iZ (by omega);have h:¬ ((i:Int) < l.length):=by omega
   rw [hd];refine aA rfl rfl ?_;simp [h,jA]
 | m+1,i,a,acc,hi,ha,hacc=>by
   have hlt:i < l.length:=by omega
   obtain ⟨h1,h2,h3⟩:=hf l[i] (jE hlt);have hk:=JH h1;have k1:=TB l[i].1 h1;have k2:=ajg a (iF l[i].1) (by omega) (by omega);have ho:=abC a (iF l[i].1) (by omega);have k3:=vX l[i].2.toNat (by omega);rw [show ((l[i].2.toNat:Nat):Int)=l[i].2 by omega] at k3;have hv:=kQ (n:=l[i].2.toNat) (by omega);have ih:=aaJ l hl hf m (i+1) (iF l[i].1) (acc++(oL a (iF l[i].1)++aP l[i].2.toNat)) (by omega) (by omega) (by simp only [bY];omega);have he:acc++jA a (l.drop i)=acc++(oL a (iF l[i].1)++aP l[i].2.toNat)++jA (iF l[i].1) (l.drop (i+1)):=by
    rw [kS hlt];simp [jA]
   rw [he];rw [QY acc,QY] at ih;rw [show ((i+1:Nat):Int)=(i:Int)+1 by omega] at ih;exact ahU _ _ _ l[i].1 l[i].2 a _ _ _ acc _ i rfl (by omega) (by simp [hlt]) (wrap64 (by omega) (by omega)) k1 k2 k3 (by omega) (by omega) ih
theorem ahT (t:List Row) (ht:Rows t) (hf:EF t):TT.lim 70 [.l (t.map row)]=some [.s (yE t).1,.i .i64 (yE t).2]:=by
 have k1:=Yo t ht hf;unfold yE;by_cases hc:vS t=0;rotate_left
 ·rw [ak hc]
  refine bF rfl rfl ?_ (by rfl);simp [k1,hc]
 rw [ah (λe=>e hc)];rw [hc] at k1;have h256:=((Rf t).1 hc).1;have Jz:∀r∈t,iV r.1=true/\0<=r.2/\r.2 < 18446744073709551616:=λr hr=>⟨hf r hr,(ht.2 r hr).2.1,(ht.2 r hr).2.2⟩
 have k2:=vX t.length (by omega);have l2:=kQ (n:=t.length) (by omega);have k3:=aaJ t (by omega) Jz t.length 0 [] (aP t.length) (by omega) (by simp) (by omega);rw [fH,show ((0:Nat):Int)=0 from rfl] at k3;have hlen:=Vy t [] Jz;have w:=jL (n:=(t.length:Int)) (by omega) (by omega);have ok:=I9 (aP t.length);have hb:2 * (aP t.length).length<=281474976710656/\(aP t.length).length<=281474976710656:=by omega
 have hbg:=Q5 (mD t);have hpl:(dU (mD t)).length<=281474976710656:=by
  rw [Ya];unfold mD;rw [bY];omega
 have hk3:TT.lim 71 [.s [],.l (t.map row),.i .i64 t.length,.i .i64 0,.l (dU (aP t.length))]=some [.i .i64 0,.l (dU (mD t))]:=k3;generalize dU (mD t)=PG at *;generalize mD t=P at *;generalize hVG:dU (aP t.length)=VG at *;have hvl:VG.length=(aP t.length).length:=by rw [<- hVG,Ya]
 rw [<- hvl] at hb;have hlm:(t.map row).length=t.length:=by simp
 generalize t.map row=L at *;refine bF rfl rfl ?_ rfl;simp [-List.all_eq_true,k1,hlm,w,k2,hVG,ok,hb,hk3,hbg,hpl]
theorem Ru {x:dH} (h:pz x=0):x.1.length<=64/\x.2.length<=256:=by
 have hu:∀ (s:List UInt8) (lo hi:Int),iT s lo hi=0->(s.length:Int)<=hi:=by
  intro s lo hi h;unfold iT at h;split at h
  ·cases h
  ·split at h
   ·cases h
   ·omega
 unfold pz at h;by_cases h1:iT x.1 1 64=0
 ·rw [ah (λe=>e h1)] at h
  have a:=hu _ _ _ h1;have b:=hu _ _ _ h;omega
 ·rw [ak h1] at h;exact absurd h h1
theorem acX {s:List UInt8} (h:(dD s).2.2=0):aP (dD s).1.length++(dD s).1=s.take (dD s).2.1:=by
 unfold dD at h ⊢;by_cases h1:(au s).2.2=0;rotate_left
 ·rw [ak h1] at h;exact absurd h h1
 rw [ah (λe=>e h1)] at h ⊢;obtain ⟨v1,v2,v3,v4,v5⟩:=iY h1;by_cases h2:s.length - (au s).2.1 < (au s).1
 ·rw [ak h2] at h;cases h
 rw [ah h2];simp only [nK,dY];rw [IE (by omega),v5,yU]
theorem afn {s:List UInt8} (h:(bQ s).2.2=0):gY (bQ s).1=s.take (bQ s).2.1:=by
 obtain ⟨_,_,_,_,_,h1,h2,h3,h4⟩:=Nb h;rw [h3,h4];unfold gY;simp only;have p1:=acX h1;have p2:=acX h2;rw [p1,List.append_assoc,p2,yU]
theorem YU:∀ (m:Nat) (p:Option dH) (s:List UInt8),(dX m p s).2.2=0->(dX m p s).1.flatMap gY=s.take (dX m p s).2.1/\pq (p.map (·.1)) (dX m p s).1=0
 | 0,p,s,_=>by simp [dX,pq]
 | m+1,p,s,h=>by
   rw [MW] at h ⊢;by_cases h1:(bQ s).2.2=0;rotate_left
   ·rw [ak h1] at h;exact absurd h h1
   rw [ah (λe=>e h1)] at h ⊢;by_cases h2:wP p (bQ s).1=0;rotate_left
   ·rw [ak h2] at h;exact absurd h h2
   rw [ah (λe=>e h2)] at h ⊢;by_cases h3:(dX m (some (bQ s).1) (s.drop (bQ s).2.1)).2.2=0;rotate_left
   ·rw [ak h3] at h;exact absurd h h3
   rw [ah (λe=>e h3)];obtain ⟨b1,b2⟩:=YU m (some (bQ s).1) _ h3;obtain ⟨_,_,a3,_⟩:=Nb h1;have p1:=afn h1;refine ⟨by simp only [iK,b1,p1,yU], ?_⟩;unfold pq;rw [ah (λe=>e a3)];cases p with
   | none=>exact b2
   | some k=>
     have h2':vP k.1 (bQ s).1.1=0:=h2;unfold vP at h2';simp only [fV];by_cases c1:(bQ s).1.1=k.1
     ·rw [ak c1] at h2';exact absurd h2' (by decide)
     rw [ah c1] at h2' ⊢;by_cases c2:Op.bytesLess (bQ s).1.1 k.1=true
     ·rw [ak c2] at h2';exact absurd h2' (by decide)
     rw [ah c2];exact b2
structure WR (d:List dH) (key:List UInt8):Prop where
 chk:qL d=0
 few:iV d=true
 ents:yS d
 put:iF d=key
theorem afg {s:List UInt8} (h:(jZ s).2.2=0) (hs:s.length<=100000000):WR (jZ s).1 (s.take (jZ s).2.1):=by
 obtain ⟨a1,a2,a3,a4,a5,a6,a7⟩:=YV h;obtain ⟨b1,b2,b3⟩:=Rt _ _ _ a4;obtain ⟨c1,c2⟩:=YU _ _ _ a4;obtain ⟨v1,v2,v3,v4,v5⟩:=iY a1;rw [a5,a6];refine ⟨?_, ?_,⟨by omega,λx hx=>?_⟩, ?_⟩
 ·unfold qL
  rw [ah (by omega),ah (by omega)];exact c2
 ·unfold iV
  rw [aG,decide_eq_true_iff,List.all_eq_true];refine ⟨λx hx=>?_,by omega⟩;obtain ⟨e1,e2⟩:=Ru (b3 x hx).1;unfold Dt;rw [decide_eq_true_iff];omega
 ·obtain ⟨e1,e2⟩:=Ru (b3 x hx).1
  omega
 ·unfold iF
  rw [b2,v5,c1,yU]
theorem YZ {s:List UInt8} (h:(oI s).2=0) (hs:s.length<=100000000):WR (oI s).1 s:=by
 unfold oI at h ⊢;by_cases h1:(jZ s).2.2=0;rotate_left
 ·rw [ak h1] at h;exact absurd h h1
 rw [ah (λe=>e h1)] at h ⊢;by_cases h2:(jZ s).2.1 < s.length
 ·rw [ak h2] at h;exact absurd h (by simp)
 rw [ah h2];have:=afg h1 hs;rw [mP (by omega)] at this;exact this
theorem aj2 {s a:List UInt8} {first:Bool} (h:(bg s a first).2.2=0) (hf:first=true->a=[]):oL a (bg s a first).1=s.take (bg s a first).2.1/\(first=false->a < (bg s a first).1):=by
 have ha:(if first=true then [] else a)=a:=by
  cases first with
  | true=>rw [ak rfl,hf rfl]
  | false=>rfl
 unfold bg at h ⊢;simp only [ha] at h ⊢;by_cases h1:(au s).2.2=0;rotate_left
 ·rw [ak h1] at h;exact absurd h h1
 rw [ah (λe=>e h1)] at h ⊢;by_cases h2:a.length < (au s).1
 ·rw [ak h2] at h;exact absurd h (by simp [jR])
 rw [ah h2] at h ⊢;by_cases h3:(au (s.drop (au s).2.1)).2.2=0;rotate_left
 ·rw [ak h3] at h;exact absurd h h3
 rw [ah (λe=>e h3)] at h ⊢;by_cases h4:s.length - ((au s).2.1+(au (s.drop (au s).2.1)).2.1) < (au (s.drop (au s).2.1)).1
 ·rw [ak h4] at h;exact absurd h (by simp [jR])
 rw [ah h4] at h ⊢;obtain ⟨v1,v2,v3,v4,v5⟩:=iY h1;obtain ⟨u1,u2,u3,u4,u5⟩:=iY h3;have hx:((s.drop ((au s).2.1+(au (s.drop (au s).2.1)).2.1)).take (au (s.drop (au s).2.1)).1).length=(au (s.drop (au s).2.1)).1:=by
  rw [nK,dY];omega
 generalize hX:(s.drop ((au s).2.1+(au (s.drop (au s).2.1)).2.1)).take (au (s.drop (au s).2.1)).1=X at *;by_cases h5:first=false/\Op.bytesLess a (a.take (au s).1++X)=false
 ·rw [ak h5] at h;exact absurd h (by simp [jR])
 rw [ah h5] at h ⊢;by_cases h6:(au s).1 < common a (a.take (au s).1++X)
 ·rw [ak h6] at h;exact absurd h (by simp [jR])
 rw [ah h6];have hge:=YB (au s).1 a X (by omega);have hc:common a (a.take (au s).1++X)=(au s).1:=by omega
 refine ⟨?_,λhf=>?_⟩
 ·unfold oL
  simp only [hc];have hl:(a.take (au s).1++X).length - (au s).1=(au (s.drop (au s).2.1)).1:=by
   rw [bY,nK,hx];omega
  have hd:(a.take (au s).1++X).drop (au s).1=X:=by
   rw [Qs (by rw [nK];omega)];rw [iZ (by rw [nK];omega)];rfl
  rw [hl,hd,v5,u5,<- hX];rw [yU,yU,<- oQ]
 ·simp only [hf,true_and] at h5
  rw [<- L9];simpa using h5
theorem abU:∀ (m:Nat) (a:List UInt8) (first:Bool) (s:List UInt8),(eX m a first s).2.2=0->(first=true->a=[])->a.length+s.length<=100000000->
 jA a (eX m a first s).1=s.take (eX m a first s).2.1/\Ak (eX m a first s).1/\(first=false->∀r∈(eX m a first s).1,a < K r)/\(∀r∈(eX m a first s).1,uh r=0/\iV r.1=true/\yS r.1/\0<=r.2/\r.2 < 18446744073709551616)
 | 0,a,first,s,_,_,_=>by simp [eX,jA,Ak]
 | m+1,a,first,s,h,hf,hl=>by
   rw [OY] at h ⊢;by_cases h1:(bg s a first).2.2=0;rotate_left
   ·rw [ak h1] at h;exact absurd h h1
   rw [ah (λe=>e h1)] at h ⊢;by_cases h2:(eP (bg s a first).1 (s.drop (bg s a first).2.1)).2.2=0;rotate_left
   ·rw [ak h2] at h;exact absurd h h2
   rw [ah (λe=>e h2)] at h ⊢;by_cases h3:(eX m (bg s a first).1 false (s.drop ((bg s a first).2.1+(eP (bg s a first).1 (s.drop (bg s a first).2.1)).2.1))).2.2=0;rotate_left
   ·rw [ak h3] at h;exact absurd h h3
   rw [ah (λe=>e h3)];obtain ⟨a1,a2,a3⟩:=Vf h1;obtain ⟨p1,p2⟩:=aj2 h1 hf;obtain ⟨q1,q2,q3,q4,q5⟩:=Vm h2;have hxl:(bg s a first).1.length<=a.length+(bg s a first).2.1:=by
    cases first<;>simp at a3<;>omega
   obtain ⟨v1,v2,v3,v4,v5⟩:=iY q2;have dk:=YZ q1 (by omega);obtain ⟨b1,b2,b3,b4⟩:=abU m _ false _ h3 (λe=>by cases e) (by rw [dY];omega);have hK:K (eP (bg s a first).1 (s.drop (bg s a first).2.1)).1=(bg s a first).1:=by rw [q4];exact dk.put
   have hN:(eP (bg s a first).1 (s.drop (bg s a first).2.1)).1.2.toNat=(au (s.drop (bg s a first).2.1)).1:=by rw [q4];simp
   simp only;refine ⟨?_, ?_,λJz r hr=>?_,λr hr=>?_⟩
   ·show oL a (K _)++(aP _++jA (K _) _)=_
    rw [hK,hN,b1,p1,v5,<- q5];rw [yU,yU,List.append_assoc]
   ·refine vG.2 ⟨λr hr=>?_,b2⟩
    rw [hK];exact b3 rfl r hr
   ·rcases dn.1 hr with rfl | hr
    ·rw [hK];exact p2 Jz
    ·exact Qy (p2 Jz) (b3 rfl r hr)
   ·rcases dn.1 hr with rfl | hr
    ·rw [q4]
     refine ⟨?_,dk.few,dk.ents,by simp only;omega,by simp only;omega⟩;rw [Vx];exact ⟨dk.chk,by simp only;omega⟩
    ·exact b4 r hr
structure wJ (t:List Row):Prop where
 ok:Ok t
 few:EF t
 rows:Rows t
theorem wJ.tb {t:List Row} (h:wJ t):vS t=0:=(Rf t).2 h.ok
theorem ahQ {s:List UInt8} (h:(jP s).2.2=0) (hs:s.length<=100000000):mD (jP s).1=s.take (jP s).2.1/\wJ (jP s).1:=by
 obtain ⟨a1,a2,a3,a4,a5,a6⟩:=aaC h;obtain ⟨v1,v2,v3,v4,v5⟩:=iY a1;obtain ⟨l1,l2⟩:=Ve _ _ _ _ a3;obtain ⟨b1,b2,_,b4⟩:=abU _ _ _ _ a3 (λ_=>rfl) (by rw [dY];simp;omega);rw [a4,a5];refine ⟨?_,⟨by omega,b2,λr hr=>(b4 r hr).1⟩,λr hr=>(b4 r hr).2.1,by omega,λr hr=>(b4 r hr).2.2⟩;unfold mD;rw [l2,v5,b1,yU]
theorem ac1:wJ []:=⟨⟨by simp,List.Pairwise.nil,by simp⟩,λr hr=>by simp at hr,by simp,by simp⟩
theorem aoc {s:List UInt8} (hs:s.length<=100000000):wJ (oO s).1/\((oO s).2=0->mD (oO s).1=s)/\((oO s).2≠0->(oO s).1=[]):=by
 unfold oO;by_cases h1:(jP s).2.2=0;rotate_left
 ·rw [ak h1]
  exact ⟨ac1,λh=>absurd h h1,λ_=>rfl⟩
 rw [ah (λe=>e h1)];by_cases h2:(jP s).2.1 < s.length
 ·rw [ak h2]
  exact ⟨ac1,λh=>absurd h (by decide),λ_=>rfl⟩
 rw [ah h2];obtain ⟨b1,b2⟩:=ahQ h1 hs;rw [mP (by omega)] at b1;exact ⟨b2,λ_=>b1,λh=>absurd rfl h⟩
theorem wJ.len {t:List Row} (h:wJ t):t.length<=256:=h.ok.1
theorem wJ.good {t:List Row} (h:wJ t):xE t:=⟨Nat.le_trans h.len (by decide),h.few,h.rows⟩
theorem acW (a x:List UInt8) (ha:a.length<=100000000):dD (aP a.length++(a++x))=(a,(aP a.length).length+a.length,0):=by
 have h:=Es a.length (a++x) (by omega);unfold dD;rw [h];simp only [ne_eq,not_true_eq_false,if_false];have hl:(aP a.length++(a++x)).length=(aP a.length).length+(a.length+x.length):=by simp
 rw [hl,ah (by omega),qE,QB]
theorem afm (e:dH) (y:List UInt8) (h:pz e=0):bQ (gY e++y)=(e,(gY e).length,0):=by
 obtain ⟨l1,l2⟩:=Ru h;have e1:gY e++y=aP e.1.length++(e.1++(aP e.2.length++(e.2++y))):=by unfold gY;simp
 have h1:=acW e.1 (aP e.2.length++(e.2++y)) (by omega);have h2:=acW e.2 y (by omega);have hd:(aP e.1.length++(e.1++(aP e.2.length++(e.2++y)))).drop ((aP e.1.length).length+e.1.length)=aP e.2.length++(e.2++y):=by
  rw [<- List.append_assoc,<- bY,qE]
 have hl:(gY e).length=(aP e.1.length).length+e.1.length+((aP e.2.length).length+e.2.length):=by unfold gY;simp;omega
 unfold bQ;rw [e1,h1];simp only [ne_eq,not_true_eq_false,if_false,hd,h2];have he:pz (e.1,e.2)=0:=h;rw [he,hl];simp
theorem aes {p:Option (List UInt8)} {x:dH} {xs:List dH} (h:pq p (x::xs)=0):pz x=0/\(∀k,p=some k->vP k x.1=0)/\pq (some x.1) xs=0:=by
 unfold pq at h;by_cases h1:pz x=0;rotate_left
 ·rw [ak h1] at h;exact absurd h h1
 rw [ah (λe=>e h1)] at h;cases p with
 | none=>exact ⟨h1,(λk hk=>by cases hk),h⟩
 | some k=>
   simp only at h;by_cases c1:x.1=k
   ·rw [ak c1] at h;exact absurd h (by decide)
   rw [ah c1] at h;by_cases c2:Op.bytesLess x.1 k=true
   ·rw [ak c2] at h;exact absurd h (by decide)
   rw [ah c2] at h;refine ⟨h1,λk' hk=>?_,h⟩;cases hk;unfold vP;rw [ah c1,ah c2]
theorem YT:∀ (d:List dH) (p:Option dH) (y:List UInt8),pq (p.map (·.1)) d=0->dX d.length p (d.flatMap gY++y)=(d,(d.flatMap gY).length,0)
 | [],p,y,_=>by simp [dX]
 | x::d,p,y,h=>by
   obtain ⟨h1,h2,h3⟩:=aes h;have he:=afm x (d.flatMap gY++y) h1;have hs:(x::d).flatMap gY++y=gY x++(d.flatMap gY++y):=by simp
   have ih:=YT d (some x) y h3;have hb:wP p x=0:=by
    cases p with
    | none=>rfl
    | some k=>exact h2 k.1 rfl
   rw [jT,MW,hs,he];simp only [ne_eq,not_true_eq_false,if_false,qE,hb,ih];simp
theorem aff (d:List dH) (y:List UInt8) (h:qL d=0):jZ (iF d++y)=(d,(iF d).length,0):=by
 unfold qL at h;by_cases h1:d.length=0
 ·rw [ak h1] at h;exact absurd h (by decide)
 rw [ah h1] at h;by_cases h2:16 < d.length
 ·rw [ak h2] at h;exact absurd h (by decide)
 rw [ah h2] at h;have hv:=Es d.length (d.flatMap gY++y) (by omega);have hk:iF d++y=aP d.length++(d.flatMap gY++y):=by unfold iF;simp
 have hl:=YT d none y h;unfold jZ;rw [hk,hv];simp only [ne_eq,not_true_eq_false,if_false,h1,h2,qE,hl];unfold iF;simp
theorem YX (d:List dH) (h:qL d=0):oI (iF d)=(d,0):=by
 have:=aff d [] h;rw [mM] at this;unfold oI;rw [this];simp
theorem aeE (a s:List UInt8):a.take (common a s)++s.drop (common a s)=s:=by
 rw [YC,BZ]
theorem aj1 (a t y:List UInt8) (first:Bool) (hf:first=true->a=[]) (hn:first=false->a < t) (ht:t.length<=100000000):bg (oL a t++y) a first=(t,(oL a t).length,0):=by
 have ha:(if first=true then [] else a)=a:=by
  cases first with
  | true=>rw [ak rfl,hf rfl]
  | false=>rfl
 obtain ⟨c1,c2⟩:=MQ a t;have e1:oL a t++y=aP (common a t)++(aP (t.length - common a t)++(t.drop (common a t)++y)):=by unfold oL;simp
 have v1:=Es (common a t) (aP (t.length - common a t)++(t.drop (common a t)++y)) (by omega);have v2:=Es (t.length - common a t) (t.drop (common a t)++y) (by omega);have hl:(oL a t).length=(aP (common a t)).length+(aP (t.length - common a t)).length+(t.length - common a t):=by unfold oL;simp;omega
 have hd:(aP (common a t)++(aP (t.length - common a t)++(t.drop (common a t)++y))).drop ((aP (common a t)).length+(aP (t.length - common a t)).length)=t.drop (common a t)++y:=by
  rw [<- List.append_assoc,<- bY,qE]
 have hx:(t.drop (common a t)++y).take (t.length - common a t)=t.drop (common a t):=by
  rw [<- dY,QB]
 have hb:¬ (first=false/\Op.bytesLess a t=false):=by
  rintro ⟨h1,h2⟩
  have:=(L9 a t).2 (hn h1);rw [h2] at this;cases this
 unfold bg;simp only [ha];rw [e1,v1];simp only [ne_eq,not_true_eq_false,if_false,qE,v2,hd,hx,aeE];rw [ah (by omega),ah (by simp;omega),ah hb,ah (by omega),hl]
theorem abT:∀ (l:List Row) (a:List UInt8) (first:Bool) (y:List UInt8),(first=true->a=[])->(first=false->∀r∈l,a < K r)->Ak l->(∀r∈l,uh r=0/\iV r.1=true/\0<=r.2/\r.2 < 18446744073709551616)->
 eX l.length a first (jA a l++y)=(l,(jA a l).length,0)
 | [],a,first,y,_,_,_,_=>by simp [eX,jA]
 | r::l,a,first,y,hf,hn,hr,hc=>by
   obtain ⟨h1,h2⟩:=vG.1 hr;obtain ⟨q1,q2,q3,q4⟩:=hc r (by simp);have hk:(K r).length<=30000:=JH q2;rw [Vx] at q1;have hs:jA a (r::l)++y=oL a (K r)++(aP r.2.toNat++(jA (K r) l++y)):=by simp [jA]
   have hp:=aj1 a (K r) (aP r.2.toNat++(jA (K r) l++y)) first hf (λe=>hn e r (by simp)) (by omega)
   have hv:=Es r.2.toNat (jA (K r) l++y) (by omega);have hd:=YX r.1 q1.1;have ih:=abT l (K r) false y (λe=>by cases e) (λ_=>h1) h2 λq hq=>hc q (by simp [hq]);have hdd:(oL a (K r)++(aP r.2.toNat++(jA (K r) l++y))).drop ((oL a (K r)).length+(aP r.2.toNat).length)=jA (K r) l++y:=by
    rw [<- List.append_assoc,<- bY,qE]
   have hq:eP (K r) (aP r.2.toNat++(jA (K r) l++y))=(r,(aP r.2.toNat).length,0):=by
    unfold eP;rw [hv,hd];simp only [ne_eq,not_true_eq_false,if_false];rw [ah (by omega)];have:((r.2.toNat:Nat):Int)=r.2:=by omega
    rw [this]
   rw [jT,OY,hs,hp];simp only [ne_eq,not_true_eq_false,if_false,qE,hq,hdd,ih];simp [jA,gX]
theorem ahP (t:List Row) (y:List UInt8) (h:wJ t):jP (mD t++y)=(t,(mD t).length,0):=by
 have hl:=h.len;have hv:=Es t.length (jA [] t++y) (by omega);have hk:mD t++y=aP t.length++(jA [] t++y):=by unfold mD;simp
 have hp:=abT t [] true y (λ_=>rfl) (λe=>by cases e) h.ok.2.1 λr hr=>⟨h.ok.2.2 r hr,h.few r hr,(h.rows.2 r hr).2.1,(h.rows.2 r hr).2.2⟩
 unfold jP;rw [hk,hv];simp only [ne_eq,not_true_eq_false,if_false,qE,hp];rw [ah (by omega)];unfold mD;simp
theorem aob (t:List Row) (h:wJ t):oO (mD t)=(t,0):=by
 have:=ahP t [] h;rw [mM] at this;unfold oO;rw [this];simp
structure One where
 deep:Int
 tag:Int
 typ:Int
 num:Int
 text:List UInt8
inductive aH where
 | mk (tag typ num:Int) (text:List UInt8) (l:List aH)
def one (x:One):GV:=.g [.i .u8 x.deep,.i .u64 x.tag,.i .i8 x.typ,.i .u64 x.num,.s x.text]
@[simp] theorem arB (x:One):(one x).cells=[.i .u8 x.deep,.i .u64 x.tag,.i .i8 x.typ,.i .u64 x.num,.s x.text]:=rfl
mutual
def kW:aH->GV
 | .mk t y n s l=>.g [.i .u64 t,.i .i64 y,.i .u64 n,.s s,.l (aF l)]
def aF:List aH->List GV
 | []=>[]
 | f::l=>kW f::aF l
end
theorem pI:∀ (a:List aH),(aF a).length=a.length
 | []=>rfl
 | f::a=>by simp only [aF,jT,pI a]
structure aB where
 kind:Int
 id:Int
 min:Int
 max:Int
 chosen:Int
 flags:Int
 cost:Int
 priority:Int
 deadline:Int
 retry:Int
 epoch:Int
 base:Int
 digest:Int
 lag:Int
 code:Int
 want:Int
 remaining:Int
 allowed:Bool
 name:List UInt8
 region:List UInt8
 note:List UInt8
 d:List dH
 t:List Row
/-- A message: what it has, and its rest. -/
def jf (b:aB) (r:List GV):GV:=.g [.i .i64 b.kind,.i .u64 b.id,.i .u64 b.min,.i .u64 b.max,.i .u64 b.chosen,.i .u64 b.flags,.i .u64 b.cost,.i .u64 b.priority,.i .u64 b.deadline,.i .u64 b.retry,.i .u64 b.epoch,.i .u64 b.base,.i .u64 b.digest,.i .u64 b.lag,.i .u64 b.code,.i .u64 b.want,.i .i64 b.remaining,.b b.allowed,.s b.name,.s b.region,.s b.note,.l (b.d.map ent),.l (b.t.map row),.l r]
theorem qQ (b:aB) (r:List GV):GV.g [.i .i64 b.kind,.i .u64 b.id,.i .u64 b.min,.i .u64 b.max,.i .u64 b.chosen,.i .u64 b.flags,.i .u64 b.cost,.i .u64 b.priority,.i .u64 b.deadline,.i .u64 b.retry,.i .u64 b.epoch,.i .u64 b.base,.i .u64 b.digest,.i .u64 b.lag,.i .u64 b.code,.i .u64 b.want,.i .i64 b.remaining,.b b.allowed,.s b.name,.s b.region,.s b.note,.l (b.d.map ent),.l (b.t.map row),.l r]=jf b r:=rfl
@[simp] theorem xq (b:aB) (r:List GV):(jf b r).cells=[.i .i64 b.kind,.i .u64 b.id,.i .u64 b.min,.i .u64 b.max,.i .u64 b.chosen,.i .u64 b.flags,.i .u64 b.cost,.i .u64 b.priority,.i .u64 b.deadline,.i .u64 b.retry,.i .u64 b.epoch,.i .u64 b.base,.i .u64 b.digest,.i .u64 b.lag,.i .u64 b.code,.i .u64 b.want,.i .i64 b.remaining,.b b.allowed,.s b.name,.s b.region,.s b.note,.l (b.d.map ent),.l (b.t.map row),.l r]:=rfl
structure oq (b:aB):Prop where
 kind : -9223372036854775808<=b.kind/\b.kind<=9223372036854775807
 id:0<=b.id/\b.id < 18446744073709551616
 min:0<=b.min/\b.min < 18446744073709551616
 max:0<=b.max/\b.max < 18446744073709551616
 chosen:0<=b.chosen/\b.chosen < 18446744073709551616
 flags:0<=b.flags/\b.flags < 18446744073709551616
 cost:0<=b.cost/\b.cost < 18446744073709551616
 priority:0<=b.priority/\b.priority < 18446744073709551616
 deadline:0<=b.deadline/\b.deadline < 18446744073709551616
 retry:0<=b.retry/\b.retry < 18446744073709551616
 epoch:0<=b.epoch/\b.epoch < 18446744073709551616
 base:0<=b.base/\b.base < 18446744073709551616
 digest:0<=b.digest/\b.digest < 18446744073709551616
 lag:0<=b.lag/\b.lag < 18446744073709551616
 code:0<=b.code/\b.code < 18446744073709551616
 want:0<=b.want/\b.want < 18446744073709551616
 remaining : -9223372036854775808<=b.remaining/\b.remaining<=9223372036854775807
 name:b.name.length<=140737488351232
 region:b.region.length<=140737488351232
 note:b.note.length<=140737488351232
 d:yS b.d
 t:Rows b.t
structure bP where
 tag:Int
 use:Int
 from_:Int
 name:List UInt8
def dQ (s:bP):GV:=.g [.i .u64 s.tag,.i .i64 s.use,.i .i64 s.from_,.s s.name]
@[simp] theorem arQ (s:bP):(dQ s).cells=[.i .u64 s.tag,.i .i64 s.use,.i .i64 s.from_,.s s.name]:=rfl
theorem amN (s:bP):GV.g [.i .u64 s.tag,.i .i64 s.use,.i .i64 s.from_,.s s.name]=dQ s:=rfl
def sp1:List bP:=[⟨1,0,1,[109,105,110]⟩,⟨2,0,1,[109,97,120]⟩,⟨3,3,1,[110,97,109,101]⟩,⟨4,3,2,[114,101,103,105,111,110]⟩,⟨5,0,3,[102,108,97,103,115]⟩]
def sp2:List bP:=[⟨1,0,1,[99,104,111,115,101,110]⟩,⟨2,3,1,[110,97,109,101]⟩,⟨3,3,2,[114,101,103,105,111,110]⟩]
def qW:List bP:=[⟨1,0,1,[105,100]⟩,⟨2,4,1,[100,101,115,99,114]⟩,⟨3,0,1,[99,111,115,116]⟩,⟨4,0,2,[112,114,105,111,114,105,116,121]⟩,⟨5,0,3,[100,101,97,100,108,105,110,101]⟩]
def zV:List bP:=[⟨1,0,1,[105,100]⟩,⟨2,1,1,[97,108,108,111,119,101,100]⟩,⟨3,2,1,[114,101,109,97,105,110,105,110,103]⟩,⟨4,0,2,[114,101,116,114,121]⟩,⟨5,3,3,[110,111,116,101]⟩]
def qX:List bP:=[⟨1,0,1,[101,112,111,99,104]⟩,⟨2,5,1,[116,97,98,108,101]⟩,⟨3,3,2,[114,101,103,105,111,110]⟩,⟨4,0,3,[100,105,103,101,115,116]⟩]
def qY:List bP:=[⟨1,0,2,[98,97,115,101]⟩,⟨2,0,2,[101,112,111,99,104]⟩,⟨3,5,2,[116,97,98,108,101]⟩,⟨4,3,2,[114,101,103,105,111,110]⟩,⟨5,0,3,[100,105,103,101,115,116]⟩]
def qZ:List bP:=[⟨1,0,1,[101,112,111,99,104]⟩,⟨2,0,3,[108,97,103]⟩]
def zW:List bP:=[⟨1,0,1,[101,112,111,99,104]⟩,⟨2,0,1,[99,111,100,101]⟩,⟨3,0,2,[119,97,110,116]⟩,⟨4,3,3,[110,111,116,101]⟩]
def nI (k:Int):List bP:=if k=1 then sp1 else if k=2 then sp2 else if k=3 then qW else if k=4 then zV else if k=5 then qX else if k=6 then qY else if k=7 then qZ else if k=8 then zW else []
def jH (k:Int):Int:=if k=1 then 1 else if k=2 then 1 else if k=3 then 1 else if k=4 then 1 else if k=5 then 1 else if k=6 then 2 else if k=7 then 1 else if k=8 then 1 else 0
def aN (k v:Int):List bP:=(nI k).filter λs=>decide (s.from_<=v)
theorem agY:TT.lim 11 []=some [.l (sp1.map dQ)]:=by refine bF rfl rfl ?_ rfl;simp [sp1,dQ]
theorem agX:TT.lim 13 []=some [.l (sp2.map dQ)]:=by refine bF rfl rfl ?_ rfl;simp [sp2,dQ]
theorem aeo:TT.lim 14 []=some [.l (qW.map dQ)]:=by refine bF rfl rfl ?_ rfl;simp [qW,dQ]
theorem aep:TT.lim 15 []=some [.l (zV.map dQ)]:=by refine bF rfl rfl ?_ rfl;simp [zV,dQ]
theorem agc:TT.lim 16 []=some [.l (qX.map dQ)]:=by refine bF rfl rfl ?_ rfl;simp [qX,dQ]
theorem afd:TT.lim 17 []=some [.l (qY.map dQ)]:=by refine bF rfl rfl ?_ rfl;simp [qY,dQ]
theorem adN:TT.lim 18 []=some [.l (qZ.map dQ)]:=by refine bF rfl rfl ?_ rfl;simp [qZ,dQ]
theorem akU:TT.lim 19 []=some [.l (zW.map dQ)]:=by refine bF rfl rfl ?_ rfl;simp [zW,dQ]
theorem TF (k:Int):TT.lim 9 [.i .i64 k]=some [.i .i64 (jH k)]:=by
 refine bF rfl rfl ?_ rfl;unfold jH;by_cases h1:k=1
 ·simp [h1]
 by_cases h2:k=2
 ·simp [h2]
 by_cases h3:k=3
 ·simp [h3]
 by_cases h4:k=4
 ·simp [h4]
 by_cases h5:k=5
 ·simp [h5]
 by_cases h6:k=6
 ·simp [h6]
 by_cases h7:k=7
 ·simp [h7]
 by_cases h8:k=8
 ·simp [h8]
 simp [h1,h2,h3,h4,h5,h6,h7,h8]
theorem TJ (v:Int) (l:List bP) (hl:l.length<=8):∀ (m i:Nat) (acc:List bP),i+m=l.length->acc.length<=i->
 TT.lim 12 [.i .i64 v,.l (acc.map dQ),.l (l.map dQ),.i .i64 l.length,.i .i64 i]=some [.i .i64 0,.l ((acc++(l.drop i).filter λs=>decide (s.from_<=v)).map dQ)]
 | 0,i,acc,hi,ha=>by
   have h0:l.drop i=[]:=iZ (by omega);refine aA rfl rfl ?_;have h:¬ ((i:Int) < l.length):=by omega
   simp [h,h0]
 | m+1,i,acc,hi,ha=>by
   have hlt:i < l.length:=by omega
   have hd:=kS hlt;refine aA rfl rfl ?_;have h:((i:Int) < l.length):=by omega
   have hw:=wrap64 (n:=(i:Int)+1) (by omega) (by omega);have hb1:2 * (acc.length+1) * 40<=281474976710656:=by omega
   have hb2:acc.length<=281474976710655:=by omega
   have hok:(dQ l[i]).fQ 4=true:=rfl;have hcast:((i:Int)+1)=((i+1:Nat):Int):=by omega
   by_cases hf:l[i].from_<=v
   ·have ih:=TJ v l hl m (i+1) (acc++[l[i]]) (by omega) (by simp;omega)
    rw [<- hcast,xH] at ih;simp only [iy,Ai] at ih;simp [-List.getElem_cons_drop,h,hlt,hf,hw,amN,hb1,hb2,hok,ih,hd]
   ·have ih:=TJ v l hl m (i+1) acc (by omega) (by omega)
    rw [<- hcast] at ih;simp [-List.getElem_cons_drop,h,hlt,hf,hw,ih,hd]
theorem amM (k:Int):(nI k).length<=8:=by
 unfold nI;repeat' split
 all_goals (first | (unfold sp1;decide) | (unfold sp2;decide) | (unfold qW;decide) | (unfold zV;decide) | (unfold qX;decide) | (unfold qY;decide) | (unfold qZ;decide) | (unfold zW;decide) | decide)
theorem Bj (v:Int) (l:List bP) (hl:l.length<=8):TT.lim 12 [.i .i64 v,.l [],.l (l.map dQ),.i .i64 l.length,.i .i64 0]=some [.i .i64 0,.l ((l.filter λs=>decide (s.from_<=v)).map dQ)]:=by
 have:=TJ v l hl l.length 0 [] (by omega) (by simp);simpa using this
theorem Og (k v:Int) (h1:1<=v) (h3:v<=3) (hk:jH k<=v):TT.lim 10 [.i .i64 k,.i .i64 v]=some [.l ((aN k v).map dQ)]:=by
 have a1:¬ v < 1:=by omega
 have a3:¬ 3 < v:=by omega
 unfold aN nI;unfold jH at hk;have g1:=Bj v sp1 (by decide);have g2:=Bj v sp2 (by decide);have g3:=Bj v qW (by decide);have g4:=Bj v zV (by decide);have g5:=Bj v qX (by decide);have g6:=Bj v qY (by decide);have g7:=Bj v qZ (by decide);have g8:=Bj v zW (by decide);have e1:=agY;have e2:=agX;have e3:=aeo;have e4:=aep;have e5:=agc;have e6:=afd;have e7:=adN;have e8:=akU;generalize sp1=p1 at *;generalize sp2=p2 at *;generalize qW=p3 at *;generalize zV=p4 at *;generalize qX=p5 at *;generalize qY=p6 at *;generalize qZ=p7 at *;generalize zW=p8 at *;refine bF rfl rfl ?_ rfl;by_cases k1:k=1
 ·simp [k1,a1,a3,e1,g1]
 by_cases k2:k=2
 ·simp [k2,a1,a3,e2,g2]
 by_cases k3:k=3
 ·simp [k3,a1,a3,e3,g3]
 by_cases k4:k=4
 ·simp [k4,a1,a3,e4,g4]
 by_cases k5:k=5
 ·simp [k5,a1,a3,e5,g5]
 by_cases k6:k=6
 ·have a2:¬ v < 2:=by subst k6;simpa using hk
  simp [k6,a1,a2,a3,e6,g6]
 by_cases k7:k=7
 ·simp [k7,a1,a3,e7,g7]
 by_cases k8:k=8
 ·simp [k8,a1,a3,e8,g8]
 simp [k1,k2,k3,k4,k5,k6,k7,k8]
theorem Oj (k v:Int) (h1:1<=v) (h3:v<=3):aN k v=[]↔jH k=0\/v < jH k:=by
 have hv:v=1\/v=2\/v=3:=by omega
 unfold aN nI jH;by_cases k1:k=1
 ·subst k1;rcases hv with rfl | rfl | rfl<;>decide
 by_cases k2:k=2
 ·subst k2;rcases hv with rfl | rfl | rfl<;>decide
 by_cases k3:k=3
 ·subst k3;rcases hv with rfl | rfl | rfl<;>decide
 by_cases k4:k=4
 ·subst k4;rcases hv with rfl | rfl | rfl<;>decide
 by_cases k5:k=5
 ·subst k5;rcases hv with rfl | rfl | rfl<;>decide
 by_cases k6:k=6
 ·subst k6;rcases hv with rfl | rfl | rfl<;>decide
 by_cases k7:k=7
 ·subst k7;rcases hv with rfl | rfl | rfl<;>decide
 by_cases k8:k=8
 ·subst k8;rcases hv with rfl | rfl | rfl<;>decide
 simp [k1,k2,k3,k4,k5,k6,k7,k8]
def aH.tag:aH->Int
 | .mk t _ _ _ _=>t
theorem yt:∀ (a:List aH),aF a=a.map kW
 | []=>rfl
 | f::a=>by simp only [aF,iy,yt a]
mutual
def su:aH->Nat
 | .mk _ _ _ _ l=>cu l+1
def cu:List aH->Nat
 | []=>0
 | f::l=>su f+cu l+1
end
mutual
def pG:aH->Prop
 | .mk t y n s k=>(0<=t/\t < 18446744073709551616/\-128<=y/\y<=127/\0<=n/\n < 18446744073709551616/\s.length<=100000000/\k.length<=1000000)/\dS k
def dS:List aH->Prop
 | []=>True
 | f::r=>pG f/\dS r
end
theorem Bc:∀ {l:List aH},dS l->∀f∈l,pG f
 | f::l,h,g,hg=>by
   simp only [dS] at h;rcases dn.1 hg with rfl | hg
   ·exact h.1
   ·exact Bc h.2 g hg
theorem PW:∀ {l:List aH} {f:aH},f∈l->su f < cu l
 | g::l,f,h=>by
   simp only [cu];rcases dn.1 h with rfl | h
   ·omega
   ·have:=PW h;omega
mutual
/-- What is wrong with fields within so many lists, behind a tag. -/
def uM (w:Nat):aH->Int
 | .mk _ y n s k=>if y=0 then (if s=[]/\k=[] then 0 else 8) else if y=1 then (if n=0/\k=[] then 0 else 8) else if y=2 then (if n=0/\s=[] then (if 8<=w then 9 else gK (w+1) 0 k) else 8) else 8
def gK (w:Nat) (ahead:Int):List aH->Int
 | []=>0
 | f::r=>if f.tag=0 then 18 else if 4294967296 < f.tag then 18 else if f.tag<=ahead then 7 else if uM w f≠0 then uM w f else gK w f.tag r
end
@[simp] theorem FP (t y n:Int) (s:List UInt8) (k:List aH):(kW (.mk t y n s k)).cells=[.i .u64 t,.i .i64 y,.i .u64 n,.s s,.l (aF k)]:=by simp only [kW];rfl
theorem af7 (k:List aH):(aF k).length=0↔k=[]:=by rw [pI,List.length_eq_zero_iff]
theorem ZI:∀ (N:Nat) (l:List aH),cu l < N->dS l->l.length<=1000000->∀w:Nat,w<=8->TT.lim 64 [.l (aF l),.i .i64 w]=some [.i .i64 (gK w 0 l)]
 | 0,l,h,_,_,_,_=>by omega
 | N+1,l,hN,hok,hlen,w,hw8=>by
   have loop:∀m i (ahead:Int),i+m=l.length->TT.lim 65 [.i .i64 w,.i .u64 ahead,.l (aF l),.i .i64 l.length,.i .i64 i]=some (if gK w ahead (l.drop i)=0 then [.i .i64 1] else [.i .i64 0,.i .i64 (gK w ahead (l.drop i))]):=by
    intro m;induction m with
    | zero=>
      intro i ahead hi;have h0:l.drop i=[]:=iZ (by omega);refine aA rfl rfl ?_;have h:¬ ((i:Int) < l.length):=by omega
      simp [h,h0,gK]
    | succ m ih=>
      intro i ahead hi;have hlt:i < l.length:=by omega
      rw [kS hlt];have hf:=Bc hok l[i] (jE hlt);have hs:=PW (jE hlt);have hget:(aF l)[i]? = some (kW l[i]):=by rw [yt,iQ,bK hlt];rfl
      have hcast:((i:Int)+1)=((i+1:Nat):Int):=by omega
      have ih':=λa=>ih (i+1) a (by omega);simp only [<- hcast] at ih';generalize l[i]=f at *;obtain ⟨t,y,n,s,k⟩:=f;simp only [pG] at hf;simp only [su] at hs;have hwr:=wrap64 (n:=(i:Int)+1) (by omega) (by omega);have hww:=wrap64 (n:=(w:Int)+1) (by omega) (by omega);refine aA rfl rfl ?_;have h:((i:Int) < l.length):=by omega
      have hk:=λh=>ZI N k (by omega) hf.2 hf.1.2.2.2.2.2.2.2 (w+1) h;simp only [Af,Int.natCast_one] at hk;have hkl:((aF k).length=0)=(k=[]):=propext (af7 k);simp only [gK,aH.tag];by_cases h1:t=0
      ·simp [h,hget,h1]
      by_cases h2:4294967296 < t
      ·simp [h,hget,h1,h2]
      by_cases h3:t<=ahead
      ·simp [h,hget,h1,h2,h3]
      simp only [uM];by_cases h4:y=0
      ·subst h4
       by_cases h5:s=[]
       ·by_cases h6:k=[]
        ·simp [h,hget,h1,h2,h3,h5,h6,hwr,ih',aF]
        ·simp [h,hget,h1,h2,h3,h5,h6,hwr,ih',hkl]
       ·simp [h,hget,h1,h2,h3,h5]
      by_cases h7:y=1
      ·subst h7
       by_cases h5:n=0
       ·by_cases h6:k=[]
        ·simp [h,hget,h1,h2,h3,h5,h6,hwr,ih',aF]
        ·simp [h,hget,h1,h2,h3,h5,h6,hwr,ih',hkl]
       ·simp [h,hget,h1,h2,h3,h5]
      by_cases h8:y=2
      ·subst h8
       by_cases h5:n=0
       ·by_cases h6:s=[]
        ·by_cases h9:8<=w
         ·have NR:(8:Int)<=w:=by omega
          simp [h,hget,h1,h2,h3,h5,h6,h9,NR]
         ·have NR:¬ (8:Int)<=w:=by omega
          have hk:=hk (by omega);by_cases h10:gK (w+1) 0 k=0
          ·rw [h10] at hk
           simp [h,hget,h1,h2,h3,h5,h6,h9,NR,hww,hk,h10,hwr,ih',aH.tag]
          ·simp [h,hget,h1,h2,h3,h5,h6,h9,NR,hww,hk,h10,hwr,ih',aH.tag]
        ·simp [h,hget,h1,h2,h3,h5,h6]
       ·simp [h,hget,h1,h2,h3,h5]
      simp [h,hget,h1,h2,h3,h4,h7,h8]
   have h0:=loop l.length 0 0 (by omega);rw [fH] at h0;refine bF rfl rfl ?_ rfl;have hl2:=pI l;by_cases hc:gK w 0 l=0
   ·rw [ak hc] at h0
    have h0':TT.lim 65 [.i .i64 w,.i .u64 0,.l (aF l),.i .i64 (aF l).length,.i .i64 0]=some [.i .i64 1]:=by rw [hl2];exact h0
    simp [h0',hc]
   ·rw [ah hc] at h0
    have h0':TT.lim 65 [.i .i64 w,.i .u64 0,.l (aF l),.i .i64 (aF l).length,.i .i64 0]=some [.i .i64 0,.i .i64 (gK w 0 l)]:=by rw [hl2];exact h0
    simp [h0',hc]
theorem Nu (l:List aH) (hok:dS l) (hlen:l.length<=1000000):TT.lim 63 [.l (aF l)]=some [.i .i64 (gK 0 0 l)]:=by
 have h:=ZI (cu l+1) l (by omega) hok hlen 0 (by omega);have h':TT.lim 64 [.l (aF l),.i .i64 0]=_:=h;refine bF rfl rfl ?_ rfl;simp [h']
end L
end Go.Proofs.YtpioimdhbbgniaaGreatDoor
