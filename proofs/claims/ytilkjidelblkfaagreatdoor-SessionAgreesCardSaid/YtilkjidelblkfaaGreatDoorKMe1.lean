/- What the trees compute: plain laws. -/
import Derived.Test.YtilkjidelblkfaaGreatDoorKMT
import Derived.Test.YtilkjidelblkfaaGreatDoorAbsPl
import Derived.Test.YtilkjidelblkfaaGreatDoorAbsGo
import Derived.Test.YtilkjidelblkfaaGreatDoorAbsTold2
import Derived.Test.YtilkjidelblkfaaGreatDoorAbsFields
import Derived.Test.YtilkjidelblkfaaGreatDoorAbsSortF
import Derived.Lib.TrimUEq
import Derived.Lib.MapLaws
import Derived.KernelRfl
namespace Go.Proofs.YtilkjidelblkfaaGreatDoor
open Go Go.aJ
set_option linter.unusedSimpArgs false
set_option linter.unusedVariables false
set_option maxRecDepth 100000
namespace M
theorem HY:∀a b:List UInt8,Op.bytesLess a b=decide (a < b)
 | _,[]=>by simp [Op.bytesLess]
 | [],_::_=>by simp [Op.bytesLess]
 | a::x,b::y=>by
   rw [Op.bytesLess,HY x y,vF];simp -implicitDefEqProofs [Zm]
/-- An entry: key and value. A row: its entries and its number. -/
abbrev dM:=List UInt8×List UInt8
abbrev Row:=List dM×Int
def ent (x:dM):GV:=.g [.s x.1,.s x.2]
def row (r:Row):GV:=.g [.l (r.1.map ent),.i .u64 r.2]
@[simp] theorem auz (x:dM):(ent x).cells=[.s x.1,.s x.2]:=rfl
@[simp] theorem ap0 (r:Row):(row r).cells=[.l (r.1.map ent),.i .u64 r.2]:=rfl
@[simp] theorem auA (x:dM):(ent x).scalar=false:=rfl
@[simp] theorem avY (r:Row):(row r).scalar=false:=rfl
/-- Texts and lists of no more than any machine bears. -/
def pG (d:List dM):Prop:=d.length<=140737488351232/\∀x∈d,x.1.length<=140737488351232/\x.2.length<=140737488351232
def Rows (l:List Row):Prop:=l.length<=140737488351232/\∀r∈l,pG r.1/\0<=r.2/\r.2 < 18446744073709551616
def rH (x:dM):Bool:=decide (x.1.length+x.2.length<=600)
theorem adh (d:List dM) (hd:pG d):∀m i:Nat,i+m=d.length->TT.lim 13 [.l (d.map ent),.i .i64 d.length,.i .i64 i]=some (if (d.drop i).all rH=true then [.i .i64 1] else [.i .i64 0])
 | 0,i,hi=>by
   have h0:d.drop i=[]:=fJ (by omega);refine aB rfl rfl ?_;have h:¬ ((i:Int) < d.length):=by omega
   simp -implicitDefEqProofs [h,h0]
 | m+1,i,hi=>by
   have hlt:i < d.length:=by omega
   have ih:TT.lim 13 [.l (d.map ent),.i .i64 d.length,.i .i64 ((i:Int)+1)]=_:=adh d hd m (i+1) (by omega);refine aB rfl rfl ?_;have h:((i:Int) < d.length):=by omega
   have hw:=wrap64 (n:=(i:Int)+1) (by omega) (by have:=hd.1;omega);have hx:=hd.2 d[i] (gU hlt);have hw2:=wrap64 (n:=(d[i].1.length:Int)+(d[i].2.length:Int)) (by omega) (by omega);have hda:(d.drop i).all rH=(rH d[i]&&(d.drop (i+1)).all rH):=by rw [iC hlt,sF]
   by_cases hf:(600:Int) < (d[i].1.length:Int)+(d[i].2.length:Int)
   ·have:rH d[i]=false:=by unfold rH;simp;omega
    simp -implicitDefEqProofs [h,hlt,hw2,hf,hda,this]
   ·have:rH d[i]=true:=by unfold rH;simp;omega
    rw [hda,this,NC];simp -implicitDefEqProofs [h,hlt,hw,hw2,hf,ih]
def iq (d:List dM):Bool:=d.all rH&&decide (d.length<=40)
theorem aku (d:List dM) (hd:pG d):TT.lim 12 [.l (d.map ent)]=some [.b (iq d)]:=by
 refine aQ rfl rfl ?_ rfl;have h5:TT.lim 13 [.l (d.map ent),.i .i64 d.length,.i .i64 0]=_:=adh d hd d.length 0 (by omega);rw [dO] at h5;cases hc:d.all rH with
 | false=>rw [hc] at h5;simp [h5,iq,hc]
 | true=>
   rw [hc] at h5;simp only [if_true] at h5;have:(decide ((d.length:Int)<=40))=decide (d.length<=40):=by rw [vF];simp;omega
   simp -implicitDefEqProofs [h5,iq,hc,this]
def bG (n:Nat):List UInt8:=if n < 128 then [UInt8.ofNat n] else UInt8.ofNat (n % 128+128)::bG (n / 128)
termination_by n
decreasing_by omega
theorem wI {n:Nat} (h:n < 128):bG n=[UInt8.ofNat n]:=by rw [bG,aj h]
theorem zN {n:Nat} (h:¬ n < 128):bG n=UInt8.ofNat (n % 128+128)::bG (n / 128):=by rw [bG,ah h]
theorem SI {a b:Nat} (ha:a < 256) (hb:b < 256) (h:UInt8.ofNat a=UInt8.ofNat b):a=b:=by
 have:=rE UInt8.toNat h;simp at this;omega
/-- No number's bytes begin another's. -/
theorem YV:∀ (n m:Nat) (x y:List UInt8),bG n++x=bG m++y->n=m/\x=y:=by
 intro n;induction n using Nat.strongRecOn with
 | _ n ih=>
   intro m x y h;by_cases hn:n < 128<;>by_cases hm:m < 128
   ·rw [wI hn,wI hm] at h
    simp only [bJ,bn,yE] at h;exact ⟨SI (by omega) (by omega) h.1,h.2⟩
   ·rw [wI hn,zN hm] at h
    simp only [bJ,bn,yE] at h;have:=SI (by omega) (by omega) h.1;omega
   ·rw [zN hn,wI hm] at h
    simp only [bJ,bn,yE] at h;have:=SI (by omega) (by omega) h.1;omega
   ·rw [zN hn,zN hm] at h
    simp only [bJ,yE] at h;have h1:=SI (by omega) (by omega) h.1;obtain ⟨h2,h3⟩:=ih (n / 128) (by omega) (m / 128) x y h.2;exact ⟨by omega,h3⟩
def gY (n:Nat):Nat:=(bG n).length
theorem arG {n:Int} (h0:0<=n):n.fdiv (2 ^ (7:Nat))=n / 128:=by
 rw [NH _ (by decide)];rfl
theorem afm {n:Nat}:nJ .shr .u64 (n:Int) 7=some (.i .u64 ((n / 128:Nat):Int)):=by
 have:((n:Int)).fdiv (2 ^ (7:Nat))=((n / 128:Nat):Int):=by rw [arG (by omega)];omega
 simp -implicitDefEqProofs [nJ,IntKind.bits];exact this
theorem Gv (n:Nat):0 < gY n:=by unfold gY;rw [bG];split<;>simp
theorem Gu {n:Nat} (h:¬ n < 128):gY n=gY (n / 128)+1:=by unfold gY;rw [zN h];rfl
theorem af9:∀ (k n:Nat),0 < k->n < 128 ^ k->gY n<=k
 | 0,_,h,_=>by omega
 | k+1,n,_,h=>by
   by_cases hn:n < 128
   ·unfold gY;rw [wI hn];simp
   ·rw [Gu hn]
    cases k with
    | zero=>simp at h;omega
    | succ k=>
      have:n / 128 < 128 ^ (k+1):=by rw [G7] at h;omega
      have:=af9 (k+1) (n / 128) (by omega) this;omega
theorem DX {n:Nat} (h:n < 18446744073709551616):gY n<=10:=af9 10 n (by omega) (by omega)
theorem amW:∀ (n s:Nat),s+gY n<=1000->n < 18446744073709551616->TT.lim 17 [.i .u64 n,.i .i64 s]=some [.i .i64 0,.i .i64 ((s+gY n - 1:Nat):Int)]:=by
 intro n;induction n using Nat.strongRecOn with
 | _ n ih=>
   intro s hs hn;refine aB rfl rfl ?_;by_cases h:n < 128
   ·have h':¬ (128:Int)<=n:=by omega
    simp -implicitDefEqProofs [h',gY,wI h]
   ·have h':(128:Int)<=n:=by omega
    have hv:=Gu h;have hp:=Gv (n / 128);have hw:=wrap64 (n:=(s:Int)+1) (by omega) (by omega);have ih':TT.lim 17 [.i .u64 ((n / 128:Nat):Int),.i .i64 ((s:Int)+1)]=_:=ih (n / 128) (by omega) (s+1) (by omega) (by omega);have hn':s+gY n - 1=s+1+gY (n / 128) - 1:=by omega
    rw [hn'];have h7:nJ .shr .u64 (n:Int) 7=some (.i .u64 ((n / 128:Nat):Int)):=afm;generalize ((n / 128:Nat):Int)=q at h7 ih';simp -implicitDefEqProofs [h',hw,h7,ih']
theorem MR (n:Nat) (hn:n < 18446744073709551616):TT.lim 16 [.i .u64 n]=some [.i .i64 (gY n)]:=by
 have hp:=Gv n;have h9:TT.lim 17 [.i .u64 n,.i .i64 1]=_:=amW n 1 (by have:=DX hn;omega) hn;rw [show 1+gY n - 1=gY n by omega] at h9;refine aQ rfl rfl ?_ rfl;simp -implicitDefEqProofs [h9]
/-- The bytes of a number, each with its high bit set. -/
def jQ:Nat->Nat->List Nat
 | 0,_=>[]
 | k+1,n=>(n % 128+128)::jQ k (n / 128)
def iW (n:Nat):GV:=.i .u8 n
theorem agZ (n:Nat) (hn:n < 18446744073709551616):fO .and .u64 (n:Int) 127=some (.i .u64 ((n % 128:Nat):Int)):=by
 have h1:((BitVec.ofInt 64 (n:Int) &&& BitVec.ofInt 64 127).toNat:Nat)=n % 128:=by
  rw [Y9,xC,xC];have e1:((n:Int) % ((2 ^ 64:Nat):Int)).toNat=n:=by omega
  have e2:((127:Int) % ((2 ^ 64:Nat):Int)).toNat=2 ^ 7 - 1:=by decide
  rw [e1,e2,agx]
 show some (GV.i .u64 (IntKind.u64.wrap (((BitVec.ofInt 64 (n:Int) &&& BitVec.ofInt 64 127).toNat:Nat):Int)))=_
 rw [h1,jJ (by omega) (by omega)]
theorem aac (n:Nat) (hn:n < 256):fO .and .u8 (n:Int) 127=some (.i .u8 ((n % 128:Nat):Int)):=by
 have:∀x:Fin 256,IntKind.u8.wrap (((BitVec.ofInt IntKind.u8.bits ((x.val:Nat):Int) &&& BitVec.ofInt IntKind.u8.bits 127).toNat:Nat):Int)=((x.val % 128:Nat):Int):=by decide +kernel
 show some (GV.i .u8 _)=some (GV.i .u8 _)
 exact rE (λz=>some (GV.i .u8 z)) (this ⟨n,hn⟩)
theorem aoi (n:Nat) (hn:n < 128):fO .or .u8 (n:Int) 128=some (.i .u8 ((n+128:Nat):Int)):=by
 have:∀x:Fin 128,IntKind.u8.wrap (((BitVec.ofInt IntKind.u8.bits ((x.val:Nat):Int) ||| BitVec.ofInt IntKind.u8.bits 128).toNat:Nat):Int)=((x.val+128:Nat):Int):=by decide +kernel
 show some (GV.i .u8 _)=some (GV.i .u8 _)
 exact rE (λz=>some (GV.i .u8 z)) (this ⟨n,hn⟩)
theorem atg {n:Int} (h0:0<=n) (h1:n < 256):IntKind.u8.wrap n=n:=by
 have:IntKind.u8.wrap n=n % 256:=by simp [IntKind.wrap,IntKind.signed,IntKind.bits]
 rw [this];omega
@[simp] theorem auk (n:Nat):(iW n).cells=[iW n]:=rfl
@[simp] theorem aum (n:Nat):(iW n).scalar=true:=rfl
@[simp] theorem aul (n:Nat) (v:GV):(iW n).put 0 [v]=some v:=rfl
theorem aay:∀l:List Nat,(∀x∈l,x < 256)->nT (l.map iW)=some (l.map UInt8.ofNat)
 | [],_=>rfl
 | a::l,h=>by
   have h1:=h a (by simp);have h2:=aay l λx hx=>h x (by simp [hx]);simp only [gV,iW,nT] at h2 ⊢;rw [aj (by omega)];have:(λn:Nat=>GV.i .u8 (n:Int))=iW:=rfl;rw [h2];simp
theorem ac6:∀ (m n:Nat) (done:List Nat),n < 18446744073709551616->done.length+m < 1000->
 TT.lim 18 [.i .u64 n,.l ((done++List.replicate m 0).map iW),.i .i64 ((done.length+m:Nat):Int),.i .i64 done.length]=some [.i .i64 0,.l ((done++jQ m n).map iW)]
 | 0,n,done,hn,hd=>by
   refine aB rfl rfl ?_;simp -implicitDefEqProofs [jQ]
 | m+1,n,done,hn,hd=>by
   have hlt:(done.length:Int) < ((done.length+(m+1):Nat):Int):=by omega
   have hw:=wrap64 (n:=(done.length:Int)+1) (by omega) (by omega);have hw8:=atg (n:=((n % 128:Nat):Int)) (by omega) (by omega);have h7:nJ .shr .u64 (n:Int) 7=some (.i .u64 ((n / 128:Nat):Int)):=afm;have ha:=agZ n hn;have ho:=aoi (n % 128) (by omega);have ih:=ac6 m (n / 128) (done++[n % 128+128]) (by omega) (by simp;omega);have hlen:(done++[n % 128+128]).length+m=done.length+(m+1):=by simp;omega
   rw [hlen] at ih;have hl2:(((done++[n % 128+128]).length:Nat):Int)=(done.length:Int)+1:=by simp
   rw [hl2] at ih;have hset:((done++List.replicate (m+1) 0).map iW).set done.length (iW (n % 128+128))=(done++[n % 128+128]++List.replicate m 0).map iW:=by
    rw [JL,<- List.map_set,List.set_append_right _ _ (dH _),yI];simp
   have hget:((done++List.replicate (m+1) 0).map iW)[done.length]? = some (iW 0):=by
    rw [iF,tY (dH _),yI,JL];rfl
   have hll:((done++List.replicate (m+1) 0).map iW).length=done.length+(m+1):=by simp
   have hv:done++jQ (m+1) n=done++[n % 128+128]++jQ m (n / 128):=by simp [jQ]
   rw [hv];generalize hL:(done++List.replicate (m+1) 0).map iW=L at *;refine aB rfl rfl ?_;have hix:(0:Int)<=(done.length:Int)/\(done.length:Int) < (L.length:Int):=by rw [hll];omega
   have hob:GV.i IntKind.u8 ((n % 128+128:Nat):Int)=iW (n % 128+128):=rfl;have VN:L.set done.length (GV.i IntKind.u8 ((n % 128+128:Nat):Int))=(done++[n % 128+128]++List.replicate m 0).map iW:=hset;generalize (done++[n % 128+128]++List.replicate m 0).map iW=L2 at ih VN;generalize (done++[n % 128+128]++jQ m (n / 128)).map iW=L3 at ih ⊢;generalize ((n / 128:Nat):Int)=q at h7 ih;generalize ((n % 128+128:Nat):Int)=z at ho VN;generalize ((n % 128:Nat):Int)=rr at ha hw8 ho;generalize ((done.length+(m+1):Nat):Int)=N at hlt ih ⊢;simp -implicitDefEqProofs [hlt,ha,hw8,ho,hix,hget,h7,hw,VN,ih]
theorem YW:∀m n,(jQ m n).length=m
 | 0,_=>rfl
 | m+1,n=>by simp [jQ,YW m]
theorem YX:∀m n,∀x∈jQ m n,x < 256
 | 0,_,x,h=>by simp [jQ] at h
 | m+1,n,x,h=>by
   simp only [jQ,bC] at h;rcases h with rfl | h
   ·omega
   ·exact YX m _ x h
/-- The last byte without its high bit: as numbers are written. -/
theorem af8:∀ (s n:Nat),gY n=s+1->∃x,(jQ (s+1) n)[s]? = some x/\((jQ (s+1) n).set s (x % 128)).map UInt8.ofNat=bG n
 | 0,n,h=>by
   have hn:n < 128:=by
    by_cases hn:n < 128
    ·exact hn
    ·rw [Gu hn] at h;have:=Gv (n / 128);omega
   refine ⟨n % 128+128,by simp [jQ], ?_⟩;rw [wI hn];simp -implicitDefEqProofs [jQ];rw [NR hn]
 | s+1,n,h=>by
   have hn:¬ n < 128:=by
    intro hn;unfold gY at h;rw [wI hn] at h;simp at h
   rw [Gu hn] at h;obtain ⟨x,h1,h2⟩:=af8 s (n / 128) (by omega);refine ⟨x,by simp only [jQ,qp] at h1 ⊢;exact h1, ?_⟩;rw [zN hn,<- h2];simp -implicitDefEqProofs [jQ]
theorem xk (n:Nat) (hn:n < 18446744073709551616):TT.lim 15 [.i .u64 n]=some [.s (bG n)]:=by
 have h8:=MR n hn;have hp:=Gv n;have hs:=DX hn;obtain ⟨s,hs1⟩:∃s,gY n=s+1:=⟨gY n - 1,by omega⟩
 obtain ⟨x,h1,h2⟩:=af8 s n hs1;rw [hs1] at h8;have h10:TT.lim 18 [.i .u64 n,.l ((List.replicate (s+1) 0).map iW),.i .i64 ((s+1:Nat):Int),.i .i64 0]=some [.i .i64 0,.l ((jQ (s+1) n).map iW)]:=by
  have:=ac6 (s+1) n [] hn (by simp;omega);simpa using this
 have hr:(List.replicate (s+1) 0).map iW=List.replicate (s+1) (GV.i .u8 0):=by rw [List.map_replicate];rfl
 rw [hr] at h10;have hx:x < 256:=YX _ _ x (oL h1);have ha:=aac x hx;have hget:((jQ (s+1) n).map iW)[s]? = some (iW x):=by rw [iF,h1];rfl
 have hset:((jQ (s+1) n).map iW).set s (GV.i .u8 ((x % 128:Nat):Int))=((jQ (s+1) n).set s (x % 128)).map iW:=(List.map_set (f:=iW) (l:=jQ (s+1) n) (i:=s) (a:=x % 128)).symm;have hb:=aay ((jQ (s+1) n).set s (x % 128)) (λy hy=>by
  rcases Zx hy with hy | rfl
  ·exact YX _ _ y hy
  ·omega)
 rw [h2] at hb;have hlen:(((jQ (s+1) n).set s (x % 128)).map iW).length=s+1:=by simp [YW]
 have hlr:(List.replicate (s+1) (GV.i .u8 0)).length=s+1:=by simp
 have hl1:((jQ (s+1) n).map iW).length=s+1:=by simp [YW]
 generalize ((jQ (s+1) n).set s (x % 128)).map iW=L3 at hset hb hlen;generalize (jQ (s+1) n).map iW=L2 at h10 hget hset hl1;generalize hrep:List.replicate (s+1) (GV.i .u8 0)=L1 at h10 hlr;refine aQ rfl rfl ?_ rfl;have hw:=wrap64 (n:=(s:Int)) (by omega) (by omega);have hcast:((s+1:Nat):Int)=(s:Int)+1:=by omega
 rw [hcast] at h8 h10;have hc1:(0:Int)<=(s:Int)+1/\(s:Int)+1<=281474976710656/\(s:Int)+1<=1152921504606846976:=by omega
 have hc2:((s:Int)+1).toNat=s+1:=by omega
 have hlt:(s:Int) < (s:Int)+1:=by omega
 have hs2:(s:Int)+1 - 1=(s:Int):=by omega
 generalize hM:((x % 128:Nat):Int)=M at ha hset;have hxx:iW x=.i .u8 x:=rfl;have h48:s+1<=281474976710656:=by omega
 have hg2:L2[s]'(by omega)=iW x:=by have:=hget;rw [bM (by omega)] at this;exact Ea this
 simp -implicitDefEqProofs [h8,hc1,hc2,hrep,hlr,h10,hl1,hs2,hw,hlt,hget,hg2,ha,hset,hxx,hlen,hb,h48,GV.fA]
theorem Uo (a b:List UInt8):eU (a++b)=eU a++eU b:=by simp [eU]
@[simp] theorem aaw (a:List UInt8):(eU a).length=a.length:=by simp [eU]
theorem Kv (a:List UInt8):(eU a).all (GV.fA 1)=true:=by
 rw [List.all_eq_true];intro x hx;obtain ⟨b,_,rfl⟩:=nO.1 hx;rfl
theorem Us:∀a:List UInt8,nT (eU a)=some a
 | []=>rfl
 | x::a=>by
   have ih:=Us a;simp only [eU,gV,nT] at ih ⊢;have:=x.toNat_lt;rw [aj (by omega),ih];simp
def kK (x:dM):List UInt8:=bG x.1.length++x.1++bG x.2.length++x.2
def dN (d:List dM):List UInt8:=bG d.length++d.flatMap kK
theorem lS {n:Nat} (h:n < 18446744073709551616):(bG n).length<=10:=DX h
theorem ajR (x:dM) (h1:x.1.length<=140737488351232) (h2:x.2.length<=140737488351232):TT.lim 20 [ent x]=some [.s (kK x)]:=by
 have k1:=xk x.1.length (by omega);have k2:=xk x.2.length (by omega);have l1:=lS (n:=x.1.length) (by omega);have l2:=lS (n:=x.2.length) (by omega);have w1:=jJ (n:=(x.1.length:Int)) (by omega) (by omega);have w2:=jJ (n:=(x.2.length:Int)) (by omega) (by omega);refine aQ rfl rfl ?_ rfl;have c1:((bG x.1.length).length:Int)+(x.1.length:Int)<=9223372036854775807:=by omega
 have c2:((bG x.1.length).length:Int)+((x.1.length:Int)+((bG x.2.length).length:Int))<=9223372036854775807:=by omega
 have c3:((bG x.1.length).length:Int)+((x.1.length:Int)+(((bG x.2.length).length:Int)+(x.2.length:Int)))<=9223372036854775807:=by omega
 simp -implicitDefEqProofs [w1,w2,k1,k2,c1,c2,c3,kK,Int.add_assoc]
theorem abq {x:dM} (h:rH x=true):(kK x).length<=620:=by
 unfold rH at h;simp only [decide_eq_true_iff] at h;have l1:=lS (n:=x.1.length) (by omega);have l2:=lS (n:=x.2.length) (by omega);simp only [kK,fG];omega
theorem Vb:∀d:List dM,d.all rH=true->(d.flatMap kK).length<=620 * d.length
 | [],_=>by simp
 | x::d,h=>by
   rw [sF,aI] at h;have:=abq h.1;have:=Vb d h.2;simp only [ji,fG,jK];omega
theorem ac7 (d:List dM) (hf:d.all rH=true) (hl:d.length<=40):∀ (m i:Nat) (acc:List UInt8),i+m=d.length->acc.length<=10+620 * i->
 TT.lim 19 [.l (d.map ent),.i .i64 d.length,.i .i64 i,.l (eU acc)]=some [.i .i64 0,.l (eU (acc++(d.drop i).flatMap kK))]
 | 0,i,acc,hi,ha=>by
   have h0:d.drop i=[]:=fJ (by omega);refine aB rfl rfl ?_;have h:¬ ((i:Int) < d.length):=by omega
   simp -implicitDefEqProofs [h,h0]
 | m+1,i,acc,hi,ha=>by
   have hlt:i < d.length:=by omega
   have hx:=List.all_eq_true.1 hf d[i] (gU hlt);have hx1:=hx;unfold rH at hx1;simp only [decide_eq_true_iff] at hx1;have hp:=ajR d[i] (by omega) (by omega);have hpl:=abq hx;have ih:TT.lim 19 [.l (d.map ent),.i .i64 d.length,.i .i64 ((i:Int)+1),.l (eU (acc++kK d[i]))]=_:=ac7 d hf hl m (i+1) (acc++kK d[i]) (by omega) (by simp;omega);rw [Uo] at ih;have hd:(d.drop i).flatMap kK=kK d[i]++(d.drop (i+1)).flatMap kK:=by rw [iC hlt,ji]
   rw [hd,<- List.append_assoc];refine aB rfl rfl ?_;have h:((i:Int) < d.length):=by omega
   have hw:=wrap64 (n:=(i:Int)+1) (by omega) (by omega);have hok:=Kv (kK d[i]);have hb:2 * (acc.length+(kK d[i]).length)<=281474976710656/\acc.length+(kK d[i]).length<=281474976710656:=by omega
   have he:GV.g [GV.s d[i].1,GV.s d[i].2]=ent d[i]:=rfl;simp -implicitDefEqProofs [-List.all_eq_true,h,hlt,he,hp,hok,hb,hw,ih]
theorem AY (d:List dM) (hf:iq d=true):TT.lim 14 [.l (d.map ent)]=some [.s (dN d)]:=by
 unfold iq at hf;rw [aI,decide_eq_true_iff] at hf;have k:=xk d.length (by omega);have l1:=lS (n:=d.length) (by omega);have w1:=jJ (n:=(d.length:Int)) (by omega) (by omega);have h11:TT.lim 19 [.l (d.map ent),.i .i64 d.length,.i .i64 0,.l (eU (bG d.length))]=_:=ac7 d hf.1 hf.2 d.length 0 (bG d.length) (by omega) (by omega);rw [dO] at h11;have hb:2 * (bG d.length).length<=281474976710656/\(bG d.length).length<=281474976710656:=by omega
 have hok:=Kv (bG d.length);have hfl:=Vb d hf.1;have hc:(bG d.length).length+(List.flatMap kK d).length<=281474976710656:=by omega
 have hbg:=Us (bG d.length++d.flatMap kK);refine aQ rfl rfl ?_ rfl;unfold dN;generalize d.flatMap kK=F at *;simp -implicitDefEqProofs [-List.all_eq_true,w1,k,hb,hok,h11,hc,hbg]
theorem ajQ {x y:dM} {a b:List UInt8} (h:kK x++a=kK y++b):x=y/\a=b:=by
 unfold kK at h;simp only [List.append_assoc] at h;obtain ⟨h1,h2⟩:=YV _ _ _ _ h;obtain ⟨h3,h4⟩:=List.append_inj h2 h1;obtain ⟨h5,h6⟩:=YV _ _ _ _ h4;obtain ⟨h7,h8⟩:=List.append_inj h6 h5;exact ⟨Prod.ext h3 h7,h8⟩
theorem abO:∀ {d e:List dM} {a b:List UInt8},d.length=e.length->d.flatMap kK++a=e.flatMap kK++b->d=e/\a=b
 | [],[],a,b,_,h=>⟨rfl,by simpa using h⟩
 | x::d,y::e,a,b,hl,h=>by
   simp only [ji,List.append_assoc] at h;obtain ⟨h1,h2⟩:=ajQ h;obtain ⟨h3,h4⟩:=abO (by simpa using hl) h2;exact ⟨by rw [h1,h3],h4⟩
 | [],_::_,_,_,hl,_=>by simp at hl
 | _::_,[],_,_,hl,_=>by simp at hl
theorem amq {d e:List dM} {a b:List UInt8} (h:dN d++a=dN e++b):d=e/\a=b:=by
 unfold dN at h;simp only [List.append_assoc] at h;obtain ⟨h1,h2⟩:=YV _ _ _ _ h;exact abO h1 h2
theorem amo {d e:List dM} (h:dN d=dN e):d=e:=(amq (a:=[]) (b:=[]) (by simpa using h)).1
def nM (s:List UInt8) (lo hi:Int):Int:=if (s.length:Int) < lo then 13 else if hi < (s.length:Int) then 13 else if Lib.validD s=true then 0 else 11
theorem ak9 (s:List UInt8) (h:s.length<=140737488351232):TT.lim 3 [.s s]=some [.b (Lib.validD s)]:=by
 have h21:TT.lim 4 [.s s]=some [.b (Lib.validD s)]:=FX (Ds:=Ds) (k:=4) (f:=JA) rfl (by simp only [JA];rw [aj (by omega)]);refine aQ rfl rfl ?_ rfl;simp -implicitDefEqProofs [h21]
theorem CX (s:List UInt8) (lo hi:Int) (h:s.length<=140737488351232):TT.lim 2 [.s s,.i .i64 lo,.i .i64 hi]=some [.i .i64 (nM s lo hi)]:=by
 have h20:=ak9 s h;refine aQ rfl rfl ?_ rfl;unfold nM;by_cases h1:(s.length:Int) < lo
 ·simp -implicitDefEqProofs [h1]
 ·by_cases h2:hi < (s.length:Int)
  ·simp -implicitDefEqProofs [h1,h2]
  ·cases hv:Lib.validD s<;>rw [hv] at h20<;>simp [h1,h2,h20,hv]
def uI (x:dM):Int:=if nM x.1 1 64≠0 then nM x.1 1 64 else nM x.2 0 256
theorem abr (x:dM) (h1:x.1.length<=140737488351232) (h2:x.2.length<=140737488351232):TT.lim 29 [ent x]=some [.i .i64 (uI x)]:=by
 have k1:=CX x.1 1 64 h1;have k2:=CX x.2 0 256 h2;refine aQ rfl rfl ?_ rfl;unfold uI;by_cases h:nM x.1 1 64=0
 ·simp -implicitDefEqProofs [k1,h,k2]
 ·simp -implicitDefEqProofs [k1,h]
def uF:Option (List UInt8)->List dM->Int
 | _,[]=>0
 | p,x::xs=>if uI x≠0 then uI x else match p with
   | none=>uF (some x.1) xs
   | some k=>if x.1=k then 14 else if Op.bytesLess x.1 k=true then 7 else uF (some x.1) xs
def tagged (r:Int):List GV:=if r=0 then [.i .i64 1] else [.i .i64 0,.i .i64 r]
def prevK (d:List dM) (i:Nat):Option (List UInt8):=if i=0 then none else (d[i - 1]?).map (·.1)
theorem ac8 (d:List dM) (hd:pG d):∀m i:Nat,i+m=d.length->TT.lim 28 [.l (d.map ent),.i .i64 d.length,.i .i64 i]=some (tagged (uF (prevK d i) (d.drop i)))
 | 0,i,hi=>by
   have h0:d.drop i=[]:=fJ (by omega);refine aB rfl rfl ?_;have h:¬ ((i:Int) < d.length):=by omega
   simp -implicitDefEqProofs [h,h0,uF,tagged]
 | m+1,i,hi=>by
   have hlt:i < d.length:=by omega
   have hx:=hd.2 d[i] (gU hlt);have hp:=abr d[i] hx.1 hx.2;have ih:TT.lim 28 [.l (d.map ent),.i .i64 d.length,.i .i64 ((i:Int)+1)]=_:=ac8 d hd m (i+1) (by omega);have hpk:prevK d (i+1)=some d[i].1:=by unfold prevK;rw [ah (by omega)];simp [hlt]
   rw [hpk] at ih;have hdr:d.drop i=d[i]::d.drop (i+1):=iC hlt;rw [hdr];refine aB rfl rfl ?_;have h:((i:Int) < d.length):=by omega
   have hw:=wrap64 (n:=(i:Int)+1) (by omega) (by have:=hd.1;omega);have he:GV.g [GV.s d[i].1,GV.s d[i].2]=ent d[i]:=rfl;by_cases h1:uI d[i]=0;rotate_left
   ·simp -implicitDefEqProofs [h,hlt,he,hp,h1,uF,tagged]
   by_cases h0:i=0
   ·subst h0
    simp only [wM,Zi] at hw ih;simp -implicitDefEqProofs [h,hlt,he,hp,h1,uF,prevK,hw];simpa using ih
   ·have hi1:i - 1 < d.length:=by omega
    have hpk2:prevK d i=some d[i - 1].1:=by unfold prevK;rw [ah h0];simp [hi1]
    have hw2:=wrap64 (n:=(i:Int) - 1) (by omega) (by have:=hd.1;omega);have hi0:¬ ((i:Int)=0):=by omega
    have hge:(0:Int)<=(i:Int) - 1:=by omega
    have ht:((i:Int) - 1).toNat=i - 1:=by omega
    have hnl:(1:Int)<=(i:Int):=by omega
    rw [hpk2];by_cases h2:d[i].1=d[i - 1].1
    ·have h2':(d[i].1=d[i - 1].1)=True:=eq_true h2
     clear h2;simp -implicitDefEqProofs [h,hlt,he,hp,h1,hi0,h0,hw2,ht,hi1,h2',uF,tagged,hnl]
    ·cases h3:Op.bytesLess d[i].1 d[i - 1].1 with
     | true=>simp [h,hlt,he,hp,h1,hi0,h0,hw2,ht,hi1,h2,h3,uF,tagged,hnl]
     | false=>simp [h,hlt,he,hp,h1,hi0,h0,hw2,ht,hi1,h2,h3,uF,hw,ih,hnl]
def xQ (d:List dM):Int:=if d.length=0 then 12 else if 16 < d.length then 13 else uF none d
theorem aaK (d:List dM) (hd:pG d):TT.lim 27 [.l (d.map ent)]=some [.i .i64 (xQ d)]:=by
 have h17:TT.lim 28 [.l (d.map ent),.i .i64 d.length,.i .i64 0]=_:=ac8 d hd d.length 0 (by omega);have hpk:prevK d 0=none:=rfl;rw [hpk,dO] at h17;have w1:=jJ (n:=(d.length:Int)) (by omega) (by have:=hd.1;omega);refine aQ rfl rfl ?_ rfl;unfold xQ;by_cases h0:d.length=0
 ·have h0':(d.length:Int)=0:=by omega
  have:d=[]:=jh h0;subst this;simp -implicitDefEqProofs [IntKind.wrap,IntKind.signed]
 ·have h0':¬ (d.length:Int)=0:=by omega
  by_cases h1:16 < d.length
  ·have h1':(16:Int) < (d.length:Int):=by omega
   simp -implicitDefEqProofs [w1,h0,h1,h0',h1']
  ·have h1':¬ (16:Int) < (d.length:Int):=by omega
   by_cases h2:uF none d=0
   ·simp only [tagged,h2,if_true] at h17
    simp -implicitDefEqProofs [w1,h0,h1,h0',h1',h17,h2]
   ·simp only [tagged,h2,if_false] at h17
    simp -implicitDefEqProofs [w1,h0,h1,h0',h1',h17]
def wz (r:Row):Int:=if xQ r.1≠0 then xQ r.1 else if r.2=0 then 18 else 0
theorem ahB (r:Row) (hd:pG r.1):TT.lim 26 [row r]=some [.i .i64 (wz r)]:=by
 have k:=aaK r.1 hd;refine aQ rfl rfl ?_ rfl;unfold wz;by_cases h:xQ r.1=0
 ·by_cases h2:r.2=0
  ·simp -implicitDefEqProofs [k,h,h2]
  ·simp -implicitDefEqProofs [k,h,h2]
 ·simp -implicitDefEqProofs [k,h]
def qG (long:Bool) (r:Row):Bool:=decide (r.1.length<=18)&&iq r.1&&(!long || decide ((dN r.1).length<=100))
theorem ade (l:List Row) (hl:Rows l):∀m i:Nat,i+m=l.length->TT.lim 11 [.l (l.map row),.i .i64 l.length,.i .i64 i]=some (if (l.drop i).all (qG (decide (40 < l.length)))=true then [.i .i64 1] else [.i .i64 0])
 | 0,i,hi=>by
   have h0:l.drop i=[]:=fJ (by omega);refine aB rfl rfl ?_;have h:¬ ((i:Int) < l.length):=by omega
   simp -implicitDefEqProofs [h,h0]
 | m+1,i,hi=>by
   have hlt:i < l.length:=by omega
   have hr:=hl.2 l[i] (gU hlt);have ih:TT.lim 11 [.l (l.map row),.i .i64 l.length,.i .i64 ((i:Int)+1)]=_:=ade l hl m (i+1) (by omega);have hda:(l.drop i).all (qG (decide (40 < l.length)))=(qG (decide (40 < l.length)) l[i]&&(l.drop (i+1)).all (qG (decide (40 < l.length)))):=by rw [iC hlt,sF]
   rw [hda];refine aB rfl rfl ?_;have h:((i:Int) < l.length):=by omega
   have hw:=wrap64 (n:=(i:Int)+1) (by omega) (by have:=hl.1;omega);have h4:=aku l[i].1 hr.1;by_cases h1:18 < l[i].1.length
   ·have h1':(18:Int) < (l[i].1.length:Int):=by omega
    have:qG (decide (40 < l.length)) l[i]=false:=by unfold qG;simp;omega
    rw [this];simp -implicitDefEqProofs [h,hlt,h1']
   have h1':¬ (18:Int) < (l[i].1.length:Int):=by omega
   have h1d:l[i].1.length<=18:=by omega
   cases hf:iq l[i].1 with
   | false=>
     rw [hf] at h4;have:qG (decide (40 < l.length)) l[i]=false:=by unfold qG;simp [hf]
     rw [this];simp -implicitDefEqProofs [h,hlt,h1',h4]
   | true=>
     rw [hf] at h4;have k6:=AY l[i].1 hf;by_cases h2:40 < l.length
     ·have h2':(40:Int) < (l.length:Int):=by omega
      by_cases h3:100 < (dN l[i].1).length
      ·have h3':(100:Int) < ((dN l[i].1).length:Int):=by omega
       have:qG (decide (40 < l.length)) l[i]=false:=by unfold qG;simp [h2];omega
       rw [this];simp -implicitDefEqProofs [h,hlt,h1',h4,h2',k6,h3']
      ·have h3':¬ (100:Int) < ((dN l[i].1).length:Int):=by omega
       have:qG (decide (40 < l.length)) l[i]=true:=by unfold qG;simp [h2,hf,h1d];omega
       rw [this,NC];simp -implicitDefEqProofs [h,hlt,h1',h4,h2',k6,h3',hw,ih]
     ·have h2':¬ (40:Int) < (l.length:Int):=by omega
      have:qG (decide (40 < l.length)) l[i]=true:=by unfold qG;simp [h2,hf,h1d]
      rw [this,NC];simp -implicitDefEqProofs [h,hlt,h1',h4,h2',hw,ih]
def Dk (l:List Row):Bool:=l.all (qG (decide (40 < l.length)))&&decide (l.length<=300)
theorem akt (l:List Row) (hl:Rows l):TT.lim 10 [.l (l.map row)]=some [.b (Dk l)]:=by
 refine aQ rfl rfl ?_ rfl;have h3:TT.lim 11 [.l (l.map row),.i .i64 l.length,.i .i64 0]=_:=ade l hl l.length 0 (by omega);rw [dO] at h3;unfold Dk;cases hc:l.all (qG (decide (40 < l.length))) with
 | false=>rw [hc] at h3;simp [h3]
 | true=>
   rw [hc] at h3;simp only [if_true] at h3;have:(decide ((l.length:Int)<=300))=decide (l.length<=300):=by rw [vF];simp;omega
   simp -implicitDefEqProofs [h3,this]
theorem aks {l:List Row} (h:Dk l=true):∀r∈l,iq r.1=true:=by
 unfold Dk at h;rw [aI] at h;intro r hr;have:=List.all_eq_true.1 h.1 r hr;unfold qG at this;simp only [aI] at this;exact this.1.2
theorem CY (d:List dM) (h:d.length<=40):TT.lim 32 [.l (d.map ent)]=some [.l (d.map ent)]:=by
 refine FX (Ds:=Ds) (k:=32) (f:=H7 32 2) rfl ?_;have hall:(d.map ent).all (GV.fA 2)=true:=by
  rw [List.all_eq_true];intro x hx;obtain ⟨r,_,rfl⟩:=nO.1 hx;rfl
 simp only [H7];rw [aj ⟨by rw [kR];omega,hall⟩]
abbrev K (r:Row):List UInt8:=dN r.1
/-- How many rows at the head have lesser keys. -/
def nR (k:List UInt8):List Row->Nat
 | []=>0
 | r::rs=>if Op.bytesLess (K r) k=true then nR k rs+1 else 0
theorem abl (k:List UInt8):∀t:List Row,t.drop (nR k t)=t.dropWhile λr=>Op.bytesLess (K r) k
 | []=>rfl
 | r::rs=>by
   unfold nR;cases h:Op.bytesLess (K r) k with
   | true=>simp [h,abl k rs]
   | false=>simp [h]
theorem Z4 (k:List UInt8):∀t:List Row,nR k t<=t.length
 | []=>by simp [nR]
 | r::rs=>by
   unfold nR;have:=Z4 k rs;split<;>simp;omega
def L9 (t:List Row) (i:Nat) (k:GV) (b n j dd nn:GV):List GV:=match t[i]? with
 | some r=>[.i .i64 0,.i .i64 i,row r,.l (r.1.map ent),.s (dN r.1)]
 | none=>[.i .i64 1,.i .i64 i]
theorem ada (t:List Row) (ht:t.length<=256) (hf:∀r∈t,iq r.1=true) (k:List UInt8) (b n j dd nn:GV):∀m i:Nat,i+m=t.length->
 TT.lim 38 [.l (t.map row),.i .i64 i,.s k,b,n,j,dd,nn]=some (L9 t (i+nR k (t.drop i)) (.s k) b n j dd nn)
 | 0,i,hi=>by
   have h0:t.drop i=[]:=fJ (by omega);have h1:t[i]? = none:=tZ (by omega);refine aB rfl rfl ?_;have h:¬ ((i:Int) < t.length):=by omega
   simp -implicitDefEqProofs [h,h0,nR,L9,h1]
 | m+1,i,hi=>by
   have hlt:i < t.length:=by omega
   have ih:TT.lim 38 [.l (t.map row),.i .i64 ((i:Int)+1),.s k,b,n,j,dd,nn]=_:=ada t ht hf k b n j dd nn m (i+1) (by omega);have k6:=AY t[i].1 (hf _ (gU hlt));have hd:nR k (t.drop i)=if Op.bytesLess (K t[i]) k=true then nR k (t.drop (i+1))+1 else 0:=by rw [iC hlt];rfl
   refine aB rfl rfl ?_;have h:((i:Int) < t.length):=by omega
   have hw:=wrap64 (n:=(i:Int)+1) (by omega) (by omega);rw [hd];cases hb:Op.bytesLess (K t[i]) k with
   | true=>
     have hb':Op.bytesLess (dN t[i].1) k=true:=hb;rw [aj rfl,show i+(nR k (t.drop (i+1))+1)=i+1+nR k (t.drop (i+1)) by omega];simp -implicitDefEqProofs [h,hlt,k6,hb',hw,ih]
   | false=>
     have hb':Op.bytesLess (dN t[i].1) k=false:=hb;have h1:t[i]? = some t[i]:=bM hlt;rw [ah (by simp),jR];simp -implicitDefEqProofs [h,hlt,k6,hb',L9]
def kW:List Row->List Row->Bool
 | _,[]=>true
 | t,r::rs=>match t.drop (nR (K r) t) with
   | []=>false
   | s::t'=>decide (K s=K r)&&decide (r.2<=s.2)&&kW (s::t') rs
theorem ac9 (t b:List Row) (ht:t.length<=256) (hb:b.length<=256) (hf:∀r∈t,iq r.1=true) (hg:∀r∈b,iq r.1=true):∀m j i:Nat,j+m=b.length->i<=t.length->
 TT.lim 37 [.l (t.map row),.i .i64 i,.l (b.map row),.i .i64 b.length,.i .i64 j]=some (if kW (t.drop i) (b.drop j)=true then [.i .i64 1] else [.i .i64 0])
 | 0,j,i,hj,hi=>by
   have h0:b.drop j=[]:=fJ (by omega);refine aB rfl rfl ?_;have h:¬ ((j:Int) < b.length):=by omega
   simp -implicitDefEqProofs [h,h0,kW]
 | m+1,j,i,hj,hi=>by
   have hlt:j < b.length:=by omega
   have k6:=AY b[j].1 (hg _ (gU hlt));have EJ:=ada t ht hf (dN b[j].1) (.l (b.map row)) (.i .i64 b.length) (.i .i64 j) (.l (b[j].1.map ent)) (.i .u64 b[j].2) (t.length - i) i (by omega);have hal:=Z4 (dN b[j].1) (t.drop i);rw [eH] at hal;have hdr:b.drop j=b[j]::b.drop (j+1):=iC hlt
   have hat:kW (t.drop i) (b.drop j)=match t.drop (i+nR (dN b[j].1) (t.drop i)) with
    | []=>false
    | s::t'=>decide (K s=K b[j])&&decide (b[j].2<=s.2)&&kW (s::t') (b.drop (j+1)):=by
    rw [hdr];simp only [kW,qX]
   rw [hat];generalize hi':i+nR (dN b[j].1) (t.drop i)=i' at EJ ⊢;have hi2:i'<=t.length:=by omega
   refine aB rfl rfl ?_;have h:((j:Int) < b.length):=by omega
   have hw:=wrap64 (n:=(j:Int)+1) (by omega) (by omega);by_cases hlt2:i' < t.length
   ·have hne:¬ ((i':Int)=(t.length:Int)):=by omega
    have h1:t[i']? = some t[i']:=bM hlt2;have hd2:t.drop i'=t[i']::t.drop (i'+1):=iC hlt2;have k7:=AY t[i'].1 (hf _ (gU hlt2));have ih:TT.lim 37 [.l (t.map row),.i .i64 i',.l (b.map row),.i .i64 b.length,.i .i64 ((j:Int)+1)]=_:=ac9 t b ht hb hf hg m (j+1) i' (by omega) hi2;simp only [L9,h1] at EJ;rw [hd2];rw [hd2] at ih;by_cases h2:dN t[i'].1=dN b[j].1
    ·have h2':(dN t[i'].1=dN b[j].1)=True:=eq_true h2
     clear h2;by_cases h3:t[i'].2 < b[j].2
     ·have h3':¬ b[j].2<=t[i'].2:=by omega
      simp -implicitDefEqProofs [h,hlt,k6,EJ,hne,hlt2,k7,h2',h3,h3']
     ·have h3':b[j].2<=t[i'].2:=by omega
      simp -implicitDefEqProofs [h,hlt,k6,EJ,hne,hlt2,k7,h2',h3,h3',hw,ih]
    ·simp -implicitDefEqProofs [h,hlt,k6,EJ,hne,hlt2,k7,h2]
   ·have he:(i':Int)=(t.length:Int):=by omega
    have h1:t[i']? = none:=tZ (by omega);have hd2:t.drop i'=[]:=fJ (by omega);simp only [L9,h1] at EJ;rw [hd2];simp -implicitDefEqProofs [h,hlt,k6,EJ,he]
theorem aaj (t b:List Row) (ht:t.length<=256) (hb:b.length<=256) (hf:∀r∈t,iq r.1=true) (hg:∀r∈b,iq r.1=true):TT.lim 36 [.l (t.map row),.l (b.map row)]=some [.b (kW t b)]:=by
 have PZ:TT.lim 37 [.l (t.map row),.i .i64 0,.l (b.map row),.i .i64 b.length,.i .i64 0]=_:=ac9 t b ht hb hf hg b.length 0 0 (by omega) (by omega);rw [dO,dO] at PZ;refine aQ rfl rfl ?_ rfl;cases ha:kW t b<;>rw [ha] at PZ<;>simp at PZ<;>simp [PZ]
theorem ajT (x y:dM):kX [1,1] [.s x.1,.s x.2] [.s y.1,.s y.2]=some (decide (x=y)):=by
 simp only [kX,fK,Nz];congr 1;rw [vF];simp -implicitDefEqProofs [Prod.ext_iff]
theorem adf (d e:List dM) (hl:d.length=e.length) (hb:d.length<=140737488351232):∀m i:Nat,i+m=d.length->
 TT.lim 162 [.l (d.map ent),.l (e.map ent),.i .i64 d.length,.i .i64 i]=some (if d.drop i=e.drop i then [.i .i64 1] else [.i .i64 0])
 | 0,i,hi=>by
   have h0:d.drop i=[]:=fJ (by omega);have h1:e.drop i=[]:=fJ (by omega);refine aB rfl rfl ?_;have h:¬ ((i:Int) < d.length):=by omega
   simp -implicitDefEqProofs [h,h0,h1]
 | m+1,i,hi=>by
   have hlt:i < d.length:=by omega
   have hlt2:i < e.length:=by omega
   have ih:TT.lim 162 [.l (d.map ent),.l (e.map ent),.i .i64 d.length,.i .i64 ((i:Int)+1)]=_:=adf d e hl hb m (i+1) (by omega);have hd:(d.drop i=e.drop i)↔(d[i]=e[i]/\d.drop (i+1)=e.drop (i+1)):=by
    rw [iC hlt,iC hlt2,yE]
   have hq:=ajT d[i] e[i];refine aB rfl rfl ?_;have h:((i:Int) < d.length):=by omega
   have hw:=wrap64 (n:=(i:Int)+1) (by omega) (by omega);by_cases h1:d[i]=e[i]
   ·have h2:(d.drop i=e.drop i)↔(d.drop (i+1)=e.drop (i+1)):=by rw [hd];simp [h1]
    have hq':kX [1,1] [.s d[i].1,.s d[i].2] [.s e[i].1,.s e[i].2]=some true:=by rw [hq];simp [h1]
    simp only [h2];simp -implicitDefEqProofs [h,hlt,hlt2,hq',hw,ih]
   ·have h2:¬ (d.drop i=e.drop i):=by rw [hd];simp [h1]
    have hq':kX [1,1] [.s d[i].1,.s d[i].2] [.s e[i].1,.s e[i].2]=some false:=by rw [hq];simp [h1]
    rw [ah h2];simp -implicitDefEqProofs [h,hlt,hlt2,hq']
theorem abD (d e:List dM) (hb:d.length<=140737488351232) (hb2:e.length<=140737488351232):TT.lim 161 [.l (d.map ent),.l (e.map ent)]=some [.b (decide (d=e))]:=by
 refine aQ rfl rfl ?_ rfl;by_cases hl:d.length=e.length
 ·have hl':(d.length:Int)=(e.length:Int):=by omega
  have h32:TT.lim 162 [.l (d.map ent),.l (e.map ent),.i .i64 d.length,.i .i64 0]=_:=adf d e hl hb d.length 0 (by omega);rw [dO,dO] at h32;by_cases h:d=e
  ·rw [aj h] at h32
   have h':(d=e)=True:=eq_true h;clear h;rw [hl'] at h32;simp -implicitDefEqProofs [hl',h32,h']
  ·rw [ah h] at h32
   rw [hl'] at h32;simp -implicitDefEqProofs [hl',h32,h]
 ·have hl':¬ (d.length:Int)=(e.length:Int):=by omega
  have h:¬ d=e:=λh=>hl (by rw [h]);simp -implicitDefEqProofs [hl',hl,h]
theorem apZ (r s:Row) (hb:r.1.length<=140737488351232) (hb2:s.1.length<=140737488351232):TT.lim 166 [row r,row s]=some [.b (decide (r=s))]:=by
 have k:=abD r.1 s.1 hb hb2;refine aQ rfl rfl ?_ rfl;by_cases h:r.2=s.2
 ·have:decide (r=s)=decide (r.1=s.1):=by rw [vF];simp [Prod.ext_iff,h]
  rw [this];simp -implicitDefEqProofs [h,k]
 ·have:decide (r=s)=false:=by rw [decide_eq_false_iff_not];intro e;exact h (by rw [e])
  rw [this];simp -implicitDefEqProofs [h]
theorem adb (a b:List Row) (hl:a.length=b.length) (hb:a.length<=140737488351232) (h1:∀r∈a,r.1.length<=140737488351232) (h2:∀r∈b,r.1.length<=140737488351232):∀m i:Nat,i+m=a.length->
 TT.lim 165 [.l (b.map row),.l (a.map row),.i .i64 a.length,.i .i64 i]=some (if a.drop i=b.drop i then [.i .i64 1] else [.i .i64 0])
 | 0,i,hi=>by
   have h0:a.drop i=[]:=fJ (by omega);have h1:b.drop i=[]:=fJ (by omega);refine aB rfl rfl ?_;have h:¬ ((i:Int) < a.length):=by omega
   simp -implicitDefEqProofs [h,h0,h1]
 | m+1,i,hi=>by
   have hlt:i < a.length:=by omega
   have hlt2:i < b.length:=by omega
   have ih:TT.lim 165 [.l (b.map row),.l (a.map row),.i .i64 a.length,.i .i64 ((i:Int)+1)]=_:=adb a b hl hb h1 h2 m (i+1) (by omega);have hd:(a.drop i=b.drop i)↔(a[i]=b[i]/\a.drop (i+1)=b.drop (i+1)):=by
    rw [iC hlt,iC hlt2,yE]
   have k:=apZ a[i] b[i] (h1 _ (gU hlt)) (h2 _ (gU hlt2));have r1:GV.g [.l (a[i].1.map ent),.i .u64 a[i].2]=row a[i]:=rfl;have r2:GV.g [.l (b[i].1.map ent),.i .u64 b[i].2]=row b[i]:=rfl;refine aB rfl rfl ?_;have h:((i:Int) < a.length):=by omega
   have hw:=wrap64 (n:=(i:Int)+1) (by omega) (by omega);by_cases h3:a[i]=b[i]
   ·have h4:(a.drop i=b.drop i)↔(a.drop (i+1)=b.drop (i+1)):=by rw [hd];simp [h3]
    simp only [h4];have k':TT.lim 166 [row a[i],row b[i]]=some [.b true]:=by rw [k];simp [h3]
    simp -implicitDefEqProofs [h,hlt,hlt2,r1,r2,k',hw,ih]
   ·have h4:¬ (a.drop i=b.drop i):=by rw [hd];simp [h3]
    rw [ah h4];have k':TT.lim 166 [row a[i],row b[i]]=some [.b false]:=by rw [k];simp [h3]
    simp -implicitDefEqProofs [h,hlt,hlt2,r1,r2,k']
theorem aro (a b:List Row) (hb:a.length<=140737488351232) (hb2:b.length<=140737488351232) (h1:∀r∈a,r.1.length<=140737488351232) (h2:∀r∈b,r.1.length<=140737488351232):TT.lim 163 [.l (a.map row),.l (b.map row)]=some [.b (decide (a=b))]:=by
 have h28:TT.lim 164 [.l (a.map row),.l (b.map row)]=some [.b (decide (a=b))]:=by
  refine aQ rfl rfl ?_ rfl;by_cases hl:a.length=b.length
  ·have hl':(a.length:Int)=(b.length:Int):=by omega
   have Iz:TT.lim 165 [.l (b.map row),.l (a.map row),.i .i64 a.length,.i .i64 0]=_:=adb a b hl hb h1 h2 a.length 0 (by omega);rw [dO,dO] at Iz;rw [hl'] at Iz;by_cases h:a=b
   ·rw [aj h] at Iz
    have h':(a=b)=True:=eq_true h;clear h;simp -implicitDefEqProofs [hl',Iz,h']
   ·rw [ah h] at Iz
    simp -implicitDefEqProofs [hl',Iz,h]
  ·have hl':¬ (a.length:Int)=(b.length:Int):=by omega
   have h:¬ a=b:=λh=>hl (by rw [h]);simp -implicitDefEqProofs [hl',hl,h]
 refine aQ rfl rfl ?_ rfl;simp -implicitDefEqProofs [h28]
theorem Kt (a b:List UInt8):Op.bytesLess a b=true↔a < b:=by rw [HY];simp
/-- Rows whose keys rise. -/
def jl (l:List Row):Prop:=l.Pairwise λa b=>K a < K b
theorem J8:∀ (b t:List Row),jl t->jl b->(kW t b=true↔∀r∈b,∃s∈t,K s=K r/\r.2<=s.2)
 | [],t,_,_=>by simp [kW]
 | r::rs,t,ht,hb=>by
   have hrs:=iV.1 hb;have hdw:=abl (K r) t;have htd:jl (t.drop (nR (K r) t)):=ht.sublist (Zp _ _);have hsub:∀s∈t.drop (nR (K r) t),s∈t:=λs hs=>(Zp _ _).subset hs
   -- what is not dropped
   have hkeep:∀ (u:List Row),(∀s∈u,s∈t.dropWhile (λx=>Op.bytesLess (K x) (K r))\/K s < K r)->True:=λ_ _=>trivial;have hin:∀s∈t,¬ K s < K r->s∈t.drop (nR (K r) t):=by
    intro s hs hn;rw [hdw];clear hkeep hsub htd hdw ht;induction t with
    | nil=>simp at hs
    | cons a t ih=>
      rw [List.dropWhile_cons];split
      ·next ha=>
       rcases bC.1 hs with rfl | hs
       ·exact absurd ((Kt _ _).1 ha) hn
       ·exact ih hs
      ·exact hs
   have hhead:∀s t',t.drop (nR (K r) t)=s::t'->¬ K s < K r:=by
    intro s t' e;rw [hdw] at e;have:=List.head?_dropWhile_not (λx=>Op.bytesLess (K x) (K r)) t;rw [e] at this;simp only [TB,Option.all_some,wK] at this;intro hlt;rw [(Kt _ _).2 hlt] at this;cases this
   unfold kW;cases e:t.drop (nR (K r) t) with
   | nil=>
     simp only [fV,false_iff];intro h;obtain ⟨s,hs,hk,_⟩:=h r (by simp);have:=hin s hs (by rw [hk];exact mP _);rw [e] at this;simp at this
   | cons s t'=>
     simp only [aI,decide_eq_true_iff];rw [e] at htd hsub hin;rw [J8 rs (s::t') htd hrs.2];have hst:=iV.1 htd;constructor
     ·rintro ⟨⟨h1,h2⟩,h3⟩ x hx
      rcases bC.1 hx with rfl | hx
      ·exact ⟨s,hsub s (by simp),h1,h2⟩
      ·obtain ⟨y,hy,h4⟩:=h3 x hx
       exact ⟨y,hsub y hy,h4⟩
     ·intro h
      obtain ⟨y,hy,hk,hn⟩:=h r (by simp);have hy2:=hin y hy (by rw [hk];exact mP _);have hys:y=s:=by
       rcases bC.1 hy2 with rfl | hy2
       ·rfl
       ·have:=hst.1 y hy2
        rw [hk] at this;exact absurd this (hhead s t' e)
      subst hys;refine ⟨⟨hk,hn⟩,λx hx=>?_⟩;obtain ⟨z,hz,h4,h5⟩:=h x (by simp [hx]);refine ⟨z,hin z hz ?_,h4,h5⟩;rw [h4];exact λhlt=>mP _ (xF hlt (hrs.1 x hx))
theorem ag6 {a b c:List Row} (ha:jl a) (hb:jl b) (hc:jl c) (h1:kW a b=true) (h2:kW b c=true):kW a c=true:=by
 rw [J8 _ _ ha hb] at h1;rw [J8 _ _ hb hc] at h2;rw [J8 _ _ ha hc];intro r hr;obtain ⟨s,hs,k1,n1⟩:=h2 r hr;obtain ⟨u,hu,k2,n2⟩:=h1 s hs;exact ⟨u,hu,k2.trans k1,Int.le_trans n1 n2⟩
theorem ae3:∀ {a b:List Row},jl a->jl b->(∀r∈a,r∈b)->(∀r∈b,r∈a)->a=b
 | [],[],_,_,_,_=>rfl
 | [],b::_,_,_,_,h=>absurd (h b (by simp)) (by simp)
 | a::_,[],_,_,h,_=>absurd (h a (by simp)) (by simp)
 | x::a,y::b,ha,hb,h1,h2=>by
   have ha':=iV.1 ha;have hb':=iV.1 hb;have hxy:x=y:=by
    rcases bC.1 (h1 x (by simp)) with e | hx
    ·exact e
    ·rcases bC.1 (h2 y (by simp)) with e | hy
     ·exact e.symm
     ·exact absurd (xF (hb'.1 x hx) (ha'.1 y hy)) (mP _)
   subst hxy;rw [ae3 ha'.2 hb'.2 (λr hr=>?_) (λr hr=>?_)]
   ·rcases bC.1 (h1 r (by simp [hr])) with e | h
    ·subst e;exact absurd (ha'.1 _ hr) (mP _)
    ·exact h
   ·rcases bC.1 (h2 r (by simp [hr])) with e | h
    ·subst e;exact absurd (hb'.1 _ hr) (mP _)
    ·exact h
theorem apX {a:List Row} (ha:jl a) {r s:Row} (hr:r∈a) (hs:s∈a) (hk:K r=K s):r=s:=by
 induction a with
 | nil=>simp at hr
 | cons x a ih=>
   have ha':=iV.1 ha;rcases bC.1 hr with e1 | hr1<;>rcases bC.1 hs with e2 | hs1
   ·rw [e1,e2]
   ·have:=ha'.1 s hs1;rw [<- e1,hk] at this;exact absurd this (mP _)
   ·have:=ha'.1 r hr1;rw [<- e2,hk] at this;exact absurd this (mP _)
   ·exact ih ha'.2 hr1 hs1
theorem ajS {cs:List GV} {r0:List GV} (h:bK.iH [.list true [.str,.str],.int .u64] cs):∃r:Row,(pG r.1/\0<=r.2/\r.2 < 18446744073709551616)/\GV.g cs=row r:=by
 obtain ⟨g,l,rfl,h1,h⟩:=qH h;obtain ⟨n,l,rfl,h2,h⟩:=qH h;obtain rfl:=Lj h;obtain ⟨n,rfl,n1,n2⟩:=IJ h2;obtain ⟨xs,rfl,h3,h4⟩:=Vs h1;obtain ⟨d,hd,rfl⟩:∃d:List dM,(∀x∈d,x.1.length<=140737488351232/\x.2.length<=140737488351232)/\xs=d.map ent:=Qz λx hx=>by
  obtain ⟨k1,k2⟩:=h4 x hx;cases x<;>simp [GV.scalar] at k2
  obtain ⟨a,l,e1,a1,k1⟩:=qH k1;obtain ⟨b,l,rfl,b1,k1⟩:=qH k1;obtain rfl:=Lj k1;obtain ⟨s,rfl,s1⟩:=Vt a1;obtain ⟨u,rfl,u1⟩:=Vt b1;simp only [ahz] at e1;subst e1;exact ⟨(s,u),⟨Nat.le_trans s1 (by decide),jw u1 (by decide)⟩,rfl⟩
 exact ⟨(d,n),⟨⟨by have:=jw h3 (by decide:reachBytes<=140737488351232);simpa using this,hd⟩,n1,n2⟩,rfl⟩
theorem ap1 {g:GV} (h:(bK.list true [.list true [.str,.str],.int .u64]).has g):∃l:List Row,Rows l/\g=.l (l.map row):=by
 obtain ⟨xs,rfl,h1,h2⟩:=Vs h;obtain ⟨l,hl,rfl⟩:∃l:List Row,(∀r∈l,pG r.1/\0<=r.2/\r.2 < 18446744073709551616)/\xs=l.map row:=Qz λx hx=>by
  obtain ⟨k1,k2⟩:=h2 x hx;cases x<;>simp [GV.scalar] at k2
  obtain ⟨r,hr,e⟩:=ajS (r0:=[]) k1;exact ⟨r,hr,e⟩
 exact ⟨l,⟨by have:=jw h1 (by decide:reachBytes<=140737488351232);simpa using this,hl⟩,rfl⟩
def rC:Option (List UInt8)->List Row->Int
 | _,[]=>0
 | p,r::rs=>if wz r≠0 then wz r else match p with
   | none=>rC (some (K r)) rs
   | some k=>if K r=k then 14 else if Op.bytesLess (K r) k=true then 7 else rC (some (K r)) rs
theorem adg (t:List Row) (ht:Rows t) (hf:∀r∈t,iq r.1=true):∀ (m i:Nat) (p:List UInt8),i+m=t.length->
 TT.lim 25 [.s p,.l (t.map row),.i .i64 t.length,.i .i64 i]=some (tagged (rC (if i=0 then none else some p) (t.drop i)))
 | 0,i,p,hi=>by
   have h0:t.drop i=[]:=fJ (by omega);refine aB rfl rfl ?_;have h:¬ ((i:Int) < t.length):=by omega
   simp -implicitDefEqProofs [h,h0,rC,tagged]
 | m+1,i,p,hi=>by
   have hlt:i < t.length:=by omega
   have hr:=ht.2 t[i] (gU hlt);have k15:=ahB t[i] hr.1;have k6:=AY t[i].1 (hf _ (gU hlt));have hrow:GV.g [.l (t[i].1.map ent),.i .u64 t[i].2]=row t[i]:=rfl;have ih:TT.lim 25 [.s (dN t[i].1),.l (t.map row),.i .i64 t.length,.i .i64 ((i:Int)+1)]=_:=adg t ht hf m (i+1) (dN t[i].1) (by omega);rw [ah (by omega)] at ih;rw [iC hlt];refine aB rfl rfl ?_;have h:((i:Int) < t.length):=by omega
   have hw:=wrap64 (n:=(i:Int)+1) (by omega) (by have:=ht.1;omega);by_cases h1:wz t[i]=0;rotate_left
   ·simp -implicitDefEqProofs [-List.getElem_cons_drop,h,hlt,hrow,k15,h1,rC,tagged]
   by_cases h0:i=0
   ·subst h0
    simp only [wM,Zi] at hw ih;simp -implicitDefEqProofs [-List.getElem_cons_drop,h,hlt,hrow,k15,h1,k6,hw,rC];have hn:(0:Int) < (t.length:Int):=by omega
    simpa using ih
   ·have hi0:0 < i:=by omega
    by_cases h2:dN t[i].1=p
    ·have h2':(dN t[i].1=p)=True:=eq_true h2
     clear h2;simp -implicitDefEqProofs [-List.getElem_cons_drop,h,hlt,hrow,k15,h1,k6,hi0,h0,h2',rC,tagged]
    ·cases h3:Op.bytesLess (dN t[i].1) p with
     | true=>simp [-List.getElem_cons_drop,h,hlt,hrow,k15,h1,k6,hi0,h0,h2,h3,rC,tagged]
     | false=>simp [-List.getElem_cons_drop,h,hlt,hrow,k15,h1,k6,hi0,h0,h2,h3,hw,ih,rC]
def lD (t:List Row):Int:=if 256 < t.length then 13 else rC none t
theorem OQ (t:List Row) (ht:Rows t) (hf:∀r∈t,iq r.1=true):TT.lim 24 [.l (t.map row)]=some [.i .i64 (lD t)]:=by
 have h38:TT.lim 25 [.s [],.l (t.map row),.i .i64 t.length,.i .i64 0]=_:=adg t ht hf t.length 0 [] (by omega);rw [aj rfl,dO] at h38;refine aQ rfl rfl ?_ rfl;unfold lD;by_cases h1:256 < t.length
 ·have h1':(256:Int) < (t.length:Int):=by omega
  simp -implicitDefEqProofs [h1,h1']
 ·have h1':¬ (256:Int) < (t.length:Int):=by omega
  by_cases h2:rC none t=0
  ·simp only [tagged,h2,if_true] at h38
   simp -implicitDefEqProofs [h1,h1',h38,h2]
  ·simp only [tagged,h2,if_false] at h38
   simp -implicitDefEqProofs [h1,h1',h38,h2]
theorem aaN:∀ {t:List Row} (p:Option (List UInt8)),jl t->(∀r∈t,wz r=0)->(∀k,p=some k->∀r∈t,k < K r)->rC p t=0
 | [],p,_,_,_=>by cases p<;>rfl
 | r::t,p,ht,hc,hp=>by
   have ht':=iV.1 ht;have ih:=aaN (t:=t) (some (K r)) ht'.2 (λx hx=>hc x (by simp [hx])) (λk hk x hx=>by cases hk;exact ht'.1 x hx);unfold rC;rw [ah (by simp [hc r (by simp)])];cases p with
   | none=>exact ih
   | some k=>
     have hk:=hp k rfl r (by simp);have h1:¬ K r=k:=λe=>by rw [e] at hk;exact mP _ hk
     have h2:¬ Op.bytesLess (K r) k=true:=λe=>mP _ (xF hk ((Kt _ _).1 e));simp only;rw [ah h1,ah h2];exact ih
theorem Rows.perm {l m:List Row} (h:l.Perm m) (hl:Rows l):Rows m:=⟨by rw [<- h.length_eq];exact hl.1,λr hr=>hl.2 r (h.mem_iff.2 hr)⟩
def cmpK (a b:List UInt8):Int:=if a < b then -1 else if b < a then 1 else 0
theorem aaY:∀a b:List UInt8,Lib.compareBytes a b=cmpK a b
 | [],[]=>by simp [Lib.compareBytes,cmpK]
 | [],_::_=>by simp [Lib.compareBytes,cmpK]
 | _::_,[]=>by simp [Lib.compareBytes,cmpK]
 | x::a,y::b=>by
   unfold Lib.compareBytes;rw [aaY a b];unfold cmpK;simp only [Zm];by_cases h1:x < y
   ·simp -implicitDefEqProofs [h1]
   ·by_cases h2:y < x
    ·have hne:¬ x=y:=λe=>by subst e;exact UInt8.lt_irrefl _ h2
     simp -implicitDefEqProofs [h1,h2,hne]
    ·have he:x=y:=UInt8.le_antisymm (UInt8.not_lt.1 h2) (UInt8.not_lt.1 h1)
     subst he;simp -implicitDefEqProofs [UInt8.lt_irrefl]
theorem ahS (a b:List UInt8):UE a b=cmpK a b:=(Lib.cmp_eq _ _).trans (aaY a b)
theorem ahR (a b:List UInt8):TT.lim 48 [.s a,.s b]=some [.i .i64 (cmpK a b)]:=FX rfl (by rw [<- ahS];rfl)
theorem aaP (d e:List dM) (hd:iq d=true) (he:iq e=true):TT.lim 47 [.l (d.map ent),.l (e.map ent)]=some [.i .i64 (cmpK (dN d) (dN e))]:=by
 have k1:=AY d hd;have k2:=AY e he;have k3:=ahR (dN d) (dN e);refine aQ rfl rfl ?_ rfl;simp -implicitDefEqProofs [k1,k2,k3]
theorem agS (x y:Int) (h1:0<=x) (h2:0<=y):TT.lim 158 [.i .u64 x,.i .u64 y,.i .u64 0]=some [.i .u64 ((x+y) % 18446744073709551616),.i .u64 ((x+y) / 18446744073709551616)]:=FX rfl (by
 unfold ZY;simp only;rw [aj ⟨h1,h2,by omega,by omega⟩];simp only [Int.add_zero])
def val:List Row->List UInt8->Int
 | [],_=>0
 | r::rs,k=>if K r=k then r.2 else val rs k
def Pos (t:List Row):Prop:=∀r∈t,0 < r.2/\r.2 < 18446744073709551616
theorem Np:∀ {t:List Row} {k:List UInt8},(∀r∈t,K r≠k)->val t k=0
 | [],_,_=>rfl
 | r::t,k,h=>by unfold val;rw [ah (h r (by simp))];exact Np λx hx=>h x (by simp [hx])
theorem af5:∀ {t:List Row},jl t->∀r∈t,val t (K r)=r.2
 | [],_,r,h=>by simp at h
 | x::t,ht,r,h=>by
   have ht':=iV.1 ht;unfold val;rcases bC.1 h with rfl | h
   ·rw [aj rfl]
   ·rw [ah λe=>by have:=ht'.1 r h;rw [e] at this;exact mP _ this]
    exact af5 ht'.2 r h
theorem YR:∀ (t:List Row) (k:List UInt8),(∃r∈t,K r=k/\val t k=r.2)\/((∀r∈t,K r≠k)/\val t k=0)
 | [],k=>.inr ⟨by simp,rfl⟩
 | x::t,k=>by
   unfold val;by_cases h:K x=k
   ·exact .inl ⟨x,by simp,h,by rw [aj h]⟩
   ·rw [ah h]
    rcases YR t k with ⟨r,h1,h2,h3⟩ | ⟨h1,h2⟩
    ·exact .inl ⟨r,by simp [h1],h2,h3⟩
    ·refine .inr ⟨λr hr=>?_,h2⟩
     rcases bC.1 hr with rfl | hr
     ·exact h
     ·exact h1 r hr
theorem as2 {t:List Row} (hp:Pos t) (k:List UInt8):0<=val t k/\val t k < 18446744073709551616:=by
 rcases YR t k with ⟨r,h1,h2,h3⟩ | ⟨h1,h2⟩
 ·have:=hp r h1;omega
 ·omega
theorem as3 {t:List Row} (hp:Pos t) {k:List UInt8} (h:0 < val t k):∃r∈t,K r=k/\val t k=r.2:=by
 rcases YR t k with h1 | ⟨h1,h2⟩
 ·exact h1
 ·omega
theorem as1 {a b:List Row} (ha:jl a) (hb:jl b) (pa:Pos a) (pb:Pos b) (h:∀k,val a k=val b k):a=b:=by
 have key:∀ {a b:List Row},jl a->jl b->Pos a->Pos b->(∀k,val a k=val b k)->∀r∈a,r∈b:=by
  intro a b ha hb pa pb h r hr;have h1:=af5 ha r hr;have h2:=(pa r hr).1;obtain ⟨s,hs,h3,h4⟩:=as3 pb (k:=K r) (by rw [<- h];omega);have:s=r:=Prod.ext (amo h3) (by rw [<- h4,<- h,h1]);rw [<- this];exact hs
 exact ae3 ha hb (key ha hb pa pb h) (key hb ha pb pa λk=>(h k).symm)
def fD:List Row->List Row->Option (List Row)
 | [],b=>some b
 | x::a,[]=>some (x::a)
 | x::a,y::b=>
   if K x < K y then (fD a (y::b)).map (x::·)
   else if K y < K x then (fD (x::a) b).map (y::·)
   else if x.2+y.2 < 18446744073709551616 then (fD a b).map ((x.1,x.2+y.2)::·) else none
termination_by a b=>a.length+b.length
def Keys (a b m:List Row):Prop:=∀r∈m,∃s,(s∈a\/s∈b)/\s.1=r.1
theorem QM:∀ (a b:List Row) {m:List Row},jl a->jl b->Pos a->Pos b->fD a b=some m->jl m/\(∀k,val m k=val a k+val b k)/\Keys a b m/\Pos m:=by
 intro a b;induction a,b using fD.induct with
 | case1 b=>
   intro m ha hb pa pb h;rw [fD] at h;cases h;exact ⟨hb,λk=>by simp [val],λr hr=>⟨r,.inr hr,rfl⟩,pb⟩
 | case2 x a=>
   intro m ha hb pa pb h;rw [fD] at h;cases h;exact ⟨ha,λk=>by simp [val],λr hr=>⟨r,.inl hr,rfl⟩,pa⟩
 | case3 x a y b hlt ih=>
   intro m ha hb pa pb h;rw [fD,aj hlt] at h;obtain ⟨m',h',rfl⟩:=aX.1 h;have ha':=iV.1 ha;have hb':=iV.1 hb;obtain ⟨h1,h2,h3,h4⟩:=ih ha'.2 hb (λr hr=>pa r (by simp [hr])) pb h';have hx:∀s,s∈a\/s∈y::b->K x < K s:=by
    rintro s (hs | hs)
    ·exact ha'.1 s hs
    ·rcases bC.1 hs with rfl | hs
     ·exact hlt
     ·exact xF hlt (hb'.1 s hs)
   refine ⟨List.Pairwise.cons (λr hr=>?_) h1,λk=>?_,λr hr=>?_,λr hr=>?_⟩
   ·obtain ⟨s,hs,e⟩:=h3 r hr
    have:=hx s hs;show K x < dN r.1
    rw [<- e];exact this
   ·show (if K x=k then x.2 else val m' k)=(if K x=k then x.2 else val a k)+val (y::b) k
    split
    ·next e=>
     rw [Np (t:=y::b) λr hr e2=>by have:=hx r (.inr hr);rw [e,e2] at this;exact mP _ this];omega
    ·exact h2 k
   ·rcases bC.1 hr with rfl | hr
    ·exact ⟨r,.inl (by simp),rfl⟩
    ·obtain ⟨s,hs,e⟩:=h3 r hr
     exact ⟨s,hs.imp (λh=>by simp [h]) id,e⟩
   ·rcases bC.1 hr with rfl | hr
    ·exact pa r (by simp)
    ·exact h4 r hr
 | case4 x a y b hlt hgt ih=>
   intro m ha hb pa pb h;rw [fD,ah hlt,aj hgt] at h;obtain ⟨m',h',rfl⟩:=aX.1 h;have ha':=iV.1 ha;have hb':=iV.1 hb;obtain ⟨h1,h2,h3,h4⟩:=ih ha hb'.2 pa (λr hr=>pb r (by simp [hr])) h';have hx:∀s,s∈x::a\/s∈b->K y < K s:=by
    rintro s (hs | hs)
    ·rcases bC.1 hs with rfl | hs
     ·exact hgt
     ·exact xF hgt (ha'.1 s hs)
    ·exact hb'.1 s hs
   refine ⟨List.Pairwise.cons (λr hr=>?_) h1,λk=>?_,λr hr=>?_,λr hr=>?_⟩
   ·obtain ⟨s,hs,e⟩:=h3 r hr
    have:=hx s hs;show K y < dN r.1
    rw [<- e];exact this
   ·show (if K y=k then y.2 else val m' k)=val (x::a) k+(if K y=k then y.2 else val b k)
    split
    ·next e=>
     rw [Np (t:=x::a) λr hr e2=>by have:=hx r (.inl hr);rw [e,e2] at this;exact mP _ this];omega
    ·exact h2 k
   ·rcases bC.1 hr with rfl | hr
    ·exact ⟨r,.inr (by simp),rfl⟩
    ·obtain ⟨s,hs,e⟩:=h3 r hr
     exact ⟨s,hs.imp id (λh=>by simp [h]),e⟩
   ·rcases bC.1 hr with rfl | hr
    ·exact pb r (by simp)
    ·exact h4 r hr
 | case5 x a y b hlt hgt hs ih=>
   intro m ha hb pa pb h;rw [fD,ah hlt,ah hgt,aj hs] at h;obtain ⟨m',h',rfl⟩:=aX.1 h;have ha':=iV.1 ha;have hb':=iV.1 hb;have he:K x=K y:=NK (yG.1 hgt) (yG.1 hlt);obtain ⟨h1,h2,h3,h4⟩:=ih ha'.2 hb'.2 (λr hr=>pa r (by simp [hr])) (λr hr=>pb r (by simp [hr])) h';have hx:∀s,s∈a\/s∈b->K x < K s:=by
    rintro s (hs | hs)
    ·exact ha'.1 s hs
    ·rw [he];exact hb'.1 s hs
   refine ⟨List.Pairwise.cons (λr hr=>?_) h1,λk=>?_,λr hr=>?_,λr hr=>?_⟩
   ·obtain ⟨s,hs,e⟩:=h3 r hr
    have:=hx s hs;show dN x.1 < dN r.1
    rw [<- e];exact this
   ·show (if K x=k then x.2+y.2 else val m' k)=(if K x=k then x.2 else val a k)+(if K y=k then y.2 else val b k)
    rw [he];split
    ·rfl
    ·exact h2 k
   ·rcases bC.1 hr with rfl | hr
    ·exact ⟨x,.inl (by simp),rfl⟩
    ·obtain ⟨s,hs,e⟩:=h3 r hr
     exact ⟨s,hs.imp (λh=>by simp [h]) (λh=>by simp [h]),e⟩
   ·rcases bC.1 hr with rfl | hr
    ·have q1:=pa x (by simp);have q2:=pb y (by simp)
     exact ⟨by simp only;omega,hs⟩
    ·exact h4 r hr
 | case6 x a y b hlt hgt hs=>
   intro m ha hb pa pb h;rw [fD,ah hlt,ah hgt,ah hs] at h;cases h
theorem Gq {t:List Row} {k:List UInt8} (h:∀r∈t,k < K r):val t k=0:=Np λr hr e=>by have:=h r hr;rw [e] at this;exact mP _ this
theorem anf:∀ (a b:List Row),jl a->jl b->fD a b=none->∃k,18446744073709551616<=val a k+val b k:=by
 intro a b;induction a,b using fD.induct with
 | case1 b=>intro ha hb h;rw [fD] at h;cases h
 | case2 x a=>intro ha hb h;rw [fD] at h;cases h
 | case3 x a y b hlt ih=>
   intro ha hb h;rw [fD,aj hlt] at h;have ha':=iV.1 ha;have hb':=iV.1 hb;obtain ⟨k,hk⟩:=ih ha'.2 hb (ZJ.1 h);refine ⟨k, ?_⟩;by_cases e:K x=k
   ·exfalso
    subst e;rw [Gq ha'.1,Gq (t:=y::b) λr hr=>?_] at hk
    ·omega
    ·rcases bC.1 hr with rfl | hr
     ·exact hlt
     ·exact xF hlt (hb'.1 r hr)
   ·show _<=(if K x=k then x.2 else val a k)+_
    rw [ah e];exact hk
 | case4 x a y b hlt hgt ih=>
   intro ha hb h;rw [fD,ah hlt,aj hgt] at h;have ha':=iV.1 ha;have hb':=iV.1 hb;obtain ⟨k,hk⟩:=ih ha hb'.2 (ZJ.1 h);refine ⟨k, ?_⟩;by_cases e:K y=k
   ·exfalso
    subst e;rw [Gq hb'.1,Gq (t:=x::a) λr hr=>?_] at hk
    ·omega
    ·rcases bC.1 hr with rfl | hr
     ·exact hgt
     ·exact xF hgt (ha'.1 r hr)
   ·show _<=_+(if K y=k then y.2 else val b k)
    rw [ah e];exact hk
 | case5 x a y b hlt hgt hs ih=>
   intro ha hb h;rw [fD,ah hlt,ah hgt,aj hs] at h;have ha':=iV.1 ha;have hb':=iV.1 hb;have he:K x=K y:=NK (yG.1 hgt) (yG.1 hlt);obtain ⟨k,hk⟩:=ih ha'.2 hb'.2 (ZJ.1 h);refine ⟨k, ?_⟩;by_cases e:K x=k
   ·exfalso
    subst e;rw [Gq ha'.1,Gq (t:=b) λr hr=>by rw [he];exact hb'.1 r hr] at hk;omega
   ·show _<=(if K x=k then x.2 else val a k)+(if K y=k then y.2 else val b k)
    rw [ah e,<- he,ah e];exact hk
 | case6 x a y b hlt hgt hs=>
   intro ha hb h;have he:K x=K y:=NK (yG.1 hgt) (yG.1 hlt);refine ⟨K x, ?_⟩;show _<=(if K x=K x then x.2 else val a _)+(if K y=K x then y.2 else val b _)
   rw [aj rfl,aj he.symm];omega
/-- Lengths, by keys. -/
theorem ae4:∀ {a b:List Row},jl a->jl b->(∀r∈a,∃s∈b,K s=K r)->a.length<=b.length
 | [],_,_,_,_=>uj _
 | _::_,[],_,_,h=>by obtain ⟨s,hs,_⟩:=h _ (List.mem_cons_self ..);simp at hs
 | x::a,y::b,ha,hb,h=>by
   have ha':=iV.1 ha;have hb':=iV.1 hb;have hxy:K y=K x\/K y < K x:=by
    obtain ⟨s,hs,e⟩:=h x (by simp);rcases bC.1 hs with rfl | hs
    ·exact .inl e
    ·right;rw [<- e];exact hb'.1 s hs
   have:=ae4 ha'.2 hb'.2 λr hr=>by
    obtain ⟨s,hs,e⟩:=h r (by simp [hr]);rcases bC.1 hs with rfl | hs
    ·have h1:=ha'.1 r hr
     rw [<- e] at h1;rcases hxy with e2 | e2
     ·rw [e2] at h1;exact absurd h1 (mP _)
     ·exact absurd (xF h1 e2) (mP _)
    ·exact ⟨s,hs,e⟩
   simp only [jK];omega
theorem LV (x:GV) (l:List Row) (n:Int) (hx:x.cells.length=2) (hn:n=l.length+1):LU 2 (some (.l (x::l.map row))) (some (.i .i64 1)) (some (.i .i64 n))=some (.l (l.map row)):=by
 subst hn;rw [rV,aj ⟨by omega,by omega,by simp,by rw [sF];simp [hx,ap0]⟩]
 ·congr 2
  have h1:((l.length:Int)+1).toNat=l.length+1:=by omega
  rw [h1,lu (by simp)];rfl
def oG (acc:List Row):Option (List Row)->List GV
 | some m=>[.i .i64 1,.l ((acc++m).map row)]
 | none=>[.i .i64 0]
theorem AA {d:List dM} (h:iq d=true):d.length<=40:=by
 unfold iq at h;simp at h;omega
theorem ahV {a b:List UInt8} (h:a < b):cmpK a b = -1:=by unfold cmpK;rw [aj h]
theorem ahU {a b:List UInt8} (h1:¬ a < b) (h:b < a):cmpK a b=1:=by unfold cmpK;rw [ah h1,aj h]
theorem ahT {a b:List UInt8} (h1:¬ a < b) (h:¬ b < a):cmpK a b=0:=by unfold cmpK;rw [ah h1,ah h]
def vG (t:List Row):Prop:=∀r∈t,iq r.1=true
set_option maxHeartbeats 4000000 in
theorem amV:∀ (n:Nat) (a b acc:List Row),a.length+b.length<=n->acc.length+a.length+b.length<=1000->vG a->vG b->(∀r∈a,0<=r.2/\r.2 < 18446744073709551616)->(∀r∈b,0<=r.2/\r.2 < 18446744073709551616)->
 TT.lim 157 [.l (a.map row),.l (b.map row),.l (acc.map row)]=some (oG acc (fD a b)):=by
 intro n;induction n with
 | zero=>
   intro a b acc hn hb fa fb va vb;obtain rfl:a=[]:=jh (by omega);obtain rfl:b=[]:=jh (by omega);rw [fD];refine aB rfl rfl ?_;simp -implicitDefEqProofs [oG]
 | succ n ih=>
   intro a b acc hn hb fa fb va vb;cases a with
   | nil=>
     cases b with
     | nil=>
       rw [fD];refine aB rfl rfl ?_;simp -implicitDefEqProofs [oG]
     | cons y b=>
       simp only [qy,jK,jk] at hn hb;have ih':=ih [] b (acc++[y]) (by simp;omega) (by simp;omega) fa (λr hr=>fb r (by simp [hr])) va (λr hr=>vb r (by simp [hr]));rw [fD] at ih' ⊢;simp only [oG,List.append_assoc,JM,mQ,gV,lW] at ih' ⊢;have kc:=CY y.1 (AA (fb y (by simp)));have hrow:GV.g [.l (y.1.map ent),.i .u64 y.2]=row y:=rfl;have hok:(row y).fA 2=true:=rfl;have hl:=LV (row y) b ((b.length:Int)+1) rfl rfl;have hbb:2 * (acc.length+1) * 32<=281474976710656/\acc.length+1<=281474976710656:=by omega
       have hp:(0:Int) < (b.length:Int)+1:=by omega
       have hp2:¬ ((b.length:Int)+1=0):=by omega
       refine aB rfl rfl ?_;simp -implicitDefEqProofs [-rV,kc,hrow,hok,hl,hbb,hp,hp2,ih']
   | cons x a=>
     cases b with
     | nil=>
       simp only [qy,jK,jR] at hn hb;have ih':=ih a [] (acc++[x]) (by simp;omega) (by simp;omega) (λr hr=>fa r (by simp [hr])) fb (λr hr=>va r (by simp [hr])) vb;have hm:fD a []=some a:=by cases a<;>rw [fD]
       rw [hm] at ih';rw [fD];simp only [oG,List.append_assoc,JM,mQ,gV,lW] at ih' ⊢;have kc:=CY x.1 (AA (fa x (by simp)));have hrow:GV.g [.l (x.1.map ent),.i .u64 x.2]=row x:=rfl;have hok:(row x).fA 2=true:=rfl;have hl:=LV (row x) a ((a.length:Int)+1) rfl rfl;have hbb:2 * (acc.length+1) * 32<=281474976710656/\acc.length+1<=281474976710656:=by omega
       have hp:(0:Int) < (a.length:Int)+1:=by omega
       have hp2:¬ ((a.length:Int)+1=0):=by omega
       refine aB rfl rfl ?_;simp -implicitDefEqProofs [-rV,kc,hrow,hok,hl,hbb,hp,hp2,ih']
     | cons y b=>
       simp only [jK] at hn hb;have fx:=fa x (by simp);have fy:=fb y (by simp);have Qn:=CY x.1 (AA fx);have Qo:=CY y.1 (AA fy);have hrx:GV.g [.l (x.1.map ent),.i .u64 x.2]=row x:=rfl;have Qg:GV.g [.l (y.1.map ent),.i .u64 y.2]=row y:=rfl;have hrs:GV.g [.l (x.1.map ent),.i .u64 (x.2+y.2)]=row (x.1,x.2+y.2):=rfl;have hok:∀r:Row,(row r).fA 2=true:=λr=>rfl;have hlx:=LV (row x) a ((a.length:Int)+1) rfl rfl;have Qc:=LV (row y) b ((b.length:Int)+1) rfl rfl;have hbb:2 * (acc.length+1) * 32<=281474976710656/\acc.length+1<=281474976710656:=by omega
       have hp:(0:Int) < (a.length:Int)+1:=by omega
       have hp2:¬ ((a.length:Int)+1=0):=by omega
       have hq:(0:Int) < (b.length:Int)+1:=by omega
       have hq2:¬ ((b.length:Int)+1=0):=by omega
       have uQ:=aaP x.1 y.1 fx fy;have Ql:=agS x.2 y.2 (va x (by simp)).1 (vb y (by simp)).1;have vx:=va x (by simp);have vy:=vb y (by simp);by_cases h1:K x < K y
       ·have ih':=ih a (y::b) (acc++[x]) (by simp;omega) (by simp;omega) (λr hr=>fa r (by simp [hr])) fb (λr hr=>va r (by simp [hr])) vb
        rw [fD,aj h1];rw [ahV h1] at uQ;have e:oG (acc++[x]) (fD a (y::b))=oG acc ((fD a (y::b)).map (x::·)):=by cases fD a (y::b)<;>simp [oG]
        rw [e] at ih';generalize oG acc ((fD a (y::b)).map (x::·))=out at ih' ⊢;simp only [mQ,gV,lW] at ih';refine aB rfl rfl ?_;simp -implicitDefEqProofs [-rV,Qn,Qo,hrx,Qg,hok,hlx,Qc,hbb,hp,hp2,hq,hq2,uQ,ih']
       by_cases h2:K y < K x
       ·have ih':=ih (x::a) b (acc++[y]) (by simp;omega) (by simp;omega) fa (λr hr=>fb r (by simp [hr])) va (λr hr=>vb r (by simp [hr]))
        rw [fD,ah h1,aj h2];rw [ahU h1 h2] at uQ;have e:oG (acc++[y]) (fD (x::a) b)=oG acc ((fD (x::a) b).map (y::·)):=by cases fD (x::a) b<;>simp [oG]
        rw [e] at ih';generalize oG acc ((fD (x::a) b).map (y::·))=out at ih' ⊢;simp only [mQ,gV,lW] at ih';refine aB rfl rfl ?_;simp -implicitDefEqProofs [-rV,Qn,Qo,hrx,Qg,hok,hlx,Qc,hbb,hp,hp2,hq,hq2,uQ,ih']
       rw [fD,ah h1,ah h2];rw [ahT h1 h2] at uQ;by_cases h3:x.2+y.2 < 18446744073709551616
       ·have ih':=ih a b (acc++[(x.1,x.2+y.2)]) (by omega) (by simp;omega) (λr hr=>fa r (by simp [hr])) (λr hr=>fb r (by simp [hr])) (λr hr=>va r (by simp [hr])) (λr hr=>vb r (by simp [hr]))
        rw [aj h3];have e:oG (acc++[(x.1,x.2+y.2)]) (fD a b)=oG acc ((fD a b).map ((x.1,x.2+y.2)::·)):=by cases fD a b<;>simp [oG]
        rw [e] at ih';generalize oG acc ((fD a b).map ((x.1,x.2+y.2)::·))=out at ih' ⊢;simp only [mQ,gV,lW] at ih';rw [show (x.2+y.2) % 18446744073709551616=x.2+y.2 by omega,show (x.2+y.2) / 18446744073709551616=0 by omega] at Ql;refine aB rfl rfl ?_;simp -implicitDefEqProofs [-rV,Qn,Qo,hrx,Qg,hrs,hok,hlx,Qc,hbb,hp,hp2,hq,hq2,uQ,Ql,ih']
       ·rw [ah h3]
        rw [show (x.2+y.2) / 18446744073709551616=1 by omega] at Ql;refine aB rfl rfl ?_;simp -implicitDefEqProofs [-rV,Qn,Qo,hrx,Qg,hok,hlx,Qc,hbb,hp,hp2,hq,hq2,uQ,Ql,oG]
def Ok (t:List Row):Prop:=t.length<=256/\jl t/\∀r∈t,wz r=0
theorem aaM:∀ {t:List Row} (p:Option (List UInt8)),rC p t=0->jl t/\(∀r∈t,wz r=0)/\∀k,p=some k->∀r∈t,k < K r
 | [],p,_=>⟨List.Pairwise.nil,by simp,by simp⟩
 | r::t,p,h=>by
   unfold rC at h;by_cases h1:wz r=0;rotate_left
   ·rw [aj h1] at h;exact absurd h h1
   rw [ah (by simp [h1])] at h;have main:∀ (h:rC (some (K r)) t=0),jl (r::t)/\∀x∈r::t,wz x=0:=by
    intro h;obtain ⟨i1,i2,i3⟩:=aaM (some (K r)) h;refine ⟨List.Pairwise.cons (i3 _ rfl) i1,λx hx=>?_⟩;rcases bC.1 hx with rfl | hx
    ·exact h1
    ·exact i2 x hx
   cases p with
   | none=>exact ⟨(main h).1,(main h).2,by simp⟩
   | some k=>
     simp only at h;split at h
     ·cases h
     next h2=>
     split at h
     ·cases h
     next h3=>
     refine ⟨(main h).1,(main h).2, ?_⟩;rintro _ ⟨⟩ x hx
     have hk:k < K r:=by
      rcases List.le_iff_lt_or_eq.1 (yG.1 λe=>h3 ((Kt _ _).2 e)) with e | e
      ·exact e
      ·exact absurd e.symm h2
     rcases bC.1 hx with rfl | hx
     ·exact hk
     ·exact xF hk ((iV.1 (main h).1).1 x hx)
theorem uD (t:List Row):lD t=0↔Ok t:=by
 unfold lD Ok;constructor
 ·intro h
  split at h
  ·cases h
  ·obtain ⟨h1,h2,_⟩:=aaM none h
   exact ⟨by omega,h1,h2⟩
 ·rintro ⟨h1,h2,h3⟩
  rw [ah (by omega)];exact aaN none h2 h3 (by simp)
theorem ML (r:Row):wz r=0↔xQ r.1=0/\r.2≠0:=by
 unfold wz;by_cases h:xQ r.1=0
 ·simp -implicitDefEqProofs [h]
 ·simp -implicitDefEqProofs [h]
structure Tb (t:List Row):Prop where
 ok:Ok t
 rows:Rows t
 few:vG t
theorem Tb.pos {t:List Row} (h:Tb t):Pos t:=λr hr=>by
 have h1:=((ML r).1 (h.ok.2.2 r hr)).2;have h2:=(h.rows.2 r hr).2;omega
theorem Tb.rise {t:List Row} (h:Tb t):jl t:=h.ok.2.1
theorem DT:Tb []:=⟨⟨by simp,List.Pairwise.nil,by simp⟩,⟨by simp,by simp⟩,λr hr=>by simp at hr⟩
/-- Rows of descriptors of such tables. -/
theorem afK {a b m:List Row} (ha:Tb a) (hb:Tb b) (hl:m.length<=256) (hr:jl m) (hk:Keys a b m) (hp:Pos m):Tb m:=by
 have src:∀r∈m,xQ r.1=0/\pG r.1/\iq r.1=true:=by
  intro r hr;obtain ⟨s,hs,e⟩:=hk r hr;rw [<- e];rcases hs with hs | hs
  ·exact ⟨((ML s).1 (ha.ok.2.2 s hs)).1,(ha.rows.2 s hs).1,ha.few s hs⟩
  ·exact ⟨((ML s).1 (hb.ok.2.2 s hs)).1,(hb.rows.2 s hs).1,hb.few s hs⟩
 refine ⟨⟨hl,hr,λr hr=>(ML r).2 ⟨(src r hr).1,by have:=hp r hr;omega⟩⟩,⟨by omega,λr hr=>⟨(src r hr).2.1, ?_⟩⟩,λr hr=>(src r hr).2.2⟩;have:=hp r hr;omega
def tog (a b:List Row):List Row×Int:=match fD a b with
 | none=>([],3)
 | some m=>if 256 < m.length then ([],13) else (m,0)
structure fF (t:List Row):Prop where
 len:t.length<=300
 few:vG t
 rows:Rows t
theorem Tb.good {t:List Row} (h:Tb t):fF t:=⟨Nat.le_trans h.ok.1 (by decide),h.few,h.rows⟩
theorem asE (a b:List Row) (ha:fF a) (hb:fF b):TT.lim 156 [.l (a.map row),.l (b.map row)]=some [.l ((tog a b).1.map row),.i .i64 (tog a b).2]:=by
 have k:=amV (a.length+b.length) a b [] (dH _) (by have:=ha.len;have:=hb.len;simp;omega) ha.few hb.few (λr hr=>(ha.rows.2 r hr).2) (λr hr=>(hb.rows.2 r hr).2);have hl1:=ha.len;have hl2:=hb.len;have hw:=wrap64 (n:=(a.length:Int)+(b.length:Int)) (by omega) (by omega);have hok:(GV.g [.l [],.i .u64 0]).fA 2=true:=rfl;have hc:(0:Int)<=(a.length:Int)+(b.length:Int)/\32 * ((a.length:Int)+(b.length:Int))<=281474976710656/\(a.length:Int)+(b.length:Int)<=1152921504606846976:=by omega
 unfold tog;cases hm:fD a b with
 | none=>
   rw [hm] at k;simp only [oG,lW] at k;refine aQ rfl rfl ?_ rfl;simp -implicitDefEqProofs [hw,hok,hc,k]
 | some m=>
   rw [hm] at k;simp only [oG,lW,bn] at k;by_cases h:256 < m.length
   ·have h':(256:Int) < (m.length:Int):=by omega
    refine aQ rfl rfl ?_ rfl;simp -implicitDefEqProofs [hw,hok,hc,k,h,h']
   ·have h':¬ (256:Int) < (m.length:Int):=by omega
    simp only [ah h];refine aQ rfl rfl ?_ rfl;simp -implicitDefEqProofs [hw,hok,hc,k,h']
theorem asB {a b:List Row} (ha:Tb a) (hb:Tb b) (h:(tog a b).2=0):Tb (tog a b).1/\∀k,val (tog a b).1 k=val a k+val b k:=by
 unfold tog at h ⊢;cases hm:fD a b with
 | none=>rw [hm] at h;cases h
 | some m=>
   rw [hm] at h;simp only at h ⊢;split at h
   ·cases h
   next hl=>
   rw [ah hl];obtain ⟨h1,h2,h3,h4⟩:=QM a b ha.rise hb.rise ha.pos hb.pos hm;exact ⟨afK ha hb (Nat.not_lt.1 hl) h1 h3 h4,h2⟩
/-- What two ways of adding up come to. -/
theorem asD {a b c d:List Row} (ha:Tb a) (hb:Tb b) (hc:Tb c) (hd:Tb d) (h:∀k,val a k+val b k=val c k+val d k):tog a b=tog c d:=by
 have key:∀ {a b c d:List Row},Tb a->Tb b->Tb c->Tb d->(∀k,val a k+val b k=val c k+val d k)->fD a b=none->∀m,fD c d=some m->False:=by
  intro a b c d ha hb hc hd h h1 m h2;obtain ⟨k,hk⟩:=anf a b ha.rise hb.rise h1;obtain ⟨_,q2,_,q4⟩:=QM c d hc.rise hd.rise hc.pos hd.pos h2;have:=as2 q4 k;rw [q2,<- h] at this;omega
 unfold tog;cases h1:fD a b with
 | none=>
   cases h2:fD c d with
   | none=>rfl
   | some m=>exact (key ha hb hc hd h h1 m h2).elim
 | some m=>
   cases h2:fD c d with
   | none=>exact (key hc hd ha hb (λk=>(h k).symm) h2 m h1).elim
   | some m'=>
     obtain ⟨p1,p2,_,p4⟩:=QM a b ha.rise hb.rise ha.pos hb.pos h1;obtain ⟨q1,q2,_,q4⟩:=QM c d hc.rise hd.rise hc.pos hd.pos h2;rw [as1 p1 q1 p4 q4 λk=>by rw [p2,q2,h]]
abbrev Dl:=Int×Int×List Row
def dl (d:Dl):GV:=.g [.i .u64 d.1,.i .u64 d.2.1,.l (d.2.2.map row)]
@[simp] theorem auw (d:Dl):(dl d).cells=[.i .u64 d.1,.i .u64 d.2.1,.l (d.2.2.map row)]:=rfl
@[simp] theorem auy (d:Dl):(dl d).scalar=false:=rfl
def zD:Dl:=(0,0,[])
def vS (d:Dl):Int:=if d.2.1<=d.1 then 20 else lD d.2.2
theorem ahD (d:Dl) (h:fF d.2.2):TT.lim 155 [dl d]=some [.i .i64 (vS d)]:=by
 have k:=OQ d.2.2 h.rows h.few;unfold vS;refine aQ rfl rfl ?_ rfl;by_cases h1:d.2.1<=d.1
 ·simp -implicitDefEqProofs [h1]
 ·simp -implicitDefEqProofs [h1,k]
theorem ahH {d:Dl} (h:vS d=0):d.1 < d.2.1/\Ok d.2.2:=by
 unfold vS at h;split at h
 ·cases h
 ·exact ⟨by omega,(uD _).1 h⟩
theorem ahG {d:Dl} (h1:d.1 < d.2.1) (h2:Ok d.2.2):vS d=0:=by
 unfold vS;rw [ah (by omega)];exact (uD _).2 h2
theorem fF.tb {t:List Row} (h:fF t) (ho:Ok t):Tb t:=⟨ho,h.rows,h.few⟩
theorem ala {l:List Row} (hl:Rows l) (h:Dk l=true):fF l:=by
 refine ⟨?_,λr hr=>aks h r hr,hl⟩;unfold Dk at h;rw [aI,decide_eq_true_iff] at h;exact h.2
theorem aru (a b:List Row) (ha:fF a) (hb:fF b):TT.lim 163 [.l (a.map row),.l (b.map row)]=some [.b (decide (a=b))]:=
 aro a b (by have:=ha.len;omega) (by have:=hb.len;omega) (λr hr=>(ha.rows.2 r hr).1.1) (λr hr=>(hb.rows.2 r hr).1.1)
def iZ:List Row->List Row->List Row
 | [],_=>[]
 | r::rs,[]=>if r.2=0 then iZ rs [] else r::iZ rs []
 | r::rs,l::ls=>if K l=K r then (if IntKind.u64.wrap (r.2 - l.2)=0 then iZ rs ls else (r.1,IntKind.u64.wrap (r.2 - l.2))::iZ rs ls) else if r.2=0 then iZ rs (l::ls) else r::iZ rs (l::ls)
theorem ahX (a:List UInt8):cmpK a a=0:=by unfold cmpK;simp [mP]
theorem ahW {a b:List UInt8} (h:a≠b):cmpK a b≠0:=by
 unfold cmpK;split
 ·omega
 next h1=>
 split
 ·omega
 next h2=>exact absurd (NK (yG.1 h2) (yG.1 h1)) h
set_option maxHeartbeats 4000000 in
theorem WB (t:List Row) (e f:Int) (ht:t.length<=300) (ft:vG t):∀ (m i:Nat) (b acc:List Row),i+m=t.length->acc.length<=i->vG b->
 TT.lim 46 [.l (b.map row),.l (t.map row),.i .i64 t.length,.i .i64 i,.i .u64 e,.i .u64 f,.l (acc.map row)]=some [.i .i64 0,.l ((acc++iZ (t.drop i) b).map row)]
 | 0,i,b,acc,hi,ha,fb=>by
   have h0:t.drop i=[]:=fJ (by omega);refine aB rfl rfl ?_;have h:¬ ((i:Int) < t.length):=by omega
   simp -implicitDefEqProofs [h,h0,iZ]
 | m+1,i,b,acc,hi,ha,fb=>by
   have hlt:i < t.length:=by omega
   have fr:=ft t[i] (gU hlt);have kc:=CY t[i].1 (AA fr);have hrow:GV.g [.l (t[i].1.map ent),.i .u64 t[i].2]=row t[i]:=rfl;have hok:∀r:Row,(row r).fA 2=true:=λr=>rfl;have hbb:2 * (acc.length+1) * 32<=281474976710656/\acc.length+1<=281474976710656:=by omega
   have h:((i:Int) < t.length):=by omega
   have hw:=wrap64 (n:=(i:Int)+1) (by omega) (by omega);have ih1:∀b',vG b'->TT.lim 46 [.l (b'.map row),.l (t.map row),.i .i64 t.length,.i .i64 ((i:Int)+1),.i .u64 e,.i .u64 f,.l (acc.map row)]=_:=λb' U8=>WB t e f ht ft m (i+1) b' acc (by omega) (by omega) U8;have ih2:∀b' r,vG b'->TT.lim 46 [.l (b'.map row),.l (t.map row),.i .i64 t.length,.i .i64 ((i:Int)+1),.i .u64 e,.i .u64 f,.l ((acc++[r]).map row)]=_:=λb' r U8=>WB t e f ht ft m (i+1) b' (acc++[r]) (by omega) (by simp;omega) U8;have hdr:t.drop i=t[i]::t.drop (i+1):=iC hlt;rw [hdr];cases b with
   | nil=>
     by_cases h1:t[i].2=0
     ·have ih:=ih1 [] fb
      simp only [lW] at ih;simp only [iZ];rw [aj h1];have h1':(t[i].2=0)=True:=eq_true h1;clear h1;refine aB rfl rfl ?_;simp -implicitDefEqProofs [-List.getElem_cons_drop,h,hlt,h1',hw,ih]
     ·have ih:=ih2 [] t[i] fb
      simp only [lW,mQ,gV] at ih;simp only [iZ];rw [ah h1];refine aB rfl rfl ?_;simp -implicitDefEqProofs [-List.getElem_cons_drop,h,hlt,h1,hw,kc,hrow,hok,hbb,ih]
   | cons l ls=>
     have fl:=fb l (by simp);have fls:vG ls:=λr hr=>fb r (by simp [hr]);have hl:=LV (row l) ls ((ls.length:Int)+1) rfl rfl;have hp:(0:Int) < (ls.length:Int)+1:=by omega
     have uQ:=aaP l.1 t[i].1 fl fr;by_cases h2:K l=K t[i]
     ·rw [show dN l.1=dN t[i].1 from h2,ahX] at uQ
      simp only [iZ];rw [aj h2];by_cases h1:IntKind.u64.wrap (t[i].2 - l.2)=0
      ·have ih:=ih1 ls fls
       rw [aj h1];refine aB rfl rfl ?_;simp -implicitDefEqProofs [-List.getElem_cons_drop, -rV,h,hlt,hp,uQ,hl,h1,hw,ih]
      ·have ih:=ih2 ls (t[i].1,IntKind.u64.wrap (t[i].2 - l.2)) fls
       rw [ah h1];simp only [lW,mQ,gV] at ih;have hrow2:GV.g [.l (t[i].1.map ent),.i .u64 (IntKind.u64.wrap (t[i].2 - l.2))]=row (t[i].1,IntKind.u64.wrap (t[i].2 - l.2)):=rfl;refine aB rfl rfl ?_;simp -implicitDefEqProofs [-List.getElem_cons_drop, -rV,h,hlt,hp,uQ,hl,h1,hw,kc,hrow2,hok,hbb,ih]
     ·have hne:=ahW h2
      generalize cmpK (dN l.1) (dN t[i].1)=v at uQ hne;simp only [iZ];rw [ah h2];by_cases h1:t[i].2=0
      ·have ih:=ih1 (l::ls) fb
       simp only [gV] at ih;rw [aj h1];have h1':(t[i].2=0)=True:=eq_true h1;clear h1;refine aB rfl rfl ?_;simp -implicitDefEqProofs [-List.getElem_cons_drop, -rV,h,hlt,hp,uQ,hne,h1',hw,ih]
      ·have ih:=ih2 (l::ls) t[i] fb
       simp only [lW,mQ,gV] at ih;rw [ah h1];refine aB rfl rfl ?_;simp -implicitDefEqProofs [-List.getElem_cons_drop, -rV,h,hlt,hp,uQ,hne,h1,hw,kc,hrow,hok,hbb,ih]
theorem O4:∀ (t b:List Row),jl t->jl b->Pos t->Pos b->(∀l∈b,∃r∈t,K r=K l/\l.2<=r.2)->
 jl (iZ t b)/\(∀k,val (iZ t b) k=val t k - val b k)/\(∀r∈iZ t b,∃s∈t,s.1=r.1)/\Pos (iZ t b)
 | [],[],_,_,_,_,_=>⟨List.Pairwise.nil,λk=>rfl,by simp [iZ],by simp [iZ,Pos]⟩
 | [],l::b,_,_,_,_,h=>by obtain ⟨r,hr,_⟩:=h l (by simp);simp at hr
 | r::t,[],ht,hb,pt,pb,h=>by
   have ht':=iV.1 ht;obtain ⟨h1,h2,h3,h4⟩:=O4 t [] ht'.2 hb (λx hx=>pt x (by simp [hx])) pb (by simp);have hr:=pt r (by simp);simp only [iZ];rw [ah (by omega)];refine ⟨List.Pairwise.cons (λx hx=>?_) h1,λk=>?_,λx hx=>?_,λx hx=>?_⟩
   ·obtain ⟨s,hs,e⟩:=h3 x hx
    show K r < dN x.1
    rw [<- e];exact ht'.1 s hs
   ·show (if K r=k then r.2 else val (iZ t []) k)=(if K r=k then r.2 else val t k) - val [] k
    split
    ·simp -implicitDefEqProofs [val]
    ·exact h2 k
   ·rcases bC.1 hx with rfl | hx
    ·exact ⟨x,by simp,rfl⟩
    ·obtain ⟨s,hs,e⟩:=h3 x hx;exact ⟨s,by simp [hs],e⟩
   ·rcases bC.1 hx with rfl | hx
    ·exact hr
    ·exact h4 x hx
 | r::t,l::b,ht,hb,pt,pb,h=>by
   have ht':=iV.1 ht;have hb':=iV.1 hb;have hr:=pt r (by simp);have hl:=pb l (by simp);simp only [iZ];by_cases he:K l=K r
   ·rw [aj he]
    have hle:l.2<=r.2:=by
     obtain ⟨s,hs,e,hn⟩:=h l (by simp);have:s=r:=apX ht hs (by simp) (e.trans he);rw [<- this];exact hn
    have hw:=jJ (n:=r.2 - l.2) (by omega) (by omega);rw [hw];obtain ⟨h1,h2,h3,h4⟩:=O4 t b ht'.2 hb'.2 (λx hx=>pt x (by simp [hx])) (λx hx=>pb x (by simp [hx])) (λx hx=>by
     obtain ⟨s,hs,e,hn⟩:=h x (by simp [hx]);rcases bC.1 hs with rfl | hs
     ·have:=hb'.1 x hx;rw [he,<- e] at this;exact absurd this (mP _)
     ·exact ⟨s,hs,e,hn⟩)
    have h3':∀x∈iZ t b,∃s∈r::t,s.1=x.1:=λx hx=>by obtain ⟨s,hs,e⟩:=h3 x hx;exact ⟨s,by simp [hs],e⟩
    have hv:∀k,(if K r=k then r.2 - l.2 else val (iZ t b) k)=val (r::t) k - val (l::b) k:=λk=>by
     show _=(if K r=k then r.2 else val t k) - (if K l=k then l.2 else val b k)
     rw [he];split
     ·rfl
     ·exact h2 k
    by_cases h0:r.2 - l.2=0
    ·rw [aj h0]
     refine ⟨h1,λk=>?_,h3',h4⟩;rw [<- hv k];split
     ·next e=>
      rw [h0];subst e;refine Gq λx hx=>?_;obtain ⟨s,hs,e⟩:=h3 x hx;show K r < dN x.1
      rw [<- e];exact ht'.1 s hs
     ·rfl
    ·rw [ah h0]
     refine ⟨List.Pairwise.cons (λx hx=>?_) h1,hv,λx hx=>?_,λx hx=>?_⟩
     ·obtain ⟨s,hs,e⟩:=h3 x hx
      show dN r.1 < dN x.1
      rw [<- e];exact ht'.1 s hs
     ·rcases bC.1 hx with rfl | hx
      ·exact ⟨r,by simp,rfl⟩
      ·exact h3' x hx
     ·rcases bC.1 hx with rfl | hx
      ·exact ⟨by simp only;omega,by simp only;omega⟩
      ·exact h4 x hx
   ·rw [ah he,ah (by omega)]
    have hin:∀x∈l::b,∃s∈t,K s=K x/\x.2<=s.2:=by
     have hlr:K r < K l:=by
      obtain ⟨s,hs,e,_⟩:=h l (by simp);rcases bC.1 hs with rfl | hs
      ·exact absurd e.symm he
      ·rw [<- e];exact ht'.1 s hs
     intro x hx;obtain ⟨s,hs,e,hn⟩:=h x hx;rcases bC.1 hs with rfl | hs
     ·exfalso
      rcases bC.1 hx with rfl | hx
      ·exact he e.symm
      ·have:=xF hlr (hb'.1 x hx);rw [e] at this;exact mP _ this
     ·exact ⟨s,hs,e,hn⟩
    obtain ⟨h1,h2,h3,h4⟩:=O4 t (l::b) ht'.2 hb (λx hx=>pt x (by simp [hx])) pb hin;refine ⟨List.Pairwise.cons (λx hx=>?_) h1,λk=>?_,λx hx=>?_,λx hx=>?_⟩
    ·obtain ⟨s,hs,e⟩:=h3 x hx
     show K r < dN x.1
     rw [<- e];exact ht'.1 s hs
    ·show (if K r=k then r.2 else val (iZ t (l::b)) k)=(if K r=k then r.2 else val t k) - val (l::b) k
     split
     ·next e=>
      rw [Np (t:=l::b) λx hx e2=>by
       obtain ⟨s,hs,e3,_⟩:=hin x hx;have:=ht'.1 s hs;rw [e3,e2,e] at this;exact mP _ this]
      omega
     ·exact h2 k
    ·rcases bC.1 hx with rfl | hx
     ·exact ⟨x,by simp,rfl⟩
     ·obtain ⟨s,hs,e⟩:=h3 x hx;exact ⟨s,by simp [hs],e⟩
    ·rcases bC.1 hx with rfl | hx
     ·exact hr
     ·exact h4 x hx
abbrev Sn:=Int×List Row
def sn (s:Sn):GV:=.g [.i .u64 s.1,.l (s.2.map row)]
@[simp] theorem av7 (s:Sn):(sn s).cells=[.i .u64 s.1,.l (s.2.map row)]:=rfl
@[simp] theorem av8 (s:Sn):(sn s).scalar=false:=rfl
def zS:Sn:=(0,[])
theorem OT (s:Sn) (h:fF s.2):TT.lim 23 [sn s]=some [.i .i64 (lD s.2)]:=by
 have k:=OQ s.2 h.rows h.few;refine aQ rfl rfl ?_ rfl;simp -implicitDefEqProofs [k]
def mZ (s n:Sn):Dl×Int:=
 if lD s.2≠0 then (zD,lD s.2) else if lD n.2≠0 then (zD,lD n.2) else if n.1<=s.1 then (zD,20)
 else if kW n.2 s.2=false then (zD,21) else ((s.1,n.1,iZ n.2 s.2),0)
def lX (s:Sn) (d:Dl):Sn×Int:=
 if lD s.2≠0 then (zS,lD s.2) else if vS d≠0 then (zS,vS d) else if s.1≠d.1 then (zS,19)
 else if (tog s.2 d.2.2).2≠0 then (zS,(tog s.2 d.2.2).2) else ((d.2.1,(tog s.2 d.2.2).1),0)
theorem ajE (s n:Sn) (hs:fF s.2) (hn:fF n.2):TT.lim 45 [sn s,sn n]=some [dl (mZ s n).1,.i .i64 (mZ s n).2]:=by
 have k1:=OT s hs;have k2:=OT n hn;have e1:GV.g [.i .u64 s.1,.l (s.2.map row)]=sn s:=rfl;have e2:GV.g [.i .u64 n.1,.l (n.2.map row)]=sn n:=rfl;have e3:GV.g [.i .u64 0,.i .u64 0,.l []]=dl zD:=rfl;have e4:GV.g [.i .u64 s.1,.i .u64 n.1,.l ((iZ n.2 s.2).map row)]=dl (s.1,n.1,iZ n.2 s.2):=rfl;have k5:TT.lim 46 [.l (s.2.map row),.l (n.2.map row),.i .i64 n.2.length,.i .i64 0,.i .u64 s.1,.i .u64 n.1,.l []]=_:=WB n.2 s.1 n.1 hn.len hn.few n.2.length 0 s.2 [] (by omega) (by simp) hs.few;rw [dO,bn] at k5;unfold mZ;by_cases h1:lD s.2=0;rotate_left
 ·refine aQ rfl rfl ?_ rfl
  simp -implicitDefEqProofs [e1,k1,h1,e3]
 by_cases h2:lD n.2=0;rotate_left
 ·refine aQ rfl rfl ?_ rfl
  simp -implicitDefEqProofs [e1,k1,h1,e2,k2,h2,e3]
 by_cases h3:n.1<=s.1
 ·refine aQ rfl rfl ?_ rfl
  simp -implicitDefEqProofs [e1,k1,h1,e2,k2,h2,e3,h3]
 have k4:=aaj n.2 s.2 ((uD _).1 h2).1 ((uD _).1 h1).1 hn.few hs.few;cases h4:kW n.2 s.2 with
 | false=>
   rw [h4] at k4;refine aQ rfl rfl ?_ rfl;simp -implicitDefEqProofs [e1,k1,h1,e2,k2,h2,e3,h3,k4]
 | true=>
   rw [h4] at k4;refine aQ rfl rfl ?_ rfl;simp -implicitDefEqProofs [e1,k1,h1,e2,k2,h2,e4,h3,k4,k5]
theorem ag2 (s:Sn) (d:Dl) (hs:fF s.2) (hd:fF d.2.2):TT.lim 154 [sn s,dl d]=some [sn (lX s d).1,.i .i64 (lX s d).2]:=by
 have k1:=OT s hs;have k2:=ahD d hd;have k3:=asE _ _ hs hd;have e1:GV.g [.i .u64 s.1,.l (s.2.map row)]=sn s:=rfl;have e2:GV.g [.i .u64 d.1,.i .u64 d.2.1,.l (d.2.2.map row)]=dl d:=rfl;have e3:GV.g [.i .u64 0,.l []]=sn zS:=rfl;have e4:GV.g [.i .u64 d.2.1,.l ((tog s.2 d.2.2).1.map row)]=sn (d.2.1,(tog s.2 d.2.2).1):=rfl;unfold lX;by_cases h1:lD s.2=0;rotate_left
 ·refine aQ rfl rfl ?_ rfl
  simp -implicitDefEqProofs [e1,k1,h1,e3]
 by_cases h2:vS d=0;rotate_left
 ·refine aQ rfl rfl ?_ rfl
  simp -implicitDefEqProofs [e1,k1,h1,e2,k2,h2,e3]
 by_cases h3:s.1=d.1;rotate_left
 ·refine aQ rfl rfl ?_ rfl
  simp -implicitDefEqProofs [e1,k1,h1,e2,k2,h2,e3,h3]
 have h3':(s.1=d.1)=True:=eq_true h3;clear h3;by_cases h4:(tog s.2 d.2.2).2=0;rotate_left
 ·refine aQ rfl rfl ?_ rfl
  simp -implicitDefEqProofs [e1,k1,h1,e2,k2,h2,e3,h3',k3,h4]
 ·refine aQ rfl rfl ?_ rfl
  simp -implicitDefEqProofs [e1,k1,h1,e2,k2,h2,e4,h3',k3,h4]
theorem abb {s n:Sn} (h:(mZ s n).2=0):Ok s.2/\Ok n.2/\s.1 < n.1/\kW n.2 s.2=true/\(mZ s n).1=(s.1,n.1,iZ n.2 s.2):=by
 unfold mZ at h ⊢;split at h
 ·next h1=>exact absurd h h1
 next h1=>
 split at h
 ·next h2=>exact absurd h h2
 next h2=>
 split at h
 ·cases h
 next h3=>
 split at h
 ·cases h
 next h4=>
 rw [ah h1,ah h2,ah h3,ah h4];exact ⟨(uD _).1 (by simpa using h1),(uD _).1 (by simpa using h2),by omega,by simpa using h4,rfl⟩
theorem ajF {s n:Sn} (h1:Ok s.2) (h2:Ok n.2) (h3:s.1 < n.1) (h4:kW n.2 s.2=true):mZ s n=((s.1,n.1,iZ n.2 s.2),0):=by
 unfold mZ;rw [ah (by simp [(uD _).2 h1]),ah (by simp [(uD _).2 h2]),ah (by omega),ah (by simp [h4])]
theorem aah {s:Sn} {d:Dl} (h:(lX s d).2=0):Ok s.2/\vS d=0/\s.1=d.1/\(tog s.2 d.2.2).2=0/\(lX s d).1=(d.2.1,(tog s.2 d.2.2).1):=by
 unfold lX at h ⊢;split at h
 ·next h1=>exact absurd h h1
 next h1=>
 split at h
 ·next h2=>exact absurd h h2
 next h2=>
 split at h
 ·cases h
 next h3=>
 split at h
 ·next h4=>exact absurd h h4
 next h4=>
 rw [ah h1,ah h2,ah h3,ah h4];exact ⟨(uD _).1 (by simpa using h1),by simpa using h2,by simpa using h3,by simpa using h4,rfl⟩
theorem ag3 {s:Sn} {d:Dl} (h1:Ok s.2) (h2:vS d=0) (h3:s.1=d.1):lX s d=if (tog s.2 d.2.2).2≠0 then (zS,(tog s.2 d.2.2).2) else ((d.2.1,(tog s.2 d.2.2).1),0):=by
 unfold lX;rw [ah (by simp [(uD _).2 h1]),ah (by simp [h2]),ah (by simp [h3])]
/-- What is at least another: by keys. -/
theorem ajG {s n:List Row} (hs:Tb s) (hn:Tb n) (h:kW n s=true):Tb (iZ n s)/\∀k,val (iZ n s) k=val n k - val s k:=by
 have h':=(J8 _ _ hn.rise hs.rise).1 h;obtain ⟨h1,h2,h3,h4⟩:=O4 n s hn.rise hs.rise hn.pos hs.pos h';have hl:(iZ n s).length<=n.length:=ae4 h1 hn.rise λr hr=>by obtain ⟨x,hx,e⟩:=h3 r hr;exact ⟨x,hx,by show dN x.1=dN r.1;rw [e]⟩
 exact ⟨afK hn hn (jw hl hn.ok.1) h1 (λr hr=>by obtain ⟨x,hx,e⟩:=h3 r hr;exact ⟨x,.inl hx,e⟩) h4,h2⟩
theorem asC {t:List Row} (ht:Tb t):tog t []=(t,0):=by
 have h:fD t []=some t:=by cases t<;>rw [fD]
 unfold tog;rw [h];simp only;rw [ah (by have:=ht.ok.1;omega)]
theorem ag8 {s n:Sn} (hs:fF s.2) (hn:fF n.2) (h:(mZ s n).2=0):vS (mZ s n).1=0/\lX s (mZ s n).1=(n,0)/\fF (mZ s n).1.2.2:=by
 obtain ⟨h1,h2,h3,h4,h5⟩:=abb h;have ts:=hs.tb h1;have tn:=hn.tb h2;obtain ⟨k1,k2⟩:=ajG ts tn h4;rw [h5];have hc:vS (s.1,n.1,iZ n.2 s.2)=0:=ahG h3 k1.ok;have ht:tog s.2 (iZ n.2 s.2)=tog n.2 []:=asD ts k1 tn DT λk=>by rw [k2];simp [val];omega
 rw [asC tn] at ht;refine ⟨hc, ?_,k1.good⟩;rw [ag3 h1 hc rfl];simp only [ht];rfl
theorem ag4 {s:Sn} {d:Dl} (hs:fF s.2) (hd:fF d.2.2) (h:(lX s d).2=0):Tb (lX s d).1.2/\∀k,val (lX s d).1.2 k=val s.2 k+val d.2.2 k:=by
 obtain ⟨h1,h2,h3,h4,h5⟩:=aah h;rw [h5];exact asB (hs.tb h1) (hd.tb (ahH h2).2) h4
def yQ (p x:List UInt8):Int:=if x=p then 14 else if Op.bytesLess x p=true then 7 else 0
theorem V9 {d:List dM} (hf:iq d=true):(dN d).length<=30000:=by
 unfold iq at hf;rw [aI,decide_eq_true_iff] at hf;have l1:=lS (n:=d.length) (by omega);have:=Vb d hf.1;unfold dN;simp only [fG];omega
def common:List UInt8->List UInt8->Nat
 | a::x,b::y=>if a=b then common x y+1 else 0
 | _,_=>0
theorem UJ (b:List UInt8):common [] b=0:=by unfold common;rfl
theorem ah3 (a:List UInt8):common a []=0:=by cases a<;>rfl
theorem UH:∀a b:List UInt8,common a b<=a.length/\common a b<=b.length
 | [],b=>by simp [common]
 | _::_,[]=>by simp [common]
 | a::x,b::y=>by
   unfold common;have:=UH x y;split
   ·simp only [jK];omega
   ·omega
theorem aaU (a b:List UInt8) (ha:a.length<=140737488351232) (hb:b.length<=140737488351232):∀m i:Nat,i+m=a.length->TT.lim 102 [.s a,.s b,.i .i64 i]=some [.i .i64 0,.i .i64 ((i+common (a.drop i) (b.drop i):Nat):Int)]
 | 0,i,hi=>by
   have h0:a.drop i=[]:=fJ (by omega);have h:¬ ((i:Int) < a.length):=by omega
   refine aB rfl rfl ?_;simp -implicitDefEqProofs [h,h0,UJ]
 | m+1,i,hi=>by
   have hlt:i < a.length:=by omega
   have h:((i:Int) < a.length):=by omega
   by_cases hlb:i < b.length;rotate_left
   ·have h0:b.drop i=[]:=fJ (by omega)
    have h1:¬ ((i:Int) < b.length):=by omega
    refine aB rfl rfl ?_;simp -implicitDefEqProofs [h,h0,h1,ah3]
   have hb1:((i:Int) < b.length):=by omega
   have ih:TT.lim 102 [.s a,.s b,.i .i64 ((i:Int)+1)]=_:=aaU a b ha hb m (i+1) (by omega);have hw:=wrap64 (n:=(i:Int)+1) (by omega) (by omega);rw [iC hlt,iC hlb];unfold common;by_cases e:a[i]=b[i]
   ·rw [aj e]
    have e':((a[i].toNat:Int)=(b[i].toNat:Int))=True:=eq_true (by rw [e]);have e2:((i+(common (a.drop (i+1)) (b.drop (i+1))+1):Nat):Int)=((i+1+common (a.drop (i+1)) (b.drop (i+1)):Nat):Int):=by omega
    rw [e2];refine aB rfl rfl ?_;simp -implicitDefEqProofs [h,hlt,hlb,hb1,e',hw,ih]
   ·rw [ah e]
    have e':¬ (a[i].toNat:Int)=(b[i].toNat:Int):=λh=>e (ZP.1 (by omega));refine aB rfl rfl ?_;simp -implicitDefEqProofs [h,hlt,hlb,hb1,e']
theorem UF (a b:List UInt8) (ha:a.length<=140737488351232) (hb:b.length<=140737488351232):TT.lim 101 [.s a,.s b]=some [.i .i64 (common a b)]:=by
 have k:TT.lim 102 [.s a,.s b,.i .i64 0]=_:=aaU a b ha hb a.length 0 (by omega);rw [dO,dO,jk] at k;refine aQ rfl rfl ?_ rfl;simp -implicitDefEqProofs [k]
/-- A text behind another one, as it is written. -/
def zy (a s:List UInt8):List UInt8:=bG (common a s)++bG (s.length - common a s)++s.drop (common a s)
theorem aof (a s:List UInt8) (ha:a.length<=100000000) (hs:s.length<=100000000):TT.lim 100 [.s a,.s s]=some [.s (zy a s)]:=by
 have k:=UF a s (by omega) (by omega);have hl:=UH a s;have p1:=xk (common a s) (by omega);have p2:=xk (s.length - common a s) (by omega);have l1:=lS (n:=common a s) (by omega);have l2:=lS (n:=s.length - common a s) (by omega);have w1:=jJ (n:=(common a s:Int)) (by omega) (by omega);have w2:=jJ (n:=(s.length:Int) - (common a s:Int)) (by omega) (by omega);have w3:=wrap64 (n:=(s.length:Int) - (common a s:Int)) (by omega) (by omega);have e2:(s.length:Int) - (common a s:Int)=((s.length - common a s:Nat):Int):=by omega
 rw [e2] at w2 w3;refine aQ rfl rfl ?_ rfl;unfold zy;generalize common a s=c at *;have h1:((bG c).length:Int)+((bG (s.length - c)).length:Int)<=9223372036854775807:=by omega
 have h2:((bG c).length:Int)+((bG (s.length - c)).length:Int)+((s.length:Int) - (c:Int))<=9223372036854775807:=by omega
 have h3:(c:Int)<=s.length:=by omega
 have h4:((s.length - c:Nat):Int)=(s.length:Int) - c:=by omega
 have hd:(s.take s.length).drop c=s.drop c:=by rw [yH]
 rw [<- e2] at w2 w3;rw [<- e2] at p2;simp -implicitDefEqProofs [k,p1,p2,w1,w2,w3,h1,h2,h3,h4,hd]
def kD:List UInt8->Nat
 | []=>0
 | b::r=>b.toNat % 128+128 * kD r
def mF:Nat->List UInt8->Option Nat
 | 0,_=>none
 | _+1,[]=>none
 | n+1,b::r=>if b.toNat < 128 then some 1 else (mF n r).map (· + 1)
def qU (k:Nat) (b:Nat):Int:=if k=10/\1 < b then 3 else if 1 < k/\b=0 then 2 else 0
/-- The number that a text begins with, in how many bytes, or why there is none. -/
def ay (s:List UInt8):Nat×Nat×Int:=match mF 10 s with
 | none=>(0,0,if 10<=s.length then 3 else 1)
 | some k=>if qU k (s.getD (k - 1) 0).toNat≠0 then (0,0,qU k (s.getD (k - 1) 0).toNat) else (kD (s.take k),k,0)
theorem SX:∀ {n:Nat} {s:List UInt8} {k:Nat},mF n s=some k->1<=k/\k<=n/\k<=s.length/\(s.getD (k - 1) 0).toNat < 128
 | 0,s,k,h=>by simp [mF] at h
 | n+1,[],k,h=>by simp [mF] at h
 | n+1,b::r,k,h=>by
   unfold mF at h;split at h
   ·next hb=>cases h;simpa using hb
   ·obtain ⟨j,hj,rfl⟩:=aX.1 h
    obtain ⟨h1,h2,h3,h4⟩:=SX hj;obtain ⟨i,rfl⟩:∃i,j=i+1:=⟨j - 1,by omega⟩
    refine ⟨by omega,by omega,by simp;omega, ?_⟩;simpa using h4
theorem agc:∀ (s:List UInt8),kD s < 128 ^ s.length
 | []=>by simp [kD]
 | b::r=>by
   have:=agc r;simp only [kD,jK,G7];omega
theorem afk (b i:Nat) (hb:b < 128) (hi:i<=9) (h9:i=9->b<=1):nJ .shl .u64 (b:Int) ((7 * i:Nat):Int)=some (.i .u64 ((b * 128 ^ i:Nat):Int)):=by
 have e:min ((7 * i:Nat):Int).toNat 64=7 * i:=by simp;omega
 have e2:(2:Int) ^ (7 * i)=((128 ^ i:Nat):Int):=by rw [Int.pow_mul];simp
 have hlt:b * 128 ^ i < 18446744073709551616:=by
  rcases wP i 9 with h | h
  ·have:(128:Nat) ^ i<=128 ^ 8:=NS (by omega) (by omega)
   have h2:b * 128 ^ i<=127 * 128 ^ 8:=Nat.mul_le_mul (by omega) this;omega
  ·have hi9:i=9:=by omega
   subst hi9;have:=h9 rfl;omega
 unfold nJ;rw [ah (by omega)];show some (GV.i .u64 (IntKind.u64.wrap ((b:Int) * 2 ^ (min ((7 * i:Nat):Int).toNat 64))))=_
 rw [e,e2,<- Int.natCast_mul,jJ (by omega) (by omega)]
theorem orI (a c i:Nat) (ha:a < 2 ^ i) (h:a+c * 2 ^ i < 18446744073709551616):fO .or .u64 (a:Int) ((c * 2 ^ i:Nat):Int)=some (.i .u64 ((a+c * 2 ^ i:Nat):Int)):=by
 have h1:((BitVec.ofInt 64 (a:Int) ||| BitVec.ofInt 64 ((c * 2 ^ i:Nat):Int)).toNat:Nat)=a+c * 2 ^ i:=by
  rw [BitVec.toNat_or,xC,xC];generalize hC:c * 2 ^ i=C at *;have e1:((a:Int) % ((2 ^ 64:Nat):Int)).toNat=a:=by omega
  have e2:((C:Int) % ((2 ^ 64:Nat):Int)).toNat=C:=by omega
  rw [e1,e2,<- hC,Nat.or_comm,D7,JO];exact (agz ha c).symm
 show some (GV.i .u64 (IntKind.u64.wrap (((BitVec.ofInt 64 (a:Int) ||| BitVec.ofInt 64 ((c * 2 ^ i:Nat):Int)).toNat:Nat):Int)))=_
 rw [h1,jJ (by omega) (by omega)]
theorem Je (i:Nat):128 ^ i=2 ^ (7 * i):=by rw [Nat.pow_mul]
/-- Some number, whichever. -/
theorem afl (a b:Int) (hb:0<=b):∃r,nJ .shl .u64 a b=some (.i .u64 r):=by
 unfold nJ;rw [ah (by omega)];exact ⟨_,rfl⟩
theorem or_some (a b:Int):∃r,fO .or .u64 a b=some (.i .u64 r):=⟨_,rfl⟩
def AO (s:List UInt8) (acc:Int) (i:Nat):List GV:=match mF (10 - i) (s.drop i) with
 | none=>[.i .i64 1,.s s]
 | some k=>if qU (i+k) (s.getD (i+k - 1) 0).toNat≠0 then [.i .i64 0,.i .u64 0,.i .i64 0,.i .i64 (qU (i+k) (s.getD (i+k - 1) 0).toNat)]
   else [.i .i64 0,.i .u64 (acc+((128 ^ i * kD ((s.drop i).take k):Nat):Int)),.i .i64 ((i+k:Nat):Int),.i .i64 0]
theorem getLoop (s:List UInt8) (hs:s.length<=140737488351232):∀ (m i:Nat) (acc:Int),i+m=min s.length 10->(i<=9->0<=acc/\acc < ((128 ^ i:Nat):Int))->
 TT.lim 119 [.s s,.i .u64 acc,.i .i64 ((min s.length 10:Nat):Int),.i .i64 i]=some (AO s acc i)
 | 0,i,acc,hi,ha=>by
   have h:¬ ((i:Int) < ((min s.length 10:Nat):Int)):=by omega
   have hv:mF (10 - i) (s.drop i)=none:=by
    rcases wP i 10 with h1 | h1
    ·have:s.drop i=[]:=fJ (by omega)
     rw [this];obtain ⟨j,hj⟩:∃j,10 - i=j+1:=⟨10 - i - 1,by omega⟩
     rw [hj];rfl
    ·have:10 - i=0:=by omega
     rw [this];unfold mF;rfl
   unfold AO;rw [hv];generalize ((min s.length 10:Nat):Int)=M at *;refine aB rfl rfl ?_;simp -implicitDefEqProofs [h]
 | m+1,i,acc,hi,ha=>by
   have hlt:i < s.length:=by omega
   have h9:i<=9:=by omega
   have h:((i:Int) < ((min s.length 10:Nat):Int)):=by omega
   obtain ⟨a1,a2⟩:=ha h9;obtain ⟨n,rfl⟩:∃n:Nat,acc=n:=⟨acc.toNat,by omega⟩
   have hb:=(s[i]).toNat_lt;have k7:=aac (s[i]).toNat (by omega);have w8:=jJ (n:=(((s[i]).toNat % 128:Nat):Int)) (by omega) (by omega);have wi:=wrap64 (n:=7 * (i:Int)) (by omega) (by omega);have wj:=wrap64 (n:=(i:Int)+1) (by omega) (by omega);have hd:s.drop i=s[i]::s.drop (i+1):=iC hlt;obtain ⟨j,hj⟩:∃j,10 - i=j+1:=⟨10 - i - 1,by omega⟩
   have hj':10 - (i+1)=j:=by omega
   have e7:(7 * (i:Int))=((7 * i:Nat):Int):=by omega
   have hgd:s.getD i 0=s[i]:=by simp [List.getD,hlt]
   by_cases hc:128<=(s[i]).toNat
   ·-- another one follows
    have hc':((128:Int)<=((s[i]).toNat:Int)):=by omega
    have step:∃V:Int,(i+1<=9->0<=V/\V < ((128 ^ (i+1):Nat):Int)/\V=n+(((s[i]).toNat % 128 * 128 ^ i:Nat):Int))/\(∃S,nJ .shl .u64 ((((s[i]).toNat % 128:Nat)):Int) (7 * (i:Int))=some (.i .u64 S)/\fO .or .u64 (n:Int) S=some (.i .u64 V)):=by
     rcases wP i 9 with h1 | h1
     ·have k1:=afk ((s[i]).toNat % 128) i (by omega) (by omega) (by omega)
      have hp:(s[i]).toNat % 128 * 128 ^ i<=127 * 128 ^ i:=sH _ (by omega);have hpp:128 ^ (i+1)=128 * 128 ^ i:=by rw [G7,D7]
      have hq:(128:Nat) ^ i<=128 ^ 8:=NS (by omega) (by omega);have k2:=orI n ((s[i]).toNat % 128) (7 * i) (by rw [<- Je];omega) (by rw [<- Je];omega);rw [<- Je] at k2;refine ⟨_,λ_=>⟨by omega, ?_,rfl⟩,_,by rw [e7];exact k1,by rw [k2];simp⟩;rw [hpp];omega
     ·obtain ⟨S,hS⟩:=afl ((((s[i]).toNat % 128:Nat)):Int) (7 * (i:Int)) (by omega)
      obtain ⟨V,hV⟩:=or_some (n:Int) S;exact ⟨V,λh=>by omega,S,hS,hV⟩
    obtain ⟨V,hV,S,hS,hO⟩:=step;have ih:TT.lim 119 [.s s,.i .u64 V,.i .i64 ((min s.length 10:Nat):Int),.i .i64 ((i:Int)+1)]=_:=getLoop s hs m (i+1) V (by omega) (λh=>⟨(hV h).1,(hV h).2.1⟩);have hout:AO s n i=AO s V (i+1):=by
     unfold AO;rw [hd,hj,hj'];have hv:mF (j+1) (s[i]::s.drop (i+1))=(mF j (s.drop (i+1))).map (· + 1):=by
      show (if (s[i]).toNat < 128 then _ else _)=_
      rw [ah (by omega)]
     rw [hv];cases hx:mF j (s.drop (i+1)) with
     | none=>rfl
     | some k=>
       obtain ⟨q1,q2,_,_⟩:=SX hx;have hV':=hV (by omega);have e1:i+(k+1)=i+1+k:=by omega
       simp only [fK,e1];split
       ·rfl
       ·have e2:(n:Int)+((128 ^ i * kD ((s[i]::s.drop (i+1)).take (k+1)):Nat):Int)=V+((128 ^ (i+1) * kD ((s.drop (i+1)).take k):Nat):Int):=by
         rw [hV'.2.2,zZ];have:128 ^ i * kD (s[i]::(s.drop (i+1)).take k)=(s[i]).toNat % 128 * 128 ^ i+128 ^ (i+1) * kD ((s.drop (i+1)).take k):=by
          show 128 ^ i * ((s[i]).toNat % 128+128 * kD _)=_
          rw [Nat.mul_add,G7,ZF,D7 (128 ^ i) ((s[i]).toNat % 128)]
         rw [this];omega
        rw [e2]
    rw [hout];generalize AO s V (i+1)=O at *;generalize ((min s.length 10:Nat):Int)=M at *;have em:(((s[i]).toNat % 128:Nat):Int)=((s[i]).toNat:Int) % 128:=by omega
    rw [em] at k7 w8 hS;refine aB rfl rfl ?_;simp -implicitDefEqProofs [h,hlt,hc',k7,w8,wi,wj,hS,hO,ih]
   ·-- the last one
    have hc':¬ ((128:Int)<=((s[i]).toNat:Int)):=by omega
    have hv:mF (j+1) (s[i]::s.drop (i+1))=some 1:=by
     show (if (s[i]).toNat < 128 then _ else _)=_
     rw [aj (by omega)]
    have hout:AO s n i=if qU (i+1) (s[i]).toNat≠0 then [.i .i64 0,.i .u64 0,.i .i64 0,.i .i64 (qU (i+1) (s[i]).toNat)] else [.i .i64 0,.i .u64 ((n+(s[i]).toNat * 128 ^ i:Nat):Int),.i .i64 ((i:Int)+1),.i .i64 0]:=by
     unfold AO;rw [hd,hj,hv];have e1:i+1 - 1=i:=by omega
     have e2:128 ^ i * kD ((s[i]::s.drop (i+1)).take 1)=(s[i]).toNat * 128 ^ i:=by
      simp only [zZ,TL,kD];rw [NR (by omega),D7];simp
     simp only [e1,hgd,e2];congr 1
    rw [hout];have step:∃S V,nJ .shl .u64 ((((s[i]).toNat % 128:Nat)):Int) (7 * (i:Int))=some (.i .u64 S)/\fO .or .u64 (n:Int) S=some (.i .u64 V)/\(qU (i+1) (s[i]).toNat=0->V=((n+(s[i]).toNat * 128 ^ i:Nat):Int)):=by
     by_cases hbad:i=9/\1 < (s[i]).toNat
     ·obtain ⟨S,hS⟩:=afl ((((s[i]).toNat % 128:Nat)):Int) (7 * (i:Int)) (by omega)
      obtain ⟨V,hV⟩:=or_some (n:Int) S;refine ⟨S,V,hS,hV,λh=>?_⟩;unfold qU at h;rw [aj (by omega)] at h;cases h
     ·have k1:=afk ((s[i]).toNat % 128) i (by omega) (by omega) (by omega)
      have em:(s[i]).toNat % 128=(s[i]).toNat:=NR (by omega);rw [em] at k1;have hp:(s[i]).toNat * 128 ^ i<=127 * 128 ^ i:=sH _ (by omega);have hb64:n+(s[i]).toNat * 128 ^ i < 18446744073709551616:=by
       rcases wP i 9 with h1 | h1
       ·have hq:(128:Nat) ^ i<=128 ^ 8:=NS (by omega) (by omega)
        omega
       ·have hi9:i=9:=by omega
        have h1:(s[i]).toNat<=1:=by omega
        have hq:(128:Nat) ^ i=128 ^ 9:=by rw [hi9]
        have hp2:(s[i]).toNat * 128 ^ i<=1 * 128 ^ i:=sH _ h1;omega
      have k2:=orI n (s[i]).toNat (7 * i) (by rw [<- Je];omega) (by rw [<- Je];omega);rw [<- Je] at k2;exact ⟨_,_,by rw [e7,em];exact k1,k2,λ_=>rfl⟩
    obtain ⟨S,V,hS,hO,hV⟩:=step;generalize ((n+(s[i]).toNat * 128 ^ i:Nat):Int)=R at *;generalize ((min s.length 10:Nat):Int)=M at *;have bd:qU (i+1) (s[i]).toNat=if (i:Int)=9/\(1:Int) < ((s[i]).toNat:Int) then 3 else if (0:Int) < (i:Int)/\((s[i]).toNat:Int)=0 then 2 else 0:=by
     unfold qU;congr 1
     ·apply propext;omega
     ·congr 1
      apply propext;omega
    rw [bd] at hV ⊢;have em:(((s[i]).toNat % 128:Nat):Int)=((s[i]).toNat:Int) % 128:=by omega
    rw [em] at k7 w8 hS;refine aB rfl rfl ?_
    rcases (ND ((i:Int)=9)).imp eq_true eq_false with q1 | q1<;>rcases (ND ((1:Int) < ((s[i]).toNat:Int))).imp eq_true eq_false with q2 | q2<;>
     rcases (ND ((0:Int) < (i:Int))).imp eq_true eq_false with q3 | q3<;>rcases (ND (((s[i]).toNat:Int)=0)).imp eq_true eq_false with q4 | q4
    all_goals
     have q3n:(0 < i)=((0:Int) < (i:Int)):=propext (by omega);have q4n:((s[i]).toNat=0)=(((s[i]).toNat:Int)=0):=propext (by omega);rw [q3] at q3n;rw [q4] at q4n;simp only [q1,q2,q3,q4,and_self,and_true,and_false,false_and,true_and,if_true,if_false] at hV ⊢;first
     | (have hV:=hV trivial;subst hV)
     | skip
     simp -implicitDefEqProofs [h,hlt,hc',k7,w8,wi,wj,hS,hO,q1,q2,q3,q4,q3n,q4n]
theorem uK (s:List UInt8) (hs:s.length<=140737488351232):TT.lim 118 [.s s]=some [.i .u64 ((ay s).1:Nat),.i .i64 ((ay s).2.1:Nat),.i .i64 (ay s).2.2]:=by
 have k:TT.lim 119 [.s s,.i .u64 0,.i .i64 ((min s.length 10:Nat):Int),.i .i64 0]=_:=getLoop s hs (min s.length 10) 0 0 (by omega) (by simp);have hm:(if (10:Int) < (s.length:Int) then (10:Int) else (s.length:Int))=((min s.length 10:Nat):Int):=by split<;>omega
 unfold AO at k;rw [dO,D9] at k;unfold ay;generalize ((min s.length 10:Nat):Int)=M at *;refine aQ rfl rfl ?_ rfl;cases hv:mF 10 s with
 | none=>
   rw [hv] at k;by_cases h10:10<=s.length
   ·have h1:(10:Int)<=s.length:=by omega
    simp -implicitDefEqProofs [hm,k,h10,h1]
   ·have h1:¬ (10:Int)<=s.length:=by omega
    simp -implicitDefEqProofs [hm,k,h10,h1]
 | some j=>
   rw [hv] at k;simp only [jk,Nat.pow_zero,D8,Zi] at k;by_cases hb:qU j (s.getD (j - 1) 0).toNat=0
   ·simp only [hb,ne_eq,not_true_eq_false,if_false] at k ⊢
    simp -implicitDefEqProofs [hm,k]
   ·simp only [hb,ne_eq,not_false_eq_true,if_true] at k ⊢
    simp -implicitDefEqProofs [hm,k]
theorem Nh {n:Nat} (h:n < 256):(UInt8.ofNat n).toNat=n:=UInt8.toNat_ofNat_of_lt' h
def vC (n:Nat):Nat:=if n < 128 then n else vC (n / 128)
termination_by n
theorem agb {n:Nat} (h:n < 128):vC n=n:=by rw [vC,aj h]
theorem aga {n:Nat} (h:¬ n < 128):vC n=vC (n / 128):=by rw [vC,ah h]
theorem SY {n:Nat} (h:n < 128):gY n=1:=by unfold gY;rw [wI h];rfl
theorem ata:∀n:Nat,vC n < 128/\(0 < n->0 < vC n)/\vC n * 128 ^ (gY n - 1)<=n:=by
 intro n;induction n using Nat.strongRecOn with
 | _ n ih=>
   by_cases h:n < 128
   ·rw [agb h,SY h];simp;omega
   ·obtain ⟨h1,h2,h3⟩:=ih (n / 128) (by omega)
    rw [aga h,Gu h];refine ⟨h1,λ_=>h2 (by omega), ?_⟩;have hp:=Gv (n / 128);obtain ⟨j,hj⟩:∃j,gY (n / 128)=j+1:=⟨gY (n / 128) - 1,by omega⟩
    rw [hj] at h3 ⊢;simp only [Nat.add_sub_cancel] at h3 ⊢;have:vC (n / 128) * 128 ^ (j+1)=vC (n / 128) * 128 ^ j * 128:=by rw [G7,ZF]
    rw [this];omega
theorem as9:∀ (n:Nat) (x:List UInt8),(bG n++x).getD (gY n - 1) 0=UInt8.ofNat (vC n):=by
 intro n;induction n using Nat.strongRecOn with
 | _ n ih=>
   intro x;by_cases h:n < 128
   ·rw [agb h,SY h,wI h];rfl
   ·have hp:=Gv (n / 128)
    obtain ⟨j,hj⟩:∃j,gY (n / 128)=j+1:=⟨gY (n / 128) - 1,by omega⟩
    have:=ih (n / 128) (by omega) x;rw [aga h,Gu h,zN h,<- this,hj];simp
theorem as8:∀ (n k:Nat) (x:List UInt8),gY n<=k->mF k (bG n++x)=some (gY n):=by
 intro n;induction n using Nat.strongRecOn with
 | _ n ih=>
   intro k x hk;have hp:=Gv n;obtain ⟨j,rfl⟩:∃j,k=j+1:=⟨k - 1,by omega⟩
   by_cases h:n < 128
   ·rw [SY h,wI h]
    show (if (UInt8.ofNat n).toNat < 128 then _ else _)=_
    rw [aj (by rw [Nh (by omega)];exact h)]
   ·rw [Gu h] at hk ⊢
    rw [zN h];show (if (UInt8.ofNat (n % 128+128)).toNat < 128 then _ else (mF j (bG (n / 128)++x)).map (· + 1))=_
    rw [ah (by rw [Nh (by omega)];omega),ih (n / 128) (by omega) j x (by omega)];rfl
theorem atb:∀n:Nat,kD (bG n)=n:=by
 intro n;induction n using Nat.strongRecOn with
 | _ n ih=>
   by_cases h:n < 128
   ·rw [wI h]
    simp only [kD];rw [Nh (by omega)];omega
   ·rw [zN h]
    simp only [kD];rw [ih (n / 128) (by omega),Nh (by omega)];omega
theorem as7 (n:Nat) (x:List UInt8) (hn:n < 18446744073709551616):ay (bG n++x)=(n,(bG n).length,0):=by
 have h1:=as8 n 10 x (DX hn);obtain ⟨f1,f2,f3⟩:=ata n;have hg:=as9 n x;have hb:qU (gY n) (UInt8.ofNat (vC n)).toNat=0:=by
  rw [Nh (by omega)];unfold qU;rw [ah,ah]
  ·rintro ⟨h2,h3⟩
   by_cases h:n < 128
   ·rw [SY h] at h2;omega
   ·have:=f2 (by omega);omega
  ·rintro ⟨h2,h3⟩
   rw [h2] at f3;have:2 * 128 ^ 9<=vC n * 128 ^ 9:=sH _ h3;simp only [show 10 - 1=9 from rfl] at f3;omega
 unfold ay;rw [h1];simp only [hg,hb,ne_eq,not_true_eq_false,if_false];have:(bG n++x).take (gY n)=bG n:=by
  unfold gY;simp
 rw [this,atb];rfl
theorem atc (a:List UInt8) (b:UInt8):kD (a++[b])=kD a+128 ^ a.length * (b.toNat % 128):=by
 induction a with
 | nil=>simp [kD]
 | cons c a ih=>
   simp only [bJ,kD,ih,jK,G7,Nat.mul_add,jv];rw [D7 (128 ^ a.length) 128,ZF]
/-- Bytes that are a number's writing. -/
theorem aeQ:∀ (j k:Nat) (s:List UInt8),mF j s=some k->(1 < k->(s.getD (k - 1) 0)≠0)->bG (kD (s.take k))=s.take k/\(1 < k\/s.getD (k - 1) 0≠0->kD (s.take k)≠0)
 | 0,k,s,h,_=>by simp [mF] at h
 | j+1,k,[],h,_=>by simp [mF] at h
 | j+1,k,b::r,h,hz=>by
   unfold mF at h;split at h
   ·next hb=>
    cases h;simp only [zZ,TL,kD,Nat.mul_zero,jR];rw [NR hb];refine ⟨by rw [wI hb];simp,λhh=>?_⟩;rcases hh with hh | hh
    ·omega
    ·intro e
     apply hh;simp only [yI,List.getD_cons_zero];exact ZP.1 (by simpa using e)
   ·next hb=>
    obtain ⟨i,hi,rfl⟩:=aX.1 h;obtain ⟨q1,q2,q3,q4⟩:=SX hi;obtain ⟨l,rfl⟩:∃l,i=l+1:=⟨i - 1,by omega⟩
    have hz':r.getD l 0≠0:=by have:=hz (by omega);simpa using this
    obtain ⟨e1,e2⟩:=aeQ j (l+1) r hi (λ_=>by simpa using hz');have e2:=e2 (.inr (by simpa using hz'));have hb8:=b.toNat_lt;rw [zZ];simp only [kD];refine ⟨?_,λ_=>by omega⟩;rw [zN (by omega)];have a1:(b.toNat % 128+128 * kD (r.take (l+1))) % 128+128=b.toNat:=by omega
    have a2:(b.toNat % 128+128 * kD (r.take (l+1))) / 128=kD (r.take (l+1)):=by omega
    rw [a1,a2,e1];simp
structure VOk (s:List UInt8) (n k:Nat):Prop where
 pos:1<=k
 ten:k<=10
 len:k<=s.length
 lt:n < 18446744073709551616
 put:bG n=s.take k
theorem jM {s:List UInt8} (h:(ay s).2.2=0):VOk s (ay s).1 (ay s).2.1:=by
 unfold ay at h ⊢;cases hv:mF 10 s with
 | none=>
   rw [hv] at h;simp only at h;split at h<;>cases h
 | some k=>
   rw [hv] at h;simp only at h ⊢;obtain ⟨v1,v2,v3,v4⟩:=SX hv;by_cases hb:qU k (s.getD (k - 1) 0).toNat=0
   ·simp only [hb,ne_eq,not_true_eq_false,if_false]
    have hz:1 < k->s.getD (k - 1) 0≠0:=by
     intro h1 h2;unfold qU at hb;rw [h2] at hb;split at hb
     ·cases hb
     ·rw [aj ⟨h1,rfl⟩] at hb;cases hb
    refine ⟨v1,v2,v3, ?_,(aeQ 10 k s hv hz).1⟩;have e:s.take k=s.take (k - 1)++[s.getD (k - 1) 0]:=by
     obtain ⟨j,rfl⟩:∃j,k=j+1:=⟨k - 1,by omega⟩
     have:j < s.length:=by omega
     simp -implicitDefEqProofs [List.getD,this]
    have h2:=agc (s.take (k - 1));rw [e,atc,mM,JR (by omega)];rw [mM,JR (by omega)] at h2;rcases wP k 10 with h3 | h3
    ·have hq:(128:Nat) ^ (k - 1)<=128 ^ 8:=NS (by omega) (by omega)
     have hq2:128 ^ (k - 1) * ((s.getD (k - 1) 0).toNat % 128)<=128 ^ (k - 1) * 127:=TP _ (by omega);omega
    ·have hK10:k=10:=by omega
     have hb1:(s.getD (k - 1) 0).toNat<=1:=by
      unfold qU at hb;split at hb
      ·cases hb
      ·next h=>omega
     have hq:(128:Nat) ^ (k - 1)=128 ^ 9:=by rw [hK10]
     have hq2:128 ^ (k - 1) * ((s.getD (k - 1) 0).toNat % 128)<=128 ^ (k - 1) * 1:=TP _ (by omega);omega
   ·simp only [hb,ne_eq,not_false_eq_true,if_true] at h
theorem Gs {s:List UInt8} (h:(ay s).2.2≠0):(ay s).1=0/\(ay s).2.1=0:=by
 unfold ay at h ⊢;cases hv:mF 10 s with
 | none=>exact ⟨rfl,rfl⟩
 | some k=>
   rw [hv] at h;simp only at h ⊢;by_cases hb:qU k (s.getD (k - 1) 0).toNat=0
   ·simp only [hb,ne_eq,not_true_eq_false,if_false] at h
   ·simp only [hb,ne_eq,not_false_eq_true,if_true]
    exact ⟨trivial,trivial⟩
/-- Taken of a cursor. -/
theorem zM (t:List UInt8) (at':Nat) (h:at'<=t.length) (ht:t.length<=140737488351232) :
 TT.lim 124 [.s t,.i .i64 at']=some [.i .i64 0,.i .u64 ((ay (t.drop at')).1:Nat),.i .i64 (ay (t.drop at')).2.2,.s t,.i .i64 ((at'+(ay (t.drop at')).2.1:Nat):Int)]:=by
 have k:=uK (t.drop at') (by rw [eH];omega);have hd:(t.take t.length).drop at'=t.drop at':=by rw [yH]
 have h1:(at':Int)<=t.length:=by omega
 refine aB rfl rfl ?_;by_cases he:(ay (t.drop at')).2.2=0
 ·have hv:=jM he
  have hl:=hv.len;have h10:=hv.ten;rw [eH] at hl;generalize (ay (t.drop at')).1=n at *;generalize (ay (t.drop at')).2.1=j at *;generalize (ay (t.drop at')).2.2=e at *;have w1:=jJ (n:=(j:Int)) (by omega) (by omega);have w2:=wrap64 (n:=(t.length:Int) - (at':Int)) (by omega) (by omega);have w3:=jJ (n:=(t.length:Int) - (at':Int)) (by omega) (by omega);have w4:=wrap64 (n:=(j:Int)) (by omega) (by omega);have w5:=wrap64 (n:=(at':Int)+(j:Int)) (by omega) (by omega);have c1:¬ ((t.length:Int) - (at':Int) < (j:Int)):=by omega
  have c2:(at':Int)<=(at':Int)+(j:Int)/\(at':Int)+(j:Int)<=t.length:=by omega
  subst he;simp -implicitDefEqProofs [hd,h1,k,w1,w2,w3,w4,w5,c1,c2]
 ·obtain ⟨e1,e2⟩:=Gs he
  rw [e1,e2] at k ⊢;generalize (ay (t.drop at')).2.2=e at *;simp -implicitDefEqProofs [hd,h1,k,he]
def kT (e:Int):List UInt8×Nat×Int:=([],0,e)
/-- The text that stands next, how many bytes it took, and the code. -/
def bg (s a0:List UInt8) (first:Bool):List UInt8×Nat×Int:=
 let a:=if first=true then [] else a0
 let v:=ay s
 if v.2.2≠0 then kT v.2.2 else
 if a.length < v.1 then kT 23 else
 let v2:=ay (s.drop v.2.1)
 if v2.2.2≠0 then kT v2.2.2 else
 if s.length - (v.2.1+v2.2.1) < v2.1 then kT 1 else
 let t:=a.take v.1++(s.drop (v.2.1+v2.2.1)).take v2.1
 if first=false/\Op.bytesLess a t=false then kT 7 else
 if v.1 < common a t then kT 23 else (t,v.2.1+v2.2.1+v2.1,0)
theorem amI (a t:List UInt8):(Op.bytesLess t a || t==a) = !(Op.bytesLess a t):=by
 rw [HY,HY,vF];simp only [lU,decide_eq_true_iff,beq_iff_eq,wK,decide_eq_false_iff_not];constructor
 ·rintro (h | h) h2
  ·exact mP _ (xF h h2)
  ·subst h;exact mP _ h2
 ·intro h
  by_cases h1:t < a
  ·exact .inl h1
  ·exact .inr (NK (yG.1 h) (yG.1 h1))
theorem aaW:∀ (k:Nat) (a x:List UInt8),k<=a.length->k<=common a (a.take k++x)
 | 0,a,x,h=>by omega
 | k+1,[],x,h=>by simp at h
 | k+1,b::a,x,h=>by
   rw [zZ,bJ];unfold common;rw [aj rfl];have:=aaW k a x (by simpa using h);omega
theorem ao3 (t a:List UInt8) (first:Bool) (at':Nat) (h:at'<=t.length) (ht:t.length<=100000000) (ha:a.length<=100000000) :
 ∃at2:Nat,TT.lim 148 [.s t,.i .i64 at',.s a,.b first]=some [.i .i64 0,.s (bg (t.drop at') a first).1,.i .i64 (bg (t.drop at') a first).2.2,.s t,.i .i64 at2]/\
  ((bg (t.drop at') a first).2.2=0->at2=at'+(bg (t.drop at') a first).2.1):=by
 have k1:=zM t at' h (by omega);by_cases he:(ay (t.drop at')).2.2=0;rotate_left
 ·obtain ⟨e1,e2⟩:=Gs he
  have hp:bg (t.drop at') a first=kT (ay (t.drop at')).2.2:=by unfold bg;simp only;rw [aj he]
  rw [e1,e2] at k1;rw [hp];clear e1 e2 hp;generalize (ay (t.drop at')).2.2=e at *;refine ⟨at',aB rfl rfl ?_,λh=>absurd h he⟩;cases first<;>simp [k1,he,kT]
 have hv:=jM he;have hl:=hv.len;have h64:=hv.lt;have h10:=hv.ten;rw [eH] at hl
 have hpn:∀a':List UInt8,a'=(if first=true then [] else a)->bg (t.drop at') a first=(if a'.length < (ay (t.drop at')).1 then kT 23 else
  if (ay (t.drop (at'+(ay (t.drop at')).2.1))).2.2≠0 then kT (ay (t.drop (at'+(ay (t.drop at')).2.1))).2.2 else
  if (t.length - at') - ((ay (t.drop at')).2.1+(ay (t.drop (at'+(ay (t.drop at')).2.1))).2.1) < (ay (t.drop (at'+(ay (t.drop at')).2.1))).1 then kT 1 else
  if first=false/\Op.bytesLess a' (a'.take (ay (t.drop at')).1++(t.drop (at'+((ay (t.drop at')).2.1+(ay (t.drop (at'+(ay (t.drop at')).2.1))).2.1))).take (ay (t.drop (at'+(ay (t.drop at')).2.1))).1)=false then kT 7 else
  if (ay (t.drop at')).1 < common a' (a'.take (ay (t.drop at')).1++(t.drop (at'+((ay (t.drop at')).2.1+(ay (t.drop (at'+(ay (t.drop at')).2.1))).2.1))).take (ay (t.drop (at'+(ay (t.drop at')).2.1))).1) then kT 23 else
  (a'.take (ay (t.drop at')).1++(t.drop (at'+((ay (t.drop at')).2.1+(ay (t.drop (at'+(ay (t.drop at')).2.1))).2.1))).take (ay (t.drop (at'+(ay (t.drop at')).2.1))).1,(ay (t.drop at')).2.1+(ay (t.drop (at'+(ay (t.drop at')).2.1))).2.1+(ay (t.drop (at'+(ay (t.drop at')).2.1))).1,0)):=by
  intro a' ha';unfold bg;simp only [qX,eH,<- ha',he,ne_eq,not_true_eq_false,if_false]
 rw [he] at k1;have k2:=zM t (at'+(ay (t.drop at')).2.1) (by omega) (by omega);have hv2:=λh=>jM (s:=t.drop (at'+(ay (t.drop at')).2.1)) h;have hv3:=λh=>Gs (s:=t.drop (at'+(ay (t.drop at')).2.1)) h;generalize hv0:ay (t.drop at')=v at *;obtain ⟨n,i,e⟩:=v;simp only at *;generalize hv1:ay (t.drop (at'+i))=v2 at *;obtain ⟨m,j,e2⟩:=v2;simp only at *;clear hv0 hv1 hv;subst he;simp only [Ce] at k1 k2
 -- whichever is ahead
 cases first with
 | true=>
   have hp:=hpn [] rfl;rw [hp];clear hp hpn;by_cases c1:0 < n
   ·have c1':(0:Int) < n:=by omega
    rw [aj (by simpa using c1)];refine ⟨at'+i,aB rfl rfl ?_,λh=>by cases h⟩;simp -implicitDefEqProofs [k1,c1,c1',kT]
   have c1':¬ (0:Int) < n:=by omega
   rw [ah (by simpa using c1)];by_cases c2:e2=0;rotate_left
   ·obtain ⟨q1,q2⟩:=hv3 c2
    subst q1;subst q2;rw [aj c2];refine ⟨at'+i,aB rfl rfl ?_,λh=>absurd h c2⟩;simp -implicitDefEqProofs [k1,k2,c1,c1',c2,kT]
   subst c2;obtain ⟨q1,q2,q3,q4,_⟩:=hv2 rfl;rw [eH] at q3;rw [ah (by simp)];have w2:=wrap64 (n:=(t.length:Int) - ((at':Int)+(i:Int)+(j:Int))) (by omega) (by omega);have w3:=jJ (n:=(t.length:Int) - ((at':Int)+(i:Int)+(j:Int))) (by omega) (by omega);by_cases c3:t.length - at' - (i+j) < m
   ·have c3':(t.length:Int) - ((at':Int)+(i:Int)+(j:Int)) < (m:Int):=by omega
    rw [aj c3];refine ⟨at'+i+j,aB rfl rfl ?_,λh=>by cases h⟩;simp -implicitDefEqProofs [k1,k2,c1,c1',w2,w3,c3',kT]
   have c3':¬ (t.length:Int) - ((at':Int)+(i:Int)+(j:Int)) < (m:Int):=by omega
   rw [ah c3,ah (by simp)];have n0:n=0:=by omega
   subst n0;have hc:common [] ([]++(t.drop (at'+(i+j))).take m)=0:=UJ _;have w4:=wrap64 (n:=(m:Int)) (by omega) (by omega);have w5:=wrap64 (n:=(at':Int)+(i:Int)+(j:Int)+(m:Int)) (by omega) (by omega);have w0:=wrap64 (n:=(0:Int)) (by omega) (by omega);have ts:((t.take (at'+i+j+m)).drop (at'+i+j))=(t.drop (at'+(i+j))).take m:=by
    rw [<- jv,GU];congr 1;omega
   have kc:=UF [] ((t.drop (at'+(i+j))).take m) (by simp) (by simp;omega);rw [UJ] at kc;have c4:(at':Int)+(i:Int)+(j:Int)<=(at':Int)+(i:Int)+(j:Int)+(m:Int)/\(at':Int)+(i:Int)+(j:Int)+(m:Int)<=t.length:=by omega
   have c5:(0:Int)<=(at':Int)+(i:Int)+(j:Int):=by omega
   have t1:((at':Int)+(i:Int)+(j:Int)+(m:Int)).toNat=at'+i+j+m:=by omega
   have t2:((at':Int)+(i:Int)+(j:Int)).toNat=at'+i+j:=by omega
   rw [List.take_nil,ah (by rw [hc];omega)];have hl0:(((t.drop (at'+(i+j))).take m).length:Int)<=9223372036854775807:=by
    have:((t.drop (at'+(i+j))).take m).length<=t.length:=by rw [mM,eH];omega
    omega
   refine ⟨at'+i+j+m,aB rfl rfl ?_,λ_=>by simp only;omega⟩;rw [bn];generalize (t.drop (at'+(i+j))).take m=X at *;simp -implicitDefEqProofs [k1,k2,w0,w2,w3,w4,w5,c3',c4,c5,t1,t2,ts,kc,hl0]
 | false=>
   have hp:=hpn a rfl;rw [hp];clear hp hpn;have wa:=jJ (n:=(a.length:Int)) (by omega) (by omega);by_cases c1:a.length < n
   ·have c1':(a.length:Int) < n:=by omega
    rw [aj c1];refine ⟨at'+i,aB rfl rfl ?_,λh=>by cases h⟩;simp -implicitDefEqProofs [k1,c1,c1',wa,kT]
   have c1':¬ (a.length:Int) < n:=by omega
   rw [ah c1];by_cases c2:e2=0;rotate_left
   ·obtain ⟨q1,q2⟩:=hv3 c2
    subst q1;subst q2;rw [aj c2];refine ⟨at'+i,aB rfl rfl ?_,λh=>absurd h c2⟩;simp -implicitDefEqProofs [k1,k2,c1,c1',c2,wa,kT]
   subst c2;obtain ⟨q1,q2,q3,q4,_⟩:=hv2 rfl;rw [eH] at q3;rw [ah (by simp)];have w2:=wrap64 (n:=(t.length:Int) - ((at':Int)+(i:Int)+(j:Int))) (by omega) (by omega);have w3:=jJ (n:=(t.length:Int) - ((at':Int)+(i:Int)+(j:Int))) (by omega) (by omega);by_cases c3:t.length - at' - (i+j) < m
   ·have c3':(t.length:Int) - ((at':Int)+(i:Int)+(j:Int)) < (m:Int):=by omega
    rw [aj c3];refine ⟨at'+i+j,aB rfl rfl ?_,λh=>by cases h⟩;simp -implicitDefEqProofs [k1,k2,c1,c1',w2,w3,c3',wa,kT]
   have c3':¬ (t.length:Int) - ((at':Int)+(i:Int)+(j:Int)) < (m:Int):=by omega
   rw [ah c3];have w4:=wrap64 (n:=(m:Int)) (by omega) (by omega);have w5:=wrap64 (n:=(at':Int)+(i:Int)+(j:Int)+(m:Int)) (by omega) (by omega);have wn:=wrap64 (n:=(n:Int)) (by omega) (by omega);have ts:((t.take (at'+i+j+m)).drop (at'+i+j))=(t.drop (at'+(i+j))).take m:=by
    rw [<- jv,GU];congr 1;omega
   have hlx:((t.drop (at'+(i+j))).take m).length<=t.length:=by rw [mM,eH];omega
   have kc:=UF a (a.take n++(t.drop (at'+(i+j))).take m) (by omega) (by rw [fG,mM];omega);have c4:(at':Int)+(i:Int)+(j:Int)<=(at':Int)+(i:Int)+(j:Int)+(m:Int)/\(at':Int)+(i:Int)+(j:Int)+(m:Int)<=t.length:=by omega
   have c5:(0:Int)<=(at':Int)+(i:Int)+(j:Int):=by omega
   have c6:(n:Int)<=a.length:=by omega
   have t1:((at':Int)+(i:Int)+(j:Int)+(m:Int)).toNat=at'+i+j+m:=by omega
   have t2:((at':Int)+(i:Int)+(j:Int)).toNat=at'+i+j:=by omega
   have hlm:(min n a.length:Nat)=n:=by omega
   have hl0:(n:Int)+(((t.drop (at'+(i+j))).take m).length:Int)<=9223372036854775807:=by omega
   have hle:=amI a (a.take n++(t.drop (at'+(i+j))).take m);generalize (t.drop (at'+(i+j))).take m=X at *;by_cases c7:Op.bytesLess a (a.take n++X)=false
   ·rw [aj ⟨rfl,c7⟩]
    rw [c7] at hle;refine ⟨at'+i+j+m,aB rfl rfl ?_,λh=>by cases h⟩;have hle':(Op.bytesLess (a.take n++X) a=true\/a.take n++X=a)=True:=eq_true (by simpa using hle);simp -implicitDefEqProofs [k1,k2,wa,wn,w2,w3,w4,w5,c1',c3',c4,c5,c6,t1,t2,ts,hl0,hlm,hle',kT]
   ·rw [ah (λh=>c7 h.2)]
    have c7:Op.bytesLess a (a.take n++X)=true:=by simpa using c7
    rw [c7] at hle;have hle':(Op.bytesLess (a.take n++X) a=true\/a.take n++X=a)=False:=eq_false (by simpa using hle);by_cases c8:n < common a (a.take n++X)
    ·have Ep:(n:Int) < (common a (a.take n++X):Int):=by omega
     rw [aj c8];refine ⟨at'+i+j+m,aB rfl rfl ?_,λh=>by cases h⟩;simp -implicitDefEqProofs [k1,k2,wa,wn,w2,w3,w4,w5,c1',c3',c4,c5,c6,t1,t2,ts,hl0,hlm,hle',kc,Ep,kT]
    ·have Ep:¬ (n:Int) < (common a (a.take n++X):Int):=by omega
     rw [ah c8];refine ⟨at'+i+j+m,aB rfl rfl ?_,λ_=>by simp only;omega⟩;simp -implicitDefEqProofs [k1,k2,wa,wn,w2,w3,w4,w5,c1',c3',c4,c5,c6,t1,t2,ts,hl0,hlm,hle',kc,Ep]
theorem XW {s a:List UInt8} {first:Bool} (h:(bg s a first).2.2=0):2<=(bg s a first).2.1/\(bg s a first).2.1<=s.length/\(bg s a first).1.length<=(if first=true then 0 else a.length)+(bg s a first).2.1:=by
 have hA:(if first=true then 0 else a.length)=(if first=true then [] else a).length:=by cases first<;>rfl
 rw [hA];clear hA;unfold bg at h ⊢;simp only at h ⊢;generalize (if first=true then [] else a)=a' at h ⊢;split at h
 ·next c=>exact absurd h c
 next c0=>
 rw [ah c0];split at h
 ·cases h
 next c1=>
 rw [ah c1];split at h
 ·next c=>exact absurd h c
 next c2=>
 rw [ah c2];split at h
 ·cases h
 next c3=>
 rw [ah c3];split at h
 ·cases h
 next c4=>
 rw [ah c4];split at h
 ·cases h
 next c5=>
 rw [ah c5];have v1:=jM (s:=s) (by simpa using c0);have v2:=jM (s:=s.drop (ay s).2.1) (by simpa using c2);have p1:=v1.pos;have p2:=v2.pos;have l1:=v1.len;have l2:=v2.len;rw [eH] at l2;refine ⟨by simp only;omega,by simp only;omega, ?_⟩;simp only [fG,mM,eH];omega
theorem ad1 (a s:List UInt8) (hs:s.length<=100000000):(zy a s).length<=20+s.length:=by
 have hl:=UH a s;have l1:=lS (n:=common a s) (by omega);have l2:=lS (n:=s.length - common a s) (by omega);unfold zy;simp only [fG,eH];omega
end M
end Go.Proofs.YtilkjidelblkfaaGreatDoor
