/- What the trees compute: plain laws. -/
import Derived.Test.YtcpfjpcdcafjmaaGreatDoorKCT
import Derived.Test.YtcpfjpcdcafjmaaGreatDoorAbsPl
import Derived.Test.YtcpfjpcdcafjmaaGreatDoorAbsGo
import Derived.Test.YtcpfjpcdcafjmaaGreatDoorAbsTold2
import Derived.Test.YtcpfjpcdcafjmaaGreatDoorAbsFields
import Derived.Lib.TrimUEq
import Derived.Lib.MapLaws
namespace Go.Proofs.YtcpfjpcdcafjmaaGreatDoor
open Go Go.aN
set_option linter.unusedSimpArgs false
set_option linter.unusedVariables false
set_option maxRecDepth 100000
namespace C
theorem Iq:∀a b:List UInt8,Op.bytesLess a b=decide (a < b)
 | _,[]=>by simp [Op.bytesLess]
 | [],_::_=>by simp [Op.bytesLess]
 | a::x,b::y=>by
   rw [Op.bytesLess,Iq x y,qp];simp [List.cons_lt_cons_iff]
/-- An entry: key and value. A row: its entries and its number. -/
abbrev bJ:=List UInt8×List UInt8
abbrev Row:=List bJ×Int
def ent (x:bJ):GV:=.g [.s x.1,.s x.2]
def row (r:Row):GV:=.g [.l (r.1.map ent),.i .u64 r.2]
@[simp] theorem apz (x:bJ):(ent x).cells=[.s x.1,.s x.2]:=rfl
@[simp] theorem aqZ (r:Row):(row r).cells=[.l (r.1.map ent),.i .u64 r.2]:=rfl
@[simp] theorem apA (x:bJ):(ent x).scalar=false:=rfl
@[simp] theorem aq0 (r:Row):(row r).scalar=false:=rfl
/-- Texts and lists of no more than any machine bears. -/
def oq (d:List bJ):Prop:=d.length<=140737488351232/\∀x∈d,x.1.length<=140737488351232/\x.2.length<=140737488351232
def Rows (l:List Row):Prop:=l.length<=140737488351232/\∀r∈l,oq r.1/\0<=r.2/\r.2 < 18446744073709551616
def pq (x:bJ):Bool:=decide (x.1.length+x.2.length<=600)
theorem aaJ (d:List bJ) (hd:oq d):∀m i:Nat,i+m=d.length->TT.lim 4 [.l (d.map ent),.i .i64 d.length,.i .i64 i]=some (if (d.drop i).all pq=true then [.i .i64 1] else [.i .i64 0])
 | 0,i,hi=>by
   have h0:d.drop i=[]:=eY (by omega);refine aC rfl rfl ?_;have h:¬ ((i:Int) < d.length):=by omega
   simp [h,h0]
 | m+1,i,hi=>by
   have hlt:i < d.length:=by omega
   have ih:TT.lim 4 [.l (d.map ent),.i .i64 d.length,.i .i64 ((i:Int)+1)]=_:=aaJ d hd m (i+1) (by omega);refine aC rfl rfl ?_;have h:((i:Int) < d.length):=by omega
   have hw:=wrap64 (n:=(i:Int)+1) (by omega) (by have:=hd.1;omega);have hx:=hd.2 d[i] (iI hlt);have hw2:=wrap64 (n:=(d[i].1.length:Int)+(d[i].2.length:Int)) (by omega) (by omega);have hda:(d.drop i).all pq=(pq d[i]&&(d.drop (i+1)).all pq):=by rw [fZ hlt,tY]
   by_cases hf:(600:Int) < (d[i].1.length:Int)+(d[i].2.length:Int)
   ·have:pq d[i]=false:=by unfold pq;simp;omega
    simp [h,hlt,hw2,hf,hda,this]
   ·have:pq d[i]=true:=by unfold pq;simp;omega
    rw [hda,this,PK];simp [h,hlt,hw,hw2,hf,ih]
def gy (d:List bJ):Bool:=d.all pq&&decide (d.length<=40)
theorem Zm (d:List bJ) (hd:oq d):TT.lim 3 [.l (d.map ent)]=some [.b (gy d)]:=by
 refine aA rfl rfl ?_ rfl;have h5:TT.lim 4 [.l (d.map ent),.i .i64 d.length,.i .i64 0]=_:=aaJ d hd d.length 0 (by omega);rw [dJ] at h5;cases hc:d.all pq with
 | false=>rw [hc] at h5;simp [h5,gy,hc]
 | true=>
   rw [hc] at h5;simp only [if_true] at h5;have:(decide ((d.length:Int)<=40))=decide (d.length<=40):=by rw [qp];simp;omega
   simp [h5,gy,hc,this]
def cO (n:Nat):List UInt8:=if n < 128 then [UInt8.ofNat n] else UInt8.ofNat (n % 128+128)::cO (n / 128)
termination_by n
decreasing_by omega
theorem GU {n:Nat} (h:n < 128):cO n=[UInt8.ofNat n]:=by rw [cO,ak h]
theorem J3 {n:Nat} (h:¬ n < 128):cO n=UInt8.ofNat (n % 128+128)::cO (n / 128):=by rw [cO,ah h]
def nZ (n:Nat):Nat:=(cO n).length
theorem amJ {n:Int} (h0:0<=n):n.fdiv (2 ^ (7:Nat))=n / 128:=by
 rw [PN _ (by decide)];rfl
theorem acz {n:Nat}:pI .shr .u64 (n:Int) 7=some (.i .u64 ((n / 128:Nat):Int)):=by
 have:((n:Int)).fdiv (2 ^ (7:Nat))=((n / 128:Nat):Int):=by rw [amJ (by omega)];omega
 simp [pI,IntKind.bits];exact this
theorem Pq (n:Nat):0 < nZ n:=by unfold nZ;rw [cO];split<;>simp
theorem Po {n:Nat} (h:¬ n < 128):nZ n=nZ (n / 128)+1:=by unfold nZ;rw [J3 h];rfl
theorem adl:∀ (k n:Nat),0 < k->n < 128 ^ k->nZ n<=k
 | 0,_,h,_=>by omega
 | k+1,n,_,h=>by
   by_cases hn:n < 128
   ·unfold nZ;rw [GU hn];simp
   ·rw [Po hn]
    cases k with
    | zero=>simp at h;omega
    | succ k=>
      have:n / 128 < 128 ^ (k+1):=by rw [AL] at h;omega
      have:=adl (k+1) (n / 128) (by omega) this;omega
theorem Wp {n:Nat} (h:n < 18446744073709551616):nZ n<=10:=adl 10 n (by omega) (by omega)
theorem aik:∀ (n s:Nat),s+nZ n<=1000->n < 18446744073709551616->TT.lim 10 [.i .u64 n,.i .i64 s]=some [.i .i64 0,.i .i64 ((s+nZ n - 1:Nat):Int)]:=by
 intro n;induction n using Nat.strongRecOn with
 | _ n ih=>
   intro s hs hn;refine aC rfl rfl ?_;by_cases h:n < 128
   ·have h':¬ (128:Int)<=n:=by omega
    simp [h',nZ,GU h]
   ·have h':(128:Int)<=n:=by omega
    have hv:=Po h;have hp:=Pq (n / 128);have hw:=wrap64 (n:=(s:Int)+1) (by omega) (by omega);have ih':TT.lim 10 [.i .u64 ((n / 128:Nat):Int),.i .i64 ((s:Int)+1)]=_:=ih (n / 128) (by omega) (s+1) (by omega) (by omega);have hn':s+nZ n - 1=s+1+nZ (n / 128) - 1:=by omega
    rw [hn'];have h7:pI .shr .u64 (n:Int) 7=some (.i .u64 ((n / 128:Nat):Int)):=acz;generalize ((n / 128:Nat):Int)=q at h7 ih';simp [h',hw,h7,ih']
theorem amK (n:Nat) (hn:n < 18446744073709551616):TT.lim 9 [.i .u64 n]=some [.i .i64 (nZ n)]:=by
 have hp:=Pq n;have h9:TT.lim 10 [.i .u64 n,.i .i64 1]=_:=aik n 1 (by have:=Wp hn;omega) hn;rw [show 1+nZ n - 1=nZ n by omega] at h9;refine aA rfl rfl ?_ rfl;simp [h9]
/-- The bytes of a number, each with its high bit set. -/
def jI:Nat->Nat->List Nat
 | 0,_=>[]
 | k+1,n=>(n % 128+128)::jI k (n / 128)
def iq (n:Nat):GV:=.i .u8 n
theorem adJ (n:Nat) (hn:n < 18446744073709551616):fO .and .u64 (n:Int) 127=some (.i .u64 ((n % 128:Nat):Int)):=by
 have h1:((BitVec.ofInt 64 (n:Int) &&& BitVec.ofInt 64 127).toNat:Nat)=n % 128:=by
  rw [BitVec.toNat_and,Aq,Aq];have e1:((n:Int) % ((2 ^ 64:Nat):Int)).toNat=n:=by omega
  have e2:((127:Int) % ((2 ^ 64:Nat):Int)).toNat=2 ^ 7 - 1:=by decide
  rw [e1,e2,Nat.and_two_pow_sub_one_eq_mod]
 show some (GV.i .u64 (IntKind.u64.wrap (((BitVec.ofInt 64 (n:Int) &&& BitVec.ofInt 64 127).toNat:Nat):Int)))=_
 rw [h1,eH (by omega) (by omega)]
theorem Xr (n:Nat) (hn:n < 256):fO .and .u8 (n:Int) 127=some (.i .u8 ((n % 128:Nat):Int)):=by
 have:∀x:Fin 256,IntKind.u8.wrap (((BitVec.ofInt IntKind.u8.bits ((x.val:Nat):Int) &&& BitVec.ofInt IntKind.u8.bits 127).toNat:Nat):Int)=((x.val % 128:Nat):Int):=by decide +kernel
 show some (GV.i .u8 _)=some (GV.i .u8 _)
 exact vF (λz=>some (GV.i .u8 z)) (this ⟨n,hn⟩)
theorem aiY (n:Nat) (hn:n < 128):fO .or .u8 (n:Int) 128=some (.i .u8 ((n+128:Nat):Int)):=by
 have:∀x:Fin 128,IntKind.u8.wrap (((BitVec.ofInt IntKind.u8.bits ((x.val:Nat):Int) ||| BitVec.ofInt IntKind.u8.bits 128).toNat:Nat):Int)=((x.val+128:Nat):Int):=by decide +kernel
 show some (GV.i .u8 _)=some (GV.i .u8 _)
 exact vF (λz=>some (GV.i .u8 z)) (this ⟨n,hn⟩)
theorem Py {n:Int} (h0:0<=n) (h1:n < 256):IntKind.u8.wrap n=n:=by
 have:IntKind.u8.wrap n=n % 256:=by simp [IntKind.wrap,IntKind.signed,IntKind.bits]
 rw [this];omega
@[simp] theorem apm (n:Nat):(iq n).cells=[iq n]:=rfl
@[simp] theorem apo (n:Nat):(iq n).scalar=true:=rfl
@[simp] theorem apn (n:Nat) (v:GV):(iq n).put 0 [v]=some v:=rfl
theorem Qq:∀l:List Nat,(∀x∈l,x < 256)->l9 (l.map iq)=some (l.map UInt8.ofNat)
 | [],_=>rfl
 | a::l,h=>by
   have h1:=h a (by simp);have h2:=Qq l λx hx=>h x (by simp [hx]);simp only [jV,iq,l9] at h2 ⊢;rw [ak (by omega)];have:(λn:Nat=>GV.i .u8 (n:Int))=iq:=rfl;rw [h2];simp
theorem aaE:∀ (m n:Nat) (done:List Nat),n < 18446744073709551616->done.length+m < 1000->
 TT.lim 11 [.i .u64 n,.l ((done++List.replicate m 0).map iq),.i .i64 ((done.length+m:Nat):Int),.i .i64 done.length]=some [.i .i64 0,.l ((done++jI m n).map iq)]
 | 0,n,done,hn,hd=>by
   refine aC rfl rfl ?_;simp [jI]
 | m+1,n,done,hn,hd=>by
   have hlt:(done.length:Int) < ((done.length+(m+1):Nat):Int):=by omega
   have hw:=wrap64 (n:=(done.length:Int)+1) (by omega) (by omega);have hw8:=Py (n:=((n % 128:Nat):Int)) (by omega) (by omega);have h7:pI .shr .u64 (n:Int) 7=some (.i .u64 ((n / 128:Nat):Int)):=acz;have ha:=adJ n hn;have ho:=aiY (n % 128) (by omega);have ih:=aaE m (n / 128) (done++[n % 128+128]) (by omega) (by simp;omega);have hlen:(done++[n % 128+128]).length+m=done.length+(m+1):=by simp;omega
   rw [hlen] at ih;have hl2:(((done++[n % 128+128]).length:Nat):Int)=(done.length:Int)+1:=by simp
   rw [hl2] at ih;have hset:((done++List.replicate (m+1) 0).map iq).set done.length (iq (n % 128+128))=(done++[n % 128+128]++List.replicate m 0).map iq:=by
    rw [Hr,<- List.map_set,List.set_append_right _ _ (dF _),xZ];simp
   have hget:((done++List.replicate (m+1) 0).map iq)[done.length]? = some (iq 0):=by
    rw [jU,rV (dF _),xZ,Hr];rfl
   have hll:((done++List.replicate (m+1) 0).map iq).length=done.length+(m+1):=by simp
   have hv:done++jI (m+1) n=done++[n % 128+128]++jI m (n / 128):=by simp [jI]
   rw [hv];generalize hL:(done++List.replicate (m+1) 0).map iq=L at *;refine aC rfl rfl ?_;have hix:(0:Int)<=(done.length:Int)/\(done.length:Int) < (L.length:Int):=by rw [hll];omega
   have hob:GV.i IntKind.u8 ((n % 128+128:Nat):Int)=iq (n % 128+128):=rfl;have Sv:L.set done.length (GV.i IntKind.u8 ((n % 128+128:Nat):Int))=(done++[n % 128+128]++List.replicate m 0).map iq:=hset;generalize (done++[n % 128+128]++List.replicate m 0).map iq=L2 at ih Sv;generalize (done++[n % 128+128]++jI m (n / 128)).map iq=L3 at ih ⊢;generalize ((n / 128:Nat):Int)=q at h7 ih;generalize ((n % 128+128:Nat):Int)=z at ho Sv;generalize ((n % 128:Nat):Int)=rr at ha hw8 ho;generalize ((done.length+(m+1):Nat):Int)=N at hlt ih ⊢;simp [hlt,ha,hw8,ho,hix,hget,h7,hw,Sv,ih]
theorem Wl:∀m n,(jI m n).length=m
 | 0,_=>rfl
 | m+1,n=>by simp [jI,Wl m]
theorem Wn:∀m n,∀x∈jI m n,x < 256
 | 0,_,x,h=>by simp [jI] at h
 | m+1,n,x,h=>by
   simp only [jI,dP] at h;rcases h with rfl | h
   ·omega
   ·exact Wn m _ x h
/-- The last byte without its high bit: as numbers are written. -/
theorem adk:∀ (s n:Nat),nZ n=s+1->∃x,(jI (s+1) n)[s]? = some x/\((jI (s+1) n).set s (x % 128)).map UInt8.ofNat=cO n
 | 0,n,h=>by
   have hn:n < 128:=by
    by_cases hn:n < 128
    ·exact hn
    ·rw [Po hn] at h;have:=Pq (n / 128);omega
   refine ⟨n % 128+128,by simp [jI], ?_⟩;rw [GU hn];simp [jI];rw [Ky hn]
 | s+1,n,h=>by
   have hn:¬ n < 128:=by
    intro hn;unfold nZ at h;rw [GU hn] at h;simp at h
   rw [Po hn] at h;obtain ⟨x,h1,h2⟩:=adk s (n / 128) (by omega);refine ⟨x,by simp only [jI,qw] at h1 ⊢;exact h1, ?_⟩;rw [J3 hn,<- h2];simp [jI]
theorem DZ (n:Nat) (hn:n < 18446744073709551616):TT.lim 8 [.i .u64 n]=some [.s (cO n)]:=by
 have h8:=amK n hn;have hp:=Pq n;have hs:=Wp hn;obtain ⟨s,hs1⟩:∃s,nZ n=s+1:=⟨nZ n - 1,by omega⟩
 obtain ⟨x,h1,h2⟩:=adk s n hs1;rw [hs1] at h8;have h10:TT.lim 11 [.i .u64 n,.l ((List.replicate (s+1) 0).map iq),.i .i64 ((s+1:Nat):Int),.i .i64 0]=some [.i .i64 0,.l ((jI (s+1) n).map iq)]:=by
  have:=aaE (s+1) n [] hn (by simp;omega);simpa using this
 have hr:(List.replicate (s+1) 0).map iq=List.replicate (s+1) (GV.i .u8 0):=by rw [List.map_replicate];rfl
 rw [hr] at h10;have hx:x < 256:=Wn _ _ x (qC h1);have ha:=Xr x hx;have hget:((jI (s+1) n).map iq)[s]? = some (iq x):=by rw [jU,h1];rfl
 have hset:((jI (s+1) n).map iq).set s (GV.i .u8 ((x % 128:Nat):Int))=((jI (s+1) n).set s (x % 128)).map iq:=(List.map_set (f:=iq) (l:=jI (s+1) n) (i:=s) (a:=x % 128)).symm;have hb:=Qq ((jI (s+1) n).set s (x % 128)) (λy hy=>by
  rcases WW hy with hy | rfl
  ·exact Wn _ _ y hy
  ·omega)
 rw [h2] at hb;have hlen:(((jI (s+1) n).set s (x % 128)).map iq).length=s+1:=by simp [Wl]
 have hlr:(List.replicate (s+1) (GV.i .u8 0)).length=s+1:=by simp
 have hl1:((jI (s+1) n).map iq).length=s+1:=by simp [Wl]
 generalize ((jI (s+1) n).set s (x % 128)).map iq=L3 at hset hb hlen;generalize (jI (s+1) n).map iq=L2 at h10 hget hset hl1;generalize hrep:List.replicate (s+1) (GV.i .u8 0)=L1 at h10 hlr;refine aA rfl rfl ?_ rfl;have hw:=wrap64 (n:=(s:Int)) (by omega) (by omega);have hcast:((s+1:Nat):Int)=(s:Int)+1:=by omega
 rw [hcast] at h8 h10;have hc1:(0:Int)<=(s:Int)+1/\(s:Int)+1<=281474976710656/\(s:Int)+1<=1152921504606846976:=by omega
 have hc2:((s:Int)+1).toNat=s+1:=by omega
 have hlt:(s:Int) < (s:Int)+1:=by omega
 have hs2:(s:Int)+1 - 1=(s:Int):=by omega
 generalize hM:((x % 128:Nat):Int)=M at ha hset;have hxx:iq x=.i .u8 x:=rfl;have h48:s+1<=281474976710656:=by omega
 have hg2:L2[s]'(by omega)=iq x:=by have:=hget;rw [dK (by omega)] at this;exact zk this
 simp [h8,hc1,hc2,hrep,hlr,h10,hl1,hs2,hw,hlt,hget,hg2,ha,hset,hxx,hlen,hb,h48,GV.fV]
theorem Qn (a b:List UInt8):jf (a++b)=jf a++jf b:=by simp [jf]
@[simp] theorem XM (a:List UInt8):(jf a).length=a.length:=by simp [jf]
theorem Io (a:List UInt8):(jf a).all (GV.fV 1)=true:=by
 rw [List.all_eq_true];intro x hx;obtain ⟨b,_,rfl⟩:=qB.1 hx;rfl
theorem Qp:∀a:List UInt8,l9 (jf a)=some a
 | []=>rfl
 | x::a=>by
   have ih:=Qp a;simp only [jf,jV,l9] at ih ⊢;have:=x.toNat_lt;rw [ak (by omega),ih];simp
def jg (x:bJ):List UInt8:=cO x.1.length++x.1++cO x.2.length++x.2
def dN (d:List bJ):List UInt8:=cO d.length++d.flatMap jg
theorem mP {n:Nat} (h:n < 18446744073709551616):(cO n).length<=10:=Wp h
theorem afp (x:bJ) (h1:x.1.length<=140737488351232) (h2:x.2.length<=140737488351232):TT.lim 13 [ent x]=some [.s (jg x)]:=by
 have k1:=DZ x.1.length (by omega);have k2:=DZ x.2.length (by omega);have l1:=mP (n:=x.1.length) (by omega);have l2:=mP (n:=x.2.length) (by omega);have w1:=eH (n:=(x.1.length:Int)) (by omega) (by omega);have w2:=eH (n:=(x.2.length:Int)) (by omega) (by omega);refine aA rfl rfl ?_ rfl;have c1:((cO x.1.length).length:Int)+(x.1.length:Int)<=9223372036854775807:=by omega
 have c2:((cO x.1.length).length:Int)+((x.1.length:Int)+((cO x.2.length).length:Int))<=9223372036854775807:=by omega
 have c3:((cO x.1.length).length:Int)+((x.1.length:Int)+(((cO x.2.length).length:Int)+(x.2.length:Int)))<=9223372036854775807:=by omega
 simp [w1,w2,k1,k2,c1,c2,c3,jg,Int.add_assoc]
theorem QO {x:bJ} (h:pq x=true):(jg x).length<=620:=by
 unfold pq at h;simp only [decide_eq_true_iff] at h;have l1:=mP (n:=x.1.length) (by omega);have l2:=mP (n:=x.2.length) (by omega);simp only [jg,iJ];omega
theorem Rj:∀d:List bJ,d.all pq=true->(d.flatMap jg).length<=620 * d.length
 | [],_=>by simp
 | x::d,h=>by
   rw [tY,aH] at h;have:=QO h.1;have:=Rj d h.2;simp only [iU,iJ,lq];omega
theorem aaF (d:List bJ) (hf:d.all pq=true) (hl:d.length<=40):∀ (m i:Nat) (acc:List UInt8),i+m=d.length->acc.length<=10+620 * i->
 TT.lim 12 [.l (d.map ent),.i .i64 d.length,.i .i64 i,.l (jf acc)]=some [.i .i64 0,.l (jf (acc++(d.drop i).flatMap jg))]
 | 0,i,acc,hi,ha=>by
   have h0:d.drop i=[]:=eY (by omega);refine aC rfl rfl ?_;have h:¬ ((i:Int) < d.length):=by omega
   simp [h,h0]
 | m+1,i,acc,hi,ha=>by
   have hlt:i < d.length:=by omega
   have hx:=List.all_eq_true.1 hf d[i] (iI hlt);have hx1:=hx;unfold pq at hx1;simp only [decide_eq_true_iff] at hx1;have hp:=afp d[i] (by omega) (by omega);have hpl:=QO hx;have ih:TT.lim 12 [.l (d.map ent),.i .i64 d.length,.i .i64 ((i:Int)+1),.l (jf (acc++jg d[i]))]=_:=aaF d hf hl m (i+1) (acc++jg d[i]) (by omega) (by simp;omega);rw [Qn] at ih;have hd:(d.drop i).flatMap jg=jg d[i]++(d.drop (i+1)).flatMap jg:=by rw [fZ hlt,iU]
   rw [hd,<- rU];refine aC rfl rfl ?_;have h:((i:Int) < d.length):=by omega
   have hw:=wrap64 (n:=(i:Int)+1) (by omega) (by omega);have hok:=Io (jg d[i]);have hb:2 * (acc.length+(jg d[i]).length)<=281474976710656/\acc.length+(jg d[i]).length<=281474976710656:=by omega
   have he:GV.g [GV.s d[i].1,GV.s d[i].2]=ent d[i]:=rfl;simp [-List.all_eq_true,h,hlt,he,hp,hok,hb,hw,ih]
theorem Nr (d:List bJ) (hf:gy d=true):TT.lim 7 [.l (d.map ent)]=some [.s (dN d)]:=by
 unfold gy at hf;rw [aH,decide_eq_true_iff] at hf;have k:=DZ d.length (by omega);have l1:=mP (n:=d.length) (by omega);have w1:=eH (n:=(d.length:Int)) (by omega) (by omega);have h11:TT.lim 12 [.l (d.map ent),.i .i64 d.length,.i .i64 0,.l (jf (cO d.length))]=_:=aaF d hf.1 hf.2 d.length 0 (cO d.length) (by omega) (by omega);rw [dJ] at h11;have hb:2 * (cO d.length).length<=281474976710656/\(cO d.length).length<=281474976710656:=by omega
 have hok:=Io (cO d.length);have hfl:=Rj d hf.1;have hc:(cO d.length).length+(List.flatMap jg d).length<=281474976710656:=by omega
 have hbg:=Qp (cO d.length++d.flatMap jg);refine aA rfl rfl ?_ rfl;unfold dN;generalize d.flatMap jg=F at *;simp [-List.all_eq_true,w1,k,hb,hok,h11,hc,hbg]
def jQ (s:List UInt8) (lo hi:Int):Int:=if (s.length:Int) < lo then 13 else if hi < (s.length:Int) then 13 else if Lib.validD s=true then 0 else 11
theorem agv (s:List UInt8) (h:s.length<=140737488351232):TT.lim 23 [.s s]=some [.b (Lib.validD s)]:=by
 have h21:TT.lim 24 [.s s]=some [.b (Lib.validD s)]:=Oj (Ds:=Ds) (k:=24) (f:=GL) rfl (by simp only [GL];rw [ak (by omega)]);refine aA rfl rfl ?_ rfl;simp [h21]
theorem IE (s:List UInt8) (lo hi:Int) (h:s.length<=140737488351232):TT.lim 22 [.s s,.i .i64 lo,.i .i64 hi]=some [.i .i64 (jQ s lo hi)]:=by
 have h20:=agv s h;refine aA rfl rfl ?_ rfl;unfold jQ;by_cases h1:(s.length:Int) < lo
 ·simp [h1]
 ·by_cases h2:hi < (s.length:Int)
  ·simp [h1,h2]
  ·cases hv:Lib.validD s<;>rw [hv] at h20<;>simp [h1,h2,h20,hv]
def nO (x:bJ):Int:=if jQ x.1 1 64≠0 then jQ x.1 1 64 else jQ x.2 0 256
theorem Y3 (x:bJ) (h1:x.1.length<=140737488351232) (h2:x.2.length<=140737488351232):TT.lim 21 [ent x]=some [.i .i64 (nO x)]:=by
 have k1:=IE x.1 1 64 h1;have k2:=IE x.2 0 256 h2;refine aA rfl rfl ?_ rfl;unfold nO;by_cases h:jQ x.1 1 64=0
 ·simp [k1,h,k2]
 ·simp [k1,h]
def jW:Option (List UInt8)->List bJ->Int
 | _,[]=>0
 | p,x::xs=>if nO x≠0 then nO x else match p with
   | none=>jW (some x.1) xs
   | some k=>if x.1=k then 14 else if Op.bytesLess x.1 k=true then 7 else jW (some x.1) xs
def tagged (r:Int):List GV:=if r=0 then [.i .i64 1] else [.i .i64 0,.i .i64 r]
def prevK (d:List bJ) (i:Nat):Option (List UInt8):=if i=0 then none else (d[i - 1]?).map (·.1)
theorem aaG (d:List bJ) (hd:oq d):∀m i:Nat,i+m=d.length->TT.lim 20 [.l (d.map ent),.i .i64 d.length,.i .i64 i]=some (tagged (jW (prevK d i) (d.drop i)))
 | 0,i,hi=>by
   have h0:d.drop i=[]:=eY (by omega);refine aC rfl rfl ?_;have h:¬ ((i:Int) < d.length):=by omega
   simp [h,h0,jW,tagged]
 | m+1,i,hi=>by
   have hlt:i < d.length:=by omega
   have hx:=hd.2 d[i] (iI hlt);have hp:=Y3 d[i] hx.1 hx.2;have ih:TT.lim 20 [.l (d.map ent),.i .i64 d.length,.i .i64 ((i:Int)+1)]=_:=aaG d hd m (i+1) (by omega);have hpk:prevK d (i+1)=some d[i].1:=by unfold prevK;rw [ah (by omega)];simp [hlt]
   rw [hpk] at ih;have hdr:d.drop i=d[i]::d.drop (i+1):=fZ hlt;rw [hdr];refine aC rfl rfl ?_;have h:((i:Int) < d.length):=by omega
   have hw:=wrap64 (n:=(i:Int)+1) (by omega) (by have:=hd.1;omega);have he:GV.g [GV.s d[i].1,GV.s d[i].2]=ent d[i]:=rfl;by_cases h1:nO d[i]=0;rotate_left
   ·simp [h,hlt,he,hp,h1,jW,tagged]
   by_cases h0:i=0
   ·subst h0
    simp only [xW,J9] at hw ih;simp [h,hlt,he,hp,h1,jW,prevK,hw];simpa using ih
   ·have hi1:i - 1 < d.length:=by omega
    have hpk2:prevK d i=some d[i - 1].1:=by unfold prevK;rw [ah h0];simp [hi1]
    have hw2:=wrap64 (n:=(i:Int) - 1) (by omega) (by have:=hd.1;omega);have hi0:¬ ((i:Int)=0):=by omega
    have hge:(0:Int)<=(i:Int) - 1:=by omega
    have ht:((i:Int) - 1).toNat=i - 1:=by omega
    have hnl:(1:Int)<=(i:Int):=by omega
    rw [hpk2];by_cases h2:d[i].1=d[i - 1].1
    ·have h2':(d[i].1=d[i - 1].1)=True:=eq_true h2
     clear h2;simp [h,hlt,he,hp,h1,hi0,h0,hw2,ht,hi1,h2',jW,tagged,hnl]
    ·cases h3:Op.bytesLess d[i].1 d[i - 1].1 with
     | true=>simp [h,hlt,he,hp,h1,hi0,h0,hw2,ht,hi1,h2,h3,jW,tagged,hnl]
     | false=>simp [h,hlt,he,hp,h1,hi0,h0,hw2,ht,hi1,h2,h3,jW,hw,ih,hnl]
def vG (d:List bJ):Int:=if d.length=0 then 12 else if 16 < d.length then 13 else jW none d
theorem aeg (d:List bJ) (hd:oq d):TT.lim 19 [.l (d.map ent)]=some [.i .i64 (vG d)]:=by
 have h17:TT.lim 20 [.l (d.map ent),.i .i64 d.length,.i .i64 0]=_:=aaG d hd d.length 0 (by omega);have hpk:prevK d 0=none:=rfl;rw [hpk,dJ] at h17;have w1:=eH (n:=(d.length:Int)) (by omega) (by have:=hd.1;omega);refine aA rfl rfl ?_ rfl;unfold vG;by_cases h0:d.length=0
 ·have h0':(d.length:Int)=0:=by omega
  have:d=[]:=jw h0;subst this;simp [IntKind.wrap,IntKind.signed]
 ·have h0':¬ (d.length:Int)=0:=by omega
  by_cases h1:16 < d.length
  ·have h1':(16:Int) < (d.length:Int):=by omega
   simp [w1,h0,h1,h0',h1']
  ·have h1':¬ (16:Int) < (d.length:Int):=by omega
   by_cases h2:jW none d=0
   ·simp only [tagged,h2,if_true] at h17
    simp [w1,h0,h1,h0',h1',h17,h2]
   ·simp only [tagged,h2,if_false] at h17
    simp [w1,h0,h1,h0',h1',h17]
def oN (r:Row):Int:=if vG r.1≠0 then vG r.1 else if r.2=0 then 18 else 0
theorem aef (r:Row) (hd:oq r.1):TT.lim 18 [row r]=some [.i .i64 (oN r)]:=by
 have k:=aeg r.1 hd;refine aA rfl rfl ?_ rfl;unfold oN;by_cases h:vG r.1=0
 ·by_cases h2:r.2=0
  ·simp [k,h,h2]
  ·simp [k,h,h2]
 ·simp [k,h]
def pX (long:Bool) (r:Row):Bool:=decide (r.1.length<=18)&&gy r.1&&(!long || decide ((dN r.1).length<=100))
theorem aaH (l:List Row) (hl:Rows l):∀m i:Nat,i+m=l.length->TT.lim 6 [.l (l.map row),.i .i64 l.length,.i .i64 i]=some (if (l.drop i).all (pX (decide (40 < l.length)))=true then [.i .i64 1] else [.i .i64 0])
 | 0,i,hi=>by
   have h0:l.drop i=[]:=eY (by omega);refine aC rfl rfl ?_;have h:¬ ((i:Int) < l.length):=by omega
   simp [h,h0]
 | m+1,i,hi=>by
   have hlt:i < l.length:=by omega
   have hr:=hl.2 l[i] (iI hlt);have ih:TT.lim 6 [.l (l.map row),.i .i64 l.length,.i .i64 ((i:Int)+1)]=_:=aaH l hl m (i+1) (by omega);have hda:(l.drop i).all (pX (decide (40 < l.length)))=(pX (decide (40 < l.length)) l[i]&&(l.drop (i+1)).all (pX (decide (40 < l.length)))):=by rw [fZ hlt,tY]
   rw [hda];refine aC rfl rfl ?_;have h:((i:Int) < l.length):=by omega
   have hw:=wrap64 (n:=(i:Int)+1) (by omega) (by have:=hl.1;omega);have h4:=Zm l[i].1 hr.1;by_cases h1:18 < l[i].1.length
   ·have h1':(18:Int) < (l[i].1.length:Int):=by omega
    have:pX (decide (40 < l.length)) l[i]=false:=by unfold pX;simp;omega
    rw [this];simp [h,hlt,h1']
   have h1':¬ (18:Int) < (l[i].1.length:Int):=by omega
   have h1d:l[i].1.length<=18:=by omega
   cases hf:gy l[i].1 with
   | false=>
     rw [hf] at h4;have:pX (decide (40 < l.length)) l[i]=false:=by unfold pX;simp [hf]
     rw [this];simp [h,hlt,h1',h4]
   | true=>
     rw [hf] at h4;have k6:=Nr l[i].1 hf;by_cases h2:40 < l.length
     ·have h2':(40:Int) < (l.length:Int):=by omega
      by_cases h3:100 < (dN l[i].1).length
      ·have h3':(100:Int) < ((dN l[i].1).length:Int):=by omega
       have:pX (decide (40 < l.length)) l[i]=false:=by unfold pX;simp [h2];omega
       rw [this];simp [h,hlt,h1',h4,h2',k6,h3']
      ·have h3':¬ (100:Int) < ((dN l[i].1).length:Int):=by omega
       have:pX (decide (40 < l.length)) l[i]=true:=by unfold pX;simp [h2,hf,h1d];omega
       rw [this,PK];simp [h,hlt,h1',h4,h2',k6,h3',hw,ih]
     ·have h2':¬ (40:Int) < (l.length:Int):=by omega
      have:pX (decide (40 < l.length)) l[i]=true:=by unfold pX;simp [h2,hf,h1d]
      rw [this,PK];simp [h,hlt,h1',h4,h2',hw,ih]
def Bo (l:List Row):Bool:=l.all (pX (decide (40 < l.length)))&&decide (l.length<=300)
theorem af0 (l:List Row) (hl:Rows l):TT.lim 5 [.l (l.map row)]=some [.b (Bo l)]:=by
 refine aA rfl rfl ?_ rfl;have h3:TT.lim 6 [.l (l.map row),.i .i64 l.length,.i .i64 0]=_:=aaH l hl l.length 0 (by omega);rw [dJ] at h3;unfold Bo;cases hc:l.all (pX (decide (40 < l.length))) with
 | false=>rw [hc] at h3;simp [h3]
 | true=>
   rw [hc] at h3;simp only [if_true] at h3;have:(decide ((l.length:Int)<=300))=decide (l.length<=300):=by rw [qp];simp;omega
   simp [h3,this]
theorem afZ {l:List Row} (h:Bo l=true):∀r∈l,gy r.1=true:=by
 unfold Bo at h;rw [aH] at h;intro r hr;have:=List.all_eq_true.1 h.1 r hr;unfold pX at this;simp only [aH] at this;exact this.1.2
theorem Ya (d:List bJ) (h:d.length<=40):TT.lim 31 [.l (d.map ent)]=some [.l (d.map ent)]:=by
 refine Oj (Ds:=Ds) (k:=31) (f:=ES 32 2) rfl ?_;have hall:(d.map ent).all (GV.fV 2)=true:=by
  rw [List.all_eq_true];intro x hx;obtain ⟨r,_,rfl⟩:=qB.1 hx;rfl
 simp only [ES];rw [ak ⟨by rw [oQ];omega,hall⟩]
abbrev K (r:Row):List UInt8:=dN r.1
/-- How many rows at the head have lesser keys. -/
def Xo (k:List UInt8):List Row->Nat
 | []=>0
 | r::rs=>if Op.bytesLess (K r) k=true then Xo k rs+1 else 0
def Xz:List Row->List Row->Bool
 | _,[]=>true
 | t,r::rs=>match t.drop (Xo (K r) t) with
   | []=>false
   | s::t'=>decide (K s=K r)&&decide (r.2<=s.2)&&Xz (s::t') rs
theorem QW (x y:bJ):lD [1,1] [.s x.1,.s x.2] [.s y.1,.s y.2]=some (decide (x=y)):=by
 simp only [lD,fQ,G5];congr 1;rw [qp];simp [Prod.ext_iff]
theorem yB (a b:List UInt8):Op.bytesLess a b=true↔a < b:=by rw [Iq];simp
theorem adU (a b:List UInt8):Op.bytesLess a b=false↔¬ a < b:=by rw [Iq];simp
/-- Rows whose keys rise. -/
def Ce (l:List Row):Prop:=l.Pairwise λa b=>K a < K b
theorem afr {cs:List GV} {r0:List GV} (h:bF.gW [.list true [.str,.str],.int .u64] cs):∃r:Row,(oq r.1/\0<=r.2/\r.2 < 18446744073709551616)/\GV.g cs=row r:=by
 obtain ⟨g,l,rfl,h1,h⟩:=gX h;obtain ⟨n,l,rfl,h2,h⟩:=gX h;obtain rfl:=FD h;obtain ⟨n,rfl,n1,n2⟩:=pz h2;obtain ⟨xs,rfl,h3,h4⟩:=Jd h1;obtain ⟨d,hd,rfl⟩:∃d:List bJ,(∀x∈d,x.1.length<=140737488351232/\x.2.length<=140737488351232)/\xs=d.map ent:=FT λx hx=>by
  obtain ⟨k1,k2⟩:=h4 x hx;cases x<;>simp [GV.scalar] at k2
  obtain ⟨a,l,e1,a1,k1⟩:=gX k1;obtain ⟨b,l,rfl,b1,k1⟩:=gX k1;obtain rfl:=FD k1;obtain ⟨s,rfl,s1⟩:=zL a1;obtain ⟨u,rfl,u1⟩:=zL b1;simp only [Qv] at e1;subst e1;exact ⟨(s,u),⟨Nat.le_trans s1 (by decide),lu u1 (by decide)⟩,rfl⟩
 exact ⟨(d,n),⟨⟨by have:=lu h3 (by decide:reachBytes<=140737488351232);simpa using this,hd⟩,n1,n2⟩,rfl⟩
theorem akO {g:GV} (h:(bF.list true [.list true [.str,.str],.int .u64]).has g):∃l:List Row,Rows l/\g=.l (l.map row):=by
 obtain ⟨xs,rfl,h1,h2⟩:=Jd h;obtain ⟨l,hl,rfl⟩:∃l:List Row,(∀r∈l,oq r.1/\0<=r.2/\r.2 < 18446744073709551616)/\xs=l.map row:=FT λx hx=>by
  obtain ⟨k1,k2⟩:=h2 x hx;cases x<;>simp [GV.scalar] at k2
  obtain ⟨r,hr,e⟩:=afr (r0:=[]) k1;exact ⟨r,hr,e⟩
 exact ⟨l,⟨by have:=lu h1 (by decide:reachBytes<=140737488351232);simpa using this,hl⟩,rfl⟩
def jy:Option (List UInt8)->List Row->Int
 | _,[]=>0
 | p,r::rs=>if oN r≠0 then oN r else match p with
   | none=>jy (some (K r)) rs
   | some k=>if K r=k then 14 else if Op.bytesLess (K r) k=true then 7 else jy (some (K r)) rs
theorem aaI (t:List Row) (ht:Rows t) (hf:∀r∈t,gy r.1=true):∀ (m i:Nat) (p:List UInt8),i+m=t.length->
 TT.lim 17 [.s p,.l (t.map row),.i .i64 t.length,.i .i64 i]=some (tagged (jy (if i=0 then none else some p) (t.drop i)))
 | 0,i,p,hi=>by
   have h0:t.drop i=[]:=eY (by omega);refine aC rfl rfl ?_;have h:¬ ((i:Int) < t.length):=by omega
   simp [h,h0,jy,tagged]
 | m+1,i,p,hi=>by
   have hlt:i < t.length:=by omega
   have hr:=ht.2 t[i] (iI hlt);have k15:=aef t[i] hr.1;have k6:=Nr t[i].1 (hf _ (iI hlt));have hrow:GV.g [.l (t[i].1.map ent),.i .u64 t[i].2]=row t[i]:=rfl;have ih:TT.lim 17 [.s (dN t[i].1),.l (t.map row),.i .i64 t.length,.i .i64 ((i:Int)+1)]=_:=aaI t ht hf m (i+1) (dN t[i].1) (by omega);rw [ah (by omega)] at ih;rw [fZ hlt];refine aC rfl rfl ?_;have h:((i:Int) < t.length):=by omega
   have hw:=wrap64 (n:=(i:Int)+1) (by omega) (by have:=ht.1;omega);by_cases h1:oN t[i]=0;rotate_left
   ·simp [-List.getElem_cons_drop,h,hlt,hrow,k15,h1,jy,tagged]
   by_cases h0:i=0
   ·subst h0
    simp only [xW,J9] at hw ih;simp [-List.getElem_cons_drop,h,hlt,hrow,k15,h1,k6,hw,jy];have hn:(0:Int) < (t.length:Int):=by omega
    simpa using ih
   ·have hi0:0 < i:=by omega
    by_cases h2:dN t[i].1=p
    ·have h2':(dN t[i].1=p)=True:=eq_true h2
     clear h2;simp [-List.getElem_cons_drop,h,hlt,hrow,k15,h1,k6,hi0,h0,h2',jy,tagged]
    ·cases h3:Op.bytesLess (dN t[i].1) p with
     | true=>simp [-List.getElem_cons_drop,h,hlt,hrow,k15,h1,k6,hi0,h0,h2,h3,jy,tagged]
     | false=>simp [-List.getElem_cons_drop,h,hlt,hrow,k15,h1,k6,hi0,h0,h2,h3,hw,ih,jy]
def qH (t:List Row):Int:=if 256 < t.length then 13 else jy none t
theorem Qx (t:List Row) (ht:Rows t) (hf:∀r∈t,gy r.1=true):TT.lim 16 [.l (t.map row)]=some [.i .i64 (qH t)]:=by
 have h38:TT.lim 17 [.s [],.l (t.map row),.i .i64 t.length,.i .i64 0]=_:=aaI t ht hf t.length 0 [] (by omega);rw [ak rfl,dJ] at h38;refine aA rfl rfl ?_ rfl;unfold qH;by_cases h1:256 < t.length
 ·have h1':(256:Int) < (t.length:Int):=by omega
  simp [h1,h1']
 ·have h1':¬ (256:Int) < (t.length:Int):=by omega
  by_cases h2:jy none t=0
  ·simp only [tagged,h2,if_true] at h38
   simp [h1,h1',h38,h2]
  ·simp only [tagged,h2,if_false] at h38
   simp [h1,h1',h38,h2]
theorem X9:∀ {t:List Row} (p:Option (List UInt8)),Ce t->(∀r∈t,oN r=0)->(∀k,p=some k->∀r∈t,k < K r)->jy p t=0
 | [],p,_,_,_=>by cases p<;>rfl
 | r::t,p,ht,hc,hp=>by
   have ht':=Hq.1 ht;have ih:=X9 (t:=t) (some (K r)) ht'.2 (λx hx=>hc x (by simp [hx])) (λk hk x hx=>by cases hk;exact ht'.1 x hx);unfold jy;rw [ah (by simp [hc r (by simp)])];cases p with
   | none=>exact ih
   | some k=>
     have hk:=hp k rfl r (by simp);have h1:¬ K r=k:=λe=>by rw [e] at hk;exact Hf _ hk
     have h2:¬ Op.bytesLess (K r) k=true:=λe=>Hf _ (Hg hk ((yB _ _).1 e));simp only;rw [ah h1,ah h2];exact ih
theorem Rows.perm {l m:List Row} (h:l.Perm m) (hl:Rows l):Rows m:=⟨by rw [<- h.length_eq];exact hl.1,λr hr=>hl.2 r (h.mem_iff.2 hr)⟩
def val:List Row->List UInt8->Int
 | [],_=>0
 | r::rs,k=>if K r=k then r.2 else val rs k
def Pos (t:List Row):Prop:=∀r∈t,0 < r.2/\r.2 < 18446744073709551616
theorem wE {d:List bJ} (h:gy d=true):d.length<=40:=by
 unfold gy at h;simp at h;omega
def oP (t:List Row):Prop:=∀r∈t,gy r.1=true
def Ok (t:List Row):Prop:=t.length<=256/\Ce t/\∀r∈t,oN r=0
theorem X8:∀ {t:List Row} (p:Option (List UInt8)),jy p t=0->Ce t/\(∀r∈t,oN r=0)/\∀k,p=some k->∀r∈t,k < K r
 | [],p,_=>⟨List.Pairwise.nil,by simp,by simp⟩
 | r::t,p,h=>by
   unfold jy at h;by_cases h1:oN r=0;rotate_left
   ·rw [ak h1] at h;exact absurd h h1
   rw [ah (by simp [h1])] at h;have main:∀ (h:jy (some (K r)) t=0),Ce (r::t)/\∀x∈r::t,oN x=0:=by
    intro h;obtain ⟨i1,i2,i3⟩:=X8 (some (K r)) h;refine ⟨List.Pairwise.cons (i3 _ rfl) i1,λx hx=>?_⟩;rcases dP.1 hx with rfl | hx
    ·exact h1
    ·exact i2 x hx
   cases p with
   | none=>exact ⟨(main h).1,(main h).2,by simp⟩
   | some k=>
     simp only at h;split at h
     ·cases h
     next h2=>
     split at h
     ·cases h
     next h3=>
     refine ⟨(main h).1,(main h).2, ?_⟩;rintro _ ⟨⟩ x hx
     have hk:k < K r:=by
      rcases WS.1 (Kt.1 λe=>h3 ((yB _ _).2 e)) with e | e
      ·exact e
      ·exact absurd e.symm h2
     rcases dP.1 hx with rfl | hx
     ·exact hk
     ·exact Hg hk ((Hq.1 (main h).1).1 x hx)
theorem Qy (t:List Row):qH t=0↔Ok t:=by
 unfold qH Ok;constructor
 ·intro h
  split at h
  ·cases h
  ·obtain ⟨h1,h2,_⟩:=X8 none h
   exact ⟨by omega,h1,h2⟩
 ·rintro ⟨h1,h2,h3⟩
  rw [ah (by omega)];exact X9 none h2 h3 (by simp)
theorem ab6 (r:Row):oN r=0↔vG r.1=0/\r.2≠0:=by
 unfold oN;by_cases h:vG r.1=0
 ·simp [h]
 ·simp [h]
structure Tb (t:List Row):Prop where
 ok:Ok t
 rows:Rows t
 few:oP t
theorem Tb.pos {t:List Row} (h:Tb t):Pos t:=λr hr=>by
 have h1:=((ab6 r).1 (h.ok.2.2 r hr)).2;have h2:=(h.rows.2 r hr).2;omega
theorem Tb.rise {t:List Row} (h:Tb t):Ce t:=h.ok.2.1
structure qU (t:List Row):Prop where
 len:t.length<=300
 few:oP t
 rows:Rows t
theorem Tb.good {t:List Row} (h:Tb t):qU t:=⟨Nat.le_trans h.ok.1 (by decide),h.few,h.rows⟩
theorem qU.tb {t:List Row} (h:qU t) (ho:Ok t):Tb t:=⟨ho,h.rows,h.few⟩
theorem agx {l:List Row} (hl:Rows l) (h:Bo l=true):qU l:=by
 refine ⟨?_,λr hr=>afZ h r hr,hl⟩;unfold Bo at h;rw [aH,decide_eq_true_iff] at h;exact h.2
abbrev Sn:=Int×List Row
def wo:Option (Int×Int×Int)->List GV
 | some (_,b,_)=>[.i .i64 1,.i .i64 b]
 | none=>[.i .i64 0]
theorem QN (s:List UInt8) (size n least:Int):TT.lim 92 [.s s,.i .i64 size,.i .i64 n,.i .i64 least,.i .i64 size]=some (wo (some (size,n,least))):=by
 refine aC rfl rfl ?_;simp [wo]
def bT (s:List UInt8) (k:Nat):Int:=((s.getD k 0).toNat:Int)
theorem Ig (s:List UInt8) (k:Nat):0<=bT s k/\bT s k < 256:=by unfold bT;have:=(s.getD k 0).toNat_lt;omega
theorem XA {s:List UInt8} {k:Nat} (h:k < s.length):s[k]? = some (s.getD k 0):=by simp [List.getD,h]
theorem Gw (s:List UInt8) (size n least:Int) (i:Nat) (hi:(i:Int) < size) (hl:i < s.length) (h0:0<=n) (h1:n < 1000000000000) (hs:size < 1000) :
 ∀out,(if bT s i < 128 then some (wo none) else if 192<=bT s i then some (wo none) else TT.lim 92 [.s s,.i .i64 size,.i .i64 (64 * n+bT s i - 128),.i .i64 least,.i .i64 ((i:Int)+1)])=some out->
 TT.lim 92 [.s s,.i .i64 size,.i .i64 n,.i .i64 least,.i .i64 i]=some out:=by
 intro out h;have hb:=Ig s i;have hx:(s[i]?).bind (λc=>some (GV.i .u8 c.toNat))=some (.i .u8 (bT s i)):=by rw [XA hl];rfl
 generalize bT s i=x at *;have w1:=wrap64 (n:=x) (by omega) (by omega);refine aC rfl rfl ?_;by_cases c1:x < 128
 ·rw [ak c1] at h
  rw [<- h];simp [hi,hx,w1,c1,wo]
 rw [ah c1] at h;by_cases c2:192<=x
 ·rw [ak c2] at h
  rw [<- h];simp [hi,hx,w1,c1,c2,wo]
 rw [ah c2] at h;have w2:=wrap64 (n:=64 * n) (by omega) (by omega);have w3:=wrap64 (n:=64 * n+x) (by omega) (by omega);have w4:=wrap64 (n:=64 * n+x - 128) (by omega) (by omega);have w5:=wrap64 (n:=(i:Int)+1) (by omega) (by omega);simp [hi,hx,w1,c1,c2,w2,w3,w4,w5,h]
def Dl (v least size:Int):Int:=if v < least then 0 else if 1114111 < v then 0 else if 55296<=v/\v < 57344 then 0 else size
abbrev fU (x:Int):Prop:=x < 128\/192<=x
def MF (n b0 b1 b2 b3:Int):Int:=
 if n=0 then 0 else if b0 < 128 then 1 else if b0 < 192 then 0
 else if b0 < 224 then (if n < 2 then 0 else if fU b1 then 0 else Dl (64 * (b0 - 192)+b1 - 128) 128 2)
 else if b0 < 240 then (if n < 3 then 0 else if fU b1\/fU b2 then 0 else Dl (64 * (64 * (b0 - 224)+b1 - 128)+b2 - 128) 2048 3)
 else if b0 < 248 then (if n < 4 then 0 else if fU b1\/fU b2\/fU b3 then 0 else Dl (64 * (64 * (64 * (b0 - 240)+b1 - 128)+b2 - 128)+b3 - 128) 65536 4)
 else 0
/-- What the loop comes to: two, three, four bytes. -/
theorem aie (s:List UInt8) (n least:Int) (hl:2<=s.length) (h0:0<=n) (h1:n < 64) :
 TT.lim 92 [.s s,.i .i64 2,.i .i64 n,.i .i64 least,.i .i64 1]=some (wo (if fU (bT s 1) then none else some (2,64 * n+bT s 1 - 128,least))):=by
 refine Gw s 2 n least 1 (by decide) (by omega) h0 (by omega) (by decide) _ ?_;have e:=QN s 2 (64 * n+bT s 1 - 128) least;by_cases c:fU (bT s 1)
 ·rw [ak c]
  rcases c with c | c
  ·exact ak c
  ·rw [ah (by omega)];exact ak c
 ·rw [ah c,ah (λh=>c (.inl h)),ah (λh=>c (.inr h))];exact e
theorem aif (s:List UInt8) (n least:Int) (hl:3<=s.length) (h0:0<=n) (h1:n < 64) :
 TT.lim 92 [.s s,.i .i64 3,.i .i64 n,.i .i64 least,.i .i64 1]=some (wo (if fU (bT s 1)\/fU (bT s 2) then none else some (3,64 * (64 * n+bT s 1 - 128)+bT s 2 - 128,least))):=by
 have a1:=Ig s 1;refine Gw s 3 n least 1 (by decide) (by omega) h0 (by omega) (by decide) _ ?_;by_cases c:fU (bT s 1)
 ·rw [ak (show fU (bT s 1)\/fU (bT s 2) from .inl c)]
  rcases c with c | c
  ·exact ak c
  ·rw [ah (by omega)];exact ak c
 ·rw [ah (λh=>c (.inl h)),ah (λh=>c (.inr h))]
  have c1:128<=bT s 1:=by omega
  refine Gw s 3 _ least 2 (by decide) (by omega) (by show 0<=64 * n+bT s 1 - 128;omega) (by show 64 * n+bT s 1 - 128 < _;omega) (by decide) _ ?_;have e:=QN s 3 (64 * (64 * n+bT s 1 - 128)+bT s 2 - 128) least;by_cases d:fU (bT s 2)
  ·rw [ak (show fU (bT s 1)\/fU (bT s 2) from .inr d)]
   rcases d with d | d
   ·exact ak d
   ·rw [ah (by omega)];exact ak d
  ·rw [ah (show ¬ (fU (bT s 1)\/fU (bT s 2)) by simp [c,d]),ah (λh=>d (.inl h)),ah (λh=>d (.inr h))];exact e
theorem aii (s:List UInt8) (n least:Int) (hl:4<=s.length) (h0:0<=n) (h1:n < 64) :
 TT.lim 92 [.s s,.i .i64 4,.i .i64 n,.i .i64 least,.i .i64 1]=some (wo (if fU (bT s 1)\/fU (bT s 2)\/fU (bT s 3) then none else some (4,64 * (64 * (64 * n+bT s 1 - 128)+bT s 2 - 128)+bT s 3 - 128,least))):=by
 have a1:=Ig s 1;have a2:=Ig s 2;refine Gw s 4 n least 1 (by decide) (by omega) h0 (by omega) (by decide) _ ?_;by_cases c:fU (bT s 1)
 ·rw [ak (show fU (bT s 1)\/fU (bT s 2)\/fU (bT s 3) from .inl c)]
  rcases c with c | c
  ·exact ak c
  ·rw [ah (by omega)];exact ak c
 ·rw [ah (λh=>c (.inl h)),ah (λh=>c (.inr h))]
  have c1:128<=bT s 1:=by omega
  refine Gw s 4 _ least 2 (by decide) (by omega) (by show 0<=64 * n+bT s 1 - 128;omega) (by show 64 * n+bT s 1 - 128 < _;omega) (by decide) _ ?_;by_cases d:fU (bT s 2)
  ·rw [ak (show fU (bT s 1)\/fU (bT s 2)\/fU (bT s 3) from .inr (.inl d))]
   rcases d with d | d
   ·exact ak d
   ·rw [ah (by omega)];exact ak d
  ·rw [ah (λh=>d (.inl h)),ah (λh=>d (.inr h))]
   have d1:128<=bT s 2:=by omega
   refine Gw s 4 _ least 3 (by decide) (by omega) (by show 0<=64 * (64 * n+bT s 1 - 128)+bT s 2 - 128;omega) (by show 64 * (64 * n+bT s 1 - 128)+bT s 2 - 128 < _;omega) (by decide) _ ?_;have e:=QN s 4 (64 * (64 * (64 * n+bT s 1 - 128)+bT s 2 - 128)+bT s 3 - 128) least;by_cases f:fU (bT s 3)
   ·rw [ak (show fU (bT s 1)\/fU (bT s 2)\/fU (bT s 3) from .inr (.inr f))]
    rcases f with f | f
    ·exact ak f
    ·rw [ah (by omega)];exact ak f
   ·rw [ah (show ¬ (fU (bT s 1)\/fU (bT s 2)\/fU (bT s 3)) by simp [c,d,f]),ah (λh=>f (.inl h)),ah (λh=>f (.inr h))];exact e
def Me (s:List UInt8):Int:=MF s.length (bT s 0) (bT s 1) (bT s 2) (bT s 3)
theorem QH {c:Prop} [Decidable c] (x:Int×Int×Int) (h:c):wo (if c then none else some x)=[.i .i64 0]:=by rw [ak h];rfl
theorem QI {c:Prop} [Decidable c] (a b d:Int) (h:¬ c):wo (if c then none else some (a,b,d))=[.i .i64 1,.i .i64 b]:=by rw [ah h];rfl
set_option maxHeartbeats 4000000 in
theorem af7 (s:List UInt8) (hl:s.length<=140737488351232):TT.lim 91 [.s s]=some [.i .i64 (Me s)]:=by
 have hb:=Ig s 0;have k2:=λhl h0 h1=>aie s (bT s 0 - 192) 128 hl h0 h1;have k3:=λhl h0 h1=>aif s (bT s 0 - 224) 2048 hl h0 h1;have k4:=λhl h0 h1=>aii s (bT s 0 - 240) 65536 hl h0 h1;unfold Me MF;by_cases hn:s.length=0
 ·refine aA rfl rfl ?_ rfl
  simp [hn]
 have hn':¬ (s.length:Int)=0:=by omega
 have hne:¬ s=[]:=λe=>hn (by rw [e];rfl);have hx:(s[0]?).bind (λc=>some (GV.i .u8 c.toNat))=some (.i .u8 (bT s 0)):=by rw [XA (by omega)];rfl
 have w1:=wrap64 (n:=bT s 0) (by omega) (by omega);rw [ah hn'];generalize bT s 0=x at *;generalize bT s 1=b1 at *;generalize bT s 2=b2 at *;generalize bT s 3=b3 at *;by_cases c0:x < 128
 ·refine aA rfl rfl ?_ rfl
  simp [hn',hne,hx,w1,c0]
 by_cases c1:x < 192
 ·have d1:¬ 192<=x:=by omega
  have d2:¬ 224<=x:=by omega
  have d3:¬ 240<=x:=by omega
  refine aA rfl rfl ?_ rfl;simp [hn',hne,hx,w1,c0,c1,d1,d2,d3]
 have d1:192<=x:=by omega
 have w2:=wrap64 (n:=x - 192) (by omega) (by omega);by_cases c2:x < 224
 ·rw [ah c0,ah c1,ak c2]
  by_cases n2:(s.length:Int) < 2
  ·refine aA rfl rfl ?_ rfl
   simp [hn',hne,hx,w1,c0,d1,c2,w2,n2]
  rw [ah n2];have k:=k2 (by omega) (by omega) (by omega);by_cases e1:fU b1
  ·rw [QH _ e1] at k
   rw [ak e1];refine aA rfl rfl ?_ rfl;simp [hn',hne,hx,w1,c0,d1,c2,w2,n2,k]
  rw [QI _ _ _ e1] at k;rw [ah e1];generalize 64 * (x - 192)+b1 - 128=v at *;unfold Dl;by_cases f1:v < 128
  ·refine aA rfl rfl ?_ rfl
   simp [hn',hne,hx,w1,c0,d1,c2,w2,n2,k,f1]
  by_cases f2:1114111 < v
  ·refine aA rfl rfl ?_ rfl
   simp [hn',hne,hx,w1,c0,d1,c2,w2,n2,k,f1,f2]
  by_cases f3:55296<=v
  ·by_cases f4:v < 57344
   ·refine aA rfl rfl ?_ rfl
    simp [hn',hne,hx,w1,c0,d1,c2,w2,n2,k,f1,f2,f3,f4]
   ·refine aA rfl rfl ?_ rfl
    simp [hn',hne,hx,w1,c0,d1,c2,w2,n2,k,f1,f2,f3,f4]
  ·refine aA rfl rfl ?_ rfl
   simp [hn',hne,hx,w1,c0,d1,c2,w2,n2,k,f1,f2,f3]
 have d2:224<=x:=by omega
 have w3:=wrap64 (n:=x - 224) (by omega) (by omega);by_cases c3:x < 240
 ·rw [ah c0,ah c1,ah c2,ak c3]
  by_cases n2:(s.length:Int) < 3
  ·refine aA rfl rfl ?_ rfl
   simp [hn',hne,hx,w1,c0,d1,c2,d2,c3,w3,n2]
  rw [ah n2];have k:=k3 (by omega) (by omega) (by omega);by_cases e1:fU b1\/fU b2
  ·rw [QH _ e1] at k
   rw [ak e1];refine aA rfl rfl ?_ rfl;simp [hn',hne,hx,w1,c0,d1,c2,d2,c3,w3,n2,k]
  rw [QI _ _ _ e1] at k;rw [ah e1];generalize 64 * (64 * (x - 224)+b1 - 128)+b2 - 128=v at *;unfold Dl;by_cases f1:v < 2048
  ·refine aA rfl rfl ?_ rfl
   simp [hn',hne,hx,w1,c0,d1,c2,d2,c3,w3,n2,k,f1]
  by_cases f2:1114111 < v
  ·refine aA rfl rfl ?_ rfl
   simp [hn',hne,hx,w1,c0,d1,c2,d2,c3,w3,n2,k,f1,f2]
  by_cases f3:55296<=v
  ·by_cases f4:v < 57344
   ·refine aA rfl rfl ?_ rfl
    simp [hn',hne,hx,w1,c0,d1,c2,d2,c3,w3,n2,k,f1,f2,f3,f4]
   ·refine aA rfl rfl ?_ rfl
    simp [hn',hne,hx,w1,c0,d1,c2,d2,c3,w3,n2,k,f1,f2,f3,f4]
  ·refine aA rfl rfl ?_ rfl
   simp [hn',hne,hx,w1,c0,d1,c2,d2,c3,w3,n2,k,f1,f2,f3]
 have d3:240<=x:=by omega
 have w4:=wrap64 (n:=x - 240) (by omega) (by omega);by_cases c4:x < 248
 ·rw [ah c0,ah c1,ah c2,ah c3,ak c4]
  by_cases n2:(s.length:Int) < 4
  ·refine aA rfl rfl ?_ rfl
   simp [hn',hne,hx,w1,c0,d1,c2,d2,c3,d3,c4,w4,n2]
  rw [ah n2];have k:=k4 (by omega) (by omega) (by omega);by_cases e1:fU b1\/fU b2\/fU b3
  ·rw [QH _ e1] at k
   rw [ak e1];refine aA rfl rfl ?_ rfl;simp [hn',hne,hx,w1,c0,d1,c2,d2,c3,d3,c4,w4,n2,k]
  rw [QI _ _ _ e1] at k;rw [ah e1];generalize 64 * (64 * (64 * (x - 240)+b1 - 128)+b2 - 128)+b3 - 128=v at *;unfold Dl;by_cases f1:v < 65536
  ·refine aA rfl rfl ?_ rfl
   simp [hn',hne,hx,w1,c0,d1,c2,d2,c3,d3,c4,w4,n2,k,f1]
  by_cases f2:1114111 < v
  ·refine aA rfl rfl ?_ rfl
   simp [hn',hne,hx,w1,c0,d1,c2,d2,c3,d3,c4,w4,n2,k,f1,f2]
  by_cases f3:55296<=v
  ·by_cases f4:v < 57344
   ·refine aA rfl rfl ?_ rfl
    simp [hn',hne,hx,w1,c0,d1,c2,d2,c3,d3,c4,w4,n2,k,f1,f2,f3,f4]
   ·refine aA rfl rfl ?_ rfl
    simp [hn',hne,hx,w1,c0,d1,c2,d2,c3,d3,c4,w4,n2,k,f1,f2,f3,f4]
  ·refine aA rfl rfl ?_ rfl
   simp [hn',hne,hx,w1,c0,d1,c2,d2,c3,d3,c4,w4,n2,k,f1,f2,f3]
 ·refine aA rfl rfl ?_ rfl
  simp [hn',hne,hx,w1,c0,c1,d1,c2,d2,c3,d3,c4]
set_option maxHeartbeats 8000000 in
/-- It is the model's own way of decoding. -/
theorem aga (n b0 b1 b2 b3:Nat) (hn:0 < n) (h0:b0 < 256) (h1:b1 < 256) (h2:b2 < 256) (h3:b3 < 256):MF n b0 b1 b2 b3=if (Lib.decodeN n b0 b1 b2 b3).1=65533/\(Lib.decodeN n b0 b1 b2 b3).2=1 then 0 else ((Lib.decodeN n b0 b1 b2 b3).2:Nat):=by
 generalize hd:Lib.decodeN n b0 b1 b2 b3=d;unfold Lib.decodeN at hd;unfold MF Dl;rw [ah (by omega)];repeat' split at hd
 all_goals subst hd
 all_goals dsimp only
 ·rw [ak (by omega),ah (by omega)];rfl
 all_goals rw [ah (show ¬ (b0:Int) < 128 by omega)]
 all_goals first | rw [ah (by omega)] | rw [ak (show True/\True from ⟨trivial,trivial⟩)] | skip
 all_goals (repeat' split)
 all_goals first | omega | (simp only [not_true_eq_false,and_self] at *;omega)
theorem af9 (s:List UInt8) (hne:s≠[]):Me s=if (Lib.decodeL s).1=65533/\(Lib.decodeL s).2=1 then 0 else ((Lib.decodeL s).2:Nat):=by
 unfold Me bT;rw [Lib.decodeL_N];exact aga _ _ _ _ _ (Kr.2 hne) (P7 _) (P7 _) (P7 _) (P7 _)
theorem afe (s:List UInt8):1<=(Lib.decodeL s).2:=by
 rw [Lib.decodeL_N];rcases Lib.decodeN_shape s.length (s.getD 0 0).toNat (s.getD 1 0).toNat (s.getD 2 0).toNat (s.getD 3 0).toNat with ⟨_,e⟩ | ⟨_,_,_,_,e⟩ | ⟨_,_,_,_,_,_,e⟩ | ⟨_,_,_,_,_,_,_,e⟩ | e
 all_goals rw [e];dsimp only;omega
theorem aaO:∀ (n:Nat) (s:List UInt8),s.length<=n->s.length<=140737488351232->TT.lim 90 [.s s]=some (if Lib.validGoD n s=true then [.i .i64 1] else [.i .i64 0])
 | 0,s,hn,hl=>by
   obtain rfl:s=[]:=jw (by omega);refine aC rfl rfl ?_;simp [Lib.validGoD]
 | n+1,s,hn,hl=>by
   by_cases hne:s=[]
   ·subst hne
    refine aC rfl rfl ?_;simp [Lib.validGoD]
   have hp:=Kr.2 hne;have k:=af7 s hl;have hf:=af9 s hne;have hle:=Lib.decodeL_le s hne;have hd:=afe s;have hp':(0:Int) < (s.length:Int):=by omega
   unfold Lib.validGoD;rw [ah hne];by_cases c:(Lib.decodeL s).1=65533/\(Lib.decodeL s).2=1
   ·rw [ak c] at hf
    rw [hf] at k;rw [ak c];refine aC rfl rfl ?_;simp [hp,hp',k]
   ·rw [ah c] at hf
    rw [hf] at k;rw [ah c];have ih:=aaO n (s.drop (Lib.decodeL s).2) (by simp;omega) (by simp;omega);generalize (Lib.decodeL s).2=w at *;have hw:¬ w=0:=by omega
    have ht:List.take s.length s=s:=oU;refine aC rfl rfl ?_;simp [hp,hp',k,hw,hle,ht,ih]
theorem agw (s:List UInt8) (h:s.length<=140737488351232):TT.lim 89 [.s s]=some [.b (Lib.validD s)]:=by
 have k:=aaO s.length s (dF _) h;unfold Lib.validD;refine aA rfl rfl ?_ rfl;cases hv:Lib.validGoD s.length s<;>rw [hv] at k<;>simp at k<;>simp [k]
theorem IG (s:List UInt8) (lo hi:Int) (h:s.length<=140737488351232):TT.lim 88 [.s s,.i .i64 lo,.i .i64 hi]=some [.i .i64 (jQ s lo hi)]:=by
 have h20:=agw s h;refine aA rfl rfl ?_ rfl;unfold jQ;by_cases h1:(s.length:Int) < lo
 ·simp [h1]
 ·by_cases h2:hi < (s.length:Int)
  ·simp [h1,h2]
  ·cases hv:Lib.validD s<;>rw [hv] at h20<;>simp [h1,h2,h20,hv]
theorem Y4 (x:bJ) (h1:x.1.length<=140737488351232) (h2:x.2.length<=140737488351232):TT.lim 87 [ent x]=some [.i .i64 (nO x)]:=by
 have k1:=IG x.1 1 64 h1;have k2:=IG x.2 0 256 h2;refine aA rfl rfl ?_ rfl;unfold nO;by_cases h:jQ x.1 1 64=0
 ·simp [k1,h,k2]
 ·simp [k1,h]
def yF:List UInt8->List UInt8->Option Bool
 | x::a,y::b=>if x=y then yF a b else some (decide (x < y))
 | _,_=>none
theorem XQ:∀a b:List UInt8,Op.bytesLess a b=(yF a b).getD (decide (a.length < b.length))
 | [],[]=>rfl
 | [],_::_=>by simp [Op.bytesLess,yF]
 | _::_,[]=>by simp [Op.bytesLess,yF]
 | x::a,y::b=>by
   unfold Op.bytesLess yF;rw [XQ a b];by_cases h:x=y
   ·subst h
    simp [UInt8.lt_irrefl]
   ·simp [h]
def F8 (a b:List UInt8):Option Bool->List GV
 | some r=>[.i .i64 0,.b r]
 | none=>[.i .i64 1]
theorem aaP (a b:List UInt8) (ha:a.length<=140737488351232) (hb:b.length<=140737488351232):∀m i:Nat,i+m=a.length->TT.lim 96 [.s a,.s b,.i .i64 i]=some (F8 a b (yF (a.drop i) (b.drop i)))
 | 0,i,hi=>by
   have h0:a.drop i=[]:=eY (by omega);have h:¬ ((i:Int) < a.length):=by omega
   refine aC rfl rfl ?_;simp [h,h0,yF,F8]
 | m+1,i,hi=>by
   have hlt:i < a.length:=by omega
   have h:((i:Int) < a.length):=by omega
   by_cases hlb:i < b.length;rotate_left
   ·have h0:b.drop i=[]:=eY (by omega)
    have h1:¬ ((i:Int) < b.length):=by omega
    have hd:yF (a.drop i) []=none:=by cases a.drop i<;>rfl
    refine aC rfl rfl ?_;simp [h,h0,h1,hd,F8]
   have hb1:((i:Int) < b.length):=by omega
   have ih:TT.lim 96 [.s a,.s b,.i .i64 ((i:Int)+1)]=_:=aaP a b ha hb m (i+1) (by omega);have hw:=wrap64 (n:=(i:Int)+1) (by omega) (by omega);rw [fZ hlt,fZ hlb];unfold yF;by_cases e:a[i]=b[i]
   ·rw [ak e]
    have e':((a[i].toNat:Int)=(b[i].toNat:Int))=True:=eq_true (by rw [e]);refine aC rfl rfl ?_;simp [h,hlt,hlb,hb1,e',hw,ih]
   ·rw [ah e]
    have e':¬ (a[i].toNat:Int)=(b[i].toNat:Int):=λh=>e (KF.1 (by omega));have hd:decide (a[i] < b[i])=decide (a[i].toNat < b[i].toNat):=by rw [qp];simp [UInt8.lt_iff_toNat_lt]
    refine aC rfl rfl ?_;simp [h,hlt,hlb,hb1,e',hd,F8]
theorem aay (a b:List UInt8) (ha:a.length<=140737488351232) (hb:b.length<=140737488351232):TT.lim 95 [.s a,.s b]=some [.b (Op.bytesLess a b)]:=by
 have k:TT.lim 96 [.s a,.s b,.i .i64 0]=_:=aaP a b ha hb a.length 0 (by omega);rw [dJ,dJ] at k;rw [XQ];refine aA rfl rfl ?_ rfl;cases hd:yF a b with
 | none=>
   rw [hd] at k;have hl:decide ((a.length:Int) < (b.length:Int))=decide (a.length < b.length):=by rw [qp];simp
   simp [k,F8,hl]
 | some r=>
   rw [hd] at k;simp [k,F8]
def ET (x y:bJ):Int:=if Op.bytesLess x.1 y.1=true then -1 else if x.1=y.1/\Op.bytesLess x.2 y.2=true then -1 else if x=y then 0 else 1
structure Ci (x:bJ):Prop where
 key:x.1.length<=140737488351232
 val:x.2.length<=140737488351232
theorem Yd (x y:bJ) (hx:Ci x) (hy:Ci y):TT.lim 94 [ent x,ent y]=some [.i .i64 (ET x y)]:=by
 have k1:=aay x.1 y.1 hx.key hy.key;have k2:=aay x.2 y.2 hx.val hy.val;have ke:=QW x y;unfold ET;refine aA rfl rfl ?_ rfl;cases h1:Op.bytesLess x.1 y.1 with
 | true=>rw [h1] at k1;simp [k1]
 | false=>
   rw [h1] at k1;by_cases h2:x.1=y.1
   ·have h2':(x.1=y.1)=True:=eq_true h2
    clear h2;cases h3:Op.bytesLess x.2 y.2 with
    | true=>rw [h3] at k2;simp [k1,h2',k2]
    | false=>
      rw [h3] at k2;by_cases h4:x=y
      ·have h4':decide (x=y)=true:=by simp [h4]
       rw [h4'] at ke;have agA:(x=y)=True:=eq_true h4;clear h4;simp [k1,h2',k2,ke,agA]
      ·have h4':decide (x=y)=false:=by simp [h4]
       rw [h4'] at ke;simp [k1,h2',k2,ke,h4]
   ·by_cases h4:x=y
    ·exact absurd (by rw [h4]) h2
    ·have h4':decide (x=y)=false:=by simp [h4]
     rw [h4'] at ke;simp [k1,h2,ke,h4]
def oD (p x:List UInt8):Int:=if x=p then 14 else if Op.bytesLess x p=true then 7 else 0
theorem XB (p x:bJ) (hp:Ci p) (hx:Ci x):TT.lim 93 [ent p,ent x]=some [.i .i64 (oD p.1 x.1)]:=by
 have k:=Yd p x hp hx;have e1:GV.g [.s p.1,.s p.2]=ent p:=rfl;have e2:GV.g [.s x.1,.s x.2]=ent x:=rfl;unfold oD;by_cases h1:x.1=p.1
 ·have h1':(p.1=x.1)=True:=eq_true h1.symm
  rw [ak h1];refine aA rfl rfl ?_ rfl;simp [h1']
 rw [ah h1];have h1':¬ p.1=x.1:=λe=>h1 e.symm;have hne:¬ p=x:=λe=>h1' (by rw [e]);have hc:ET p x=if Op.bytesLess x.1 p.1=true then 1 else -1:=by
  unfold ET;by_cases h2:p.1 < x.1
  ·rw [ak ((yB _ _).2 h2),ah λh=>Hf _ (Hg h2 ((yB _ _).1 h))]
  ·have h3:x.1 < p.1:=by
    rcases WS.1 (Kt.1 h2) with h | h
    ·exact h
    ·exact absurd h h1
   rw [ah λh=>h2 ((yB _ _).1 h),ah λh=>h1' h.1,ah hne,ak ((yB _ _).2 h3)]
 rw [hc] at k;refine aA rfl rfl ?_ rfl;cases h3:Op.bytesLess x.1 p.1 with
 | true=>rw [h3] at k;simp [h1',e1,e2,k]
 | false=>rw [h3] at k;simp [h1',e1,e2,k]
theorem oq.small {d:List bJ} (h:oq d):∀x∈d,Ci x:=λx hx=>⟨(h.2 x hx).1,(h.2 x hx).2⟩
theorem Tn (d:List bJ) (e i:Int) (he:e≠0):TT.lim 86 [.l (d.map ent),.i .i64 e,.i .i64 i]=some [.i .i64 0,.i .i64 e]:=by
 refine aC rfl rfl ?_;by_cases h:i < (d.length:Int)
 ·simp [h,he]
 ·simp [h]
theorem aaN (d:List bJ) (hd:oq d):∀m i:Nat,i+m=d.length->TT.lim 86 [.l (d.map ent),.i .i64 0,.i .i64 i]=some [.i .i64 0,.i .i64 (jW (prevK d i) (d.drop i))]
 | 0,i,hi=>by
   have h0:d.drop i=[]:=eY (by omega);refine aC rfl rfl ?_;have h:¬ ((i:Int) < d.length):=by omega
   simp [h,h0,jW]
 | m+1,i,hi=>by
   have hlt:i < d.length:=by omega
   have hx:=hd.small d[i] (iI hlt);have hp:=Y4 d[i] hx.key hx.val;have ih:TT.lim 86 [.l (d.map ent),.i .i64 0,.i .i64 ((i:Int)+1)]=_:=aaN d hd m (i+1) (by omega);have hst:=λe he=>Tn d e ((i:Int)+1) he;have hpk:prevK d (i+1)=some d[i].1:=by unfold prevK;rw [ah (by omega)];simp [hlt]
   rw [hpk] at ih;have hdr:d.drop i=d[i]::d.drop (i+1):=fZ hlt;rw [hdr];have h:((i:Int) < d.length):=by omega
   have hw:=wrap64 (n:=(i:Int)+1) (by omega) (by have:=hd.1;omega);have he:GV.g [GV.s d[i].1,GV.s d[i].2]=ent d[i]:=rfl;by_cases h1:nO d[i]=0;rotate_left
   ·have hs:=hst _ h1
    have hc:jW (prevK d i) (d[i]::d.drop (i+1))=nO d[i]:=by
     cases prevK d i<;>simp [jW,h1]
    rw [hc];refine aC rfl rfl ?_;simp [h,hlt,he,hp,h1,hw,hs]
   by_cases h0:i=0
   ·subst h0
    have hc:jW (prevK d 0) (d[0]::d.drop 1)=jW (some d[0].1) (d.drop 1):=by simp [prevK,jW,h1]
    rw [hc];simp only [xW,J9] at hw ih;have hpos:(0:Int) < (d.length:Int):=by omega
    generalize jW (some d[0].1) (d.drop 1)=out at *;refine aC rfl rfl ?_;simp [h,hlt,hpos,he,hp,h1,hw,ih]
   ·have hi1:i - 1 < d.length:=by omega
    have hpk2:prevK d i=some d[i - 1].1:=by unfold prevK;rw [ah h0];simp [hi1]
    have hw2:=wrap64 (n:=(i:Int) - 1) (by omega) (by have:=hd.1;omega);have hi0:(0:Int) < (i:Int):=by omega
    have Z4:0 < i:=by omega
    have ht:((i:Int) - 1).toNat=i - 1:=by omega
    have hnl:(1:Int)<=(i:Int):=by omega
    have hge:(0:Int)<=(i:Int) - 1:=by omega
    have hy:=hd.small d[i - 1] (iI hi1);have kb:=XB d[i - 1] d[i] hy hx;have he2:GV.g [GV.s d[i - 1].1,GV.s d[i - 1].2]=ent d[i - 1]:=rfl;have hc:jW (prevK d i) (d[i]::d.drop (i+1))=if oD d[i - 1].1 d[i].1≠0 then oD d[i - 1].1 d[i].1 else jW (some d[i].1) (d.drop (i+1)):=by
     rw [hpk2];unfold oD;conv=>lhs;unfold jW
     rw [ah (by simp [h1])];by_cases q1:d[i].1=d[i - 1].1
     ·simp [q1]
     ·by_cases q2:Op.bytesLess d[i].1 d[i - 1].1=true
      ·simp [q1,q2]
      ·simp [q1,q2]
    rw [hc];have hst2:=hst (oD d[i - 1].1 d[i].1);generalize oD d[i - 1].1 d[i].1=bb at *;generalize jW (some d[i].1) (d.drop (i+1))=out at *;by_cases hb:bb=0
    ·subst hb
     refine aC rfl rfl ?_;simp [h,hlt,he,he2,hp,h1,hi0,Z4,hw2,ht,hge,hi1,hnl,kb,hw,ih]
    ·have hs:=hst2 hb
     refine aC rfl rfl ?_;simp [h,hlt,he,he2,hp,h1,hi0,Z4,hw2,ht,hge,hi1,hnl,kb,hw,hb,hs]
theorem aei (d:List bJ) (hd:oq d):TT.lim 85 [.l (d.map ent)]=some [.i .i64 (vG d)]:=by
 have h17:TT.lim 86 [.l (d.map ent),.i .i64 0,.i .i64 0]=_:=aaN d hd d.length 0 (by omega);have hpk:prevK d 0=none:=rfl;rw [hpk,dJ] at h17;have w1:=eH (n:=(d.length:Int)) (by omega) (by have:=hd.1;omega);have s1:=Tn d 12 0 (by decide);have s2:=Tn d 13 0 (by decide);refine aA rfl rfl ?_ rfl;unfold vG;by_cases h0:d.length=0
 ·have:d=[]:=jw h0
  subst this;simp only [qA] at s1;simp [IntKind.wrap,IntKind.signed,s1]
 ·have hne:¬ d=[]:=λe=>h0 (by rw [e];rfl)
  by_cases h1:16 < d.length
  ·have h1':(16:Int) < (d.length:Int):=by omega
   simp [w1,h0,hne,h1,h1',s2]
  ·have h1':¬ (16:Int) < (d.length:Int):=by omega
   simp [w1,h0,hne,h1,h1',h17]
theorem akN (r:Row) (hd:oq r.1):TT.lim 84 [row r]=some [.i .i64 (oN r)]:=by
 have k:=aei r.1 hd;refine aA rfl rfl ?_ rfl;unfold oN;by_cases h:vG r.1=0
 ·by_cases h2:r.2=0
  ·simp [k,h,h2]
  ·simp [k,h,h2]
 ·simp [k,h]
theorem aaL (d:List bJ) (hd:d.length<=40):∀ (m i:Nat) (acc:List bJ),i+m=d.length->acc.length=i->TT.lim 62 [.l (acc.map ent),.l (d.map ent),.i .i64 d.length,.i .i64 i]=some [.i .i64 0,.l ((acc++d.drop i).map ent)]
 | 0,i,acc,hi,ha=>by
   have h0:d.drop i=[]:=eY (by omega);have h:¬ ((i:Int) < d.length):=by omega
   refine aC rfl rfl ?_;simp [h,h0]
 | m+1,i,acc,hi,ha=>by
   have hlt:i < d.length:=by omega
   have ih:TT.lim 62 [.l ((acc++[d[i]]).map ent),.l (d.map ent),.i .i64 d.length,.i .i64 ((i:Int)+1)]=_:=aaL d hd m (i+1) (acc++[d[i]]) (by omega) (by simp;omega);rw [rU,PX,<- fZ hlt] at ih;generalize hL:(acc++d.drop i).map ent=L at ih ⊢;simp only [qy,jV,qA] at ih;have h:((i:Int) < d.length):=by omega
   have hw:=wrap64 (n:=(i:Int)+1) (by omega) (by omega);have he:GV.g [GV.s d[i].1,GV.s d[i].2]=ent d[i]:=rfl;have hok:(ent d[i]).fV 2=true:=rfl;have hb:2 * (acc.length+1) * 32<=281474976710656/\acc.length+1<=281474976710656:=by omega
   refine aC rfl rfl ?_;simp [h,hlt,he,hok,hb,hw,ih]
theorem acT (d:List bJ) (hd:d.length<=40):TT.lim 61 [.l (d.map ent)]=some [.l (d.map ent)]:=by
 have k:TT.lim 62 [.l [],.l (d.map ent),.i .i64 d.length,.i .i64 0]=_:=aaL d hd d.length 0 [] (by omega) rfl;rw [dJ,dD] at k;refine aA rfl rfl ?_ rfl;simp [k]
theorem aaK (l:List Row) (hl:l.length<=300) (hf:oP l):∀ (m i:Nat) (acc:List Row),i+m=l.length->acc.length=i->TT.lim 64 [.l (acc.map row),.l (l.map row),.i .i64 l.length,.i .i64 i]=some [.i .i64 0,.l ((acc++l.drop i).map row)]
 | 0,i,acc,hi,ha=>by
   have h0:l.drop i=[]:=eY (by omega);have h:¬ ((i:Int) < l.length):=by omega
   refine aC rfl rfl ?_;simp [h,h0]
 | m+1,i,acc,hi,ha=>by
   have hlt:i < l.length:=by omega
   have ih:TT.lim 64 [.l ((acc++[l[i]]).map row),.l (l.map row),.i .i64 l.length,.i .i64 ((i:Int)+1)]=_:=aaK l hl hf m (i+1) (acc++[l[i]]) (by omega) (by simp;omega);rw [rU,PX,<- fZ hlt] at ih;generalize hL:(acc++l.drop i).map row=L at ih ⊢;simp only [qy,jV,qA] at ih;have k:=acT l[i].1 (wE (hf _ (iI hlt)));have h:((i:Int) < l.length):=by omega
   have hw:=wrap64 (n:=(i:Int)+1) (by omega) (by omega);have he:GV.g [GV.l (l[i].1.map ent),GV.i .u64 l[i].2]=row l[i]:=rfl;have hok:(row l[i]).fV 2=true:=rfl;have hb:2 * (acc.length+1) * 32<=281474976710656/\acc.length+1<=281474976710656:=by omega
   refine aC rfl rfl ?_;simp [h,hlt,k,he,hok,hb,hw,ih]
theorem ano (l:List Row) (hl:qU l):TT.lim 63 [.l (l.map row)]=some [.l (l.map row)]:=by
 have k:TT.lim 64 [.l [],.l (l.map row),.i .i64 l.length,.i .i64 0]=_:=aaK l hl.len hl.few l.length 0 [] (by omega) rfl;rw [dJ,dD] at k;refine aA rfl rfl ?_ rfl;simp [k]
theorem anl (n:Nat):(n:Int).tmod 128=((n % 128:Nat):Int):=by rw [WI (by omega)];omega
theorem anj (n:Nat):(n:Int).tdiv 128=((n / 128:Nat):Int):=by rw [adu (by omega)];omega
theorem XP (n:Nat) (h:n < 256):l9 [.i .u8 (n:Int)]=some [UInt8.ofNat n]:=by
 have:=Qq [n] (by simpa using h);simpa [iq] using this
theorem add_one (s:List UInt8) (c:UInt8) (h:s.length<=1000000):fF .add (some (.s s)) (some (.s [c]))=some (.s (s++[c])):=by
 rw [Qk,ak (by simp only [y9];omega)]
theorem amU (n a b q:Int) (s c r:List UInt8) (h':127 < n) (e1:n.tmod 128=a) (e2:n.tdiv 128=b) (w1:IntKind.u64.wrap (a+128)=a+128) (w2:IntKind.u8.wrap (a+128)=a+128) (w3:IntKind.u64.wrap b=b)
 (e3:l9 [.i .u8 (a+128)]=some c) (hb:fF .add (some (.s s)) (some (.s c))=some (.s (s++c))) (k:TT.lim 78 [.i .u64 b,.s (s++c)]=some [.i .i64 0,.i .u64 q,.s (s++(c++r))]) :
 TT.lim 78 [.i .u64 n,.s s]=some [.i .i64 0,.i .u64 q,.s (s++(c++r))]:=by
 refine aC rfl rfl ?_;simp [-Qk,h',e1,e2,w1,w2,w3,e3,hb,k]
theorem ajH (n q:Int) (r c:List UInt8) (k:TT.lim 78 [.i .u64 n,.s []]=some [.i .i64 0,.i .u64 q,.s r]) (w:IntKind.u8.wrap q=q) (e:l9 [.i .u8 q]=some c) (hr:fF .add (some (.s r)) (some (.s c))=some (.s (r++c))) :
 TT.lim 77 [.i .u64 n]=some [.s (r++c)]:=by
 refine aA rfl rfl ?_ rfl;simp [-Qk,k,w,e,hr]
theorem aij:∀n:Nat,n < 18446744073709551616->∃q r,q < 128/\r++[UInt8.ofNat q]=cO n/\∀s:List UInt8,s.length+(cO n).length<=1000->TT.lim 78 [.i .u64 n,.s s]=some [.i .i64 0,.i .u64 (q:Nat),.s (s++r)]:=by
 intro n;induction n using Nat.strongRecOn with
 | _ n ih=>
   intro hn;by_cases h:n < 128
   ·refine ⟨n,[],h,by rw [GU h,dD],λs hs=>?_⟩
    have h':¬ (127:Int) < (n:Int):=by omega
    refine aC rfl rfl ?_;simp [h']
   ·obtain ⟨q,r,h1,h2,h3⟩:=ih (n / 128) (by omega) (by omega)
    refine ⟨q,[UInt8.ofNat (n % 128+128)]++r,h1,by rw [J3 h,<- h2,rU,PX],λs hs=>?_⟩;rw [J3 h,lq] at hs;have k:=h3 (s++[UInt8.ofNat (n % 128+128)]) (by simp;omega);rw [rU] at k;have e3:=XP (n % 128+128) (by omega);rw [show ((n % 128+128:Nat):Int)=((n % 128:Nat):Int)+128 by omega] at e3;exact amU n _ _ q s _ r (by omega) (anl n) (anj n) (eH (by omega) (by omega)) (Py (by omega) (by omega)) (eH (by omega) (by omega)) e3 (add_one s _ (by omega)) k
theorem D5 (n:Nat) (hn:n < 18446744073709551616):TT.lim 77 [.i .u64 n]=some [.s (cO n)]:=by
 obtain ⟨q,r,h1,h2,h3⟩:=aij n hn;have hl:=mP hn;have k:=h3 [] (by simp;omega);rw [dD] at k;rw [<- h2];exact ajH n q r _ k (Py (by omega) (by omega)) (XP q (by omega)) (add_one r _ (by rw [<- h2] at hl;simp at hl;omega))
theorem afq (x:bJ) (h1:x.1.length<=140737488351232) (h2:x.2.length<=140737488351232):TT.lim 80 [ent x]=some [.s (jg x)]:=by
 have k1:=D5 x.1.length (by omega);have k2:=D5 x.2.length (by omega);have l1:=mP (n:=x.1.length) (by omega);have l2:=mP (n:=x.2.length) (by omega);have w1:=eH (n:=(x.1.length:Int)) (by omega) (by omega);have w2:=eH (n:=(x.2.length:Int)) (by omega) (by omega);have c1:((cO x.1.length).length:Int)+(x.1.length:Int)<=9223372036854775807:=by omega
 have c2:((cO x.1.length).length:Int)+((x.1.length:Int)+((cO x.2.length).length:Int))<=9223372036854775807:=by omega
 have c3:((cO x.1.length).length:Int)+((x.1.length:Int)+(((cO x.2.length).length:Int)+(x.2.length:Int)))<=9223372036854775807:=by omega
 refine aA rfl rfl ?_ rfl;simp [w1,w2,k1,k2,c1,c2,c3,jg,Int.add_assoc]
theorem aaQ (d:List bJ) (hf:d.all pq=true) (hl:d.length<=40):∀ (m i:Nat) (acc:List UInt8),i+m=d.length->acc.length<=10+620 * i->
 TT.lim 79 [.s acc,.l (d.map ent),.i .i64 d.length,.i .i64 i]=some [.i .i64 0,.s (acc++(d.drop i).flatMap jg)]
 | 0,i,acc,hi,ha=>by
   have h0:d.drop i=[]:=eY (by omega);refine aC rfl rfl ?_;have h:¬ ((i:Int) < d.length):=by omega
   simp [h,h0]
 | m+1,i,acc,hi,ha=>by
   have hlt:i < d.length:=by omega
   have hx:=List.all_eq_true.1 hf d[i] (iI hlt);have hx1:=hx;unfold pq at hx1;simp only [decide_eq_true_iff] at hx1;have hp:=afq d[i] (by omega) (by omega);have hpl:=QO hx;have ih:TT.lim 79 [.s (acc++jg d[i]),.l (d.map ent),.i .i64 d.length,.i .i64 ((i:Int)+1)]=_:=aaQ d hf hl m (i+1) (acc++jg d[i]) (by omega) (by simp;omega);have hd:(d.drop i).flatMap jg=jg d[i]++(d.drop (i+1)).flatMap jg:=by rw [fZ hlt,iU]
   rw [hd,<- rU];have h:((i:Int) < d.length):=by omega
   have hw:=wrap64 (n:=(i:Int)+1) (by omega) (by omega);have hb:(acc.length:Int)+((jg d[i]).length:Int)<=9223372036854775807:=by omega
   have he:GV.g [GV.s d[i].1,GV.s d[i].2]=ent d[i]:=rfl;refine aC rfl rfl ?_;simp [h,hlt,he,hp,hb,hw,ih]
theorem Jj (d:List bJ) (hf:gy d=true):TT.lim 76 [.l (d.map ent)]=some [.s (dN d)]:=by
 unfold gy at hf;rw [aH,decide_eq_true_iff] at hf;have k:=D5 d.length (by omega);have l1:=mP (n:=d.length) (by omega);have w1:=eH (n:=(d.length:Int)) (by omega) (by omega);have h11:TT.lim 79 [.s (cO d.length),.l (d.map ent),.i .i64 d.length,.i .i64 0]=_:=aaQ d hf.1 hf.2 d.length 0 (cO d.length) (by omega) (by omega);rw [dJ] at h11;refine aA rfl rfl ?_ rfl;unfold dN;generalize d.flatMap jg=F at *;simp [w1,k,h11]
theorem DC {d:List bJ} (hf:gy d=true):(dN d).length<=30000:=by
 unfold gy at hf;rw [aH,decide_eq_true_iff] at hf;have l1:=mP (n:=d.length) (by omega);have:=Rj d hf.1;unfold dN;simp only [iJ];omega
theorem aaz (a b:List UInt8) (ha:a.length<=140737488351232) (hb:b.length<=140737488351232):TT.lim 97 [.s a,.s b]=some [.b (Op.bytesLess a b)]:=by
 have k:=Yd (a,[]) (b,[]) ⟨ha,by simp⟩ ⟨hb,by simp⟩;have e1:GV.g [.s a,.s []]=ent (a,[]):=rfl;have e2:GV.g [.s b,.s []]=ent (b,[]):=rfl;have hc:decide (ET (a,[]) (b,[]) < 0)=Op.bytesLess a b:=by
  unfold ET;cases h:Op.bytesLess a b with
  | true=>simp
  | false=>
    simp only [iC,if_false];rw [ah (by simp [Op.bytesLess])];split<;>rfl
 refine aA rfl rfl ?_ rfl;simp [e1,e2,k,hc]
theorem aaM (t:List Row) (ht:Rows t) (hf:oP t) (h256:t.length<=256):∀m i:Nat,i+m=t.length->
 TT.lim 83 [.l (t.map row),.i .i64 t.length,.i .i64 i]=some (tagged (jy (if h:0 < i then (t[i - 1]?).map K else none) (t.drop i)))
 | 0,i,hi=>by
   have h0:t.drop i=[]:=eY (by omega);have h:¬ ((i:Int) < t.length):=by omega
   refine aC rfl rfl ?_;simp [h,h0,jy,tagged]
 | m+1,i,hi=>by
   have hlt:i < t.length:=by omega
   have hr:=ht.2 t[i] (iI hlt);have fr:=hf t[i] (iI hlt);have k15:=akN t[i] hr.1;have k6:=Jj t[i].1 fr;have hrow:GV.g [.l (t[i].1.map ent),.i .u64 t[i].2]=row t[i]:=rfl;have ih:TT.lim 83 [.l (t.map row),.i .i64 t.length,.i .i64 ((i:Int)+1)]=_:=aaM t ht hf h256 m (i+1) (by omega);have hpk:(if h:0 < i+1 then (t[i+1 - 1]?).map K else none)=some (K t[i]):=by simp [hlt]
   rw [hpk] at ih;rw [fZ hlt];have h:((i:Int) < t.length):=by omega
   have hw:=wrap64 (n:=(i:Int)+1) (by omega) (by omega);by_cases h1:oN t[i]=0;rotate_left
   ·have hc:∀p,jy p (t[i]::t.drop (i+1))=oN t[i]:=λp=>by unfold jy;rw [ak h1]
    rw [hc];have ht1:tagged (oN t[i])=[.i .i64 0,.i .i64 (oN t[i])]:=by unfold tagged;rw [ah h1]
    rw [ht1];refine aC rfl rfl ?_;simp [-List.getElem_cons_drop,h,hlt,hrow,k15,h1]
   by_cases h0:i=0
   ·subst h0
    have hc:jy (if h:0 < 0 then (t[0 - 1]?).map K else none) (t[0]::t.drop (0+1))=jy (some (K t[0])) (t.drop (0+1)):=by
     conv=>lhs;unfold jy
     simp [h1]
    rw [hc];generalize tagged (jy (some (K t[0])) (t.drop (0+1)))=out at *;simp only [xW,J9] at hw ih;have hn:(0:Int) < (t.length:Int):=by omega
    refine aC rfl rfl ?_;simp [-List.getElem_cons_drop,h,hlt,hn,hrow,k15,h1,k6,hw,ih]
   ·have hi0:0 < i:=by omega
    have hi1:i - 1 < t.length:=by omega
    have RX:(0:Int) < (i:Int):=by omega
    have hw2:=wrap64 (n:=(i:Int) - 1) (by omega) (by omega);have ht2:((i:Int) - 1).toNat=i - 1:=by omega
    have hnl:(1:Int)<=(i:Int):=by omega
    have hge:(0:Int)<=(i:Int) - 1:=by omega
    have fp:=hf t[i - 1] (iI hi1);have k7:=Jj t[i - 1].1 fp;have kl:=aaz (dN t[i - 1].1) (dN t[i].1) (by have:=DC fp;omega) (by have:=DC fr;omega);have hp:(if h:0 < i then (t[i - 1]?).map K else none)=some (K t[i - 1]):=by simp [hi0,hi1]
    rw [hp];have hc:jy (some (K t[i - 1])) (t[i]::t.drop (i+1))=if K t[i]=K t[i - 1] then 14 else if Op.bytesLess (K t[i]) (K t[i - 1])=true then 7 else jy (some (K t[i])) (t.drop (i+1)):=by
     conv=>lhs;unfold jy
     rw [ah (by simp [h1])]
    rw [hc];generalize jy (some (K t[i])) (t.drop (i+1))=out at *;by_cases h2:dN t[i].1=dN t[i - 1].1
    ·rw [ak h2]
     have h2':(dN t[i - 1].1=dN t[i].1)=True:=eq_true h2.symm;refine aC rfl rfl ?_;simp [-List.getElem_cons_drop,h,hlt,hrow,k15,h1,k6,RX,hi0,hw2,ht2,hnl,hge,hi1,k7,h2',tagged]
    ·rw [ah h2]
     have h2':¬ dN t[i - 1].1=dN t[i].1:=λe=>h2 e.symm;by_cases h3:dN t[i].1 < dN t[i - 1].1
     ·rw [ak ((yB _ _).2 h3)]
      rw [(adU _ _).2 λh=>Hf _ (Hg h h3)] at kl;refine aC rfl rfl ?_;simp [-List.getElem_cons_drop,h,hlt,hrow,k15,h1,k6,RX,hi0,hw2,ht2,hnl,hge,hi1,k7,h2',kl,tagged]
     ·rw [ah λh=>h3 ((yB _ _).1 h)]
      have h4:dN t[i - 1].1 < dN t[i].1:=by
       rcases WS.1 (Kt.1 h3) with h | h
       ·exact h
       ·exact absurd h h2'
      rw [(yB _ _).2 h4] at kl;refine aC rfl rfl ?_;simp [-List.getElem_cons_drop,h,hlt,hrow,k15,h1,k6,RX,hi0,hw2,ht2,hnl,hge,hi1,k7,h2',kl,hw,ih]
theorem aeh (t:List Row) (ht:Rows t) (hf:oP t):TT.lim 82 [.l (t.map row)]=some [.i .i64 (qH t)]:=by
 unfold qH;by_cases h1:256 < t.length
 ·have h1':(256:Int) < (t.length:Int):=by omega
  refine aA rfl rfl ?_ rfl;simp [h1,h1']
 ·have h1':¬ (256:Int) < (t.length:Int):=by omega
  have h38:TT.lim 83 [.l (t.map row),.i .i64 t.length,.i .i64 0]=_:=aaM t ht hf (by omega) t.length 0 (by omega);rw [dJ] at h38;have hp:(if h:0 < 0 then (t[0 - 1]?).map K else none)=none:=rfl;rw [hp] at h38;refine aA rfl rfl ?_ rfl;by_cases h2:jy none t=0
  ·simp only [tagged,h2,if_true] at h38
   simp [h1,h1',h38,h2]
  ·simp only [tagged,h2,if_false] at h38
   simp [h1,h1',h38,h2]
theorem aaS (a b:List Row) (i:Nat) (ha:i < a.length) (hb:i < b.length) (hl:a[i].1.length=b[i].1.length) (RH:a[i].1.length<=40) (x3 x4 x5 x7 x8 x9:GV):∀m j:Nat,j+m=a[i].1.length->
 TT.lim 132 [.l (a.map row),.l (b.map row),.i .i64 i,x3,x4,x5,.i .i64 a[i].1.length,x7,x8,x9,.i .i64 j]=some (if a[i].1.drop j=b[i].1.drop j then [.i .i64 1] else [.i .i64 0])
 | 0,j,hj=>by
   have h0:a[i].1.drop j=[]:=eY (by omega);have h1:b[i].1.drop j=[]:=eY (by omega);have h:¬ ((j:Int) < a[i].1.length):=by omega
   refine aC rfl rfl ?_;simp [h,h0,h1]
 | m+1,j,hj=>by
   have hla:j < a[i].1.length:=by omega
   have hlb:j < b[i].1.length:=by omega
   have ih:TT.lim 132 [.l (a.map row),.l (b.map row),.i .i64 i,x3,x4,x5,.i .i64 a[i].1.length,x7,x8,x9,.i .i64 ((j:Int)+1)]=_:=aaS a b i ha hb hl RH x3 x4 x5 x7 x8 x9 m (j+1) (by omega);have h:((j:Int) < a[i].1.length):=by omega
   have hw:=wrap64 (n:=(j:Int)+1) (by omega) (by omega);have ke:=QW a[i].1[j] b[i].1[j];have hc:(a[i].1.drop j=b[i].1.drop j)=(a[i].1[j]=b[i].1[j]/\a[i].1.drop (j+1)=b[i].1.drop (j+1)):=by
    rw [fZ hla,fZ hlb,BU]
   simp only [hc];by_cases e:a[i].1[j]=b[i].1[j]
   ·have e':(a[i].1[j]=b[i].1[j])=True:=eq_true e
    rw [Dh e] at ke;clear e hc;simp only [e',true_and];refine aC rfl rfl ?_;simp [h,ha,hb,hla,hlb,ke,hw,ih]
   ·rw [Bd e] at ke
    rw [ah λh=>e h.1];clear hc;refine aC rfl rfl ?_;simp [h,ha,hb,hla,hlb,ke]
theorem aaR (a b:List Row) (hl:a.length=b.length) (hal:a.length<=1000) (fa:oP a):∀m i:Nat,i+m=a.length->
 TT.lim 131 [.l (a.map row),.l (b.map row),.i .i64 a.length,.i .i64 i]=some (if a.drop i=b.drop i then [.i .i64 1] else [.i .i64 0])
 | 0,i,hi=>by
   have h0:a.drop i=[]:=eY (by omega);have h1:b.drop i=[]:=eY (by omega);have h:¬ ((i:Int) < a.length):=by omega
   refine aC rfl rfl ?_;simp [h,h0,h1]
 | m+1,i,hi=>by
   have hla:i < a.length:=by omega
   have hlb:i < b.length:=by omega
   have ih:TT.lim 131 [.l (a.map row),.l (b.map row),.i .i64 a.length,.i .i64 ((i:Int)+1)]=_:=aaR a b hl hal fa m (i+1) (by omega);have h:((i:Int) < a.length):=by omega
   have hw:=wrap64 (n:=(i:Int)+1) (by omega) (by omega);have RH:=wE (fa _ (iI hla));have hc:(a.drop i=b.drop i)=(a[i]=b[i]/\a.drop (i+1)=b.drop (i+1)):=by
    rw [fZ hla,fZ hlb,BU]
   simp only [hc];have hpe:(a[i]=b[i])=(a[i].1=b[i].1/\a[i].2=b[i].2):=propext Prod.ext_iff;clear hc;by_cases e2:a[i].2=b[i].2;rotate_left
   ·rw [ah λh=>e2 (by rw [h.1])]
    clear hpe;refine aC rfl rfl ?_;simp [h,hla,hlb,e2]
   by_cases e3:a[i].1.length=b[i].1.length;rotate_left
   ·rw [ah λh=>e3 (by rw [h.1])]
    have e2':(a[i].2=b[i].2)=True:=eq_true e2;clear hpe e2;have e3':¬ (a[i].1.length:Int)=(b[i].1.length:Int):=by omega
    refine aC rfl rfl ?_;simp [h,hla,hlb,e2',e3,e3']
   have k:=aaS a b i hla hlb e3 RH (.i .i64 a.length) (row a[i]) (.l (a[i].1.map ent)) (row b[i]) (.l (b[i].1.map ent)) (.i .i64 b[i].1.length) a[i].1.length 0 (by omega);rw [dJ,dJ] at k;simp only [xW] at k;have e2':(a[i].2=b[i].2)=True:=eq_true e2;have e3':((a[i].1.length:Int)=(b[i].1.length:Int))=True:=eq_true (by omega);have YB:(a[i].1.length=b[i].1.length)=True:=eq_true e3;by_cases e1:a[i].1=b[i].1
   ·rw [ak e1] at k
    have hc2:(a[i]=b[i])=True:=eq_true (HY e1 e2);simp only [hc2,true_and];clear hpe e2 e3 e1 hc2;refine aC rfl rfl ?_;simp [h,hla,hlb,e2',e3',YB,k,hw,ih]
   ·rw [ah e1] at k
    rw [ah λh=>e1 (by rw [h.1])];clear hpe e2 e3;refine aC rfl rfl ?_;simp [h,hla,hlb,e2',e3',YB,k]
theorem al9 (a b:List Row) (hal:a.length<=1000) (fa:oP a):TT.lim 130 [.l (a.map row),.l (b.map row)]=some [.b (decide (a=b))]:=by
 by_cases hl:a.length=b.length
 ·have k:TT.lim 131 [.l (a.map row),.l (b.map row),.i .i64 a.length,.i .i64 0]=_:=aaR a b hl hal fa a.length 0 (by omega)
  rw [dJ,dJ] at k;have hl':((a.length:Int)=(b.length:Int))=True:=eq_true (by omega);have hl'':(a.length=b.length)=True:=eq_true hl;clear hl;by_cases e:a=b
  ·rw [ak e] at k
   rw [Dh e];clear e;refine aA rfl rfl ?_ rfl;simp [hl',hl'',k]
  ·rw [ah e] at k
   rw [Bd e];refine aA rfl rfl ?_ rfl;simp [hl',hl'',k]
 ·rw [Bd λe=>hl (by rw [e])]
  have hl':¬ (a.length:Int)=(b.length:Int):=by omega
  refine aA rfl rfl ?_ rfl;simp [hl,hl']
end C
end Go.Proofs.YtcpfjpcdcafjmaaGreatDoor
