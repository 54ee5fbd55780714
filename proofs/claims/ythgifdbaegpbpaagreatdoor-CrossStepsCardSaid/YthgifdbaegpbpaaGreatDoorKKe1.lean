/- What the trees compute: plain laws. -/
import Derived.Test.YthgifdbaegpbpaaGreatDoorKKT
import Derived.Test.YthgifdbaegpbpaaGreatDoorAbsPl
import Derived.Test.YthgifdbaegpbpaaGreatDoorAbsGo
import Derived.Test.YthgifdbaegpbpaaGreatDoorAbsTold2
import Derived.Test.YthgifdbaegpbpaaGreatDoorAbsFields
import Derived.Test.YthgifdbaegpbpaaGreatDoorAbsSortF
import Derived.Lib.TrimUEq
import Derived.Lib.MapLaws
namespace Go.Proofs.YthgifdbaegpbpaaGreatDoor
open Go Go.aN
set_option linter.unusedSimpArgs false
set_option linter.unusedVariables false
set_option maxRecDepth 100000
namespace K
theorem Gw:∀a b:List UInt8,Op.bytesLess a b=decide (a < b)
 | _,[]=>by simp [Op.bytesLess]
 | [],_::_=>by simp [Op.bytesLess]
 | a::x,b::y=>by
  rw [Op.bytesLess,Gw x y,qE];simp [aeF]
/-- An entry: key and value. A row: its entries and its number. -/
abbrev dn:=List UInt8×List UInt8
abbrev Row:=List dn×Int
def ent (x:dn):GV:=.g [.s x.1,.s x.2]
def row (r:Row):GV:=.g [.l (r.1.map ent),.i .u64 r.2]
@[simp] theorem asQ (x:dn):(ent x).cells=[.s x.1,.s x.2]:=rfl
@[simp] theorem aut (r:Row):(row r).cells=[.l (r.1.map ent),.i .u64 r.2]:=rfl
@[simp] theorem asR (x:dn):(ent x).scalar=false:=rfl
@[simp] theorem auu (r:Row):(row r).scalar=false:=rfl
/-- Texts and lists of no more than any machine bears. -/
def uZ (d:List dn):Prop:=d.length<=140737488351232/\∀x∈d,x.1.length<=140737488351232/\x.2.length<=140737488351232
def Rows (l:List Row):Prop:=l.length<=140737488351232/\∀r∈l,uZ r.1/\0<=r.2/\r.2 < 18446744073709551616
def rP (x:dn):Bool:=decide (x.1.length+x.2.length<=600)
theorem abT (d:List dn) (hd:uZ d):∀m i:Nat,i+m=d.length->TT.lim 4 [.l (d.map ent),.i .i64 d.length,.i .i64 i]=some (if (d.drop i).all rP=true then [.i .i64 1] else [.i .i64 0])
 | 0,i,hi=>by
  have h0:d.drop i=[]:=gZ (by omega);refine aA rfl rfl ?_;have h:¬ ((i:Int) < d.length):=by omega
  simp [h,h0]
 | m+1,i,hi=>by
  have hlt:i < d.length:=by omega
  have ih:TT.lim 4 [.l (d.map ent),.i .i64 d.length,.i .i64 ((i:Int)+1)]=_:=abT d hd m (i+1) (by omega);refine aA rfl rfl ?_;have h:((i:Int) < d.length):=by omega
  have hw:=wrap64 (n:=(i:Int)+1) (by omega) (by have:=hd.1;omega);have hx:=hd.2 d[i] (jh hlt);have hw2:=wrap64 (n:=(d[i].1.length:Int)+(d[i].2.length:Int)) (by omega) (by omega);have hda:(d.drop i).all rP=(rP d[i]&&(d.drop (i+1)).all rP):=by rw [jw hlt,sF]
  by_cases hf:(600:Int) < (d[i].1.length:Int)+(d[i].2.length:Int)
  ·have:rP d[i]=false:=by unfold rP;simp;omega
   simp [h,hlt,hw2,hf,hda,this]
  ·have:rP d[i]=true:=by unfold rP;simp;omega
   rw [hda,this,I5];simp [h,hlt,hw,hw2,hf,ih]
def iF (d:List dn):Bool:=d.all rP&&decide (d.length<=40)
theorem aaE (d:List dn) (hd:uZ d):TT.lim 3 [.l (d.map ent)]=some [.b (iF d)]:=by
 refine aY rfl rfl ?_ rfl;have h5:TT.lim 4 [.l (d.map ent),.i .i64 d.length,.i .i64 0]=_:=abT d hd d.length 0 (by omega);rw [eH] at h5;cases hc:d.all rP with
 | false=>rw [hc] at h5;simp [h5,iF,hc]
 | true=>
  rw [hc] at h5;simp only [if_true] at h5;have:(decide ((d.length:Int)<=40))=decide (d.length<=40):=by rw [qE];simp;omega
  simp [h5,iF,hc,this]
def aS (n:Nat):List UInt8:=if n < 128 then [UInt8.ofNat n] else UInt8.ofNat (n % 128+128)::aS (n / 128)
termination_by n
decreasing_by omega
theorem AZ {n:Nat} (h:n < 128):aS n=[UInt8.ofNat n]:=by rw [aS,aj h]
theorem IX {n:Nat} (h:¬ n < 128):aS n=UInt8.ofNat (n % 128+128)::aS (n / 128):=by rw [aS,ah h]
def gq (n:Nat):Nat:=(aS n).length
theorem aoQ {n:Int} (h0:0<=n):n.fdiv (2 ^ (7:Nat))=n / 128:=by
 rw [L6 _ (by decide)];rfl
theorem adC {n:Nat}:nY .shr .u64 (n:Int) 7=some (.i .u64 ((n / 128:Nat):Int)):=by
 have:((n:Int)).fdiv (2 ^ (7:Nat))=((n / 128:Nat):Int):=by rw [aoQ (by omega)];omega
 simp [nY,IntKind.bits];exact this
theorem zx (n:Nat):0 < gq n:=by unfold gq;rw [aS];split<;>simp
theorem FT {n:Nat} (h:¬ n < 128):gq n=gq (n / 128)+1:=by unfold gq;rw [IX h];rfl
theorem aem:∀ (k n:Nat),0 < k->n < 128 ^ k->gq n<=k
 | 0,_,h,_=>by omega
 | k+1,n,_,h=>by
  by_cases hn:n < 128
  ·unfold gq;rw [AZ hn];simp
  ·rw [FT hn]
   cases k with
   | zero=>simp at h;omega
   | succ k=>
    have:n / 128 < 128 ^ (k+1):=by rw [Gg] at h;omega
    have:=aem (k+1) (n / 128) (by omega) this;omega
theorem Dk {n:Nat} (h:n < 18446744073709551616):gq n<=10:=aem 10 n (by omega) (by omega)
theorem aj0:∀ (n s:Nat),s+gq n<=1000->n < 18446744073709551616->TT.lim 10 [.i .u64 n,.i .i64 s]=some [.i .i64 0,.i .i64 ((s+gq n - 1:Nat):Int)]:=by
 intro n;induction n using Nat.strongRecOn with
 | _ n ih=>
  intro s hs hn;refine aA rfl rfl ?_;by_cases h:n < 128
  ·have h':¬ (128:Int)<=n:=by omega
   simp [h',gq,AZ h]
  ·have h':(128:Int)<=n:=by omega
   have hv:=FT h;have hp:=zx (n / 128);have hw:=wrap64 (n:=(s:Int)+1) (by omega) (by omega);have ih':TT.lim 10 [.i .u64 ((n / 128:Nat):Int),.i .i64 ((s:Int)+1)]=_:=ih (n / 128) (by omega) (s+1) (by omega) (by omega);have hn':s+gq n - 1=s+1+gq (n / 128) - 1:=by omega
   rw [hn'];have h7:nY .shr .u64 (n:Int) 7=some (.i .u64 ((n / 128:Nat):Int)):=adC;generalize ((n / 128:Nat):Int)=q at h7 ih';simp [h',hw,h7,ih']
theorem Lh (n:Nat) (hn:n < 18446744073709551616):TT.lim 9 [.i .u64 n]=some [.i .i64 (gq n)]:=by
 have hp:=zx n;have h9:TT.lim 10 [.i .u64 n,.i .i64 1]=_:=aj0 n 1 (by have:=Dk hn;omega) hn;rw [show 1+gq n - 1=gq n by omega] at h9;refine aY rfl rfl ?_ rfl;simp [h9]
/-- The bytes of a number, each with its high bit set. -/
def jG:Nat->Nat->List Nat
 | 0,_=>[]
 | k+1,n=>(n % 128+128)::jG k (n / 128)
def iT (n:Nat):GV:=.i .u8 n
theorem ae2 (n:Nat) (hn:n < 18446744073709551616):fE .and .u64 (n:Int) 127=some (.i .u64 ((n % 128:Nat):Int)):=by
 have h1:((BitVec.ofInt 64 (n:Int) &&& BitVec.ofInt 64 127).toNat:Nat)=n % 128:=by
  rw [XV,xu,xu];have e1:((n:Int) % ((2 ^ 64:Nat):Int)).toNat=n:=by omega
  have e2:((127:Int) % ((2 ^ 64:Nat):Int)).toNat=2 ^ 7 - 1:=by decide
  rw [e1,e2,aeN]
 show some (GV.i .u64 (IntKind.u64.wrap (((BitVec.ofInt 64 (n:Int) &&& BitVec.ofInt 64 127).toNat:Nat):Int)))=_
 rw [h1,kC (by omega) (by omega)]
theorem YH (n:Nat) (hn:n < 256):fE .and .u8 (n:Int) 127=some (.i .u8 ((n % 128:Nat):Int)):=by
 have:∀x:Fin 256,IntKind.u8.wrap (((BitVec.ofInt IntKind.u8.bits ((x.val:Nat):Int) &&& BitVec.ofInt IntKind.u8.bits 127).toNat:Nat):Int)=((x.val % 128:Nat):Int):=by decide +kernel
 show some (GV.i .u8 _)=some (GV.i .u8 _)
 exact sU (λz=>some (GV.i .u8 z)) (this ⟨n,hn⟩)
theorem alE (n:Nat) (hn:n < 128):fE .or .u8 (n:Int) 128=some (.i .u8 ((n+128:Nat):Int)):=by
 have:∀x:Fin 128,IntKind.u8.wrap (((BitVec.ofInt IntKind.u8.bits ((x.val:Nat):Int) ||| BitVec.ofInt IntKind.u8.bits 128).toNat:Nat):Int)=((x.val+128:Nat):Int):=by decide +kernel
 show some (GV.i .u8 _)=some (GV.i .u8 _)
 exact sU (λz=>some (GV.i .u8 z)) (this ⟨n,hn⟩)
theorem aex {n:Int} (h0:0<=n) (h1:n < 256):IntKind.u8.wrap n=n:=by
 have:IntKind.u8.wrap n=n % 256:=by simp [IntKind.wrap,IntKind.signed,IntKind.bits]
 rw [this];omega
@[simp] theorem asE (n:Nat):(iT n).cells=[iT n]:=rfl
@[simp] theorem asG (n:Nat):(iT n).scalar=true:=rfl
@[simp] theorem asF (n:Nat) (v:GV):(iT n).put 0 [v]=some v:=rfl
theorem Y4:∀l:List Nat,(∀x∈l,x < 256)->oz (l.map iT)=some (l.map UInt8.ofNat)
 | [],_=>rfl
 | a::l,h=>by
  have h1:=h a (by simp);have h2:=Y4 l λx hx=>h x (by simp [hx]);simp only [ji,iT,oz] at h2 ⊢;rw [aj (by omega)];have:(λn:Nat=>GV.i .u8 (n:Int))=iT:=rfl;rw [h2];simp
theorem abM:∀ (m n:Nat) (done:List Nat),n < 18446744073709551616->done.length+m < 1000->
 TT.lim 11 [.i .u64 n,.l ((done++List.replicate m 0).map iT),.i .i64 ((done.length+m:Nat):Int),.i .i64 done.length]=some [.i .i64 0,.l ((done++jG m n).map iT)]
 | 0,n,done,hn,hd=>by
  refine aA rfl rfl ?_;simp [jG]
 | m+1,n,done,hn,hd=>by
  have hlt:(done.length:Int) < ((done.length+(m+1):Nat):Int):=by omega
  have hw:=wrap64 (n:=(done.length:Int)+1) (by omega) (by omega);have hw8:=aex (n:=((n % 128:Nat):Int)) (by omega) (by omega);have h7:nY .shr .u64 (n:Int) 7=some (.i .u64 ((n / 128:Nat):Int)):=adC;have ha:=ae2 n hn;have ho:=alE (n % 128) (by omega);have ih:=abM m (n / 128) (done++[n % 128+128]) (by omega) (by simp;omega);have hlen:(done++[n % 128+128]).length+m=done.length+(m+1):=by simp;omega
  rw [hlen] at ih;have hl2:(((done++[n % 128+128]).length:Nat):Int)=(done.length:Int)+1:=by simp
  rw [hl2] at ih;have hset:((done++List.replicate (m+1) 0).map iT).set done.length (iT (n % 128+128))=(done++[n % 128+128]++List.replicate m 0).map iT:=by
   rw [Jg,<- List.map_set,List.set_append_right _ _ (dJ _),yB];simp
  have hget:((done++List.replicate (m+1) 0).map iT)[done.length]? = some (iT 0):=by
   rw [jg,tZ (dJ _),yB,Jg];rfl
  have hll:((done++List.replicate (m+1) 0).map iT).length=done.length+(m+1):=by simp
  have hv:done++jG (m+1) n=done++[n % 128+128]++jG m (n / 128):=by simp [jG]
  rw [hv];generalize hL:(done++List.replicate (m+1) 0).map iT=L at *;refine aA rfl rfl ?_;have hix:(0:Int)<=(done.length:Int)/\(done.length:Int) < (L.length:Int):=by rw [hll];omega
  have hob:GV.i IntKind.u8 ((n % 128+128:Nat):Int)=iT (n % 128+128):=rfl;have Ux:L.set done.length (GV.i IntKind.u8 ((n % 128+128:Nat):Int))=(done++[n % 128+128]++List.replicate m 0).map iT:=hset;generalize (done++[n % 128+128]++List.replicate m 0).map iT=L2 at ih Ux;generalize (done++[n % 128+128]++jG m (n / 128)).map iT=L3 at ih ⊢;generalize ((n / 128:Nat):Int)=q at h7 ih;generalize ((n % 128+128:Nat):Int)=z at ho Ux;generalize ((n % 128:Nat):Int)=rr at ha hw8 ho;generalize ((done.length+(m+1):Nat):Int)=N at hlt ih ⊢;simp [hlt,ha,hw8,ho,hix,hget,h7,hw,Ux,ih]
theorem XH:∀m n,(jG m n).length=m
 | 0,_=>rfl
 | m+1,n=>by simp [jG,XH m]
theorem XI:∀m n,∀x∈jG m n,x < 256
 | 0,_,x,h=>by simp [jG] at h
 | m+1,n,x,h=>by
  simp only [jG,bZ] at h;rcases h with rfl | h
  ·omega
  ·exact XI m _ x h
/-- The last byte without its high bit: as numbers are written. -/
theorem ael:∀ (s n:Nat),gq n=s+1->∃x,(jG (s+1) n)[s]? = some x/\((jG (s+1) n).set s (x % 128)).map UInt8.ofNat=aS n
 | 0,n,h=>by
  have hn:n < 128:=by
   by_cases hn:n < 128
   ·exact hn
   ·rw [FT hn] at h;have:=zx (n / 128);omega
  refine ⟨n % 128+128,by simp [jG], ?_⟩;rw [AZ hn];simp [jG];rw [MB hn]
 | s+1,n,h=>by
  have hn:¬ n < 128:=by
   intro hn;unfold gq at h;rw [AZ hn] at h;simp at h
  rw [FT hn] at h;obtain ⟨x,h1,h2⟩:=ael s (n / 128) (by omega);refine ⟨x,by simp only [jG,qI] at h1 ⊢;exact h1, ?_⟩;rw [IX hn,<- h2];simp [jG]
theorem wX (n:Nat) (hn:n < 18446744073709551616):TT.lim 8 [.i .u64 n]=some [.s (aS n)]:=by
 have h8:=Lh n hn;have hp:=zx n;have hs:=Dk hn;obtain ⟨s,hs1⟩:∃s,gq n=s+1:=⟨gq n - 1,by omega⟩
 obtain ⟨x,h1,h2⟩:=ael s n hs1;rw [hs1] at h8;have h10:TT.lim 11 [.i .u64 n,.l ((List.replicate (s+1) 0).map iT),.i .i64 ((s+1:Nat):Int),.i .i64 0]=some [.i .i64 0,.l ((jG (s+1) n).map iT)]:=by
  have:=abM (s+1) n [] hn (by simp;omega);simpa using this
 have hr:(List.replicate (s+1) 0).map iT=List.replicate (s+1) (GV.i .u8 0):=by rw [List.map_replicate];rfl
 rw [hr] at h10;have hx:x < 256:=XI _ _ x (rE h1);have ha:=YH x hx;have hget:((jG (s+1) n).map iT)[s]? = some (iT x):=by rw [jg,h1];rfl
 have hset:((jG (s+1) n).map iT).set s (GV.i .u8 ((x % 128:Nat):Int))=((jG (s+1) n).set s (x % 128)).map iT:=(List.map_set (f:=iT) (l:=jG (s+1) n) (i:=s) (a:=x % 128)).symm;have hb:=Y4 ((jG (s+1) n).set s (x % 128)) (λy hy=>by
  rcases Yi hy with hy | rfl
  ·exact XI _ _ y hy
  ·omega)
 rw [h2] at hb;have hlen:(((jG (s+1) n).set s (x % 128)).map iT).length=s+1:=by simp [XH]
 have hlr:(List.replicate (s+1) (GV.i .u8 0)).length=s+1:=by simp
 have hl1:((jG (s+1) n).map iT).length=s+1:=by simp [XH]
 generalize ((jG (s+1) n).set s (x % 128)).map iT=L3 at hset hb hlen;generalize (jG (s+1) n).map iT=L2 at h10 hget hset hl1;generalize hrep:List.replicate (s+1) (GV.i .u8 0)=L1 at h10 hlr;refine aY rfl rfl ?_ rfl;have hw:=wrap64 (n:=(s:Int)) (by omega) (by omega);have hcast:((s+1:Nat):Int)=(s:Int)+1:=by omega
 rw [hcast] at h8 h10;have hc1:(0:Int)<=(s:Int)+1/\(s:Int)+1<=281474976710656/\(s:Int)+1<=1152921504606846976:=by omega
 have hc2:((s:Int)+1).toNat=s+1:=by omega
 have hlt:(s:Int) < (s:Int)+1:=by omega
 have hs2:(s:Int)+1 - 1=(s:Int):=by omega
 generalize hM:((x % 128:Nat):Int)=M at ha hset;have hxx:iT x=.i .u8 x:=rfl;have h48:s+1<=281474976710656:=by omega
 have hg2:L2[s]'(by omega)=iT x:=by have:=hget;rw [bU (by omega)] at this;exact Dx this
 simp [h8,hc1,hc2,hrep,hlr,h10,hl1,hs2,hw,hlt,hget,hg2,ha,hset,hxx,hlen,hb,h48,GV.fO]
theorem SA (a b:List UInt8):dZ (a++b)=dZ a++dZ b:=by simp [dZ]
@[simp] theorem Y2 (a:List UInt8):(dZ a).length=a.length:=by simp [dZ]
theorem JC (a:List UInt8):(dZ a).all (GV.fO 1)=true:=by
 rw [List.all_eq_true];intro x hx;obtain ⟨b,_,rfl⟩:=nM.1 hx;rfl
theorem SC:∀a:List UInt8,oz (dZ a)=some a
 | []=>rfl
 | x::a=>by
  have ih:=SC a;simp only [dZ,ji,oz] at ih ⊢;have:=x.toNat_lt;rw [aj (by omega),ih];simp
def iK (x:dn):List UInt8:=aS x.1.length++x.1++aS x.2.length++x.2
def iD (d:List dn):List UInt8:=aS d.length++d.flatMap iK
theorem mJ {n:Nat} (h:n < 18446744073709551616):(aS n).length<=10:=Dk h
theorem agY (x:dn) (h1:x.1.length<=140737488351232) (h2:x.2.length<=140737488351232):TT.lim 13 [ent x]=some [.s (iK x)]:=by
 have k1:=wX x.1.length (by omega);have k2:=wX x.2.length (by omega);have l1:=mJ (n:=x.1.length) (by omega);have l2:=mJ (n:=x.2.length) (by omega);have w1:=kC (n:=(x.1.length:Int)) (by omega) (by omega);have w2:=kC (n:=(x.2.length:Int)) (by omega) (by omega);refine aY rfl rfl ?_ rfl;have c1:((aS x.1.length).length:Int)+(x.1.length:Int)<=9223372036854775807:=by omega
 have c2:((aS x.1.length).length:Int)+((x.1.length:Int)+((aS x.2.length).length:Int))<=9223372036854775807:=by omega
 have c3:((aS x.1.length).length:Int)+((x.1.length:Int)+(((aS x.2.length).length:Int)+(x.2.length:Int)))<=9223372036854775807:=by omega
 simp [w1,w2,k1,k2,c1,c2,c3,iK,Int.add_assoc]
theorem aao {x:dn} (h:rP x=true):(iK x).length<=620:=by
 unfold rP at h;simp only [decide_eq_true_iff] at h;have l1:=mJ (n:=x.1.length) (by omega);have l2:=mJ (n:=x.2.length) (by omega);simp only [iK,dQ];omega
theorem TM:∀d:List dn,d.all rP=true->(d.flatMap iK).length<=620 * d.length
 | [],_=>by simp
 | x::d,h=>by
  rw [sF,aI] at h;have:=aao h.1;have:=TM d h.2;simp only [jf,dQ,iV];omega
theorem abN (d:List dn) (hf:d.all rP=true) (hl:d.length<=40):∀ (m i:Nat) (acc:List UInt8),i+m=d.length->acc.length<=10+620 * i->
 TT.lim 12 [.l (d.map ent),.i .i64 d.length,.i .i64 i,.l (dZ acc)]=some [.i .i64 0,.l (dZ (acc++(d.drop i).flatMap iK))]
 | 0,i,acc,hi,ha=>by
  have h0:d.drop i=[]:=gZ (by omega);refine aA rfl rfl ?_;have h:¬ ((i:Int) < d.length):=by omega
  simp [h,h0]
 | m+1,i,acc,hi,ha=>by
  have hlt:i < d.length:=by omega
  have hx:=List.all_eq_true.1 hf d[i] (jh hlt);have hx1:=hx;unfold rP at hx1;simp only [decide_eq_true_iff] at hx1;have hp:=agY d[i] (by omega) (by omega);have hpl:=aao hx;have ih:TT.lim 12 [.l (d.map ent),.i .i64 d.length,.i .i64 ((i:Int)+1),.l (dZ (acc++iK d[i]))]=_:=abN d hf hl m (i+1) (acc++iK d[i]) (by omega) (by simp;omega);rw [SA] at ih;have hd:(d.drop i).flatMap iK=iK d[i]++(d.drop (i+1)).flatMap iK:=by rw [jw hlt,jf]
  rw [hd,<- List.append_assoc];refine aA rfl rfl ?_;have h:((i:Int) < d.length):=by omega
  have hw:=wrap64 (n:=(i:Int)+1) (by omega) (by omega);have hok:=JC (iK d[i]);have hb:2 * (acc.length+(iK d[i]).length)<=281474976710656/\acc.length+(iK d[i]).length<=281474976710656:=by omega
  have he:GV.g [GV.s d[i].1,GV.s d[i].2]=ent d[i]:=rfl;simp [-List.all_eq_true,h,hlt,he,hp,hok,hb,hw,ih]
theorem O1 (d:List dn) (hf:iF d=true):TT.lim 7 [.l (d.map ent)]=some [.s (iD d)]:=by
 unfold iF at hf;rw [aI,decide_eq_true_iff] at hf;have k:=wX d.length (by omega);have l1:=mJ (n:=d.length) (by omega);have w1:=kC (n:=(d.length:Int)) (by omega) (by omega);have h11:TT.lim 12 [.l (d.map ent),.i .i64 d.length,.i .i64 0,.l (dZ (aS d.length))]=_:=abN d hf.1 hf.2 d.length 0 (aS d.length) (by omega) (by omega);rw [eH] at h11;have hb:2 * (aS d.length).length<=281474976710656/\(aS d.length).length<=281474976710656:=by omega
 have hok:=JC (aS d.length);have hfl:=TM d hf.1;have hc:(aS d.length).length+(List.flatMap iK d).length<=281474976710656:=by omega
 have hbg:=SC (aS d.length++d.flatMap iK);refine aY rfl rfl ?_ rfl;unfold iD;generalize d.flatMap iK=F at *;simp [-List.all_eq_true,w1,k,hb,hok,h11,hc,hbg]
def jA (s:List UInt8) (lo hi:Int):Int:=if (s.length:Int) < lo then 13 else if hi < (s.length:Int) then 13 else if Lib.validD s=true then 0 else 11
theorem ah5 (s:List UInt8) (h:s.length<=140737488351232):TT.lim 44 [.s s]=some [.b (Lib.validD s)]:=by
 have h21:TT.lim 45 [.s s]=some [.b (Lib.validD s)]:=KY (Ds:=Ds) (k:=45) (f:=IV) rfl (by simp only [IV];rw [aj (by omega)]);refine aY rfl rfl ?_ rfl;simp [h21]
theorem BK (s:List UInt8) (lo hi:Int) (h:s.length<=140737488351232):TT.lim 43 [.s s,.i .i64 lo,.i .i64 hi]=some [.i .i64 (jA s lo hi)]:=by
 have h20:=ah5 s h;refine aY rfl rfl ?_ rfl;unfold jA;by_cases h1:(s.length:Int) < lo
 ·simp [h1]
 ·by_cases h2:hi < (s.length:Int)
  ·simp [h1,h2]
  ·cases hv:Lib.validD s<;>rw [hv] at h20<;>simp [h1,h2,h20,hv]
def ql (x:dn):Int:=if jA x.1 1 64≠0 then jA x.1 1 64 else jA x.2 0 256
theorem aap (x:dn) (h1:x.1.length<=140737488351232) (h2:x.2.length<=140737488351232):TT.lim 51 [ent x]=some [.i .i64 (ql x)]:=by
 have k1:=BK x.1 1 64 h1;have k2:=BK x.2 0 256 h2;refine aY rfl rfl ?_ rfl;unfold ql;by_cases h:jA x.1 1 64=0
 ·simp [k1,h,k2]
 ·simp [k1,h]
def qj:Option (List UInt8)->List dn->Int
 | _,[]=>0
 | p,x::xs=>if ql x≠0 then ql x else match p with
  | none=>qj (some x.1) xs
  | some k=>if x.1=k then 14 else if Op.bytesLess x.1 k=true then 7 else qj (some x.1) xs
def tagged (r:Int):List GV:=if r=0 then [.i .i64 1] else [.i .i64 0,.i .i64 r]
def prevK (d:List dn) (i:Nat):Option (List UInt8):=if i=0 then none else (d[i - 1]?).map (·.1)
theorem abO (d:List dn) (hd:uZ d):∀m i:Nat,i+m=d.length->TT.lim 50 [.l (d.map ent),.i .i64 d.length,.i .i64 i]=some (tagged (qj (prevK d i) (d.drop i)))
 | 0,i,hi=>by
  have h0:d.drop i=[]:=gZ (by omega);refine aA rfl rfl ?_;have h:¬ ((i:Int) < d.length):=by omega
  simp [h,h0,qj,tagged]
 | m+1,i,hi=>by
  have hlt:i < d.length:=by omega
  have hx:=hd.2 d[i] (jh hlt);have hp:=aap d[i] hx.1 hx.2;have ih:TT.lim 50 [.l (d.map ent),.i .i64 d.length,.i .i64 ((i:Int)+1)]=_:=abO d hd m (i+1) (by omega);have hpk:prevK d (i+1)=some d[i].1:=by unfold prevK;rw [ah (by omega)];simp [hlt]
  rw [hpk] at ih;have hdr:d.drop i=d[i]::d.drop (i+1):=jw hlt;rw [hdr];refine aA rfl rfl ?_;have h:((i:Int) < d.length):=by omega
  have hw:=wrap64 (n:=(i:Int)+1) (by omega) (by have:=hd.1;omega);have he:GV.g [GV.s d[i].1,GV.s d[i].2]=ent d[i]:=rfl;by_cases h1:ql d[i]=0;rotate_left
  ·simp [h,hlt,he,hp,h1,qj,tagged]
  by_cases h0:i=0
  ·subst h0
   simp only [zF,X7] at hw ih;simp [h,hlt,he,hp,h1,qj,prevK,hw];simpa using ih
  ·have hi1:i - 1 < d.length:=by omega
   have hpk2:prevK d i=some d[i - 1].1:=by unfold prevK;rw [ah h0];simp [hi1]
   have hw2:=wrap64 (n:=(i:Int) - 1) (by omega) (by have:=hd.1;omega);have hi0:¬ ((i:Int)=0):=by omega
   have hge:(0:Int)<=(i:Int) - 1:=by omega
   have ht:((i:Int) - 1).toNat=i - 1:=by omega
   have hnl:(1:Int)<=(i:Int):=by omega
   rw [hpk2];by_cases h2:d[i].1=d[i - 1].1
   ·have h2':(d[i].1=d[i - 1].1)=True:=eq_true h2
    clear h2;simp [h,hlt,he,hp,h1,hi0,h0,hw2,ht,hi1,h2',qj,tagged,hnl]
   ·cases h3:Op.bytesLess d[i].1 d[i - 1].1 with
    | true=>simp [h,hlt,he,hp,h1,hi0,h0,hw2,ht,hi1,h2,h3,qj,tagged,hnl]
    | false=>simp [h,hlt,he,hp,h1,hi0,h0,hw2,ht,hi1,h2,h3,qj,hw,ih,hnl]
def rM (d:List dn):Int:=if d.length=0 then 12 else if 16 < d.length then 13 else qj none d
theorem Zg (d:List dn) (hd:uZ d):TT.lim 49 [.l (d.map ent)]=some [.i .i64 (rM d)]:=by
 have h17:TT.lim 50 [.l (d.map ent),.i .i64 d.length,.i .i64 0]=_:=abO d hd d.length 0 (by omega);have hpk:prevK d 0=none:=rfl;rw [hpk,eH] at h17;have w1:=kC (n:=(d.length:Int)) (by omega) (by have:=hd.1;omega);refine aY rfl rfl ?_ rfl;unfold rM;by_cases h0:d.length=0
 ·have h0':(d.length:Int)=0:=by omega
  have:d=[]:=je h0;subst this;simp [IntKind.wrap,IntKind.signed]
 ·have h0':¬ (d.length:Int)=0:=by omega
  by_cases h1:16 < d.length
  ·have h1':(16:Int) < (d.length:Int):=by omega
   simp [w1,h0,h1,h0',h1']
  ·have h1':¬ (16:Int) < (d.length:Int):=by omega
   by_cases h2:qj none d=0
   ·simp only [tagged,h2,if_true] at h17
    simp [w1,h0,h1,h0',h1',h17,h2]
   ·simp only [tagged,h2,if_false] at h17
    simp [w1,h0,h1,h0',h1',h17]
def uS (r:Row):Int:=if rM r.1≠0 then rM r.1 else if r.2=0 then 18 else 0
theorem afy (r:Row) (hd:uZ r.1):TT.lim 55 [row r]=some [.i .i64 (uS r)]:=by
 have k:=Zg r.1 hd;refine aY rfl rfl ?_ rfl;unfold uS;by_cases h:rM r.1=0
 ·by_cases h2:r.2=0
  ·simp [k,h,h2]
  ·simp [k,h,h2]
 ·simp [k,h]
def qO (long:Bool) (r:Row):Bool:=decide (r.1.length<=18)&&iF r.1&&(!long || decide ((iD r.1).length<=100))
theorem abQ (l:List Row) (hl:Rows l):∀m i:Nat,i+m=l.length->TT.lim 6 [.l (l.map row),.i .i64 l.length,.i .i64 i]=some (if (l.drop i).all (qO (decide (40 < l.length)))=true then [.i .i64 1] else [.i .i64 0])
 | 0,i,hi=>by
  have h0:l.drop i=[]:=gZ (by omega);refine aA rfl rfl ?_;have h:¬ ((i:Int) < l.length):=by omega
  simp [h,h0]
 | m+1,i,hi=>by
  have hlt:i < l.length:=by omega
  have hr:=hl.2 l[i] (jh hlt);have ih:TT.lim 6 [.l (l.map row),.i .i64 l.length,.i .i64 ((i:Int)+1)]=_:=abQ l hl m (i+1) (by omega);have hda:(l.drop i).all (qO (decide (40 < l.length)))=(qO (decide (40 < l.length)) l[i]&&(l.drop (i+1)).all (qO (decide (40 < l.length)))):=by rw [jw hlt,sF]
  rw [hda];refine aA rfl rfl ?_;have h:((i:Int) < l.length):=by omega
  have hw:=wrap64 (n:=(i:Int)+1) (by omega) (by have:=hl.1;omega);have h4:=aaE l[i].1 hr.1;by_cases h1:18 < l[i].1.length
  ·have h1':(18:Int) < (l[i].1.length:Int):=by omega
   have:qO (decide (40 < l.length)) l[i]=false:=by unfold qO;simp;omega
   rw [this];simp [h,hlt,h1']
  have h1':¬ (18:Int) < (l[i].1.length:Int):=by omega
  have h1d:l[i].1.length<=18:=by omega
  cases hf:iF l[i].1 with
  | false=>
   rw [hf] at h4;have:qO (decide (40 < l.length)) l[i]=false:=by unfold qO;simp [hf]
   rw [this];simp [h,hlt,h1',h4]
  | true=>
   rw [hf] at h4;have k6:=O1 l[i].1 hf;by_cases h2:40 < l.length
   ·have h2':(40:Int) < (l.length:Int):=by omega
    by_cases h3:100 < (iD l[i].1).length
    ·have h3':(100:Int) < ((iD l[i].1).length:Int):=by omega
     have:qO (decide (40 < l.length)) l[i]=false:=by unfold qO;simp [h2];omega
     rw [this];simp [h,hlt,h1',h4,h2',k6,h3']
    ·have h3':¬ (100:Int) < ((iD l[i].1).length:Int):=by omega
     have:qO (decide (40 < l.length)) l[i]=true:=by unfold qO;simp [h2,hf,h1d];omega
     rw [this,I5];simp [h,hlt,h1',h4,h2',k6,h3',hw,ih]
   ·have h2':¬ (40:Int) < (l.length:Int):=by omega
    have:qO (decide (40 < l.length)) l[i]=true:=by unfold qO;simp [h2,hf,h1d]
    rw [this,I5];simp [h,hlt,h1',h4,h2',hw,ih]
def BU (l:List Row):Bool:=l.all (qO (decide (40 < l.length)))&&decide (l.length<=300)
theorem ahy (l:List Row) (hl:Rows l):TT.lim 5 [.l (l.map row)]=some [.b (BU l)]:=by
 refine aY rfl rfl ?_ rfl;have h3:TT.lim 6 [.l (l.map row),.i .i64 l.length,.i .i64 0]=_:=abQ l hl l.length 0 (by omega);rw [eH] at h3;unfold BU;cases hc:l.all (qO (decide (40 < l.length))) with
 | false=>rw [hc] at h3;simp [h3]
 | true=>
  rw [hc] at h3;simp only [if_true] at h3;have:(decide ((l.length:Int)<=300))=decide (l.length<=300):=by rw [qE];simp;omega
  simp [h3,this]
theorem ahw {l:List Row} (h:BU l=true):∀r∈l,iF r.1=true:=by
 unfold BU at h;rw [aI] at h;intro r hr;have:=List.all_eq_true.1 h.1 r hr;unfold qO at this;simp only [aI] at this;exact this.1.2
theorem Zm (d:List dn) (h:d.length<=40):TT.lim 113 [.l (d.map ent)]=some [.l (d.map ent)]:=by
 refine KY (Ds:=Ds) (k:=113) (f:=Gz 32 2) rfl ?_;have hall:(d.map ent).all (GV.fO 2)=true:=by
  rw [List.all_eq_true];intro x hx;obtain ⟨r,_,rfl⟩:=nM.1 hx;rfl
 simp only [Gz];rw [aj ⟨by rw [wC];omega,hall⟩]
abbrev K (r:Row):List UInt8:=iD r.1
/-- How many rows at the head have lesser keys. -/
def YE (k:List UInt8):List Row->Nat
 | []=>0
 | r::rs=>if Op.bytesLess (K r) k=true then YE k rs+1 else 0
def YO:List Row->List Row->Bool
 | _,[]=>true
 | t,r::rs=>match t.drop (YE (K r) t) with
  | []=>false
  | s::t'=>decide (K s=K r)&&decide (r.2<=s.2)&&YO (s::t') rs
theorem ag0 (x y:dn):kT [1,1] [.s x.1,.s x.2] [.s y.1,.s y.2]=some (decide (x=y)):=by
 simp only [kT,gy,LZ];congr 1;rw [qE];simp [Prod.ext_iff]
theorem abR (d e:List dn) (hl:d.length=e.length) (hb:d.length<=140737488351232):∀m i:Nat,i+m=d.length->
 TT.lim 131 [.l (d.map ent),.l (e.map ent),.i .i64 d.length,.i .i64 i]=some (if d.drop i=e.drop i then [.i .i64 1] else [.i .i64 0])
 | 0,i,hi=>by
  have h0:d.drop i=[]:=gZ (by omega);have h1:e.drop i=[]:=gZ (by omega);refine aA rfl rfl ?_;have h:¬ ((i:Int) < d.length):=by omega
  simp [h,h0,h1]
 | m+1,i,hi=>by
  have hlt:i < d.length:=by omega
  have hlt2:i < e.length:=by omega
  have ih:TT.lim 131 [.l (d.map ent),.l (e.map ent),.i .i64 d.length,.i .i64 ((i:Int)+1)]=_:=abR d e hl hb m (i+1) (by omega);have hd:(d.drop i=e.drop i)↔(d[i]=e[i]/\d.drop (i+1)=e.drop (i+1)):=by
   rw [jw hlt,jw hlt2,Jb]
  have hq:=ag0 d[i] e[i];refine aA rfl rfl ?_;have h:((i:Int) < d.length):=by omega
  have hw:=wrap64 (n:=(i:Int)+1) (by omega) (by omega);by_cases h1:d[i]=e[i]
  ·have h2:(d.drop i=e.drop i)↔(d.drop (i+1)=e.drop (i+1)):=by rw [hd];simp [h1]
   have hq':kT [1,1] [.s d[i].1,.s d[i].2] [.s e[i].1,.s e[i].2]=some true:=by rw [hq];simp [h1]
   simp only [h2];simp [h,hlt,hlt2,hq',hw,ih]
  ·have h2:¬ (d.drop i=e.drop i):=by rw [hd];simp [h1]
   have hq':kT [1,1] [.s d[i].1,.s d[i].2] [.s e[i].1,.s e[i].2]=some false:=by rw [hq];simp [h1]
   rw [ah h2];simp [h,hlt,hlt2,hq']
theorem aaA (d e:List dn) (hb:d.length<=140737488351232) (hb2:e.length<=140737488351232):TT.lim 130 [.l (d.map ent),.l (e.map ent)]=some [.b (decide (d=e))]:=by
 refine aY rfl rfl ?_ rfl;by_cases hl:d.length=e.length
 ·have hl':(d.length:Int)=(e.length:Int):=by omega
  have h32:TT.lim 131 [.l (d.map ent),.l (e.map ent),.i .i64 d.length,.i .i64 0]=_:=abR d e hl hb d.length 0 (by omega);rw [eH,eH] at h32;by_cases h:d=e
  ·rw [aj h] at h32
   have h':(d=e)=True:=eq_true h;clear h;rw [hl'] at h32;simp [hl',h32,h']
  ·rw [ah h] at h32
   rw [hl'] at h32;simp [hl',h32,h]
 ·have hl':¬ (d.length:Int)=(e.length:Int):=by omega
  have h:¬ d=e:=λh=>hl (by rw [h]);simp [hl',hl,h]
theorem ano (r s:Row) (hb:r.1.length<=140737488351232) (hb2:s.1.length<=140737488351232):TT.lim 135 [row r,row s]=some [.b (decide (r=s))]:=by
 have k:=aaA r.1 s.1 hb hb2;refine aY rfl rfl ?_ rfl;by_cases h:r.2=s.2
 ·have:decide (r=s)=decide (r.1=s.1):=by rw [qE];simp [Prod.ext_iff,h]
  rw [this];simp [h,k]
 ·have:decide (r=s)=false:=by rw [decide_eq_false_iff_not];intro e;exact h (by rw [e])
  rw [this];simp [h]
theorem abP (a b:List Row) (hl:a.length=b.length) (hb:a.length<=140737488351232) (h1:∀r∈a,r.1.length<=140737488351232) (h2:∀r∈b,r.1.length<=140737488351232):∀m i:Nat,i+m=a.length->
 TT.lim 134 [.l (b.map row),.l (a.map row),.i .i64 a.length,.i .i64 i]=some (if a.drop i=b.drop i then [.i .i64 1] else [.i .i64 0])
 | 0,i,hi=>by
  have h0:a.drop i=[]:=gZ (by omega);have h1:b.drop i=[]:=gZ (by omega);refine aA rfl rfl ?_;have h:¬ ((i:Int) < a.length):=by omega
  simp [h,h0,h1]
 | m+1,i,hi=>by
  have hlt:i < a.length:=by omega
  have hlt2:i < b.length:=by omega
  have ih:TT.lim 134 [.l (b.map row),.l (a.map row),.i .i64 a.length,.i .i64 ((i:Int)+1)]=_:=abP a b hl hb h1 h2 m (i+1) (by omega);have hd:(a.drop i=b.drop i)↔(a[i]=b[i]/\a.drop (i+1)=b.drop (i+1)):=by
   rw [jw hlt,jw hlt2,Jb]
  have k:=ano a[i] b[i] (h1 _ (jh hlt)) (h2 _ (jh hlt2));have r1:GV.g [.l (a[i].1.map ent),.i .u64 a[i].2]=row a[i]:=rfl;have r2:GV.g [.l (b[i].1.map ent),.i .u64 b[i].2]=row b[i]:=rfl;refine aA rfl rfl ?_;have h:((i:Int) < a.length):=by omega
  have hw:=wrap64 (n:=(i:Int)+1) (by omega) (by omega);by_cases h3:a[i]=b[i]
  ·have h4:(a.drop i=b.drop i)↔(a.drop (i+1)=b.drop (i+1)):=by rw [hd];simp [h3]
   simp only [h4];have k':TT.lim 135 [row a[i],row b[i]]=some [.b true]:=by rw [k];simp [h3]
   simp [h,hlt,hlt2,r1,r2,k',hw,ih]
  ·have h4:¬ (a.drop i=b.drop i):=by rw [hd];simp [h3]
   rw [ah h4];have k':TT.lim 135 [row a[i],row b[i]]=some [.b false]:=by rw [k];simp [h3]
   simp [h,hlt,hlt2,r1,r2,k']
theorem aoe (a b:List Row) (hb:a.length<=140737488351232) (hb2:b.length<=140737488351232) (h1:∀r∈a,r.1.length<=140737488351232) (h2:∀r∈b,r.1.length<=140737488351232):TT.lim 132 [.l (a.map row),.l (b.map row)]=some [.b (decide (a=b))]:=by
 have h28:TT.lim 133 [.l (a.map row),.l (b.map row)]=some [.b (decide (a=b))]:=by
  refine aY rfl rfl ?_ rfl;by_cases hl:a.length=b.length
  ·have hl':(a.length:Int)=(b.length:Int):=by omega
   have Hr:TT.lim 134 [.l (b.map row),.l (a.map row),.i .i64 a.length,.i .i64 0]=_:=abP a b hl hb h1 h2 a.length 0 (by omega);rw [eH,eH] at Hr;rw [hl'] at Hr;by_cases h:a=b
   ·rw [aj h] at Hr
    have h':(a=b)=True:=eq_true h;clear h;simp [hl',Hr,h']
   ·rw [ah h] at Hr
    simp [hl',Hr,h]
  ·have hl':¬ (a.length:Int)=(b.length:Int):=by omega
   have h:¬ a=b:=λh=>hl (by rw [h]);simp [hl',hl,h]
 refine aY rfl rfl ?_ rfl;simp [h28]
theorem Nw (a b:List UInt8):Op.bytesLess a b=true↔a < b:=by rw [Gw];simp
/-- Rows whose keys rise. -/
def Bl (l:List Row):Prop:=l.Pairwise λa b=>K a < K b
theorem agZ {cs:List GV} {r0:List GV} (h:bI.iC [.list true [.str,.str],.int .u64] cs):∃r:Row,(uZ r.1/\0<=r.2/\r.2 < 18446744073709551616)/\GV.g cs=row r:=by
 obtain ⟨g,l,rfl,h1,h⟩:=iL h;obtain ⟨n,l,rfl,h2,h⟩:=iL h;obtain rfl:=Ko h;obtain ⟨n,rfl,n1,n2⟩:=qp h2;obtain ⟨xs,rfl,h3,h4⟩:=OO h1;obtain ⟨d,hd,rfl⟩:∃d:List dn,(∀x∈d,x.1.length<=140737488351232/\x.2.length<=140737488351232)/\xs=d.map ent:=KF λx hx=>by
  obtain ⟨k1,k2⟩:=h4 x hx;cases x<;>simp [GV.scalar] at k2
  obtain ⟨a,l,e1,a1,k1⟩:=iL k1;obtain ⟨b,l,rfl,b1,k1⟩:=iL k1;obtain rfl:=Ko k1;obtain ⟨s,rfl,s1⟩:=Cc a1;obtain ⟨u,rfl,u1⟩:=Cc b1;simp only [SH] at e1;subst e1;exact ⟨(s,u),⟨Nat.le_trans s1 (by decide),iR u1 (by decide)⟩,rfl⟩
 exact ⟨(d,n),⟨⟨by have:=iR h3 (by decide:reachBytes<=140737488351232);simpa using this,hd⟩,n1,n2⟩,rfl⟩
theorem anp {g:GV} (h:(bI.list true [.list true [.str,.str],.int .u64]).has g):∃l:List Row,Rows l/\g=.l (l.map row):=by
 obtain ⟨xs,rfl,h1,h2⟩:=OO h;obtain ⟨l,hl,rfl⟩:∃l:List Row,(∀r∈l,uZ r.1/\0<=r.2/\r.2 < 18446744073709551616)/\xs=l.map row:=KF λx hx=>by
  obtain ⟨k1,k2⟩:=h2 x hx;cases x<;>simp [GV.scalar] at k2
  obtain ⟨r,hr,e⟩:=agZ (r0:=[]) k1;exact ⟨r,hr,e⟩
 exact ⟨l,⟨by have:=iR h1 (by decide:reachBytes<=140737488351232);simpa using this,hl⟩,rfl⟩
def rH:Option (List UInt8)->List Row->Int
 | _,[]=>0
 | p,r::rs=>if uS r≠0 then uS r else match p with
  | none=>rH (some (K r)) rs
  | some k=>if K r=k then 14 else if Op.bytesLess (K r) k=true then 7 else rH (some (K r)) rs
theorem abS (t:List Row) (ht:Rows t) (hf:∀r∈t,iF r.1=true):∀ (m i:Nat) (p:List UInt8),i+m=t.length->
 TT.lim 54 [.s p,.l (t.map row),.i .i64 t.length,.i .i64 i]=some (tagged (rH (if i=0 then none else some p) (t.drop i)))
 | 0,i,p,hi=>by
  have h0:t.drop i=[]:=gZ (by omega);refine aA rfl rfl ?_;have h:¬ ((i:Int) < t.length):=by omega
  simp [h,h0,rH,tagged]
 | m+1,i,p,hi=>by
  have hlt:i < t.length:=by omega
  have hr:=ht.2 t[i] (jh hlt);have k15:=afy t[i] hr.1;have k6:=O1 t[i].1 (hf _ (jh hlt));have hrow:GV.g [.l (t[i].1.map ent),.i .u64 t[i].2]=row t[i]:=rfl;have ih:TT.lim 54 [.s (iD t[i].1),.l (t.map row),.i .i64 t.length,.i .i64 ((i:Int)+1)]=_:=abS t ht hf m (i+1) (iD t[i].1) (by omega);rw [ah (by omega)] at ih;rw [jw hlt];refine aA rfl rfl ?_;have h:((i:Int) < t.length):=by omega
  have hw:=wrap64 (n:=(i:Int)+1) (by omega) (by have:=ht.1;omega);by_cases h1:uS t[i]=0;rotate_left
  ·simp [-List.getElem_cons_drop,h,hlt,hrow,k15,h1,rH,tagged]
  by_cases h0:i=0
  ·subst h0
   simp only [zF,X7] at hw ih;simp [-List.getElem_cons_drop,h,hlt,hrow,k15,h1,k6,hw,rH];have hn:(0:Int) < (t.length:Int):=by omega
   simpa using ih
  ·have hi0:0 < i:=by omega
   by_cases h2:iD t[i].1=p
   ·have h2':(iD t[i].1=p)=True:=eq_true h2
    clear h2;simp [-List.getElem_cons_drop,h,hlt,hrow,k15,h1,k6,hi0,h0,h2',rH,tagged]
   ·cases h3:Op.bytesLess (iD t[i].1) p with
    | true=>simp [-List.getElem_cons_drop,h,hlt,hrow,k15,h1,k6,hi0,h0,h2,h3,rH,tagged]
    | false=>simp [-List.getElem_cons_drop,h,hlt,hrow,k15,h1,k6,hi0,h0,h2,h3,hw,ih,rH]
def sQ (t:List Row):Int:=if 256 < t.length then 13 else rH none t
theorem Zh (t:List Row) (ht:Rows t) (hf:∀r∈t,iF r.1=true):TT.lim 53 [.l (t.map row)]=some [.i .i64 (sQ t)]:=by
 have h38:TT.lim 54 [.s [],.l (t.map row),.i .i64 t.length,.i .i64 0]=_:=abS t ht hf t.length 0 [] (by omega);rw [aj rfl,eH] at h38;refine aY rfl rfl ?_ rfl;unfold sQ;by_cases h1:256 < t.length
 ·have h1':(256:Int) < (t.length:Int):=by omega
  simp [h1,h1']
 ·have h1':¬ (256:Int) < (t.length:Int):=by omega
  by_cases h2:rH none t=0
  ·simp only [tagged,h2,if_true] at h38
   simp [h1,h1',h38,h2]
  ·simp only [tagged,h2,if_false] at h38
   simp [h1,h1',h38,h2]
theorem Zl:∀ {t:List Row} (p:Option (List UInt8)),Bl t->(∀r∈t,uS r=0)->(∀k,p=some k->∀r∈t,k < K r)->rH p t=0
 | [],p,_,_,_=>by cases p<;>rfl
 | r::t,p,ht,hc,hp=>by
  have ht':=sG.1 ht;have ih:=Zl (t:=t) (some (K r)) ht'.2 (λx hx=>hc x (by simp [hx])) (λk hk x hx=>by cases hk;exact ht'.1 x hx);unfold rH;rw [ah (by simp [hc r (by simp)])];cases p with
  | none=>exact ih
  | some k=>
   have hk:=hp k rfl r (by simp);have h1:¬ K r=k:=λe=>by rw [e] at hk;exact Rx _ hk
   have h2:¬ Op.bytesLess (K r) k=true:=λe=>Rx _ (Ry hk ((Nw _ _).1 e));simp only;rw [ah h1,ah h2];exact ih
theorem Rows.perm {l m:List Row} (h:l.Perm m) (hl:Rows l):Rows m:=⟨by rw [<- h.length_eq];exact hl.1,λr hr=>hl.2 r (h.mem_iff.2 hr)⟩
def Pos (t:List Row):Prop:=∀r∈t,0 < r.2/\r.2 < 18446744073709551616
def PK:List Row->List Row->Option (List Row)
 | [],b=>some b
 | x::a,[]=>some (x::a)
 | x::a,y::b=>
  if K x < K y then (PK a (y::b)).map (x::·)
  else if K y < K x then (PK (x::a) b).map (y::·)
  else if x.2+y.2 < 18446744073709551616 then (PK a b).map ((x.1,x.2+y.2)::·) else none
termination_by a b=>a.length+b.length
theorem TK {d:List dn} (h:iF d=true):d.length<=40:=by
 unfold iF at h;simp at h;omega
def FY (t:List Row):Prop:=∀r∈t,iF r.1=true
def Ok (t:List Row):Prop:=t.length<=256/\Bl t/\∀r∈t,uS r=0
theorem Zk:∀ {t:List Row} (p:Option (List UInt8)),rH p t=0->Bl t/\(∀r∈t,uS r=0)/\∀k,p=some k->∀r∈t,k < K r
 | [],p,_=>⟨List.Pairwise.nil,by simp,by simp⟩
 | r::t,p,h=>by
  unfold rH at h;by_cases h1:uS r=0;rotate_left
  ·rw [aj h1] at h;exact absurd h h1
  rw [ah (by simp [h1])] at h;have main:∀ (h:rH (some (K r)) t=0),Bl (r::t)/\∀x∈r::t,uS x=0:=by
   intro h;obtain ⟨i1,i2,i3⟩:=Zk (some (K r)) h;refine ⟨List.Pairwise.cons (i3 _ rfl) i1,λx hx=>?_⟩;rcases bZ.1 hx with rfl | hx
   ·exact h1
   ·exact i2 x hx
  cases p with
  | none=>exact ⟨(main h).1,(main h).2,by simp⟩
  | some k=>
   simp only at h;split at h
   ·cases h
   next h2=>
   split at h
   ·cases h
   next h3=>
   refine ⟨(main h).1,(main h).2, ?_⟩;rintro _ ⟨⟩ x hx
   have hk:k < K r:=by
    rcases List.le_iff_lt_or_eq.1 (List.not_lt.1 λe=>h3 ((Nw _ _).2 e)) with e | e
    ·exact e
    ·exact absurd e.symm h2
   rcases bZ.1 hx with rfl | hx
   ·exact hk
   ·exact Ry hk ((sG.1 (main h).1).1 x hx)
theorem SK (t:List Row):sQ t=0↔Ok t:=by
 unfold sQ Ok;constructor
 ·intro h
  split at h
  ·cases h
  ·obtain ⟨h1,h2,_⟩:=Zk none h
   exact ⟨by omega,h1,h2⟩
 ·rintro ⟨h1,h2,h3⟩
  rw [ah (by omega)];exact Zl none h2 h3 (by simp)
theorem WS (r:Row):uS r=0↔rM r.1=0/\r.2≠0:=by
 unfold uS;by_cases h:rM r.1=0
 ·simp [h]
 ·simp [h]
structure Tb (t:List Row):Prop where
 ok:Ok t
 rows:Rows t
 few:FY t
theorem Tb.pos {t:List Row} (h:Tb t):Pos t:=λr hr=>by
 have h1:=((WS r).1 (h.ok.2.2 r hr)).2;have h2:=(h.rows.2 r hr).2;omega
theorem Tb.rise {t:List Row} (h:Tb t):Bl t:=h.ok.2.1
def tog (a b:List Row):List Row×Int:=match PK a b with
 | none=>([],3)
 | some m=>if 256 < m.length then ([],13) else (m,0)
structure oV (t:List Row):Prop where
 len:t.length<=300
 few:FY t
 rows:Rows t
theorem Tb.good {t:List Row} (h:Tb t):oV t:=⟨Nat.le_trans h.ok.1 (by decide),h.few,h.rows⟩
abbrev Dl:=Int×Int×List Row
def Zj (d:Dl):Int:=if d.2.1<=d.1 then 20 else sQ d.2.2
theorem oV.tb {t:List Row} (h:oV t) (ho:Ok t):Tb t:=⟨ho,h.rows,h.few⟩
theorem ah6 {l:List Row} (hl:Rows l) (h:BU l=true):oV l:=by
 refine ⟨?_,λr hr=>ahw h r hr,hl⟩;unfold BU at h;rw [aI,decide_eq_true_iff] at h;exact h.2
theorem aoi (a b:List Row) (ha:oV a) (hb:oV b):TT.lim 132 [.l (a.map row),.l (b.map row)]=some [.b (decide (a=b))]:=
 aoe a b (by have:=ha.len;omega) (by have:=hb.len;omega) (λr hr=>(ha.rows.2 r hr).1.1) (λr hr=>(hb.rows.2 r hr).1.1)
abbrev Sn:=Int×List Row
def sn (s:Sn):GV:=.g [.i .u64 s.1,.l (s.2.map row)]
@[simp] theorem auD (s:Sn):(sn s).cells=[.i .u64 s.1,.l (s.2.map row)]:=rfl
@[simp] theorem auE (s:Sn):(sn s).scalar=false:=rfl
def zS:Sn:=(0,[])
def ae5 (s:Sn) (d:Dl):Sn×Int:=
 if sQ s.2≠0 then (zS,sQ s.2) else if Zj d≠0 then (zS,Zj d) else if s.1≠d.1 then (zS,19)
 else if (tog s.2 d.2.2).2≠0 then (zS,(tog s.2 d.2.2).2) else ((d.2.1,(tog s.2 d.2.2).1),0)
def wO (p x:List UInt8):Int:=if x=p then 14 else if Op.bytesLess x p=true then 7 else 0
theorem KC {d:List dn} (hf:iF d=true):(iD d).length<=30000:=by
 unfold iF at hf;rw [aI,decide_eq_true_iff] at hf;have l1:=mJ (n:=d.length) (by omega);have:=TM d hf.1;unfold iD;simp only [dQ];omega
def common:List UInt8->List UInt8->Nat
 | a::x,b::y=>if a=b then common x y+1 else 0
 | _,_=>0
theorem SS (b:List UInt8):common [] b=0:=by unfold common;rfl
theorem afO (a:List UInt8):common a []=0:=by cases a<;>rfl
theorem NR:∀a b:List UInt8,common a b<=a.length/\common a b<=b.length
 | [],b=>by simp [common]
 | _::_,[]=>by simp [common]
 | a::x,b::y=>by
  unfold common;have:=NR x y;split
  ·simp only [iV];omega
  ·omega
theorem Zw:∀a b:List UInt8,a.take (common a b)=b.take (common a b)
 | [],b=>by simp [common]
 | _::_,[]=>by simp [common]
 | a::x,b::y=>by
  unfold common;split
  ·next e=>subst e;rw [xC,xC,Zw x y]
  ·simp
theorem Zu (a b:List UInt8) (ha:a.length<=140737488351232) (hb:b.length<=140737488351232):∀m i:Nat,i+m=a.length->TT.lim 83 [.s a,.s b,.i .i64 i]=some [.i .i64 0,.i .i64 ((i+common (a.drop i) (b.drop i):Nat):Int)]
 | 0,i,hi=>by
  have h0:a.drop i=[]:=gZ (by omega);have h:¬ ((i:Int) < a.length):=by omega
  refine aA rfl rfl ?_;simp [h,h0,SS]
 | m+1,i,hi=>by
  have hlt:i < a.length:=by omega
  have h:((i:Int) < a.length):=by omega
  by_cases hlb:i < b.length;rotate_left
  ·have h0:b.drop i=[]:=gZ (by omega)
   have h1:¬ ((i:Int) < b.length):=by omega
   refine aA rfl rfl ?_;simp [h,h0,h1,afO]
  have hb1:((i:Int) < b.length):=by omega
  have ih:TT.lim 83 [.s a,.s b,.i .i64 ((i:Int)+1)]=_:=Zu a b ha hb m (i+1) (by omega);have hw:=wrap64 (n:=(i:Int)+1) (by omega) (by omega);rw [jw hlt,jw hlb];unfold common;by_cases e:a[i]=b[i]
  ·rw [aj e]
   have e':((a[i].toNat:Int)=(b[i].toNat:Int))=True:=eq_true (by rw [e]);have e2:((i+(common (a.drop (i+1)) (b.drop (i+1))+1):Nat):Int)=((i+1+common (a.drop (i+1)) (b.drop (i+1)):Nat):Int):=by omega
   rw [e2];refine aA rfl rfl ?_;simp [h,hlt,hlb,hb1,e',hw,ih]
  ·rw [ah e]
   have e':¬ (a[i].toNat:Int)=(b[i].toNat:Int):=λh=>e (Yx.1 (by omega));refine aA rfl rfl ?_;simp [h,hlt,hlb,hb1,e']
theorem SQ (a b:List UInt8) (ha:a.length<=140737488351232) (hb:b.length<=140737488351232):TT.lim 82 [.s a,.s b]=some [.i .i64 (common a b)]:=by
 have k:TT.lim 83 [.s a,.s b,.i .i64 0]=_:=Zu a b ha hb a.length 0 (by omega);rw [eH,eH,jk] at k;refine aY rfl rfl ?_ rfl;simp [k]
/-- A text behind another one, as it is written. -/
def pO (a s:List UInt8):List UInt8:=aS (common a s)++aS (s.length - common a s)++s.drop (common a s)
theorem alA (a s:List UInt8) (ha:a.length<=100000000) (hs:s.length<=100000000):TT.lim 81 [.s a,.s s]=some [.s (pO a s)]:=by
 have k:=SQ a s (by omega) (by omega);have hl:=NR a s;have p1:=wX (common a s) (by omega);have p2:=wX (s.length - common a s) (by omega);have l1:=mJ (n:=common a s) (by omega);have l2:=mJ (n:=s.length - common a s) (by omega);have w1:=kC (n:=(common a s:Int)) (by omega) (by omega);have w2:=kC (n:=(s.length:Int) - (common a s:Int)) (by omega) (by omega);have w3:=wrap64 (n:=(s.length:Int) - (common a s:Int)) (by omega) (by omega);have e2:(s.length:Int) - (common a s:Int)=((s.length - common a s:Nat):Int):=by omega
 rw [e2] at w2 w3;refine aY rfl rfl ?_ rfl;unfold pO;generalize common a s=c at *;have h1:((aS c).length:Int)+((aS (s.length - c)).length:Int)<=9223372036854775807:=by omega
 have h2:((aS c).length:Int)+((aS (s.length - c)).length:Int)+((s.length:Int) - (c:Int))<=9223372036854775807:=by omega
 have h3:(c:Int)<=s.length:=by omega
 have h4:((s.length - c:Nat):Int)=(s.length:Int) - c:=by omega
 have hd:(s.take s.length).drop c=s.drop c:=by rw [yx]
 rw [<- e2] at w2 w3;rw [<- e2] at p2;simp [k,p1,p2,w1,w2,w3,h1,h2,h3,h4,hd]
def jU:List UInt8->Nat
 | []=>0
 | b::r=>b.toNat % 128+128 * jU r
def nH:Nat->List UInt8->Option Nat
 | 0,_=>none
 | _+1,[]=>none
 | n+1,b::r=>if b.toNat < 128 then some 1 else (nH n r).map (· + 1)
def rD (k:Nat) (b:Nat):Int:=if k=10/\1 < b then 3 else if 1 < k/\b=0 then 2 else 0
/-- The number that a text begins with, in how many bytes, or why there is none. -/
def au (s:List UInt8):Nat×Nat×Int:=match nH 10 s with
 | none=>(0,0,if 10<=s.length then 3 else 1)
 | some k=>if rD k (s.getD (k - 1) 0).toNat≠0 then (0,0,rD k (s.getD (k - 1) 0).toNat) else (jU (s.take k),k,0)
theorem QZ:∀ {n:Nat} {s:List UInt8} {k:Nat},nH n s=some k->1<=k/\k<=n/\k<=s.length/\(s.getD (k - 1) 0).toNat < 128
 | 0,s,k,h=>by simp [nH] at h
 | n+1,[],k,h=>by simp [nH] at h
 | n+1,b::r,k,h=>by
  unfold nH at h;split at h
  ·next hb=>cases h;simpa using hb
  ·obtain ⟨j,hj,rfl⟩:=aX.1 h
   obtain ⟨h1,h2,h3,h4⟩:=QZ hj;obtain ⟨i,rfl⟩:∃i,j=i+1:=⟨j - 1,by omega⟩
   refine ⟨by omega,by omega,by simp;omega, ?_⟩;simpa using h4
theorem aep:∀ (s:List UInt8),jU s < 128 ^ s.length
 | []=>by simp [jU]
 | b::r=>by
  have:=aep r;simp only [jU,iV,Gg];omega
theorem adA (b i:Nat) (hb:b < 128) (hi:i<=9) (h9:i=9->b<=1):nY .shl .u64 (b:Int) ((7 * i:Nat):Int)=some (.i .u64 ((b * 128 ^ i:Nat):Int)):=by
 have e:min ((7 * i:Nat):Int).toNat 64=7 * i:=by simp;omega
 have e2:(2:Int) ^ (7 * i)=((128 ^ i:Nat):Int):=by rw [Int.pow_mul];simp
 have hlt:b * 128 ^ i < 18446744073709551616:=by
  rcases yA i 9 with h | h
  ·have:(128:Nat) ^ i<=128 ^ 8:=MF (by omega) (by omega)
   have h2:b * 128 ^ i<=127 * 128 ^ 8:=Nat.mul_le_mul (by omega) this;omega
  ·have hi9:i=9:=by omega
   subst hi9;have:=h9 rfl;omega
 unfold nY;rw [ah (by omega)];show some (GV.i .u64 (IntKind.u64.wrap ((b:Int) * 2 ^ (min ((7 * i:Nat):Int).toNat 64))))=_
 rw [e,e2,<- Int.natCast_mul,kC (by omega) (by omega)]
theorem orI (a c i:Nat) (ha:a < 2 ^ i) (h:a+c * 2 ^ i < 18446744073709551616):fE .or .u64 (a:Int) ((c * 2 ^ i:Nat):Int)=some (.i .u64 ((a+c * 2 ^ i:Nat):Int)):=by
 have h1:((BitVec.ofInt 64 (a:Int) ||| BitVec.ofInt 64 ((c * 2 ^ i:Nat):Int)).toNat:Nat)=a+c * 2 ^ i:=by
  rw [BitVec.toNat_or,xu,xu];generalize hC:c * 2 ^ i=C at *;have e1:((a:Int) % ((2 ^ 64:Nat):Int)).toNat=a:=by omega
  have e2:((C:Int) % ((2 ^ 64:Nat):Int)).toNat=C:=by omega
  rw [e1,e2,<- hC,Nat.or_comm,Du,Jh];exact (aeP ha c).symm
 show some (GV.i .u64 (IntKind.u64.wrap (((BitVec.ofInt 64 (a:Int) ||| BitVec.ofInt 64 ((c * 2 ^ i:Nat):Int)).toNat:Nat):Int)))=_
 rw [h1,kC (by omega) (by omega)]
theorem Ip (i:Nat):128 ^ i=2 ^ (7 * i):=by rw [Nat.pow_mul]
/-- Some number, whichever. -/
theorem adB (a b:Int) (hb:0<=b):∃r,nY .shl .u64 a b=some (.i .u64 r):=by
 unfold nY;rw [ah (by omega)];exact ⟨_,rfl⟩
theorem or_some (a b:Int):∃r,fE .or .u64 a b=some (.i .u64 r):=⟨_,rfl⟩
def zZ (s:List UInt8) (acc:Int) (i:Nat):List GV:=match nH (10 - i) (s.drop i) with
 | none=>[.i .i64 1,.s s]
 | some k=>if rD (i+k) (s.getD (i+k - 1) 0).toNat≠0 then [.i .i64 0,.i .u64 0,.i .i64 0,.i .i64 (rD (i+k) (s.getD (i+k - 1) 0).toNat)]
  else [.i .i64 0,.i .u64 (acc+((128 ^ i * jU ((s.drop i).take k):Nat):Int)),.i .i64 ((i+k:Nat):Int),.i .i64 0]
theorem getLoop (s:List UInt8) (hs:s.length<=140737488351232):∀ (m i:Nat) (acc:Int),i+m=min s.length 10->(i<=9->0<=acc/\acc < ((128 ^ i:Nat):Int))->
 TT.lim 95 [.s s,.i .u64 acc,.i .i64 ((min s.length 10:Nat):Int),.i .i64 i]=some (zZ s acc i)
 | 0,i,acc,hi,ha=>by
  have h:¬ ((i:Int) < ((min s.length 10:Nat):Int)):=by omega
  have hv:nH (10 - i) (s.drop i)=none:=by
   rcases yA i 10 with h1 | h1
   ·have:s.drop i=[]:=gZ (by omega)
    rw [this];obtain ⟨j,hj⟩:∃j,10 - i=j+1:=⟨10 - i - 1,by omega⟩
    rw [hj];rfl
   ·have:10 - i=0:=by omega
    rw [this];unfold nH;rfl
  unfold zZ;rw [hv];generalize ((min s.length 10:Nat):Int)=M at *;refine aA rfl rfl ?_;simp [h]
 | m+1,i,acc,hi,ha=>by
  have hlt:i < s.length:=by omega
  have h9:i<=9:=by omega
  have h:((i:Int) < ((min s.length 10:Nat):Int)):=by omega
  obtain ⟨a1,a2⟩:=ha h9;obtain ⟨n,rfl⟩:∃n:Nat,acc=n:=⟨acc.toNat,by omega⟩
  have hb:=(s[i]).toNat_lt;have k7:=YH (s[i]).toNat (by omega);have w8:=kC (n:=(((s[i]).toNat % 128:Nat):Int)) (by omega) (by omega);have wi:=wrap64 (n:=7 * (i:Int)) (by omega) (by omega);have wj:=wrap64 (n:=(i:Int)+1) (by omega) (by omega);have hd:s.drop i=s[i]::s.drop (i+1):=jw hlt;obtain ⟨j,hj⟩:∃j,10 - i=j+1:=⟨10 - i - 1,by omega⟩
  have hj':10 - (i+1)=j:=by omega
  have e7:(7 * (i:Int))=((7 * i:Nat):Int):=by omega
  have hgd:s.getD i 0=s[i]:=by simp [List.getD,hlt]
  by_cases hc:128<=(s[i]).toNat
  ·-- another one follows
   have hc':((128:Int)<=((s[i]).toNat:Int)):=by omega
   have step:∃V:Int,(i+1<=9->0<=V/\V < ((128 ^ (i+1):Nat):Int)/\V=n+(((s[i]).toNat % 128 * 128 ^ i:Nat):Int))/\(∃S,nY .shl .u64 ((((s[i]).toNat % 128:Nat)):Int) (7 * (i:Int))=some (.i .u64 S)/\fE .or .u64 (n:Int) S=some (.i .u64 V)):=by
    rcases yA i 9 with h1 | h1
    ·have k1:=adA ((s[i]).toNat % 128) i (by omega) (by omega) (by omega)
     have hp:(s[i]).toNat % 128 * 128 ^ i<=127 * 128 ^ i:=sJ _ (by omega);have hpp:128 ^ (i+1)=128 * 128 ^ i:=by rw [Gg,Du]
     have hq:(128:Nat) ^ i<=128 ^ 8:=MF (by omega) (by omega);have k2:=orI n ((s[i]).toNat % 128) (7 * i) (by rw [<- Ip];omega) (by rw [<- Ip];omega);rw [<- Ip] at k2;refine ⟨_,λ_=>⟨by omega, ?_,rfl⟩,_,by rw [e7];exact k1,by rw [k2];simp⟩;rw [hpp];omega
    ·obtain ⟨S,hS⟩:=adB ((((s[i]).toNat % 128:Nat)):Int) (7 * (i:Int)) (by omega)
     obtain ⟨V,hV⟩:=or_some (n:Int) S;exact ⟨V,λh=>by omega,S,hS,hV⟩
   obtain ⟨V,hV,S,hS,hO⟩:=step;have ih:TT.lim 95 [.s s,.i .u64 V,.i .i64 ((min s.length 10:Nat):Int),.i .i64 ((i:Int)+1)]=_:=getLoop s hs m (i+1) V (by omega) (λh=>⟨(hV h).1,(hV h).2.1⟩);have hout:zZ s n i=zZ s V (i+1):=by
    unfold zZ;rw [hd,hj,hj'];have hv:nH (j+1) (s[i]::s.drop (i+1))=(nH j (s.drop (i+1))).map (· + 1):=by
     show (if (s[i]).toNat < 128 then _ else _)=_
     rw [ah (by omega)]
    rw [hv];cases hx:nH j (s.drop (i+1)) with
    | none=>rfl
    | some k=>
     obtain ⟨q1,q2,_,_⟩:=QZ hx;have hV':=hV (by omega);have e1:i+(k+1)=i+1+k:=by omega
     simp only [gy,e1];split
     ·rfl
     ·have e2:(n:Int)+((128 ^ i * jU ((s[i]::s.drop (i+1)).take (k+1)):Nat):Int)=V+((128 ^ (i+1) * jU ((s.drop (i+1)).take k):Nat):Int):=by
       rw [hV'.2.2,xC];have:128 ^ i * jU (s[i]::(s.drop (i+1)).take k)=(s[i]).toNat % 128 * 128 ^ i+128 ^ (i+1) * jU ((s.drop (i+1)).take k):=by
        show 128 ^ i * ((s[i]).toNat % 128+128 * jU _)=_
        rw [Nat.mul_add,Gg,Yp,Du (128 ^ i) ((s[i]).toNat % 128)]
       rw [this];omega
      rw [e2]
   rw [hout];generalize zZ s V (i+1)=O at *;generalize ((min s.length 10:Nat):Int)=M at *;have em:(((s[i]).toNat % 128:Nat):Int)=((s[i]).toNat:Int) % 128:=by omega
   rw [em] at k7 w8 hS;refine aA rfl rfl ?_;simp [h,hlt,hc',k7,w8,wi,wj,hS,hO,ih]
  ·-- the last one
   have hc':¬ ((128:Int)<=((s[i]).toNat:Int)):=by omega
   have hv:nH (j+1) (s[i]::s.drop (i+1))=some 1:=by
    show (if (s[i]).toNat < 128 then _ else _)=_
    rw [aj (by omega)]
   have hout:zZ s n i=if rD (i+1) (s[i]).toNat≠0 then [.i .i64 0,.i .u64 0,.i .i64 0,.i .i64 (rD (i+1) (s[i]).toNat)] else [.i .i64 0,.i .u64 ((n+(s[i]).toNat * 128 ^ i:Nat):Int),.i .i64 ((i:Int)+1),.i .i64 0]:=by
    unfold zZ;rw [hd,hj,hv];have e1:i+1 - 1=i:=by omega
    have e2:128 ^ i * jU ((s[i]::s.drop (i+1)).take 1)=(s[i]).toNat * 128 ^ i:=by
     simp only [xC,RG,jU];rw [MB (by omega),Du];simp
    simp only [e1,hgd,e2];congr 1
   rw [hout];have step:∃S V,nY .shl .u64 ((((s[i]).toNat % 128:Nat)):Int) (7 * (i:Int))=some (.i .u64 S)/\fE .or .u64 (n:Int) S=some (.i .u64 V)/\(rD (i+1) (s[i]).toNat=0->V=((n+(s[i]).toNat * 128 ^ i:Nat):Int)):=by
    by_cases hbad:i=9/\1 < (s[i]).toNat
    ·obtain ⟨S,hS⟩:=adB ((((s[i]).toNat % 128:Nat)):Int) (7 * (i:Int)) (by omega)
     obtain ⟨V,hV⟩:=or_some (n:Int) S;refine ⟨S,V,hS,hV,λh=>?_⟩;unfold rD at h;rw [aj (by omega)] at h;cases h
    ·have k1:=adA ((s[i]).toNat % 128) i (by omega) (by omega) (by omega)
     have em:(s[i]).toNat % 128=(s[i]).toNat:=MB (by omega);rw [em] at k1;have hp:(s[i]).toNat * 128 ^ i<=127 * 128 ^ i:=sJ _ (by omega);have hb64:n+(s[i]).toNat * 128 ^ i < 18446744073709551616:=by
      rcases yA i 9 with h1 | h1
      ·have hq:(128:Nat) ^ i<=128 ^ 8:=MF (by omega) (by omega)
       omega
      ·have hi9:i=9:=by omega
       have h1:(s[i]).toNat<=1:=by omega
       have hq:(128:Nat) ^ i=128 ^ 9:=by rw [hi9]
       have hp2:(s[i]).toNat * 128 ^ i<=1 * 128 ^ i:=sJ _ h1;omega
     have k2:=orI n (s[i]).toNat (7 * i) (by rw [<- Ip];omega) (by rw [<- Ip];omega);rw [<- Ip] at k2;exact ⟨_,_,by rw [e7,em];exact k1,k2,λ_=>rfl⟩
   obtain ⟨S,V,hS,hO,hV⟩:=step;generalize ((n+(s[i]).toNat * 128 ^ i:Nat):Int)=R at *;generalize ((min s.length 10:Nat):Int)=M at *;have bd:rD (i+1) (s[i]).toNat=if (i:Int)=9/\(1:Int) < ((s[i]).toNat:Int) then 3 else if (0:Int) < (i:Int)/\((s[i]).toNat:Int)=0 then 2 else 0:=by
    unfold rD;congr 1
    ·apply propext;omega
    ·congr 1
     apply propext;omega
   rw [bd] at hV ⊢;have em:(((s[i]).toNat % 128:Nat):Int)=((s[i]).toNat:Int) % 128:=by omega
   rw [em] at k7 w8 hS;refine aA rfl rfl ?_
   rcases (Ro ((i:Int)=9)).imp eq_true eq_false with q1 | q1<;>rcases (Ro ((1:Int) < ((s[i]).toNat:Int))).imp eq_true eq_false with q2 | q2<;>
    rcases (Ro ((0:Int) < (i:Int))).imp eq_true eq_false with q3 | q3<;>rcases (Ro (((s[i]).toNat:Int)=0)).imp eq_true eq_false with q4 | q4
   all_goals
    have q3n:(0 < i)=((0:Int) < (i:Int)):=propext (by omega);have q4n:((s[i]).toNat=0)=(((s[i]).toNat:Int)=0):=propext (by omega);rw [q3] at q3n;rw [q4] at q4n;simp only [q1,q2,q3,q4,and_self,and_true,and_false,false_and,true_and,if_true,if_false] at hV ⊢;first
    | (have hV:=hV trivial;subst hV)
    | skip
    simp [h,hlt,hc',k7,w8,wi,wj,hS,hO,q1,q2,q3,q4,q3n,q4n]
theorem uG (s:List UInt8) (hs:s.length<=140737488351232):TT.lim 94 [.s s]=some [.i .u64 ((au s).1:Nat),.i .i64 ((au s).2.1:Nat),.i .i64 (au s).2.2]:=by
 have k:TT.lim 95 [.s s,.i .u64 0,.i .i64 ((min s.length 10:Nat):Int),.i .i64 0]=_:=getLoop s hs (min s.length 10) 0 0 (by omega) (by simp);have hm:(if (10:Int) < (s.length:Int) then (10:Int) else (s.length:Int))=((min s.length 10:Nat):Int):=by split<;>omega
 unfold zZ at k;rw [eH,Dw] at k;unfold au;generalize ((min s.length 10:Nat):Int)=M at *;refine aY rfl rfl ?_ rfl;cases hv:nH 10 s with
 | none=>
  rw [hv] at k;by_cases h10:10<=s.length
  ·have h1:(10:Int)<=s.length:=by omega
   simp [hm,k,h10,h1]
  ·have h1:¬ (10:Int)<=s.length:=by omega
   simp [hm,k,h10,h1]
 | some j=>
  rw [hv] at k;simp only [jk,Nat.pow_zero,Dv,X7] at k;by_cases hb:rD j (s.getD (j - 1) 0).toNat=0
  ·simp only [hb,ne_eq,not_true_eq_false,if_false] at k ⊢
   simp [hm,k]
  ·simp only [hb,ne_eq,not_false_eq_true,if_true] at k ⊢
   simp [hm,k]
theorem LH {n:Nat} (h:n < 256):(UInt8.ofNat n).toNat=n:=UInt8.toNat_ofNat_of_lt' h
def uY (n:Nat):Nat:=if n < 128 then n else uY (n / 128)
termination_by n
theorem aeo {n:Nat} (h:n < 128):uY n=n:=by rw [uY,aj h]
theorem aen {n:Nat} (h:¬ n < 128):uY n=uY (n / 128):=by rw [uY,ah h]
theorem Q5 {n:Nat} (h:n < 128):gq n=1:=by unfold gq;rw [AZ h];rfl
theorem arx:∀n:Nat,uY n < 128/\(0 < n->0 < uY n)/\uY n * 128 ^ (gq n - 1)<=n:=by
 intro n;induction n using Nat.strongRecOn with
 | _ n ih=>
  by_cases h:n < 128
  ·rw [aeo h,Q5 h];simp;omega
  ·obtain ⟨h1,h2,h3⟩:=ih (n / 128) (by omega)
   rw [aen h,FT h];refine ⟨h1,λ_=>h2 (by omega), ?_⟩;have hp:=zx (n / 128);obtain ⟨j,hj⟩:∃j,gq (n / 128)=j+1:=⟨gq (n / 128) - 1,by omega⟩
   rw [hj] at h3 ⊢;simp only [Nat.add_sub_cancel] at h3 ⊢;have:uY (n / 128) * 128 ^ (j+1)=uY (n / 128) * 128 ^ j * 128:=by rw [Gg,Yp]
   rw [this];omega
theorem arv:∀ (n:Nat) (x:List UInt8),(aS n++x).getD (gq n - 1) 0=UInt8.ofNat (uY n):=by
 intro n;induction n using Nat.strongRecOn with
 | _ n ih=>
  intro x;by_cases h:n < 128
  ·rw [aeo h,Q5 h,AZ h];rfl
  ·have hp:=zx (n / 128)
   obtain ⟨j,hj⟩:∃j,gq (n / 128)=j+1:=⟨gq (n / 128) - 1,by omega⟩
   have:=ih (n / 128) (by omega) x;rw [aen h,FT h,IX h,<- this,hj];simp
theorem aru:∀ (n k:Nat) (x:List UInt8),gq n<=k->nH k (aS n++x)=some (gq n):=by
 intro n;induction n using Nat.strongRecOn with
 | _ n ih=>
  intro k x hk;have hp:=zx n;obtain ⟨j,rfl⟩:∃j,k=j+1:=⟨k - 1,by omega⟩
  by_cases h:n < 128
  ·rw [Q5 h,AZ h]
   show (if (UInt8.ofNat n).toNat < 128 then _ else _)=_
   rw [aj (by rw [LH (by omega)];exact h)]
  ·rw [FT h] at hk ⊢
   rw [IX h];show (if (UInt8.ofNat (n % 128+128)).toNat < 128 then _ else (nH j (aS (n / 128)++x)).map (· + 1))=_
   rw [ah (by rw [LH (by omega)];omega),ih (n / 128) (by omega) j x (by omega)];rfl
theorem arz:∀n:Nat,jU (aS n)=n:=by
 intro n;induction n using Nat.strongRecOn with
 | _ n ih=>
  by_cases h:n < 128
  ·rw [AZ h]
   simp only [jU];rw [LH (by omega)];omega
  ·rw [IX h]
   simp only [jU];rw [ih (n / 128) (by omega),LH (by omega)];omega
theorem FQ (n:Nat) (x:List UInt8) (hn:n < 18446744073709551616):au (aS n++x)=(n,(aS n).length,0):=by
 have h1:=aru n 10 x (Dk hn);obtain ⟨f1,f2,f3⟩:=arx n;have hg:=arv n x;have hb:rD (gq n) (UInt8.ofNat (uY n)).toNat=0:=by
  rw [LH (by omega)];unfold rD;rw [ah,ah]
  ·rintro ⟨h2,h3⟩
   by_cases h:n < 128
   ·rw [Q5 h] at h2;omega
   ·have:=f2 (by omega);omega
  ·rintro ⟨h2,h3⟩
   rw [h2] at f3;have:2 * 128 ^ 9<=uY n * 128 ^ 9:=sJ _ h3;simp only [show 10 - 1=9 from rfl] at f3;omega
 unfold au;rw [h1];simp only [hg,hb,ne_eq,not_true_eq_false,if_false];have:(aS n++x).take (gq n)=aS n:=by
  unfold gq;simp
 rw [this,arz];rfl
theorem arA (a:List UInt8) (b:UInt8):jU (a++[b])=jU a+128 ^ a.length * (b.toNat % 128):=by
 induction a with
 | nil=>simp [jU]
 | cons c a ih=>
  simp only [dW,jU,ih,iV,Gg,Nat.mul_add,iQ];rw [Du (128 ^ a.length) 128,Yp]
/-- Bytes that are a number's writing. -/
theorem ac7:∀ (j k:Nat) (s:List UInt8),nH j s=some k->(1 < k->(s.getD (k - 1) 0)≠0)->aS (jU (s.take k))=s.take k/\(1 < k\/s.getD (k - 1) 0≠0->jU (s.take k)≠0)
 | 0,k,s,h,_=>by simp [nH] at h
 | j+1,k,[],h,_=>by simp [nH] at h
 | j+1,k,b::r,h,hz=>by
  unfold nH at h;split at h
  ·next hb=>
   cases h;simp only [xC,RG,jU,Nat.mul_zero,lY];rw [MB hb];refine ⟨by rw [AZ hb];simp,λhh=>?_⟩;rcases hh with hh | hh
   ·omega
   ·intro e
    apply hh;simp only [yB,List.getD_cons_zero];exact Yx.1 (by simpa using e)
  ·next hb=>
   obtain ⟨i,hi,rfl⟩:=aX.1 h;obtain ⟨q1,q2,q3,q4⟩:=QZ hi;obtain ⟨l,rfl⟩:∃l,i=l+1:=⟨i - 1,by omega⟩
   have hz':r.getD l 0≠0:=by have:=hz (by omega);simpa using this
   obtain ⟨e1,e2⟩:=ac7 j (l+1) r hi (λ_=>by simpa using hz');have e2:=e2 (.inr (by simpa using hz'));have hb8:=b.toNat_lt;rw [xC];simp only [jU];refine ⟨?_,λ_=>by omega⟩;rw [IX (by omega)];have a1:(b.toNat % 128+128 * jU (r.take (l+1))) % 128+128=b.toNat:=by omega
   have a2:(b.toNat % 128+128 * jU (r.take (l+1))) / 128=jU (r.take (l+1)):=by omega
   rw [a1,a2,e1];simp
structure VOk (s:List UInt8) (n k:Nat):Prop where
 pos:1<=k
 ten:k<=10
 len:k<=s.length
 lt:n < 18446744073709551616
 put:aS n=s.take k
theorem jD {s:List UInt8} (h:(au s).2.2=0):VOk s (au s).1 (au s).2.1:=by
 unfold au at h ⊢;cases hv:nH 10 s with
 | none=>
  rw [hv] at h;simp only at h;split at h<;>cases h
 | some k=>
  rw [hv] at h;simp only at h ⊢;obtain ⟨v1,v2,v3,v4⟩:=QZ hv;by_cases hb:rD k (s.getD (k - 1) 0).toNat=0
  ·simp only [hb,ne_eq,not_true_eq_false,if_false]
   have hz:1 < k->s.getD (k - 1) 0≠0:=by
    intro h1 h2;unfold rD at hb;rw [h2] at hb;split at hb
    ·cases hb
    ·rw [aj ⟨h1,rfl⟩] at hb;cases hb
   refine ⟨v1,v2,v3, ?_,(ac7 10 k s hv hz).1⟩;have e:s.take k=s.take (k - 1)++[s.getD (k - 1) 0]:=by
    obtain ⟨j,rfl⟩:∃j,k=j+1:=⟨k - 1,by omega⟩
    have:j < s.length:=by omega
    simp [List.getD,this]
   have h2:=aep (s.take (k - 1));rw [e,arA,oh,Jj (by omega)];rw [oh,Jj (by omega)] at h2;rcases yA k 10 with h3 | h3
   ·have hq:(128:Nat) ^ (k - 1)<=128 ^ 8:=MF (by omega) (by omega)
    have hq2:128 ^ (k - 1) * ((s.getD (k - 1) 0).toNat % 128)<=128 ^ (k - 1) * 127:=MC _ (by omega);omega
   ·have hK10:k=10:=by omega
    have hb1:(s.getD (k - 1) 0).toNat<=1:=by
     unfold rD at hb;split at hb
     ·cases hb
     ·next h=>omega
    have hq:(128:Nat) ^ (k - 1)=128 ^ 9:=by rw [hK10]
    have hq2:128 ^ (k - 1) * ((s.getD (k - 1) 0).toNat % 128)<=128 ^ (k - 1) * 1:=MC _ (by omega);omega
  ·simp only [hb,ne_eq,not_false_eq_true,if_true] at h
theorem FP {s:List UInt8} (h:(au s).2.2≠0):(au s).1=0/\(au s).2.1=0:=by
 unfold au at h ⊢;cases hv:nH 10 s with
 | none=>exact ⟨rfl,rfl⟩
 | some k=>
  rw [hv] at h;simp only at h ⊢;by_cases hb:rD k (s.getD (k - 1) 0).toNat=0
  ·simp only [hb,ne_eq,not_true_eq_false,if_false] at h
  ·simp only [hb,ne_eq,not_false_eq_true,if_true]
   exact ⟨trivial,trivial⟩
/-- Taken of a cursor. -/
theorem zu (t:List UInt8) (at':Nat) (h:at'<=t.length) (ht:t.length<=140737488351232) :
 TT.lim 100 [.s t,.i .i64 at']=some [.i .i64 0,.i .u64 ((au (t.drop at')).1:Nat),.i .i64 (au (t.drop at')).2.2,.s t,.i .i64 ((at'+(au (t.drop at')).2.1:Nat):Int)]:=by
 have k:=uG (t.drop at') (by rw [eP];omega);have hd:(t.take t.length).drop at'=t.drop at':=by rw [yx]
 have h1:(at':Int)<=t.length:=by omega
 refine aA rfl rfl ?_;by_cases he:(au (t.drop at')).2.2=0
 ·have hv:=jD he
  have hl:=hv.len;have h10:=hv.ten;rw [eP] at hl;generalize (au (t.drop at')).1=n at *;generalize (au (t.drop at')).2.1=j at *;generalize (au (t.drop at')).2.2=e at *;have w1:=kC (n:=(j:Int)) (by omega) (by omega);have w2:=wrap64 (n:=(t.length:Int) - (at':Int)) (by omega) (by omega);have w3:=kC (n:=(t.length:Int) - (at':Int)) (by omega) (by omega);have w4:=wrap64 (n:=(j:Int)) (by omega) (by omega);have w5:=wrap64 (n:=(at':Int)+(j:Int)) (by omega) (by omega);have c1:¬ ((t.length:Int) - (at':Int) < (j:Int)):=by omega
  have c2:(at':Int)<=(at':Int)+(j:Int)/\(at':Int)+(j:Int)<=t.length:=by omega
  subst he;simp [hd,h1,k,w1,w2,w3,w4,w5,c1,c2]
 ·obtain ⟨e1,e2⟩:=FP he
  rw [e1,e2] at k ⊢;generalize (au (t.drop at')).2.2=e at *;simp [hd,h1,k,he]
def kL (e:Int):List UInt8×Nat×Int:=([],0,e)
/-- The text that stands next, how many bytes it took, and the code. -/
def bn (s a0:List UInt8) (first:Bool):List UInt8×Nat×Int:=
 let a:=if first=true then [] else a0
 let v:=au s
 if v.2.2≠0 then kL v.2.2 else
 if a.length < v.1 then kL 23 else
 let v2:=au (s.drop v.2.1)
 if v2.2.2≠0 then kL v2.2.2 else
 if s.length - (v.2.1+v2.2.1) < v2.1 then kL 1 else
 let t:=a.take v.1++(s.drop (v.2.1+v2.2.1)).take v2.1
 if first=false/\Op.bytesLess a t=false then kL 7 else
 if v.1 < common a t then kL 23 else (t,v.2.1+v2.2.1+v2.1,0)
theorem ajN (a t:List UInt8):(Op.bytesLess t a || t==a) = !(Op.bytesLess a t):=by
 rw [Gw,Gw,qE];simp only [mP,decide_eq_true_iff,beq_iff_eq,vZ,decide_eq_false_iff_not];constructor
 ·rintro (h | h) h2
  ·exact Rx _ (Ry h h2)
  ·subst h;exact Rx _ h2
 ·intro h
  by_cases h1:t < a
  ·exact .inl h1
  ·exact .inr (List.le_antisymm (List.not_lt.1 h) (List.not_lt.1 h1))
theorem Zv:∀ (k:Nat) (a x:List UInt8),k<=a.length->k<=common a (a.take k++x)
 | 0,a,x,h=>by omega
 | k+1,[],x,h=>by simp at h
 | k+1,b::a,x,h=>by
  rw [xC,dW];unfold common;rw [aj rfl];have:=Zv k a x (by simpa using h);omega
theorem aml (t a:List UInt8) (first:Bool) (at':Nat) (h:at'<=t.length) (ht:t.length<=100000000) (ha:a.length<=100000000) :
 ∃at2:Nat,TT.lim 125 [.s t,.i .i64 at',.s a,.b first]=some [.i .i64 0,.s (bn (t.drop at') a first).1,.i .i64 (bn (t.drop at') a first).2.2,.s t,.i .i64 at2]/\
  ((bn (t.drop at') a first).2.2=0->at2=at'+(bn (t.drop at') a first).2.1):=by
 have k1:=zu t at' h (by omega);by_cases he:(au (t.drop at')).2.2=0;rotate_left
 ·obtain ⟨e1,e2⟩:=FP he
  have hp:bn (t.drop at') a first=kL (au (t.drop at')).2.2:=by unfold bn;simp only;rw [aj he]
  rw [e1,e2] at k1;rw [hp];clear e1 e2 hp;generalize (au (t.drop at')).2.2=e at *;refine ⟨at',aA rfl rfl ?_,λh=>absurd h he⟩;cases first<;>simp [k1,he,kL]
 have hv:=jD he;have hl:=hv.len;have h64:=hv.lt;have h10:=hv.ten;rw [eP] at hl
 have hpn:∀a':List UInt8,a'=(if first=true then [] else a)->bn (t.drop at') a first=(if a'.length < (au (t.drop at')).1 then kL 23 else
  if (au (t.drop (at'+(au (t.drop at')).2.1))).2.2≠0 then kL (au (t.drop (at'+(au (t.drop at')).2.1))).2.2 else
  if (t.length - at') - ((au (t.drop at')).2.1+(au (t.drop (at'+(au (t.drop at')).2.1))).2.1) < (au (t.drop (at'+(au (t.drop at')).2.1))).1 then kL 1 else
  if first=false/\Op.bytesLess a' (a'.take (au (t.drop at')).1++(t.drop (at'+((au (t.drop at')).2.1+(au (t.drop (at'+(au (t.drop at')).2.1))).2.1))).take (au (t.drop (at'+(au (t.drop at')).2.1))).1)=false then kL 7 else
  if (au (t.drop at')).1 < common a' (a'.take (au (t.drop at')).1++(t.drop (at'+((au (t.drop at')).2.1+(au (t.drop (at'+(au (t.drop at')).2.1))).2.1))).take (au (t.drop (at'+(au (t.drop at')).2.1))).1) then kL 23 else
  (a'.take (au (t.drop at')).1++(t.drop (at'+((au (t.drop at')).2.1+(au (t.drop (at'+(au (t.drop at')).2.1))).2.1))).take (au (t.drop (at'+(au (t.drop at')).2.1))).1,(au (t.drop at')).2.1+(au (t.drop (at'+(au (t.drop at')).2.1))).2.1+(au (t.drop (at'+(au (t.drop at')).2.1))).1,0)):=by
  intro a' ha';unfold bn;simp only [oW,eP,<- ha',he,ne_eq,not_true_eq_false,if_false]
 rw [he] at k1;have k2:=zu t (at'+(au (t.drop at')).2.1) (by omega) (by omega);have hv2:=λh=>jD (s:=t.drop (at'+(au (t.drop at')).2.1)) h;have hv3:=λh=>FP (s:=t.drop (at'+(au (t.drop at')).2.1)) h;generalize hv0:au (t.drop at')=v at *;obtain ⟨n,i,e⟩:=v;simp only at *;generalize hv1:au (t.drop (at'+i))=v2 at *;obtain ⟨m,j,e2⟩:=v2;simp only at *;clear hv0 hv1 hv;subst he;simp only [Bd] at k1 k2
 -- whichever is ahead
 cases first with
 | true=>
  have hp:=hpn [] rfl;rw [hp];clear hp hpn;by_cases c1:0 < n
  ·have c1':(0:Int) < n:=by omega
   rw [aj (by simpa using c1)];refine ⟨at'+i,aA rfl rfl ?_,λh=>by cases h⟩;simp [k1,c1,c1',kL]
  have c1':¬ (0:Int) < n:=by omega
  rw [ah (by simpa using c1)];by_cases c2:e2=0;rotate_left
  ·obtain ⟨q1,q2⟩:=hv3 c2
   subst q1;subst q2;rw [aj c2];refine ⟨at'+i,aA rfl rfl ?_,λh=>absurd h c2⟩;simp [k1,k2,c1,c1',c2,kL]
  subst c2;obtain ⟨q1,q2,q3,q4,_⟩:=hv2 rfl;rw [eP] at q3;rw [ah (by simp)];have w2:=wrap64 (n:=(t.length:Int) - ((at':Int)+(i:Int)+(j:Int))) (by omega) (by omega);have w3:=kC (n:=(t.length:Int) - ((at':Int)+(i:Int)+(j:Int))) (by omega) (by omega);by_cases c3:t.length - at' - (i+j) < m
  ·have c3':(t.length:Int) - ((at':Int)+(i:Int)+(j:Int)) < (m:Int):=by omega
   rw [aj c3];refine ⟨at'+i+j,aA rfl rfl ?_,λh=>by cases h⟩;simp [k1,k2,c1,c1',w2,w3,c3',kL]
  have c3':¬ (t.length:Int) - ((at':Int)+(i:Int)+(j:Int)) < (m:Int):=by omega
  rw [ah c3,ah (by simp)];have n0:n=0:=by omega
  subst n0;have hc:common [] ([]++(t.drop (at'+(i+j))).take m)=0:=SS _;have w4:=wrap64 (n:=(m:Int)) (by omega) (by omega);have w5:=wrap64 (n:=(at':Int)+(i:Int)+(j:Int)+(m:Int)) (by omega) (by omega);have w0:=wrap64 (n:=(0:Int)) (by omega) (by omega);have ts:((t.take (at'+i+j+m)).drop (at'+i+j))=(t.drop (at'+(i+j))).take m:=by
   rw [<- iQ,F7];congr 1;omega
  have kc:=SQ [] ((t.drop (at'+(i+j))).take m) (by simp) (by simp;omega);rw [SS] at kc;have c4:(at':Int)+(i:Int)+(j:Int)<=(at':Int)+(i:Int)+(j:Int)+(m:Int)/\(at':Int)+(i:Int)+(j:Int)+(m:Int)<=t.length:=by omega
  have c5:(0:Int)<=(at':Int)+(i:Int)+(j:Int):=by omega
  have t1:((at':Int)+(i:Int)+(j:Int)+(m:Int)).toNat=at'+i+j+m:=by omega
  have t2:((at':Int)+(i:Int)+(j:Int)).toNat=at'+i+j:=by omega
  rw [List.take_nil,ah (by rw [hc];omega)];have hl0:(((t.drop (at'+(i+j))).take m).length:Int)<=9223372036854775807:=by
   have:((t.drop (at'+(i+j))).take m).length<=t.length:=by rw [oh,eP];omega
   omega
  refine ⟨at'+i+j+m,aA rfl rfl ?_,λ_=>by simp only;omega⟩;rw [cu];generalize (t.drop (at'+(i+j))).take m=X at *;simp [k1,k2,w0,w2,w3,w4,w5,c3',c4,c5,t1,t2,ts,kc,hl0]
 | false=>
  have hp:=hpn a rfl;rw [hp];clear hp hpn;have wa:=kC (n:=(a.length:Int)) (by omega) (by omega);by_cases c1:a.length < n
  ·have c1':(a.length:Int) < n:=by omega
   rw [aj c1];refine ⟨at'+i,aA rfl rfl ?_,λh=>by cases h⟩;simp [k1,c1,c1',wa,kL]
  have c1':¬ (a.length:Int) < n:=by omega
  rw [ah c1];by_cases c2:e2=0;rotate_left
  ·obtain ⟨q1,q2⟩:=hv3 c2
   subst q1;subst q2;rw [aj c2];refine ⟨at'+i,aA rfl rfl ?_,λh=>absurd h c2⟩;simp [k1,k2,c1,c1',c2,wa,kL]
  subst c2;obtain ⟨q1,q2,q3,q4,_⟩:=hv2 rfl;rw [eP] at q3;rw [ah (by simp)];have w2:=wrap64 (n:=(t.length:Int) - ((at':Int)+(i:Int)+(j:Int))) (by omega) (by omega);have w3:=kC (n:=(t.length:Int) - ((at':Int)+(i:Int)+(j:Int))) (by omega) (by omega);by_cases c3:t.length - at' - (i+j) < m
  ·have c3':(t.length:Int) - ((at':Int)+(i:Int)+(j:Int)) < (m:Int):=by omega
   rw [aj c3];refine ⟨at'+i+j,aA rfl rfl ?_,λh=>by cases h⟩;simp [k1,k2,c1,c1',w2,w3,c3',wa,kL]
  have c3':¬ (t.length:Int) - ((at':Int)+(i:Int)+(j:Int)) < (m:Int):=by omega
  rw [ah c3];have w4:=wrap64 (n:=(m:Int)) (by omega) (by omega);have w5:=wrap64 (n:=(at':Int)+(i:Int)+(j:Int)+(m:Int)) (by omega) (by omega);have wn:=wrap64 (n:=(n:Int)) (by omega) (by omega);have ts:((t.take (at'+i+j+m)).drop (at'+i+j))=(t.drop (at'+(i+j))).take m:=by
   rw [<- iQ,F7];congr 1;omega
  have hlx:((t.drop (at'+(i+j))).take m).length<=t.length:=by rw [oh,eP];omega
  have kc:=SQ a (a.take n++(t.drop (at'+(i+j))).take m) (by omega) (by rw [dQ,oh];omega);have c4:(at':Int)+(i:Int)+(j:Int)<=(at':Int)+(i:Int)+(j:Int)+(m:Int)/\(at':Int)+(i:Int)+(j:Int)+(m:Int)<=t.length:=by omega
  have c5:(0:Int)<=(at':Int)+(i:Int)+(j:Int):=by omega
  have c6:(n:Int)<=a.length:=by omega
  have t1:((at':Int)+(i:Int)+(j:Int)+(m:Int)).toNat=at'+i+j+m:=by omega
  have t2:((at':Int)+(i:Int)+(j:Int)).toNat=at'+i+j:=by omega
  have hlm:(min n a.length:Nat)=n:=by omega
  have hl0:(n:Int)+(((t.drop (at'+(i+j))).take m).length:Int)<=9223372036854775807:=by omega
  have hle:=ajN a (a.take n++(t.drop (at'+(i+j))).take m);generalize (t.drop (at'+(i+j))).take m=X at *;by_cases c7:Op.bytesLess a (a.take n++X)=false
  ·rw [aj ⟨rfl,c7⟩]
   rw [c7] at hle;refine ⟨at'+i+j+m,aA rfl rfl ?_,λh=>by cases h⟩;have hle':(Op.bytesLess (a.take n++X) a=true\/a.take n++X=a)=True:=eq_true (by simpa using hle);simp [k1,k2,wa,wn,w2,w3,w4,w5,c1',c3',c4,c5,c6,t1,t2,ts,hl0,hlm,hle',kL]
  ·rw [ah (λh=>c7 h.2)]
   have c7:Op.bytesLess a (a.take n++X)=true:=by simpa using c7
   rw [c7] at hle;have hle':(Op.bytesLess (a.take n++X) a=true\/a.take n++X=a)=False:=eq_false (by simpa using hle);by_cases c8:n < common a (a.take n++X)
   ·have DU:(n:Int) < (common a (a.take n++X):Int):=by omega
    rw [aj c8];refine ⟨at'+i+j+m,aA rfl rfl ?_,λh=>by cases h⟩;simp [k1,k2,wa,wn,w2,w3,w4,w5,c1',c3',c4,c5,c6,t1,t2,ts,hl0,hlm,hle',kc,DU,kL]
   ·have DU:¬ (n:Int) < (common a (a.take n++X):Int):=by omega
    rw [ah c8];refine ⟨at'+i+j+m,aA rfl rfl ?_,λ_=>by simp only;omega⟩;simp [k1,k2,wa,wn,w2,w3,w4,w5,c1',c3',c4,c5,c6,t1,t2,ts,hl0,hlm,hle',kc,DU]
theorem Wx {s a:List UInt8} {first:Bool} (h:(bn s a first).2.2=0):2<=(bn s a first).2.1/\(bn s a first).2.1<=s.length/\(bn s a first).1.length<=(if first=true then 0 else a.length)+(bn s a first).2.1:=by
 have hA:(if first=true then 0 else a.length)=(if first=true then [] else a).length:=by cases first<;>rfl
 rw [hA];clear hA;unfold bn at h ⊢;simp only at h ⊢;generalize (if first=true then [] else a)=a' at h ⊢;split at h
 ·next c=>exact absurd h c
 next c0=>
 rw [ah c0];split at h
 ·cases h
 next c1=>
 rw [ah c1];split at h
 ·next c=>exact absurd h c
 next c2=>
 rw [ah c2];split at h
 ·cases h
 next c3=>
 rw [ah c3];split at h
 ·cases h
 next c4=>
 rw [ah c4];split at h
 ·cases h
 next c5=>
 rw [ah c5];have v1:=jD (s:=s) (by simpa using c0);have v2:=jD (s:=s.drop (au s).2.1) (by simpa using c2);have p1:=v1.pos;have p2:=v2.pos;have l1:=v1.len;have l2:=v2.len;rw [eP] at l2;refine ⟨by simp only;omega,by simp only;omega, ?_⟩;simp only [dQ,oh,eP];omega
theorem acG (a s:List UInt8) (hs:s.length<=100000000):(pO a s).length<=20+s.length:=by
 have hl:=NR a s;have l1:=mJ (n:=common a s) (by omega);have l2:=mJ (n:=s.length - common a s) (by omega);unfold pO;simp only [dQ,eP];omega
/-- A text that stands next: the text, how many bytes it took, the code. -/
def dN (s:List UInt8):List UInt8×Nat×Int:=
 if (au s).2.2≠0 then ([],0,(au s).2.2) else
 if s.length - (au s).2.1 < (au s).1 then ([],0,1) else
 ((s.drop (au s).2.1).take (au s).1,(au s).2.1+(au s).1,0)
theorem QT {s:List UInt8} (h:(dN s).2.2=0):1<=(dN s).2.1/\(dN s).2.1<=s.length/\(dN s).1.length<=s.length:=by
 unfold dN at h ⊢;by_cases h1:(au s).2.2=0;rotate_left
 ·rw [aj h1] at h
  exact absurd h h1
 rw [ah (λe=>e h1)] at h ⊢;obtain ⟨v1,v2,v3,v4,v5⟩:=jD h1;by_cases h2:s.length - (au s).2.1 < (au s).1
 ·rw [aj h2] at h;cases h
 rw [ah h2];simp only [oh,eP];omega
theorem adY (t:List UInt8) (at':Nat) (h:at'<=t.length) (ht:t.length<=100000000) :
 ∃at2:Nat,TT.lim 121 [.s t,.i .i64 at']=some [.i .i64 0,.s (dN (t.drop at')).1,.i .i64 (dN (t.drop at')).2.2,.s t,.i .i64 at2]/\((dN (t.drop at')).2.2=0->at2=at'+(dN (t.drop at')).2.1):=by
 have k1:=zu t at' h (by omega);unfold dN;by_cases he:(au (t.drop at')).2.2=0;rotate_left
 ·obtain ⟨e1,e2⟩:=FP he
  rw [e1,e2] at k1;rw [aj he];generalize (au (t.drop at')).2.2=e at *;refine ⟨at',aA rfl rfl ?_,λh=>absurd h he⟩;simp [k1,he]
 obtain ⟨v1,v2,v3,v4,_⟩:=jD he;rw [ah (λe=>e he)];rw [he] at k1;rw [eP] at v3 ⊢;rw [oW];generalize (au (t.drop at')).1=n at *;generalize (au (t.drop at')).2.1=i at *;have w1:=wrap64 (n:=(t.length:Int) - ((at':Int)+(i:Int))) (by omega) (by omega);have w2:=kC (n:=(t.length:Int) - ((at':Int)+(i:Int))) (by omega) (by omega);simp only [Bd] at k1;by_cases c1:t.length - at' - i < n
 ·have c1':(t.length:Int) - ((at':Int)+(i:Int)) < (n:Int):=by omega
  rw [aj c1];refine ⟨at'+i,aA rfl rfl ?_,λh=>by cases h⟩;simp [k1,w1,w2,c1']
 ·have c1':¬ (t.length:Int) - ((at':Int)+(i:Int)) < (n:Int):=by omega
  rw [ah c1];have w3:=wrap64 (n:=(n:Int)) (by omega) (by omega);have w4:=wrap64 (n:=(at':Int)+(i:Int)+(n:Int)) (by omega) (by omega);have ts:((t.take (at'+i+n)).drop (at'+i))=(t.drop (at'+i)).take n:=by
   rw [F7];congr 1;omega
  have c2:(at':Int)+(i:Int)<=(at':Int)+(i:Int)+(n:Int)/\(at':Int)+(i:Int)+(n:Int)<=t.length:=by omega
  have c3:(0:Int)<=(at':Int)+(i:Int):=by omega
  have t1:((at':Int)+(i:Int)+(n:Int)).toNat=at'+i+n:=by omega
  have t2:((at':Int)+(i:Int)).toNat=at'+i:=by omega
  generalize (t.drop (at'+i)).take n=X at *;refine ⟨at'+i+n,aA rfl rfl ?_,λ_=>by simp only;omega⟩;simp [k1,w1,w2,w3,w4,c1',c2,c3,t1,t2,ts]
/-- An entry that stands next. -/
def cO (s:List UInt8):dn×Nat×Int:=
 if (dN s).2.2≠0 then (([],[]),0,(dN s).2.2) else
 if (dN (s.drop (dN s).2.1)).2.2≠0 then (([],[]),0,(dN (s.drop (dN s).2.1)).2.2) else
 if ql ((dN s).1,(dN (s.drop (dN s).2.1)).1)≠0 then (([],[]),0,ql ((dN s).1,(dN (s.drop (dN s).2.1)).1)) else
 (((dN s).1,(dN (s.drop (dN s).2.1)).1),(dN s).2.1+(dN (s.drop (dN s).2.1)).2.1,0)
theorem NZ {s:List UInt8} (h:(cO s).2.2=0):2<=(cO s).2.1/\(cO s).2.1<=s.length/\ql (cO s).1=0/\(cO s).1.1.length<=s.length/\(cO s).1.2.length<=s.length/\
 (dN s).2.2=0/\(dN (s.drop (dN s).2.1)).2.2=0/\(cO s).1=((dN s).1,(dN (s.drop (dN s).2.1)).1)/\(cO s).2.1=(dN s).2.1+(dN (s.drop (dN s).2.1)).2.1:=by
 unfold cO at h ⊢;by_cases h1:(dN s).2.2=0;rotate_left
 ·rw [aj h1] at h;exact absurd h h1
 rw [ah (λe=>e h1)] at h ⊢;by_cases h2:(dN (s.drop (dN s).2.1)).2.2=0;rotate_left
 ·rw [aj h2] at h;exact absurd h h2
 rw [ah (λe=>e h2)] at h ⊢;by_cases h3:ql ((dN s).1,(dN (s.drop (dN s).2.1)).1)=0;rotate_left
 ·rw [aj h3] at h;exact absurd h h3
 rw [ah (λe=>e h3)];obtain ⟨a1,a2,a3⟩:=QT h1;obtain ⟨b1,b2,b3⟩:=QT h2;rw [eP] at b2 b3;exact ⟨by simp only;omega,by simp only;omega,h3,a3,by simp only;omega,h1,h2,rfl,rfl⟩
theorem agW (t:List UInt8) (at':Nat) (h:at'<=t.length) (ht:t.length<=100000000) :
 ∃at2:Nat,TT.lim 120 [.s t,.i .i64 at']=some [.i .i64 0,.s (cO (t.drop at')).1.1,.s (cO (t.drop at')).1.2,.i .i64 (cO (t.drop at')).2.2,.s t,.i .i64 at2]/\((cO (t.drop at')).2.2=0->at2=at'+(cO (t.drop at')).2.1):=by
 obtain ⟨p,k1,e1⟩:=adY t at' h ht;unfold cO;by_cases h1:(dN (t.drop at')).2.2=0;rotate_left
 ·rw [aj h1]
  generalize dN (t.drop at')=A at *;refine ⟨p,aA rfl rfl ?_,λh=>absurd h h1⟩;simp [k1,h1]
 have e1:=e1 h1;obtain ⟨a1,a2,a3⟩:=QT h1;rw [eP] at a2 a3;have hdd:(t.drop at').drop (dN (t.drop at')).2.1=t.drop p:=by rw [oW,e1]
 obtain ⟨q,k2,e2⟩:=adY t p (by omega) ht;rw [ah (λe=>e h1),hdd];rw [h1] at k1;by_cases h2:(dN (t.drop p)).2.2=0;rotate_left
 ·rw [aj h2]
  generalize dN (t.drop at')=A at *;generalize dN (t.drop p)=B at *;refine ⟨q,aA rfl rfl ?_,λh=>absurd h h2⟩;simp [k1,k2,h2]
 have e2:=e2 h2;obtain ⟨b1,b2,b3⟩:=QT h2;rw [eP] at b2 b3;rw [ah (λe=>e h2)];rw [h2] at k2;have kc:=aap ((dN (t.drop at')).1,(dN (t.drop p)).1) (by simp only;omega) (by simp only;omega);have UN:TT.lim 51 [.g [.s (dN (t.drop at')).1,.s (dN (t.drop p)).1]]=_:=kc;generalize dN (t.drop at')=A at *;generalize dN (t.drop p)=B at *;by_cases h3:ql (A.1,B.1)=0;rotate_left
 ·rw [aj h3]
  refine ⟨q,aA rfl rfl ?_,λh=>absurd h h3⟩;generalize ql (A.1,B.1)=E at *;simp [k1,k2,UN,h3]
 ·rw [ah (λe=>e h3)]
  rw [h3] at UN;refine ⟨q,aA rfl rfl ?_,λ_=>by simp only;omega⟩;simp [k1,k2,UN]
def xI (p:Option dn) (x:dn):Int:=match p with
 | none=>0
 | some k=>wO k.1 x.1
/-- Entries by rising keys: what is read, how many bytes it took, the code. -/
def eX:Nat->Option dn->List UInt8->List dn×Nat×Int
 | 0,_,_=>([],0,0)
 | m+1,p,s=>if (cO s).2.2≠0 then ([],0,(cO s).2.2) else
  if xI p (cO s).1≠0 then ([],0,xI p (cO s).1) else
  if (eX m (some (cO s).1) (s.drop (cO s).2.1)).2.2≠0 then ([],0,(eX m (some (cO s).1) (s.drop (cO s).2.1)).2.2) else
  ((cO s).1::(eX m (some (cO s).1) (s.drop (cO s).2.1)).1,(cO s).2.1+(eX m (some (cO s).1) (s.drop (cO s).2.1)).2.1,0)
theorem NU (m:Nat) (p:Option dn) (s:List UInt8):eX (m+1) p s=if (cO s).2.2≠0 then ([],0,(cO s).2.2) else
 if xI p (cO s).1≠0 then ([],0,xI p (cO s).1) else
 if (eX m (some (cO s).1) (s.drop (cO s).2.1)).2.2≠0 then ([],0,(eX m (some (cO s).1) (s.drop (cO s).2.1)).2.2) else
 ((cO s).1::(eX m (some (cO s).1) (s.drop (cO s).2.1)).1,(cO s).2.1+(eX m (some (cO s).1) (s.drop (cO s).2.1)).2.1,0):=rfl
def y7 (acc:List dn) (t:List UInt8) (at2:Nat) (r:List dn×Nat×Int):List GV:=if r.2.2≠0 then [.i .i64 0,.i .i64 r.2.2,.s t,.i .i64 at2] else [.i .i64 1,.l ((acc++r.1).map ent),.s t,.i .i64 at2]
theorem agR (L:List GV) (n i at' at2:Int) (t:List UInt8) (x:dn) (e:Int) (h:i < n) (he:¬ e=0)
 (k:TT.lim 120 [.s t,.i .i64 at']=some [.i .i64 0,.s x.1,.s x.2,.i .i64 e,.s t,.i .i64 at2]) :
 TT.lim 119 [.l L,.i .i64 n,.i .i64 i,.s t,.i .i64 at']=some [.i .i64 0,.i .i64 e,.s t,.i .i64 at2]:=by
 refine aA rfl rfl ?_;simp [h,k,he]
theorem agP (L:List GV) (n at' at2:Int) (t:List UInt8) (x:dn) (R:List GV) (h:0 < n) (hb:2 * (L.length+1) * 32<=281474976710656/\L.length+1<=281474976710656)
 (k:TT.lim 120 [.s t,.i .i64 at']=some [.i .i64 0,.s x.1,.s x.2,.i .i64 0,.s t,.i .i64 at2])
 (ih:TT.lim 119 [.l (L++[ent x]),.i .i64 n,.i .i64 1,.s t,.i .i64 at2]=some R) :
 TT.lim 119 [.l L,.i .i64 n,.i .i64 0,.s t,.i .i64 at']=some R:=by
 have he:GV.g [.s x.1,.s x.2]=ent x:=rfl;have w1:=wrap64 (n:=1) (by omega) (by omega);refine aA rfl rfl ?_;simp [h,k,he,GV.fO,hb,w1,ih]
theorem agQ (L:List GV) (n:Int) (i:Nat) (at' at2:Int) (t:List UInt8) (p x:dn) (h:(i:Int)+1 < n) (hi:i+1<=100000000) (hl:L.length=i+1) (hg:L[i]? = some (ent p)) (hb:¬ wO p.1 x.1=0)
 (k:TT.lim 120 [.s t,.i .i64 at']=some [.i .i64 0,.s x.1,.s x.2,.i .i64 0,.s t,.i .i64 at2]) :
 TT.lim 119 [.l L,.i .i64 n,.i .i64 ((i:Int)+1),.s t,.i .i64 at']=some [.i .i64 0,.i .i64 (wO p.1 x.1),.s t,.i .i64 at2]:=by
 have h0:(0:Int) < (i:Int)+1:=by omega
 have hii:(i:Int) < (i:Int)+1:=by omega
 have w:=wrap64 (n:=(i:Int)) (by omega) (by omega);have hgi:L[i]'(by omega)=ent p:=by have:=hg;rw [bU (by omega)] at this;exact Dx this
 unfold wO at hb ⊢;by_cases e1:x.1=p.1
 ·have e1':(x.1=p.1)=True:=eq_true e1
  clear e1;refine aA rfl rfl ?_;simp [h,k,h0,hii,w,hl,hg,hgi,e1']
 ·by_cases e2:Op.bytesLess x.1 p.1=true
  ·refine aA rfl rfl ?_
   simp [h,k,h0,hii,w,hl,hg,hgi,e1,e2]
  ·simp [e1,e2] at hb
theorem agS (L:List GV) (n:Int) (i:Nat) (at' at2:Int) (t:List UInt8) (p x:dn) (R:List GV) (h:(i:Int)+1 < n) (hi:i+1<=100000000) (hl:(i:Int) < L.length) (hl2:L.length<=100000000) (hg:L[i]? = some (ent p)) (hb:wO p.1 x.1=0)
 (k:TT.lim 120 [.s t,.i .i64 at']=some [.i .i64 0,.s x.1,.s x.2,.i .i64 0,.s t,.i .i64 at2])
 (ih:TT.lim 119 [.l (L++[ent x]),.i .i64 n,.i .i64 ((i:Int)+1+1),.s t,.i .i64 at2]=some R) :
 TT.lim 119 [.l L,.i .i64 n,.i .i64 ((i:Int)+1),.s t,.i .i64 at']=some R:=by
 have h0:(0:Int) < (i:Int)+1:=by omega
 have hii:(i:Int) < (i:Int)+1:=by omega
 have w:=wrap64 (n:=(i:Int)) (by omega) (by omega);have w2:=wrap64 (n:=(i:Int)+1+1) (by omega) (by omega);have hl3:i < L.length:=by omega
 have hgi:L[i]=ent p:=by have:=hg;rw [bU hl3] at this;exact Dx this
 have he:GV.g [.s x.1,.s x.2]=ent x:=rfl;have hbb:2 * (L.length+1) * 32<=281474976710656/\L.length+1<=281474976710656:=by omega
 unfold wO at hb;have e1:¬ x.1=p.1:=by intro e;rw [aj e] at hb;exact absurd hb (by decide)
 rw [ah e1] at hb;have e2:¬ Op.bytesLess x.1 p.1=true:=by intro e;rw [aj e] at hb;exact absurd hb (by decide)
 have e2:Op.bytesLess x.1 p.1=false:=by simpa using e2
 refine aA rfl rfl ?_;simp [h,k,h0,hii,w,w2,hl,hl3,hg,hgi,e1,e2,he,GV.fO,hbb,ih]
/-- What is ahead. -/
def ajI (acc:List dn) (p:Option dn):Prop:=(acc=[]/\p=none)\/∃a x,acc=a++[x]/\p=some x
theorem ZI (t:List UInt8) (ht:t.length<=100000000) (n:Nat) (hn:n<=1000):∀ (m:Nat) (acc:List dn) (p:Option dn) (at':Nat),acc.length+m=n->ajI acc p->at'<=t.length->
 ∃at2:Nat,TT.lim 119 [.l (acc.map ent),.i .i64 n,.i .i64 acc.length,.s t,.i .i64 at']=some (y7 acc t at2 (eX m p (t.drop at')))/\((eX m p (t.drop at')).2.2=0->at2=at'+(eX m p (t.drop at')).2.1)
 | 0,acc,p,at',hi,hp,h=>by
  have hlt:¬ ((acc.length:Int) < (n:Int)):=by omega
  refine ⟨at', ?_,λ_=>by simp [eX]⟩;have hl:(acc.map ent).length=acc.length:=by simp
  unfold eX y7;simp only [ne_eq,not_true_eq_false,if_false,nK];generalize acc.map ent=L at *;refine aA rfl rfl ?_;simp [hlt]
 | m+1,acc,p,at',hi,hp,h=>by
  obtain ⟨at2,k,e2⟩:=agW t at' h ht;rw [NU];by_cases h1:(cO (t.drop at')).2.2=0;rotate_left
  ·rw [aj h1]
   refine ⟨at2, ?_,λh=>absurd h h1⟩;have:y7 acc t at2 ([],0,(cO (t.drop at')).2.2)=[.i .i64 0,.i .i64 (cO (t.drop at')).2.2,.s t,.i .i64 at2]:=by unfold y7;rw [aj h1]
   rw [this];exact agR _ _ _ _ _ _ _ _ (by omega) h1 k
  rw [ah (λe=>e h1)];rw [h1] at k;have e2:=e2 h1;obtain ⟨a1,a2,_⟩:=NZ h1;rw [eP] at a2;have hdd:(t.drop at').drop (cO (t.drop at')).2.1=t.drop at2:=by rw [oW,e2]
  rw [hdd];have hat:at2<=t.length:=by omega
  generalize hX:(cO (t.drop at')).1=x at *;obtain ⟨at3,ih,e3⟩:=ZI t ht n hn m (acc++[x]) (some x) at2 (by rw [dQ,Bg];omega) (.inr ⟨acc,x,rfl,rfl⟩) hat;have hout:y7 acc t at3 (if (eX m (some x) (t.drop at2)).2.2≠0 then ([],0,(eX m (some x) (t.drop at2)).2.2) else (x::(eX m (some x) (t.drop at2)).1,(cO (t.drop at')).2.1+(eX m (some x) (t.drop at2)).2.1,0))=y7 (acc++[x]) t at3 (eX m (some x) (t.drop at2)):=by
   unfold y7;by_cases hq:(eX m (some x) (t.drop at2)).2.2=0
   ·simp [hq]
   ·simp [hq]
  have hfin:((if (eX m (some x) (t.drop at2)).2.2≠0 then (([]:List dn),0,(eX m (some x) (t.drop at2)).2.2) else (x::(eX m (some x) (t.drop at2)).1,(cO (t.drop at')).2.1+(eX m (some x) (t.drop at2)).2.1,0)).2.2=0->at3=at'+(if (eX m (some x) (t.drop at2)).2.2≠0 then (([]:List dn),0,(eX m (some x) (t.drop at2)).2.2) else (x::(eX m (some x) (t.drop at2)).1,(cO (t.drop at')).2.1+(eX m (some x) (t.drop at2)).2.1,0)).2.1):=by
   by_cases hq:(eX m (some x) (t.drop at2)).2.2=0
   ·rw [ah (λe=>e hq)]
    intro _;have:=e3 hq;simp only;omega
   ·rw [aj hq]
    intro h;exact absurd h hq
  rw [yu] at ih;rcases hp with ⟨rfl,rfl⟩ | ⟨a,y,rfl,rfl⟩
  ·have hb0:xI none x=0:=rfl
   rw [hb0,ah (by simp)];refine ⟨at3, ?_,hfin⟩;rw [hout];exact agP [] n at' at2 t x _ (by simp at hi;omega) (by simp) k ih
  ·by_cases hb:wO y.1 x.1=0
   rotate_left
   ·have hb':xI (some y) x≠0:=hb
    rw [aj hb'];refine ⟨at2, ?_,λh=>absurd h hb⟩;have:y7 (a++[y]) t at2 ([],0,xI (some y) x)=[.i .i64 0,.i .i64 (wO y.1 x.1),.s t,.i .i64 at2]:=by unfold y7;rw [aj hb'];rfl
    rw [this];have hl:((a++[y]).length:Int)=(a.length:Int)+1:=by simp
    rw [hl];rw [dQ,Bg] at hi;exact agQ _ n a.length at' at2 t y x (by omega) (by omega) (by simp) (by simp) hb k
   ·have hb':¬ xI (some y) x≠0:=λe=>e hb
    rw [ah hb'];refine ⟨at3, ?_,hfin⟩;rw [hout];have hl:((a++[y]).length:Int)=(a.length:Int)+1:=by simp
    have hl2:((a++[y]++[x]).length:Int)=(a.length:Int)+1+1:=by simp;omega
    rw [hl];rw [hl2] at ih;rw [dQ,Bg] at hi;exact agS _ n a.length at' at2 t y x _ (by omega) (by omega) (by simp;omega) (by simp;omega) (by simp) hb k ih
def yO (e:Int):List dn×Nat×Int:=([],0,e)
/-- A descriptor that stands next. -/
def kS (s:List UInt8):List dn×Nat×Int:=
 if (au s).2.2≠0 then yO (au s).2.2 else
 if (au s).1=0 then yO 12 else
 if 16 < (au s).1 then yO 13 else
 if (eX (au s).1 none (s.drop (au s).2.1)).2.2≠0 then yO (eX (au s).1 none (s.drop (au s).2.1)).2.2 else
 ((eX (au s).1 none (s.drop (au s).2.1)).1,(au s).2.1+(eX (au s).1 none (s.drop (au s).2.1)).2.1,0)
theorem agL (t:List UInt8) (at':Nat) (h:at'<=t.length) (ht:t.length<=100000000) :
 ∃at2:Nat,TT.lim 118 [.s t,.i .i64 at']=some [.i .i64 0,.l ((kS (t.drop at')).1.map ent),.i .i64 (kS (t.drop at')).2.2,.s t,.i .i64 at2]/\((kS (t.drop at')).2.2=0->at2=at'+(kS (t.drop at')).2.1):=by
 have k1:=zu t at' h (by omega);unfold kS;by_cases he:(au (t.drop at')).2.2=0;rotate_left
 ·obtain ⟨e1,e2⟩:=FP he
  rw [e1,e2] at k1;rw [aj he];generalize (au (t.drop at')).2.2=e at *;refine ⟨at',aA rfl rfl ?_,λh=>absurd h he⟩;simp [k1,he,yO]
 obtain ⟨v1,v2,v3,v4,_⟩:=jD he;rw [ah (λe=>e he)];rw [he] at k1;rw [eP] at v3;rw [oW];by_cases h16:16 < (au (t.drop at')).1
 ·have h0:¬ (au (t.drop at')).1=0:=by omega
  have Ac:(16:Int) < ((au (t.drop at')).1:Nat):=by omega
  rw [ah h0,aj h16];generalize (au (t.drop at')).1=n at *;generalize (au (t.drop at')).2.1=i at *;refine ⟨at'+i,aA rfl rfl ?_,λh=>by cases h⟩;simp only [Bd] at k1;simp [k1,h0,h16,Ac,yO]
 obtain ⟨at2,k2,e2⟩:=ZI t ht (au (t.drop at')).1 (by omega) (au (t.drop at')).1 [] none (at'+(au (t.drop at')).2.1) (by simp) (.inl ⟨rfl,rfl⟩) (by omega);generalize (au (t.drop at')).1=n at *;generalize (au (t.drop at')).2.1=i at *;by_cases h0:n=0
 ·rw [aj h0]
  have h0':((n:Int)=0)=True:=eq_true (by omega);refine ⟨at'+i,aA rfl rfl ?_,λh=>by cases h⟩;simp only [Bd] at k1;simp [k1,h0,h0',yO]
 rw [ah h0,ah h16];have Ac:¬ (16:Int) < (n:Int):=by omega
 have w:=wrap64 (n:=(n:Int)) (by omega) (by omega);have hc:(0:Int)<=(n:Int)/\32 * (n:Int)<=281474976710656/\(n:Int)<=1152921504606846976:=by omega
 have k2':TT.lim 119 [.l [],.i .i64 n,.i .i64 0,.s t,.i .i64 ((at':Int)+(i:Int))]=_:=k2;generalize hdl:eX n none (t.drop (at'+i))=r at *;refine ⟨at2,aA rfl rfl ?_,λh=>?_⟩
 ·simp only [Bd] at k1
  unfold y7 at k2';by_cases hq:r.2.2=0
  ·simp only [hq,ne_eq,not_true_eq_false,if_false,cu] at k2' ⊢
   simp [k1,h0,h16,Ac,w,hc,k2',GV.fO]
  ·simp only [hq,ne_eq,not_false_eq_true,if_true] at k2' ⊢
   simp [k1,h0,h16,Ac,w,hc,k2',GV.fO,yO]
 ·by_cases hq:r.2.2=0
  ·rw [ah (λe=>e hq)]
   have:=e2 hq;simp only;omega
  ·rw [aj hq] at h
   exact absurd h hq
/-- A whole text, as a descriptor. -/
def pF (s:List UInt8):List dn×Int:=
 if (kS s).2.2≠0 then ([],(kS s).2.2) else if (kS s).2.1 < s.length then ([],10) else ((kS s).1,0)
theorem Td:∀ (m:Nat) (p:Option dn) (s:List UInt8),(eX m p s).2.2=0->(eX m p s).2.1<=s.length/\(eX m p s).1.length=m/\∀x∈(eX m p s).1,ql x=0/\x.1.length<=s.length/\x.2.length<=s.length
 | 0,p,s,_=>by simp [eX]
 | m+1,p,s,h=>by
  rw [NU] at h ⊢;by_cases h1:(cO s).2.2=0;rotate_left
  ·rw [aj h1] at h;exact absurd h h1
  rw [ah (λe=>e h1)] at h ⊢;by_cases h2:xI p (cO s).1=0;rotate_left
  ·rw [aj h2] at h;exact absurd h h2
  rw [ah (λe=>e h2)] at h ⊢;by_cases h3:(eX m (some (cO s).1) (s.drop (cO s).2.1)).2.2=0;rotate_left
  ·rw [aj h3] at h;exact absurd h h3
  rw [ah (λe=>e h3)];obtain ⟨a1,a2,a3,a4,a5,_⟩:=NZ h1;obtain ⟨b1,b2,b3⟩:=Td m (some (cO s).1) _ h3;rw [eP] at b1;refine ⟨by simp only;omega,by simp [b2],λx hx=>?_⟩;rcases bZ.1 hx with rfl | hx
  ·exact ⟨a3,a4,a5⟩
  ·obtain ⟨c1,c2,c3⟩:=b3 x hx
   rw [eP] at c2 c3;exact ⟨c1,by omega,by omega⟩
theorem ZL {s:List UInt8} (h:(kS s).2.2=0):(au s).2.2=0/\0 < (au s).1/\(au s).1<=16/\(eX (au s).1 none (s.drop (au s).2.1)).2.2=0/\(kS s).1=(eX (au s).1 none (s.drop (au s).2.1)).1/\
 (kS s).2.1=(au s).2.1+(eX (au s).1 none (s.drop (au s).2.1)).2.1/\(kS s).2.1<=s.length:=by
 unfold kS at h ⊢;by_cases h1:(au s).2.2=0;rotate_left
 ·rw [aj h1] at h;exact absurd h h1
 rw [ah (λe=>e h1)] at h ⊢;by_cases h2:(au s).1=0
 ·rw [aj h2] at h;exact absurd h (by simp [yO])
 rw [ah h2] at h ⊢;by_cases h3:16 < (au s).1
 ·rw [aj h3] at h;exact absurd h (by simp [yO])
 rw [ah h3] at h ⊢;by_cases h4:(eX (au s).1 none (s.drop (au s).2.1)).2.2=0;rotate_left
 ·rw [aj h4] at h;exact absurd h h4
 rw [ah (λe=>e h4)];obtain ⟨v1,v2,v3,_,_⟩:=jD h1;obtain ⟨d1,_,_⟩:=Td _ _ _ h4;rw [eP] at d1;exact ⟨h1,by omega,by omega,h4,rfl,rfl,by simp only;omega⟩
theorem ZM (s:List UInt8) (hs:s.length<=100000000):TT.lim 117 [.s s]=some [.l ((pF s).1.map ent),.i .i64 (pF s).2]:=by
 obtain ⟨at2,k,e2⟩:=agL s 0 (by omega) hs;rw [eH,show ((0:Nat):Int)=0 from rfl] at k;rw [eH] at e2;unfold pF;by_cases h1:(kS s).2.2=0;rotate_left
 ·rw [aj h1]
  generalize kS s=r at *;refine aY rfl rfl ?_ (by rfl);simp [k,h1]
 have e2:=e2 h1;obtain ⟨_,_,_,_,_,_,a7⟩:=ZL h1;rw [ah (λe=>e h1)];rw [h1] at k;rw [jk] at e2;have w:=wrap64 (n:=(s.length:Int) - (at2:Int)) (by omega) (by omega);rw [<- e2] at a7 ⊢;generalize kS s=r at *;by_cases h2:at2 < s.length
 ·rw [aj h2]
  refine aY rfl rfl ?_ rfl;simp [k,w,h2]
 ·rw [ah h2]
  refine aY rfl rfl ?_ rfl;simp [k,w,h2]
def Fg (e:Int):Row×Nat×Int:=(([],0),0,e)
/-- The row of a key, whose number stands next. -/
def fF (key s:List UInt8):Row×Nat×Int:=
 if (pF key).2≠0 then Fg (pF key).2 else
 if (au s).2.2≠0 then Fg (au s).2.2 else
 if (au s).1=0 then Fg 17 else (((pF key).1,((au s).1:Nat)),(au s).2.1,0)
theorem WG {key s:List UInt8} (h:(fF key s).2.2=0):(pF key).2=0/\(au s).2.2=0/\(au s).1≠0/\(fF key s).1=((pF key).1,(((au s).1:Nat):Int))/\(fF key s).2.1=(au s).2.1:=by
 unfold fF at h ⊢;by_cases h1:(pF key).2=0;rotate_left
 ·rw [aj h1] at h;exact absurd h h1
 rw [ah (λe=>e h1)] at h ⊢;by_cases h2:(au s).2.2=0;rotate_left
 ·rw [aj h2] at h;exact absurd h h2
 rw [ah (λe=>e h2)] at h ⊢;by_cases h3:(au s).1=0
 ·rw [aj h3] at h;exact absurd h (by simp [Fg])
 rw [ah h3];exact ⟨h1,h2,h3,rfl,rfl⟩
theorem rowP (key t:List UInt8) (at':Nat) (h:at'<=t.length) (ht:t.length<=100000000) (hk:key.length<=100000000) :
 ∃at2:Nat,TT.lim 126 [.s key,.s t,.i .i64 at']=some [.i .i64 0,.l ((fF key (t.drop at')).1.1.map ent),.i .u64 (fF key (t.drop at')).1.2,.i .i64 (fF key (t.drop at')).2.2,.s t,.i .i64 at2]/\
  ((fF key (t.drop at')).2.2=0->at2=at'+(fF key (t.drop at')).2.1):=by
 have k1:=ZM key hk;have k2:=zu t at' h (by omega);unfold fF;generalize pF key=D at *;by_cases h1:D.2=0;rotate_left
 ·rw [aj h1]
  refine ⟨at',aA rfl rfl ?_,λh=>absurd h h1⟩;simp [k1,h1,Fg]
 rw [ah (λe=>e h1)];by_cases h2:(au (t.drop at')).2.2=0;rotate_left
 ·obtain ⟨e1,e2⟩:=FP h2
  rw [e1,e2] at k2;rw [aj h2];generalize au (t.drop at')=V at *;refine ⟨at',aA rfl rfl ?_,λh=>absurd h h2⟩;simp [k1,k2,h1,h2,Fg]
 rw [ah (λe=>e h2)];rw [h2] at k2;simp only [Bd] at k2;generalize au (t.drop at')=V at *;by_cases h3:V.1=0
 ·rw [aj h3]
  rw [h3] at k2;refine ⟨at'+V.2.1,aA rfl rfl ?_,λh=>by cases h⟩;simp [k1,k2,h1,Fg]
 ·rw [ah h3]
  refine ⟨at'+V.2.1,aA rfl rfl ?_,λ_=>rfl⟩;simp [k1,k2,h1,h3]
/-- Rows, one behind the other. -/
def fH:Nat->List UInt8->Bool->List UInt8->List Row×Nat×Int
 | 0,_,_,_=>([],0,0)
 | m+1,a,first,s=>if (bn s a first).2.2≠0 then ([],0,(bn s a first).2.2) else
  if (fF (bn s a first).1 (s.drop (bn s a first).2.1)).2.2≠0 then ([],0,(fF (bn s a first).1 (s.drop (bn s a first).2.1)).2.2) else
  if (fH m (bn s a first).1 false (s.drop ((bn s a first).2.1+(fF (bn s a first).1 (s.drop (bn s a first).2.1)).2.1))).2.2≠0 then ([],0,(fH m (bn s a first).1 false (s.drop ((bn s a first).2.1+(fF (bn s a first).1 (s.drop (bn s a first).2.1)).2.1))).2.2) else
  ((fF (bn s a first).1 (s.drop (bn s a first).2.1)).1::(fH m (bn s a first).1 false (s.drop ((bn s a first).2.1+(fF (bn s a first).1 (s.drop (bn s a first).2.1)).2.1))).1,
   (bn s a first).2.1+(fF (bn s a first).1 (s.drop (bn s a first).2.1)).2.1+(fH m (bn s a first).1 false (s.drop ((bn s a first).2.1+(fF (bn s a first).1 (s.drop (bn s a first).2.1)).2.1))).2.1,0)
theorem P8 (m:Nat) (a:List UInt8) (first:Bool) (s:List UInt8):fH (m+1) a first s=if (bn s a first).2.2≠0 then ([],0,(bn s a first).2.2) else
 if (fF (bn s a first).1 (s.drop (bn s a first).2.1)).2.2≠0 then ([],0,(fF (bn s a first).1 (s.drop (bn s a first).2.1)).2.2) else
 if (fH m (bn s a first).1 false (s.drop ((bn s a first).2.1+(fF (bn s a first).1 (s.drop (bn s a first).2.1)).2.1))).2.2≠0 then ([],0,(fH m (bn s a first).1 false (s.drop ((bn s a first).2.1+(fF (bn s a first).1 (s.drop (bn s a first).2.1)).2.1))).2.2) else
 ((fF (bn s a first).1 (s.drop (bn s a first).2.1)).1::(fH m (bn s a first).1 false (s.drop ((bn s a first).2.1+(fF (bn s a first).1 (s.drop (bn s a first).2.1)).2.1))).1,
  (bn s a first).2.1+(fF (bn s a first).1 (s.drop (bn s a first).2.1)).2.1+(fH m (bn s a first).1 false (s.drop ((bn s a first).2.1+(fF (bn s a first).1 (s.drop (bn s a first).2.1)).2.1))).2.1,0):=rfl
def y9 (acc:List Row) (t:List UInt8) (at2:Nat) (r:List Row×Nat×Int):List GV:=if r.2.2≠0 then [.i .i64 0,.i .i64 r.2.2,.s t,.i .i64 at2] else [.i .i64 1,.l ((acc++r.1).map row),.s t,.i .i64 at2]
theorem amr (L:List GV) (a t X:List UInt8) (n i at' at2:Int) (first:Bool) (e:Int) (h:i < n) (hf:decide (i=0)=first) (he:¬ e=0)
 (k:TT.lim 125 [.s t,.i .i64 at',.s a,.b first]=some [.i .i64 0,.s X,.i .i64 e,.s t,.i .i64 at2]) :
 TT.lim 124 [.l L,.s a,.i .i64 n,.i .i64 i,.s t,.i .i64 at']=some [.i .i64 0,.i .i64 e,.s t,.i .i64 at2]:=by
 refine aA rfl rfl ?_;simp [h,hf,k,he]
theorem amu (L:List GV) (a t X:List UInt8) (D:List GV) (N:Int) (n i at' at2 at3:Int) (first:Bool) (e:Int) (h:i < n) (hf:decide (i=0)=first) (he:¬ e=0)
 (k:TT.lim 125 [.s t,.i .i64 at',.s a,.b first]=some [.i .i64 0,.s X,.i .i64 0,.s t,.i .i64 at2])
 (k2:TT.lim 126 [.s X,.s t,.i .i64 at2]=some [.i .i64 0,.l D,.i .u64 N,.i .i64 e,.s t,.i .i64 at3]) :
 TT.lim 124 [.l L,.s a,.i .i64 n,.i .i64 i,.s t,.i .i64 at']=some [.i .i64 0,.i .i64 e,.s t,.i .i64 at3]:=by
 refine aA rfl rfl ?_;simp [h,hf,k,k2,he]
theorem ams (L:List GV) (a t X:List UInt8) (D:List GV) (N:Int) (n i at' at2 at3:Int) (first:Bool) (R:List GV) (h:i < n) (hf:decide (i=0)=first) (hw:IntKind.i64.wrap (i+1)=i+1) (hb:L.length<=100000000)
 (k:TT.lim 125 [.s t,.i .i64 at',.s a,.b first]=some [.i .i64 0,.s X,.i .i64 0,.s t,.i .i64 at2])
 (k2:TT.lim 126 [.s X,.s t,.i .i64 at2]=some [.i .i64 0,.l D,.i .u64 N,.i .i64 0,.s t,.i .i64 at3])
 (ih:TT.lim 124 [.l (L++[.g [.l D,.i .u64 N]]),.s X,.i .i64 n,.i .i64 (i+1),.s t,.i .i64 at3]=some R) :
 TT.lim 124 [.l L,.s a,.i .i64 n,.i .i64 i,.s t,.i .i64 at']=some R:=by
 have hbb:2 * (L.length+1) * 32<=281474976710656/\L.length+1<=281474976710656:=by omega
 refine aA rfl rfl ?_;simp [h,hf,k,k2,hw,GV.fO,hbb,ih]
theorem acT (t:List UInt8) (ht:t.length<=100000000) (n:Nat) (hn:n<=1000):∀ (m:Nat) (acc:List Row) (a:List UInt8) (at':Nat),acc.length+m=n->at'<=t.length->a.length<=at'->
 ∃at2:Nat,TT.lim 124 [.l (acc.map row),.s a,.i .i64 n,.i .i64 acc.length,.s t,.i .i64 at']=some (y9 acc t at2 (fH m a (decide ((acc.length:Int)=0)) (t.drop at')))/\
  ((fH m a (decide ((acc.length:Int)=0)) (t.drop at')).2.2=0->at2=at'+(fH m a (decide ((acc.length:Int)=0)) (t.drop at')).2.1)
 | 0,acc,a,at',hi,h,ha=>by
  have hlt:¬ ((acc.length:Int) < (n:Int)):=by omega
  refine ⟨at', ?_,λ_=>by simp [fH]⟩;unfold fH y9;simp only [ne_eq,not_true_eq_false,if_false,nK];generalize acc.map row=L at *;refine aA rfl rfl ?_;simp [hlt]
 | m+1,acc,a,at',hi,h,ha=>by
  obtain ⟨at2,k,e2⟩:=aml t a (decide ((acc.length:Int)=0)) at' h ht (by omega);rw [P8];generalize hf:decide ((acc.length:Int)=0)=first at *
  by_cases h1:(bn (t.drop at') a first).2.2=0;rotate_left
  ·rw [aj h1]
   refine ⟨at2, ?_,λh=>absurd h h1⟩;have:y9 acc t at2 ([],0,(bn (t.drop at') a first).2.2)=[.i .i64 0,.i .i64 (bn (t.drop at') a first).2.2,.s t,.i .i64 at2]:=by unfold y9;rw [aj h1]
   rw [this];exact amr _ _ _ _ _ _ _ _ _ _ (by omega) hf h1 k
  rw [ah (λe=>e h1)];rw [h1] at k;have e2:=e2 h1;obtain ⟨a1,a2,a3⟩:=Wx h1;rw [eP] at a2;have hdd:∀j,(t.drop at').drop ((bn (t.drop at') a first).2.1+j)=t.drop (at2+j):=by intro j;rw [oW,e2,iQ]
  have aiI:(t.drop at').drop (bn (t.drop at') a first).2.1=t.drop at2:=by rw [oW,e2]
  have hal:(bn (t.drop at') a first).1.length<=at2:=by split at a3<;>omega
  rw [hdd,aiI];generalize (bn (t.drop at') a first).1=X at *;generalize (bn (t.drop at') a first).2.1=j1 at *;obtain ⟨at3,k2,e3⟩:=rowP X t at2 (by omega) ht (by omega);by_cases h2:(fF X (t.drop at2)).2.2=0;rotate_left
  ·rw [aj h2]
   refine ⟨at3, ?_,λh=>absurd h h2⟩;have:y9 acc t at3 ([],0,(fF X (t.drop at2)).2.2)=[.i .i64 0,.i .i64 (fF X (t.drop at2)).2.2,.s t,.i .i64 at3]:=by unfold y9;rw [aj h2]
   rw [this];exact amu _ _ _ _ _ _ _ _ _ _ _ _ _ (by omega) hf h2 k k2
  rw [ah (λe=>e h2)];rw [h2] at k2;have e3:=e3 h2;obtain ⟨_,q2,_,_,q5⟩:=WG h2;obtain ⟨v1,v2,v3,_,_⟩:=jD q2;rw [eP] at v3;have e3':at2+(fF X (t.drop at2)).2.1=at3:=e3.symm;rw [e3'];have hrow:GV.g [.l ((fF X (t.drop at2)).1.1.map ent),.i .u64 (fF X (t.drop at2)).1.2]=row (fF X (t.drop at2)).1:=rfl;obtain ⟨at4,ih,e4⟩:=acT t ht n hn m (acc++[(fF X (t.drop at2)).1]) X at3 (by rw [dQ,Bg];omega) (by omega) (by omega);have hfalse:decide (((acc++[(fF X (t.drop at2)).1]).length:Int)=0)=false:=by simp;omega
  have hl:((acc++[(fF X (t.drop at2)).1]).length:Int)=(acc.length:Int)+1:=by simp
  rw [hfalse] at ih e4;rw [hl,yu] at ih;generalize (fF X (t.drop at2)).1=Q at *;generalize (fF X (t.drop at2)).2.1=j2 at *;have hout:y9 acc t at4 (if (fH m X false (t.drop at3)).2.2≠0 then ([],0,(fH m X false (t.drop at3)).2.2) else (Q::(fH m X false (t.drop at3)).1,j1+j2+(fH m X false (t.drop at3)).2.1,0))=y9 (acc++[Q]) t at4 (fH m X false (t.drop at3)):=by
   unfold y9;by_cases hq:(fH m X false (t.drop at3)).2.2=0
   ·simp [hq]
   ·simp [hq]
  refine ⟨at4, ?_, ?_⟩
  ·rw [hout]
   exact ams _ _ _ _ _ _ _ _ _ _ _ _ _ (by omega) hf (wrap64 (by omega) (by omega)) (by simp;omega) k k2 (by rw [hrow];exact ih)
  ·by_cases hq:(fH m X false (t.drop at3)).2.2=0
   ·rw [ah (λe=>e hq)]
    intro _;have:=e4 hq;simp only;omega
   ·rw [aj hq]
    intro h;exact absurd h hq
def Eo (e:Int):List Row×Nat×Int:=([],0,e)
/-- A table that stands next. -/
def kE (s:List UInt8):List Row×Nat×Int:=
 if (au s).2.2≠0 then Eo (au s).2.2 else
 if 256 < (au s).1 then Eo 13 else
 if (fH (au s).1 [] true (s.drop (au s).2.1)).2.2≠0 then Eo (fH (au s).1 [] true (s.drop (au s).2.1)).2.2 else
 ((fH (au s).1 [] true (s.drop (au s).2.1)).1,(au s).2.1+(fH (au s).1 [] true (s.drop (au s).2.1)).2.1,0)
theorem ajA (t:List UInt8) (at':Nat) (h:at'<=t.length) (ht:t.length<=100000000) :
 ∃at2:Nat,TT.lim 123 [.s t,.i .i64 at']=some [.i .i64 0,.l ((kE (t.drop at')).1.map row),.i .i64 (kE (t.drop at')).2.2,.s t,.i .i64 at2]/\((kE (t.drop at')).2.2=0->at2=at'+(kE (t.drop at')).2.1):=by
 have k1:=zu t at' h (by omega);unfold kE;by_cases he:(au (t.drop at')).2.2=0;rotate_left
 ·obtain ⟨e1,e2⟩:=FP he
  rw [e1,e2] at k1;rw [aj he];generalize (au (t.drop at')).2.2=e at *;refine ⟨at',aA rfl rfl ?_,λh=>absurd h he⟩;simp [k1,he,Eo]
 obtain ⟨v1,v2,v3,v4,_⟩:=jD he;rw [ah (λe=>e he)];rw [he] at k1;rw [eP] at v3;rw [oW];by_cases h16:256 < (au (t.drop at')).1
 ·have Ac:(256:Int) < ((au (t.drop at')).1:Nat):=by omega
  rw [aj h16];generalize (au (t.drop at')).1=n at *;generalize (au (t.drop at')).2.1=i at *;refine ⟨at'+i,aA rfl rfl ?_,λh=>by cases h⟩;simp only [Bd] at k1;simp [k1,h16,Ac,Eo]
 obtain ⟨at2,k2,e2⟩:=acT t ht (au (t.drop at')).1 (by omega) (au (t.drop at')).1 [] [] (at'+(au (t.drop at')).2.1) (by simp) (by omega) (by simp);generalize (au (t.drop at')).1=n at *;generalize (au (t.drop at')).2.1=i at *;rw [ah h16];have Ac:¬ (256:Int) < (n:Int):=by omega
 have w:=wrap64 (n:=(n:Int)) (by omega) (by omega);have hc:(0:Int)<=(n:Int)/\32 * (n:Int)<=281474976710656/\(n:Int)<=1152921504606846976:=by omega
 rw [show decide ((([]:List Row).length:Int)=0)=true from rfl] at k2 e2;have k2':TT.lim 124 [.l [],.s [],.i .i64 n,.i .i64 0,.s t,.i .i64 ((at':Int)+(i:Int))]=_:=k2;generalize fH n [] true (t.drop (at'+i))=r at *;refine ⟨at2,aA rfl rfl ?_,λh=>?_⟩
 ·simp only [Bd] at k1
  unfold y9 at k2';by_cases hq:r.2.2=0
  ·simp only [hq,ne_eq,not_true_eq_false,if_false,cu] at k2' ⊢
   simp [k1,h16,Ac,w,hc,k2',GV.fO]
  ·simp only [hq,ne_eq,not_false_eq_true,if_true] at k2' ⊢
   simp [k1,h16,Ac,w,hc,k2',GV.fO,Eo]
 ·by_cases hq:r.2.2=0
  ·rw [ah (λe=>e hq)]
   have:=e2 hq;simp only;omega
  ·rw [aj hq] at h
   exact absurd h hq
/-- A whole text, as a table. -/
def pV (s:List UInt8):List Row×Int:=
 if (kE s).2.2≠0 then ([],(kE s).2.2) else if (kE s).2.1 < s.length then ([],10) else ((kE s).1,0)
theorem Wv:∀ (m:Nat) (a:List UInt8) (first:Bool) (s:List UInt8),(fH m a first s).2.2=0->(fH m a first s).2.1<=s.length/\(fH m a first s).1.length=m
 | 0,a,first,s,_=>by simp [fH]
 | m+1,a,first,s,h=>by
  rw [P8] at h ⊢;by_cases h1:(bn s a first).2.2=0;rotate_left
  ·rw [aj h1] at h;exact absurd h h1
  rw [ah (λe=>e h1)] at h ⊢;by_cases h2:(fF (bn s a first).1 (s.drop (bn s a first).2.1)).2.2=0;rotate_left
  ·rw [aj h2] at h;exact absurd h h2
  rw [ah (λe=>e h2)] at h ⊢;by_cases h3:(fH m (bn s a first).1 false (s.drop ((bn s a first).2.1+(fF (bn s a first).1 (s.drop (bn s a first).2.1)).2.1))).2.2=0;rotate_left
  ·rw [aj h3] at h;exact absurd h h3
  rw [ah (λe=>e h3)];obtain ⟨a1,a2,_⟩:=Wx h1;obtain ⟨_,q2,_,_,q5⟩:=WG h2;obtain ⟨v1,v2,v3,_,_⟩:=jD q2;rw [eP] at v3;obtain ⟨b1,b2⟩:=Wv m _ _ _ h3;rw [eP] at b1;exact ⟨by simp only;omega,by simp [b2]⟩
theorem abw {s:List UInt8} (h:(kE s).2.2=0):(au s).2.2=0/\(au s).1<=256/\(fH (au s).1 [] true (s.drop (au s).2.1)).2.2=0/\(kE s).1=(fH (au s).1 [] true (s.drop (au s).2.1)).1/\
 (kE s).2.1=(au s).2.1+(fH (au s).1 [] true (s.drop (au s).2.1)).2.1/\(kE s).2.1<=s.length:=by
 unfold kE at h ⊢;by_cases h1:(au s).2.2=0;rotate_left
 ·rw [aj h1] at h;exact absurd h h1
 rw [ah (λe=>e h1)] at h ⊢;by_cases h3:256 < (au s).1
 ·rw [aj h3] at h;exact absurd h (by simp [Eo])
 rw [ah h3] at h ⊢;by_cases h4:(fH (au s).1 [] true (s.drop (au s).2.1)).2.2=0;rotate_left
 ·rw [aj h4] at h;exact absurd h h4
 rw [ah (λe=>e h4)];obtain ⟨v1,v2,v3,_,_⟩:=jD h1;obtain ⟨d1,_⟩:=Wv _ _ _ _ h4;rw [eP] at d1;exact ⟨h1,by omega,h4,rfl,rfl,by simp only;omega⟩
theorem aqG (s:List UInt8) (hs:s.length<=100000000):TT.lim 122 [.s s]=some [.l ((pV s).1.map row),.i .i64 (pV s).2]:=by
 obtain ⟨at2,k,e2⟩:=ajA s 0 (by omega) hs;rw [eH,show ((0:Nat):Int)=0 from rfl] at k;rw [eH] at e2;unfold pV;by_cases h1:(kE s).2.2=0;rotate_left
 ·rw [aj h1]
  generalize kE s=r at *;refine aY rfl rfl ?_ (by rfl);simp [k,h1]
 have e2:=e2 h1;obtain ⟨_,_,_,_,_,a7⟩:=abw h1;rw [ah (λe=>e h1)];rw [h1] at k;rw [jk] at e2;have w:=wrap64 (n:=(s.length:Int) - (at2:Int)) (by omega) (by omega);rw [<- e2] at a7 ⊢;generalize kE s=r at *;by_cases h2:at2 < s.length
 ·rw [aj h2]
  refine aY rfl rfl ?_ rfl;simp [k,w,h2]
 ·rw [ah h2]
  refine aY rfl rfl ?_ rfl;simp [k,w,h2]
def jT:List UInt8->List Row->List UInt8
 | _,[]=>[]
 | a,r::t=>pO a (iD r.1)++(aS r.2.toNat++jT (iD r.1) t)
/-- A table, as it is written. -/
def nD (t:List Row):List UInt8:=aS t.length++jT [] t
def zh (t:List Row):List UInt8×Int:=if sQ t≠0 then ([],sQ t) else (nD t,0)
theorem WT:∀ (t:List Row) (a:List UInt8),(∀r∈t,iF r.1=true/\0<=r.2/\r.2 < 18446744073709551616)->(jT a t).length<=40000 * t.length
 | [],a,_=>by simp [jT]
 | r::t,a,h=>by
  obtain ⟨h1,h2,h3⟩:=h r (by simp);have hk:=KC h1;have ho:=acG a (iD r.1) (by omega);have hv:=mJ (n:=r.2.toNat) (by omega);have ih:=WT t (iD r.1) λq hq=>h q (by simp [hq]);simp only [jT,dQ,iV];omega
theorem ajG (L:List GV) (n i:Int) (D:List dn) (N:Int) (a k O V acc:List UInt8) (R:List GV) (j:Nat) (hi:i=j) (h:i < n) (hg:L[j]? = some (row (D,N))) (hw:IntKind.i64.wrap (i+1)=i+1) (k1:TT.lim 7 [.l (D.map ent)]=some [.s k]) (k2:TT.lim 81 [.s a,.s k]=some [.s O])
 (k3:TT.lim 8 [.i .u64 N]=some [.s V]) (hb1:2 * (acc.length+O.length)<=281474976710656/\acc.length+O.length<=281474976710656) (hb2:2 * (acc.length+(O.length+V.length))<=281474976710656/\acc.length+(O.length+V.length)<=281474976710656)
 (ih:TT.lim 80 [.s k,.l L,.i .i64 n,.i .i64 (i+1),.l (dZ acc++(dZ O++dZ V))]=some R) :
 TT.lim 80 [.s a,.l L,.i .i64 n,.i .i64 i,.l (dZ acc)]=some R:=by
 subst hi;have ok1:=JC O;have ok2:=JC V;refine aA rfl rfl ?_;simp [-List.all_eq_true,h,hg,hw,k1,k2,k3,ok1,ok2,hb1,hb2,iQ,ih]
theorem abA (l:List Row) (hl:l.length<=1000) (hf:∀r∈l,iF r.1=true/\0<=r.2/\r.2 < 18446744073709551616):∀ (m i:Nat) (a acc:List UInt8),i+m=l.length->a.length<=100000->acc.length<=10+40000 * i->
 TT.lim 80 [.s a,.l (l.map row),.i .i64 l.length,.i .i64 i,.l (dZ acc)]=some [.i .i64 0,.l (dZ (acc++jT a (l.drop i)))]
 | 0,i,a,acc,hi,ha,hacc=>by
  have hd:l.drop i=[]:=gZ (by omega);have h:¬ ((i:Int) < l.length):=by omega
  rw [hd];refine aA rfl rfl ?_;simp [h,jT]
 | m+1,i,a,acc,hi,ha,hacc=>by
  have hlt:i < l.length:=by omega
  obtain ⟨h1,h2,h3⟩:=hf l[i] (jh hlt);have hk:=KC h1;have k1:=O1 l[i].1 h1;have k2:=alA a (iD l[i].1) (by omega) (by omega);have ho:=acG a (iD l[i].1) (by omega);have k3:=wX l[i].2.toNat (by omega);rw [show ((l[i].2.toNat:Nat):Int)=l[i].2 by omega] at k3;have hv:=mJ (n:=l[i].2.toNat) (by omega);have ih:=abA l hl hf m (i+1) (iD l[i].1) (acc++(pO a (iD l[i].1)++aS l[i].2.toNat)) (by omega) (by omega) (by simp only [dQ];omega);have he:acc++jT a (l.drop i)=acc++(pO a (iD l[i].1)++aS l[i].2.toNat)++jT (iD l[i].1) (l.drop (i+1)):=by
   rw [jw hlt];simp [jT]
  rw [he];rw [SA acc,SA] at ih;rw [show ((i+1:Nat):Int)=(i:Int)+1 by omega] at ih;exact ajG _ _ _ l[i].1 l[i].2 a _ _ _ acc _ i rfl (by omega) (by simp [hlt]) (wrap64 (by omega) (by omega)) k1 k2 k3 (by omega) (by omega) ih
theorem ajF (t:List Row) (ht:Rows t) (hf:FY t):TT.lim 79 [.l (t.map row)]=some [.s (zh t).1,.i .i64 (zh t).2]:=by
 have k1:=Zh t ht hf;unfold zh;by_cases hc:sQ t=0;rotate_left
 ·rw [aj hc]
  refine aY rfl rfl ?_ (by rfl);simp [k1,hc]
 rw [ah (λe=>e hc)];rw [hc] at k1;have h256:=((SK t).1 hc).1;have Kr:∀r∈t,iF r.1=true/\0<=r.2/\r.2 < 18446744073709551616:=λr hr=>⟨hf r hr,(ht.2 r hr).2.1,(ht.2 r hr).2.2⟩
 have k2:=wX t.length (by omega);have l2:=mJ (n:=t.length) (by omega);have k3:=abA t (by omega) Kr t.length 0 [] (aS t.length) (by omega) (by simp) (by omega);rw [eH,show ((0:Nat):Int)=0 from rfl] at k3;have hlen:=WT t [] Kr;have w:=kC (n:=(t.length:Int)) (by omega) (by omega);have ok:=JC (aS t.length);have hb:2 * (aS t.length).length<=281474976710656/\(aS t.length).length<=281474976710656:=by omega
 have hbg:=SC (nD t);have hpl:(dZ (nD t)).length<=281474976710656:=by
  rw [Y2];unfold nD;rw [dQ];omega
 have hk3:TT.lim 80 [.s [],.l (t.map row),.i .i64 t.length,.i .i64 0,.l (dZ (aS t.length))]=some [.i .i64 0,.l (dZ (nD t))]:=k3;generalize dZ (nD t)=PG at *;generalize nD t=P at *;generalize hVG:dZ (aS t.length)=VG at *;have hvl:VG.length=(aS t.length).length:=by rw [<- hVG,Y2]
 rw [<- hvl] at hb;have hlm:(t.map row).length=t.length:=by simp
 generalize t.map row=L at *;refine aY rfl rfl ?_ rfl;simp [-List.all_eq_true,k1,hlm,w,k2,hVG,ok,hb,hk3,hbg,hpl]
theorem Tf {x:dn} (h:ql x=0):x.1.length<=64/\x.2.length<=256:=by
 have hu:∀ (s:List UInt8) (lo hi:Int),jA s lo hi=0->(s.length:Int)<=hi:=by
  intro s lo hi h;unfold jA at h;split at h
  ·cases h
  ·split at h
   ·cases h
   ·omega
 unfold ql at h;by_cases h1:jA x.1 1 64=0
 ·rw [ah (λe=>e h1)] at h
  have a:=hu _ _ _ h1;have b:=hu _ _ _ h;omega
 ·rw [aj h1] at h;exact absurd h h1
theorem ad1 {s:List UInt8} (h:(dN s).2.2=0):aS (dN s).1.length++(dN s).1=s.take (dN s).2.1:=by
 unfold dN at h ⊢;by_cases h1:(au s).2.2=0;rotate_left
 ·rw [aj h1] at h;exact absurd h h1
 rw [ah (λe=>e h1)] at h ⊢;obtain ⟨v1,v2,v3,v4,v5⟩:=jD h1;by_cases h2:s.length - (au s).2.1 < (au s).1
 ·rw [aj h2] at h;cases h
 rw [ah h2];simp only [oh,eP];rw [Jj (by omega),v5,zG]
theorem agV {s:List UInt8} (h:(cO s).2.2=0):iK (cO s).1=s.take (cO s).2.1:=by
 obtain ⟨_,_,_,_,_,h1,h2,h3,h4⟩:=NZ h;rw [h3,h4];unfold iK;simp only;have p1:=ad1 h1;have p2:=ad1 h2;rw [p1,List.append_assoc,p2,zG]
theorem ZK:∀ (m:Nat) (p:Option dn) (s:List UInt8),(eX m p s).2.2=0->(eX m p s).1.flatMap iK=s.take (eX m p s).2.1/\qj (p.map (·.1)) (eX m p s).1=0
 | 0,p,s,_=>by simp [eX,qj]
 | m+1,p,s,h=>by
  rw [NU] at h ⊢;by_cases h1:(cO s).2.2=0;rotate_left
  ·rw [aj h1] at h;exact absurd h h1
  rw [ah (λe=>e h1)] at h ⊢;by_cases h2:xI p (cO s).1=0;rotate_left
  ·rw [aj h2] at h;exact absurd h h2
  rw [ah (λe=>e h2)] at h ⊢;by_cases h3:(eX m (some (cO s).1) (s.drop (cO s).2.1)).2.2=0;rotate_left
  ·rw [aj h3] at h;exact absurd h h3
  rw [ah (λe=>e h3)];obtain ⟨b1,b2⟩:=ZK m (some (cO s).1) _ h3;obtain ⟨_,_,a3,_⟩:=NZ h1;have p1:=agV h1;refine ⟨by simp only [jf,b1,p1,zG], ?_⟩;unfold qj;rw [ah (λe=>e a3)];cases p with
  | none=>exact b2
  | some k=>
   have h2':wO k.1 (cO s).1.1=0:=h2;unfold wO at h2';simp only [gy];by_cases c1:(cO s).1.1=k.1
   ·rw [aj c1] at h2';exact absurd h2' (by decide)
   rw [ah c1] at h2' ⊢;by_cases c2:Op.bytesLess (cO s).1.1 k.1=true
   ·rw [aj c2] at h2';exact absurd h2' (by decide)
   rw [ah c2];exact b2
structure XW (d:List dn) (key:List UInt8):Prop where
 chk:rM d=0
 few:iF d=true
 ents:uZ d
 put:iD d=key
theorem agN {s:List UInt8} (h:(kS s).2.2=0) (hs:s.length<=100000000):XW (kS s).1 (s.take (kS s).2.1):=by
 obtain ⟨a1,a2,a3,a4,a5,a6,a7⟩:=ZL h;obtain ⟨b1,b2,b3⟩:=Td _ _ _ a4;obtain ⟨c1,c2⟩:=ZK _ _ _ a4;obtain ⟨v1,v2,v3,v4,v5⟩:=jD a1;rw [a5,a6];refine ⟨?_, ?_,⟨by omega,λx hx=>?_⟩, ?_⟩
 ·unfold rM
  rw [ah (by omega),ah (by omega)];exact c2
 ·unfold iF
  rw [aI,decide_eq_true_iff,List.all_eq_true];refine ⟨λx hx=>?_,by omega⟩;obtain ⟨e1,e2⟩:=Tf (b3 x hx).1;unfold rP;rw [decide_eq_true_iff];omega
 ·obtain ⟨e1,e2⟩:=Tf (b3 x hx).1
  omega
 ·unfold iD
  rw [b2,v5,c1,zG]
theorem ZO {s:List UInt8} (h:(pF s).2=0) (hs:s.length<=100000000):XW (pF s).1 s:=by
 unfold pF at h ⊢;by_cases h1:(kS s).2.2=0;rotate_left
 ·rw [aj h1] at h;exact absurd h h1
 rw [ah (λe=>e h1)] at h ⊢;by_cases h2:(kS s).2.1 < s.length
 ·rw [aj h2] at h;exact absurd h (by simp)
 rw [ah h2];have:=agN h1 hs;rw [mQ (by omega)] at this;exact this
theorem amn {s a:List UInt8} {first:Bool} (h:(bn s a first).2.2=0) (hf:first=true->a=[]):pO a (bn s a first).1=s.take (bn s a first).2.1/\(first=false->a < (bn s a first).1):=by
 have ha:(if first=true then [] else a)=a:=by
  cases first with
  | true=>rw [aj rfl,hf rfl]
  | false=>rfl
 unfold bn at h ⊢;simp only [ha] at h ⊢;by_cases h1:(au s).2.2=0;rotate_left
 ·rw [aj h1] at h;exact absurd h h1
 rw [ah (λe=>e h1)] at h ⊢;by_cases h2:a.length < (au s).1
 ·rw [aj h2] at h;exact absurd h (by simp [kL])
 rw [ah h2] at h ⊢;by_cases h3:(au (s.drop (au s).2.1)).2.2=0;rotate_left
 ·rw [aj h3] at h;exact absurd h h3
 rw [ah (λe=>e h3)] at h ⊢;by_cases h4:s.length - ((au s).2.1+(au (s.drop (au s).2.1)).2.1) < (au (s.drop (au s).2.1)).1
 ·rw [aj h4] at h;exact absurd h (by simp [kL])
 rw [ah h4] at h ⊢;obtain ⟨v1,v2,v3,v4,v5⟩:=jD h1;obtain ⟨u1,u2,u3,u4,u5⟩:=jD h3;have hx:((s.drop ((au s).2.1+(au (s.drop (au s).2.1)).2.1)).take (au (s.drop (au s).2.1)).1).length=(au (s.drop (au s).2.1)).1:=by
  rw [oh,eP];omega
 generalize hX:(s.drop ((au s).2.1+(au (s.drop (au s).2.1)).2.1)).take (au (s.drop (au s).2.1)).1=X at *;by_cases h5:first=false/\Op.bytesLess a (a.take (au s).1++X)=false
 ·rw [aj h5] at h;exact absurd h (by simp [kL])
 rw [ah h5] at h ⊢;by_cases h6:(au s).1 < common a (a.take (au s).1++X)
 ·rw [aj h6] at h;exact absurd h (by simp [kL])
 rw [ah h6];have hge:=Zv (au s).1 a X (by omega);have hc:common a (a.take (au s).1++X)=(au s).1:=by omega
 refine ⟨?_,λhf=>?_⟩
 ·unfold pO
  simp only [hc];have hl:(a.take (au s).1++X).length - (au s).1=(au (s.drop (au s).2.1)).1:=by
   rw [dQ,oh,hx];omega
  have hd:(a.take (au s).1++X).drop (au s).1=X:=by
   rw [Rq (by rw [oh];omega)];rw [gZ (by rw [oh];omega)];rfl
  rw [hl,hd,v5,u5,<- hX];rw [zG,zG,<- oW]
 ·simp only [hf,true_and] at h5
  rw [<- Nw];simpa using h5
theorem acV:∀ (m:Nat) (a:List UInt8) (first:Bool) (s:List UInt8),(fH m a first s).2.2=0->(first=true->a=[])->a.length+s.length<=100000000->
 jT a (fH m a first s).1=s.take (fH m a first s).2.1/\Bl (fH m a first s).1/\(first=false->∀r∈(fH m a first s).1,a < K r)/\(∀r∈(fH m a first s).1,uS r=0/\iF r.1=true/\uZ r.1/\0<=r.2/\r.2 < 18446744073709551616)
 | 0,a,first,s,_,_,_=>by simp [fH,jT,Bl]
 | m+1,a,first,s,h,hf,hl=>by
  rw [P8] at h ⊢;by_cases h1:(bn s a first).2.2=0;rotate_left
  ·rw [aj h1] at h;exact absurd h h1
  rw [ah (λe=>e h1)] at h ⊢;by_cases h2:(fF (bn s a first).1 (s.drop (bn s a first).2.1)).2.2=0;rotate_left
  ·rw [aj h2] at h;exact absurd h h2
  rw [ah (λe=>e h2)] at h ⊢;by_cases h3:(fH m (bn s a first).1 false (s.drop ((bn s a first).2.1+(fF (bn s a first).1 (s.drop (bn s a first).2.1)).2.1))).2.2=0;rotate_left
  ·rw [aj h3] at h;exact absurd h h3
  rw [ah (λe=>e h3)];obtain ⟨a1,a2,a3⟩:=Wx h1;obtain ⟨p1,p2⟩:=amn h1 hf;obtain ⟨q1,q2,q3,q4,q5⟩:=WG h2;have hxl:(bn s a first).1.length<=a.length+(bn s a first).2.1:=by
   cases first<;>simp at a3<;>omega
  obtain ⟨v1,v2,v3,v4,v5⟩:=jD q2;have dk:=ZO q1 (by omega);obtain ⟨b1,b2,b3,b4⟩:=acV m _ false _ h3 (λe=>by cases e) (by rw [eP];omega);have hK:K (fF (bn s a first).1 (s.drop (bn s a first).2.1)).1=(bn s a first).1:=by rw [q4];exact dk.put
  have hN:(fF (bn s a first).1 (s.drop (bn s a first).2.1)).1.2.toNat=(au (s.drop (bn s a first).2.1)).1:=by rw [q4];simp
  simp only;refine ⟨?_, ?_,λKr r hr=>?_,λr hr=>?_⟩
  ·show pO a (K _)++(aS _++jT (K _) _)=_
   rw [hK,hN,b1,p1,v5,<- q5];rw [zG,zG,List.append_assoc]
  ·refine sG.2 ⟨λr hr=>?_,b2⟩
   rw [hK];exact b3 rfl r hr
  ·rcases bZ.1 hr with rfl | hr
   ·rw [hK];exact p2 Kr
   ·exact Ry (p2 Kr) (b3 rfl r hr)
  ·rcases bZ.1 hr with rfl | hr
   ·rw [q4]
    refine ⟨?_,dk.few,dk.ents,by simp only;omega,by simp only;omega⟩;rw [WS];exact ⟨dk.chk,by simp only;omega⟩
   ·exact b4 r hr
structure xE (t:List Row):Prop where
 ok:Ok t
 few:FY t
 rows:Rows t
theorem xE.tb {t:List Row} (h:xE t):sQ t=0:=(SK t).2 h.ok
theorem ajC {s:List UInt8} (h:(kE s).2.2=0) (hs:s.length<=100000000):nD (kE s).1=s.take (kE s).2.1/\xE (kE s).1:=by
 obtain ⟨a1,a2,a3,a4,a5,a6⟩:=abw h;obtain ⟨v1,v2,v3,v4,v5⟩:=jD a1;obtain ⟨l1,l2⟩:=Wv _ _ _ _ a3;obtain ⟨b1,b2,_,b4⟩:=acV _ _ _ _ a3 (λ_=>rfl) (by rw [eP];simp;omega);rw [a4,a5];refine ⟨?_,⟨by omega,b2,λr hr=>(b4 r hr).1⟩,λr hr=>(b4 r hr).2.1,by omega,λr hr=>(b4 r hr).2.2⟩;unfold nD;rw [l2,v5,b1,zG]
theorem ad5:xE []:=⟨⟨by simp,List.Pairwise.nil,by simp⟩,λr hr=>by simp at hr,by simp,by simp⟩
theorem aqI {s:List UInt8} (hs:s.length<=100000000):xE (pV s).1/\((pV s).2=0->nD (pV s).1=s)/\((pV s).2≠0->(pV s).1=[]):=by
 unfold pV;by_cases h1:(kE s).2.2=0;rotate_left
 ·rw [aj h1]
  exact ⟨ad5,λh=>absurd h h1,λ_=>rfl⟩
 rw [ah (λe=>e h1)];by_cases h2:(kE s).2.1 < s.length
 ·rw [aj h2]
  exact ⟨ad5,λh=>absurd h (by decide),λ_=>rfl⟩
 rw [ah h2];obtain ⟨b1,b2⟩:=ajC h1 hs;rw [mQ (by omega)] at b1;exact ⟨b2,λ_=>b1,λh=>absurd rfl h⟩
theorem xE.len {t:List Row} (h:xE t):t.length<=256:=h.ok.1
theorem xE.good {t:List Row} (h:xE t):oV t:=⟨Nat.le_trans h.len (by decide),h.few,h.rows⟩
theorem adZ (a x:List UInt8) (ha:a.length<=100000000):dN (aS a.length++(a++x))=(a,(aS a.length).length+a.length,0):=by
 have h:=FQ a.length (a++x) (by omega);unfold dN;rw [h];simp only [ne_eq,not_true_eq_false,if_false];have hl:(aS a.length++(a++x)).length=(aS a.length).length+(a.length+x.length):=by simp
 rw [hl,ah (by omega),qH,RF]
theorem agU (e:dn) (y:List UInt8) (h:ql e=0):cO (iK e++y)=(e,(iK e).length,0):=by
 obtain ⟨l1,l2⟩:=Tf h;have e1:iK e++y=aS e.1.length++(e.1++(aS e.2.length++(e.2++y))):=by unfold iK;simp
 have h1:=adZ e.1 (aS e.2.length++(e.2++y)) (by omega);have h2:=adZ e.2 y (by omega);have hd:(aS e.1.length++(e.1++(aS e.2.length++(e.2++y)))).drop ((aS e.1.length).length+e.1.length)=aS e.2.length++(e.2++y):=by
  rw [<- List.append_assoc,<- dQ,qH]
 have hl:(iK e).length=(aS e.1.length).length+e.1.length+((aS e.2.length).length+e.2.length):=by unfold iK;simp;omega
 unfold cO;rw [e1,h1];simp only [ne_eq,not_true_eq_false,if_false,hd,h2];have he:ql (e.1,e.2)=0:=h;rw [he,hl];simp
theorem afC {p:Option (List UInt8)} {x:dn} {xs:List dn} (h:qj p (x::xs)=0):ql x=0/\(∀k,p=some k->wO k x.1=0)/\qj (some x.1) xs=0:=by
 unfold qj at h;by_cases h1:ql x=0;rotate_left
 ·rw [aj h1] at h;exact absurd h h1
 rw [ah (λe=>e h1)] at h;cases p with
 | none=>exact ⟨h1,(λk hk=>by cases hk),h⟩
 | some k=>
  simp only at h;by_cases c1:x.1=k
  ·rw [aj c1] at h;exact absurd h (by decide)
  rw [ah c1] at h;by_cases c2:Op.bytesLess x.1 k=true
  ·rw [aj c2] at h;exact absurd h (by decide)
  rw [ah c2] at h;refine ⟨h1,λk' hk=>?_,h⟩;cases hk;unfold wO;rw [ah c1,ah c2]
theorem ZJ:∀ (d:List dn) (p:Option dn) (y:List UInt8),qj (p.map (·.1)) d=0->eX d.length p (d.flatMap iK++y)=(d,(d.flatMap iK).length,0)
 | [],p,y,_=>by simp [eX]
 | x::d,p,y,h=>by
  obtain ⟨h1,h2,h3⟩:=afC h;have he:=agU x (d.flatMap iK++y) h1;have hs:(x::d).flatMap iK++y=iK x++(d.flatMap iK++y):=by simp
  have ih:=ZJ d (some x) y h3;have hb:xI p x=0:=by
   cases p with
   | none=>rfl
   | some k=>exact h2 k.1 rfl
  rw [iV,NU,hs,he];simp only [ne_eq,not_true_eq_false,if_false,qH,hb,ih];simp
theorem agM (d:List dn) (y:List UInt8) (h:rM d=0):kS (iD d++y)=(d,(iD d).length,0):=by
 unfold rM at h;by_cases h1:d.length=0
 ·rw [aj h1] at h;exact absurd h (by decide)
 rw [ah h1] at h;by_cases h2:16 < d.length
 ·rw [aj h2] at h;exact absurd h (by decide)
 rw [ah h2] at h;have hv:=FQ d.length (d.flatMap iK++y) (by omega);have hk:iD d++y=aS d.length++(d.flatMap iK++y):=by unfold iD;simp
 have hl:=ZJ d none y h;unfold kS;rw [hk,hv];simp only [ne_eq,not_true_eq_false,if_false,h1,h2,qH,hl];unfold iD;simp
theorem ZN (d:List dn) (h:rM d=0):pF (iD d)=(d,0):=by
 have:=agM d [] h;rw [nK] at this;unfold pF;rw [this];simp
theorem afN (a s:List UInt8):a.take (common a s)++s.drop (common a s)=s:=by
 rw [Zw,Dt]
theorem amm (a t y:List UInt8) (first:Bool) (hf:first=true->a=[]) (hn:first=false->a < t) (ht:t.length<=100000000):bn (pO a t++y) a first=(t,(pO a t).length,0):=by
 have ha:(if first=true then [] else a)=a:=by
  cases first with
  | true=>rw [aj rfl,hf rfl]
  | false=>rfl
 obtain ⟨c1,c2⟩:=NR a t;have e1:pO a t++y=aS (common a t)++(aS (t.length - common a t)++(t.drop (common a t)++y)):=by unfold pO;simp
 have v1:=FQ (common a t) (aS (t.length - common a t)++(t.drop (common a t)++y)) (by omega);have v2:=FQ (t.length - common a t) (t.drop (common a t)++y) (by omega);have hl:(pO a t).length=(aS (common a t)).length+(aS (t.length - common a t)).length+(t.length - common a t):=by unfold pO;simp;omega
 have hd:(aS (common a t)++(aS (t.length - common a t)++(t.drop (common a t)++y))).drop ((aS (common a t)).length+(aS (t.length - common a t)).length)=t.drop (common a t)++y:=by
  rw [<- List.append_assoc,<- dQ,qH]
 have hx:(t.drop (common a t)++y).take (t.length - common a t)=t.drop (common a t):=by
  rw [<- eP,RF]
 have hb:¬ (first=false/\Op.bytesLess a t=false):=by
  rintro ⟨h1,h2⟩
  have:=(Nw a t).2 (hn h1);rw [h2] at this;cases this
 unfold bn;simp only [ha];rw [e1,v1];simp only [ne_eq,not_true_eq_false,if_false,qH,v2,hd,hx,afN];rw [ah (by omega),ah (by simp;omega),ah hb,ah (by omega),hl]
theorem acU:∀ (l:List Row) (a:List UInt8) (first:Bool) (y:List UInt8),(first=true->a=[])->(first=false->∀r∈l,a < K r)->Bl l->(∀r∈l,uS r=0/\iF r.1=true/\0<=r.2/\r.2 < 18446744073709551616)->
 fH l.length a first (jT a l++y)=(l,(jT a l).length,0)
 | [],a,first,y,_,_,_,_=>by simp [fH,jT]
 | r::l,a,first,y,hf,hn,hr,hc=>by
  obtain ⟨h1,h2⟩:=sG.1 hr;obtain ⟨q1,q2,q3,q4⟩:=hc r (by simp);have hk:(K r).length<=30000:=KC q2;rw [WS] at q1;have hs:jT a (r::l)++y=pO a (K r)++(aS r.2.toNat++(jT (K r) l++y)):=by simp [jT]
  have hp:=amm a (K r) (aS r.2.toNat++(jT (K r) l++y)) first hf (λe=>hn e r (by simp)) (by omega)
  have hv:=FQ r.2.toNat (jT (K r) l++y) (by omega);have hd:=ZN r.1 q1.1;have ih:=acU l (K r) false y (λe=>by cases e) (λ_=>h1) h2 λq hq=>hc q (by simp [hq]);have hdd:(pO a (K r)++(aS r.2.toNat++(jT (K r) l++y))).drop ((pO a (K r)).length+(aS r.2.toNat).length)=jT (K r) l++y:=by
   rw [<- List.append_assoc,<- dQ,qH]
  have hq:fF (K r) (aS r.2.toNat++(jT (K r) l++y))=(r,(aS r.2.toNat).length,0):=by
   unfold fF;rw [hv,hd];simp only [ne_eq,not_true_eq_false,if_false];rw [ah (by omega)];have:((r.2.toNat:Nat):Int)=r.2:=by omega
   rw [this]
  rw [iV,P8,hs,hp];simp only [ne_eq,not_true_eq_false,if_false,qH,hq,hdd,ih];simp [jT,iQ]
theorem ajB (t:List Row) (y:List UInt8) (h:xE t):kE (nD t++y)=(t,(nD t).length,0):=by
 have hl:=h.len;have hv:=FQ t.length (jT [] t++y) (by omega);have hk:nD t++y=aS t.length++(jT [] t++y):=by unfold nD;simp
 have hp:=acU t [] true y (λ_=>rfl) (λe=>by cases e) h.ok.2.1 λr hr=>⟨h.ok.2.2 r hr,h.few r hr,(h.rows.2 r hr).2.1,(h.rows.2 r hr).2.2⟩
 unfold kE;rw [hk,hv];simp only [ne_eq,not_true_eq_false,if_false,qH,hp];rw [ah (by omega)];unfold nD;simp
theorem aqH (t:List Row) (h:xE t):pV (nD t)=(t,0):=by
 have:=ajB t [] h;rw [nK] at this;unfold pV;rw [this];simp
end K
end Go.Proofs.YthgifdbaegpbpaaGreatDoor
