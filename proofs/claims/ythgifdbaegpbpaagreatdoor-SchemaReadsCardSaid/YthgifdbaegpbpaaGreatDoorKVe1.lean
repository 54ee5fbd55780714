/- What the trees compute: plain laws. -/
import Derived.Test.YthgifdbaegpbpaaGreatDoorKVT
import Derived.Test.YthgifdbaegpbpaaGreatDoorAbsPl
import Derived.Test.YthgifdbaegpbpaaGreatDoorAbsGo
import Derived.Test.YthgifdbaegpbpaaGreatDoorAbsTold2
import Derived.Test.YthgifdbaegpbpaaGreatDoorAbsFields
import Derived.Lib.TrimUEq
import Derived.Lib.MapLaws
namespace Go.Proofs.YthgifdbaegpbpaaGreatDoor
open Go Go.aK
set_option linter.unusedSimpArgs false
set_option linter.unusedVariables false
set_option maxRecDepth 100000
namespace V
theorem IW:∀a b:List UInt8,Op.bytesLess a b=decide (a < b)
 | _,[]=>by simp [Op.bytesLess]
 | [],_::_=>by simp [Op.bytesLess]
 | a::x,b::y=>by
  rw [Op.bytesLess,IW x y,vg];simp [List.cons_lt_cons_iff]
/-- An entry: key and value. A row: its entries and its number. -/
abbrev bU:=List UInt8×List UInt8
abbrev Row:=List bU×Int
def ent (x:bU):GV:=.g [.s x.1,.s x.2]
def row (r:Row):GV:=.g [.l (r.1.map ent),.i .u64 r.2]
@[simp] theorem asy (x:bU):(ent x).cells=[.s x.1,.s x.2]:=rfl
@[simp] theorem aud (r:Row):(row r).cells=[.l (r.1.map ent),.i .u64 r.2]:=rfl
@[simp] theorem asz (x:bU):(ent x).scalar=false:=rfl
@[simp] theorem aue (r:Row):(row r).scalar=false:=rfl
/-- Texts and lists of no more than any machine bears. -/
def uq (d:List bU):Prop:=d.length<=140737488351232/\∀x∈d,x.1.length<=140737488351232/\x.2.length<=140737488351232
def Rows (l:List Row):Prop:=l.length<=140737488351232/\∀r∈l,uq r.1/\0<=r.2/\r.2 < 18446744073709551616
def Af (x:bU):Bool:=decide (x.1.length+x.2.length<=600)
def lF (d:List bU):Bool:=d.all Af&&decide (d.length<=40)
def fH (n:Nat):List UInt8:=if n < 128 then [UInt8.ofNat n] else UInt8.ofNat (n % 128+128)::fH (n / 128)
termination_by n
decreasing_by omega
theorem Hy {n:Nat} (h:n < 128):fH n=[UInt8.ofNat n]:=by rw [fH,ak h]
theorem Ky {n:Nat} (h:¬ n < 128):fH n=UInt8.ofNat (n % 128+128)::fH (n / 128):=by rw [fH,ah h]
def oK (n:Nat):Nat:=(fH n).length
theorem aoK {n:Int} (h0:0<=n):n.fdiv (2 ^ (7:Nat))=n / 128:=by
 rw [WO _ (by decide)];rfl
theorem acN {n:Nat}:pY .shr .u64 (n:Int) 7=some (.i .u64 ((n / 128:Nat):Int)):=by
 have:((n:Int)).fdiv (2 ^ (7:Nat))=((n / 128:Nat):Int):=by rw [aoK (by omega)];omega
 simp [pY,IntKind.bits];exact this
theorem PN (n:Nat):0 < oK n:=by unfold oK;rw [fH];split<;>simp
theorem PK {n:Nat} (h:¬ n < 128):oK n=oK (n / 128)+1:=by unfold oK;rw [Ky h];rfl
theorem adA:∀ (k n:Nat),0 < k->n < 128 ^ k->oK n<=k
 | 0,_,h,_=>by omega
 | k+1,n,_,h=>by
  by_cases hn:n < 128
  ·unfold oK;rw [Hy hn];simp
  ·rw [PK hn]
   cases k with
   | zero=>simp at h;omega
   | succ k=>
    have:n / 128 < 128 ^ (k+1):=by rw [BA] at h;omega
    have:=adA (k+1) (n / 128) (by omega) this;omega
theorem Wj {n:Nat} (h:n < 18446744073709551616):oK n<=10:=adA 10 n (by omega) (by omega)
theorem ajv:∀ (n s:Nat),s+oK n<=1000->n < 18446744073709551616->TT.lim 74 [.i .u64 n,.i .i64 s]=some [.i .i64 0,.i .i64 ((s+oK n - 1:Nat):Int)]:=by
 intro n;induction n using Nat.strongRecOn with
 | _ n ih=>
  intro s hs hn;refine ay rfl rfl ?_;by_cases h:n < 128
  ·have h':¬ (128:Int)<=n:=by omega
   simp [h',oK,Hy h]
  ·have h':(128:Int)<=n:=by omega
   have hv:=PK h;have hp:=PN (n / 128);have hw:=wrap64 (n:=(s:Int)+1) (by omega) (by omega);have ih':TT.lim 74 [.i .u64 ((n / 128:Nat):Int),.i .i64 ((s:Int)+1)]=_:=ih (n / 128) (by omega) (s+1) (by omega) (by omega);have hn':s+oK n - 1=s+1+oK (n / 128) - 1:=by omega
   rw [hn'];have h7:pY .shr .u64 (n:Int) 7=some (.i .u64 ((n / 128:Nat):Int)):=acN;generalize ((n / 128:Nat):Int)=q at h7 ih';simp [h',hw,h7,ih']
theorem aoL (n:Nat) (hn:n < 18446744073709551616):TT.lim 73 [.i .u64 n]=some [.i .i64 (oK n)]:=by
 have hp:=PN n;have h9:TT.lim 74 [.i .u64 n,.i .i64 1]=_:=ajv n 1 (by have:=Wj hn;omega) hn;rw [show 1+oK n - 1=oK n by omega] at h9;refine aG rfl rfl ?_ rfl;simp [h9]
/-- The bytes of a number, each with its high bit set. -/
def jQ:Nat->Nat->List Nat
 | 0,_=>[]
 | k+1,n=>(n % 128+128)::jQ k (n / 128)
def iF (n:Nat):GV:=.i .u8 n
theorem adZ (n:Nat) (hn:n < 18446744073709551616):gI .and .u64 (n:Int) 127=some (.i .u64 ((n % 128:Nat):Int)):=by
 have h1:((BitVec.ofInt 64 (n:Int) &&& BitVec.ofInt 64 127).toNat:Nat)=n % 128:=by
  rw [WA,Dc,Dc];have e1:((n:Int) % ((2 ^ 64:Nat):Int)).toNat=n:=by omega
  have e2:((127:Int) % ((2 ^ 64:Nat):Int)).toNat=2 ^ 7 - 1:=by decide
  rw [e1,e2,adN]
 show some (GV.i .u64 (IntKind.u64.wrap (((BitVec.ofInt 64 (n:Int) &&& BitVec.ofInt 64 127).toNat:Nat):Int)))=_
 rw [h1,dX (by omega) (by omega)]
theorem Xz (n:Nat) (hn:n < 256):gI .and .u8 (n:Int) 127=some (.i .u8 ((n % 128:Nat):Int)):=by
 have:∀x:Fin 256,IntKind.u8.wrap (((BitVec.ofInt IntKind.u8.bits ((x.val:Nat):Int) &&& BitVec.ofInt IntKind.u8.bits 127).toNat:Nat):Int)=((x.val % 128:Nat):Int):=by decide +kernel
 show some (GV.i .u8 _)=some (GV.i .u8 _)
 exact wJ (λz=>some (GV.i .u8 z)) (this ⟨n,hn⟩)
theorem akt (n:Nat) (hn:n < 128):gI .or .u8 (n:Int) 128=some (.i .u8 ((n+128:Nat):Int)):=by
 have:∀x:Fin 128,IntKind.u8.wrap (((BitVec.ofInt IntKind.u8.bits ((x.val:Nat):Int) ||| BitVec.ofInt IntKind.u8.bits 128).toNat:Nat):Int)=((x.val+128:Nat):Int):=by decide +kernel
 show some (GV.i .u8 _)=some (GV.i .u8 _)
 exact wJ (λz=>some (GV.i .u8 z)) (this ⟨n,hn⟩)
theorem Ws {n:Int} (h0:0<=n) (h1:n < 256):IntKind.u8.wrap n=n:=by
 have:IntKind.u8.wrap n=n % 256:=by simp [IntKind.wrap,IntKind.signed,IntKind.bits]
 rw [this];omega
@[simp] theorem asf (n:Nat):(iF n).cells=[iF n]:=rfl
@[simp] theorem ash (n:Nat):(iF n).scalar=true:=rfl
@[simp] theorem asg (n:Nat) (v:GV):(iF n).put 0 [v]=some v:=rfl
theorem QC:∀l:List Nat,(∀x∈l,x < 256)->mP (l.map iF)=some (l.map UInt8.ofNat)
 | [],_=>rfl
 | a::l,h=>by
  have h1:=h a (by simp);have h2:=QC l λx hx=>h x (by simp [hx]);simp only [jy,iF,mP] at h2 ⊢;rw [ak (by omega)];have:(λn:Nat=>GV.i .u8 (n:Int))=iF:=rfl;rw [h2];simp
theorem aaH:∀ (m n:Nat) (done:List Nat),n < 18446744073709551616->done.length+m < 1000->
 TT.lim 75 [.i .u64 n,.l ((done++List.replicate m 0).map iF),.i .i64 ((done.length+m:Nat):Int),.i .i64 done.length]=some [.i .i64 0,.l ((done++jQ m n).map iF)]
 | 0,n,done,hn,hd=>by
  refine ay rfl rfl ?_;simp [jQ]
 | m+1,n,done,hn,hd=>by
  have hlt:(done.length:Int) < ((done.length+(m+1):Nat):Int):=by omega
  have hw:=wrap64 (n:=(done.length:Int)+1) (by omega) (by omega);have hw8:=Ws (n:=((n % 128:Nat):Int)) (by omega) (by omega);have h7:pY .shr .u64 (n:Int) 7=some (.i .u64 ((n / 128:Nat):Int)):=acN;have ha:=adZ n hn;have ho:=akt (n % 128) (by omega);have ih:=aaH m (n / 128) (done++[n % 128+128]) (by omega) (by simp;omega);have hlen:(done++[n % 128+128]).length+m=done.length+(m+1):=by simp;omega
  rw [hlen] at ih;have hl2:(((done++[n % 128+128]).length:Nat):Int)=(done.length:Int)+1:=by simp
  rw [hl2] at ih;have hset:((done++List.replicate (m+1) 0).map iF).set done.length (iF (n % 128+128))=(done++[n % 128+128]++List.replicate m 0).map iF:=by
   rw [Ii,<- List.map_set,List.set_append_right _ _ (dH _),xW];simp
  have hget:((done++List.replicate (m+1) 0).map iF)[done.length]? = some (iF 0):=by
   rw [jw,sD (dH _),xW,Ii];rfl
  have hll:((done++List.replicate (m+1) 0).map iF).length=done.length+(m+1):=by simp
  have hv:done++jQ (m+1) n=done++[n % 128+128]++jQ m (n / 128):=by simp [jQ]
  rw [hv];generalize hL:(done++List.replicate (m+1) 0).map iF=L at *;refine ay rfl rfl ?_;have hix:(0:Int)<=(done.length:Int)/\(done.length:Int) < (L.length:Int):=by rw [hll];omega
  have hob:GV.i IntKind.u8 ((n % 128+128:Nat):Int)=iF (n % 128+128):=rfl;have Sm:L.set done.length (GV.i IntKind.u8 ((n % 128+128:Nat):Int))=(done++[n % 128+128]++List.replicate m 0).map iF:=hset;generalize (done++[n % 128+128]++List.replicate m 0).map iF=L2 at ih Sm;generalize (done++[n % 128+128]++jQ m (n / 128)).map iF=L3 at ih ⊢;generalize ((n / 128:Nat):Int)=q at h7 ih;generalize ((n % 128+128:Nat):Int)=z at ho Sm;generalize ((n % 128:Nat):Int)=rr at ha hw8 ho;generalize ((done.length+(m+1):Nat):Int)=N at hlt ih ⊢;simp [hlt,ha,hw8,ho,hix,hget,h7,hw,Sm,ih]
theorem Wh:∀m n,(jQ m n).length=m
 | 0,_=>rfl
 | m+1,n=>by simp [jQ,Wh m]
theorem Wi:∀m n,∀x∈jQ m n,x < 256
 | 0,_,x,h=>by simp [jQ] at h
 | m+1,n,x,h=>by
  simp only [jQ,dR] at h;rcases h with rfl | h
  ·omega
  ·exact Wi m _ x h
/-- The last byte without its high bit: as numbers are written. -/
theorem adz:∀ (s n:Nat),oK n=s+1->∃x,(jQ (s+1) n)[s]? = some x/\((jQ (s+1) n).set s (x % 128)).map UInt8.ofNat=fH n
 | 0,n,h=>by
  have hn:n < 128:=by
   by_cases hn:n < 128
   ·exact hn
   ·rw [PK hn] at h;have:=PN (n / 128);omega
  refine ⟨n % 128+128,by simp [jQ], ?_⟩;rw [Hy hn];simp [jQ];rw [KP hn]
 | s+1,n,h=>by
  have hn:¬ n < 128:=by
   intro hn;unfold oK at h;rw [Hy hn] at h;simp at h
  rw [PK hn] at h;obtain ⟨x,h1,h2⟩:=adz s (n / 128) (by omega);refine ⟨x,by simp only [jQ,qI] at h1 ⊢;exact h1, ?_⟩;rw [Ky hn,<- h2];simp [jQ]
theorem UQ (n:Nat) (hn:n < 18446744073709551616):TT.lim 72 [.i .u64 n]=some [.s (fH n)]:=by
 have h8:=aoL n hn;have hp:=PN n;have hs:=Wj hn;obtain ⟨s,hs1⟩:∃s,oK n=s+1:=⟨oK n - 1,by omega⟩
 obtain ⟨x,h1,h2⟩:=adz s n hs1;rw [hs1] at h8;have h10:TT.lim 75 [.i .u64 n,.l ((List.replicate (s+1) 0).map iF),.i .i64 ((s+1:Nat):Int),.i .i64 0]=some [.i .i64 0,.l ((jQ (s+1) n).map iF)]:=by
  have:=aaH (s+1) n [] hn (by simp;omega);simpa using this
 have hr:(List.replicate (s+1) 0).map iF=List.replicate (s+1) (GV.i .u8 0):=by rw [List.map_replicate];rfl
 rw [hr] at h10;have hx:x < 256:=Wi _ _ x (qK h1);have ha:=Xz x hx;have hget:((jQ (s+1) n).map iF)[s]? = some (iF x):=by rw [jw,h1];rfl
 have hset:((jQ (s+1) n).map iF).set s (GV.i .u8 ((x % 128:Nat):Int))=((jQ (s+1) n).set s (x % 128)).map iF:=(List.map_set (f:=iF) (l:=jQ (s+1) n) (i:=s) (a:=x % 128)).symm;have hb:=QC ((jQ (s+1) n).set s (x % 128)) (λy hy=>by
  rcases Xc hy with hy | rfl
  ·exact Wi _ _ y hy
  ·omega)
 rw [h2] at hb;have hlen:(((jQ (s+1) n).set s (x % 128)).map iF).length=s+1:=by simp [Wh]
 have hlr:(List.replicate (s+1) (GV.i .u8 0)).length=s+1:=by simp
 have hl1:((jQ (s+1) n).map iF).length=s+1:=by simp [Wh]
 generalize ((jQ (s+1) n).set s (x % 128)).map iF=L3 at hset hb hlen;generalize (jQ (s+1) n).map iF=L2 at h10 hget hset hl1;generalize hrep:List.replicate (s+1) (GV.i .u8 0)=L1 at h10 hlr;refine aG rfl rfl ?_ rfl;have hw:=wrap64 (n:=(s:Int)) (by omega) (by omega);have hcast:((s+1:Nat):Int)=(s:Int)+1:=by omega
 rw [hcast] at h8 h10;have hc1:(0:Int)<=(s:Int)+1/\(s:Int)+1<=281474976710656/\(s:Int)+1<=1152921504606846976:=by omega
 have hc2:((s:Int)+1).toNat=s+1:=by omega
 have hlt:(s:Int) < (s:Int)+1:=by omega
 have hs2:(s:Int)+1 - 1=(s:Int):=by omega
 generalize hM:((x % 128:Nat):Int)=M at ha hset;have hxx:iF x=.i .u8 x:=rfl;have h48:s+1<=281474976710656:=by omega
 have hg2:L2[s]'(by omega)=iF x:=by have:=hget;rw [dA (by omega)] at this;exact zN this
 simp [h8,hc1,hc2,hrep,hlr,h10,hl1,hs2,hw,hlt,hget,hg2,ha,hset,hxx,hlen,hb,h48,GV.fF]
theorem aeh (a b:List UInt8):nX (a++b)=nX a++nX b:=by simp [nX]
@[simp] theorem asi (a:List UInt8):(nX a).length=a.length:=by simp [nX]
theorem XW (a:List UInt8):(nX a).all (GV.fF 1)=true:=by
 rw [List.all_eq_true];intro x hx;obtain ⟨b,_,rfl⟩:=sF.1 hx;rfl
theorem XZ:∀a:List UInt8,mP (nX a)=some a
 | []=>rfl
 | x::a=>by
  have ih:=XZ a;simp only [nX,jy,mP] at ih ⊢;have:=x.toNat_lt;rw [ak (by omega),ih];simp
def jg (x:bU):List UInt8:=fH x.1.length++x.1++fH x.2.length++x.2
def jG (d:List bU):List UInt8:=fH d.length++d.flatMap jg
theorem zF {n:Nat} (h:n < 18446744073709551616):(fH n).length<=10:=Wj h
theorem agy (x:bU) (h1:x.1.length<=140737488351232) (h2:x.2.length<=140737488351232):TT.lim 77 [ent x]=some [.s (jg x)]:=by
 have k1:=UQ x.1.length (by omega);have k2:=UQ x.2.length (by omega);have l1:=zF (n:=x.1.length) (by omega);have l2:=zF (n:=x.2.length) (by omega);have w1:=dX (n:=(x.1.length:Int)) (by omega) (by omega);have w2:=dX (n:=(x.2.length:Int)) (by omega) (by omega);refine aG rfl rfl ?_ rfl;have c1:((fH x.1.length).length:Int)+(x.1.length:Int)<=9223372036854775807:=by omega
 have c2:((fH x.1.length).length:Int)+((x.1.length:Int)+((fH x.2.length).length:Int))<=9223372036854775807:=by omega
 have c3:((fH x.1.length).length:Int)+((x.1.length:Int)+(((fH x.2.length).length:Int)+(x.2.length:Int)))<=9223372036854775807:=by omega
 simp [w1,w2,k1,k2,c1,c2,c3,jg,Int.add_assoc]
theorem QT {x:bU} (h:Af x=true):(jg x).length<=620:=by
 unfold Af at h;simp only [decide_eq_true_iff] at h;have l1:=zF (n:=x.1.length) (by omega);have l2:=zF (n:=x.2.length) (by omega);simp only [jg,jD];omega
theorem Rn:∀d:List bU,d.all Af=true->(d.flatMap jg).length<=620 * d.length
 | [],_=>by simp
 | x::d,h=>by
  rw [vC,aJ] at h;have:=QT h.1;have:=Rn d h.2;simp only [iW,jD,pJ];omega
theorem aaI (d:List bU) (hf:d.all Af=true) (hl:d.length<=40):∀ (m i:Nat) (acc:List UInt8),i+m=d.length->acc.length<=10+620 * i->
 TT.lim 76 [.l (d.map ent),.i .i64 d.length,.i .i64 i,.l (nX acc)]=some [.i .i64 0,.l (nX (acc++(d.drop i).flatMap jg))]
 | 0,i,acc,hi,ha=>by
  have h0:d.drop i=[]:=dQ (by omega);refine ay rfl rfl ?_;have h:¬ ((i:Int) < d.length):=by omega
  simp [h,h0]
 | m+1,i,acc,hi,ha=>by
  have hlt:i < d.length:=by omega
  have hx:=List.all_eq_true.1 hf d[i] (iI hlt);have hx1:=hx;unfold Af at hx1;simp only [decide_eq_true_iff] at hx1;have hp:=agy d[i] (by omega) (by omega);have hpl:=QT hx;have ih:TT.lim 76 [.l (d.map ent),.i .i64 d.length,.i .i64 ((i:Int)+1),.l (nX (acc++jg d[i]))]=_:=aaI d hf hl m (i+1) (acc++jg d[i]) (by omega) (by simp;omega);rw [aeh] at ih;have hd:(d.drop i).flatMap jg=jg d[i]++(d.drop (i+1)).flatMap jg:=by rw [eH hlt,iW]
  rw [hd,<- rE];refine ay rfl rfl ?_;have h:((i:Int) < d.length):=by omega
  have hw:=wrap64 (n:=(i:Int)+1) (by omega) (by omega);have hok:=XW (jg d[i]);have hb:2 * (acc.length+(jg d[i]).length)<=281474976710656/\acc.length+(jg d[i]).length<=281474976710656:=by omega
  have he:GV.g [GV.s d[i].1,GV.s d[i].2]=ent d[i]:=rfl;simp [-List.all_eq_true,h,hlt,he,hp,hok,hb,hw,ih]
theorem ai5 (d:List bU) (hf:lF d=true):TT.lim 71 [.l (d.map ent)]=some [.s (jG d)]:=by
 unfold lF at hf;rw [aJ,decide_eq_true_iff] at hf;have k:=UQ d.length (by omega);have l1:=zF (n:=d.length) (by omega);have w1:=dX (n:=(d.length:Int)) (by omega) (by omega);have h11:TT.lim 76 [.l (d.map ent),.i .i64 d.length,.i .i64 0,.l (nX (fH d.length))]=_:=aaI d hf.1 hf.2 d.length 0 (fH d.length) (by omega) (by omega);rw [dF] at h11;have hb:2 * (fH d.length).length<=281474976710656/\(fH d.length).length<=281474976710656:=by omega
 have hok:=XW (fH d.length);have hfl:=Rn d hf.1;have hc:(fH d.length).length+(List.flatMap jg d).length<=281474976710656:=by omega
 have hbg:=XZ (fH d.length++d.flatMap jg);refine aG rfl rfl ?_ rfl;unfold jG;generalize d.flatMap jg=F at *;simp [-List.all_eq_true,w1,k,hb,hok,h11,hc,hbg]
def fC (s:List UInt8) (lo hi:Int):Int:=if (s.length:Int) < lo then 13 else if hi < (s.length:Int) then 13 else if Lib.validD s=true then 0 else 11
theorem ahE (s:List UInt8) (h:s.length<=140737488351232):TT.lim 39 [.s s]=some [.b (Lib.validD s)]:=by
 have h21:TT.lim 40 [.s s]=some [.b (Lib.validD s)]:=OB (Ds:=Ds) (k:=40) (f:=Hw) rfl (by simp only [Hw];rw [ak (by omega)]);refine aG rfl rfl ?_ rfl;simp [h21]
theorem BL (s:List UInt8) (lo hi:Int) (h:s.length<=140737488351232):TT.lim 38 [.s s,.i .i64 lo,.i .i64 hi]=some [.i .i64 (fC s lo hi)]:=by
 have h20:=ahE s h;refine aG rfl rfl ?_ rfl;unfold fC;by_cases h1:(s.length:Int) < lo
 ·simp [h1]
 ·by_cases h2:hi < (s.length:Int)
  ·simp [h1,h2]
  ·cases hv:Lib.validD s<;>rw [hv] at h20<;>simp [h1,h2,h20,hv]
def nZ (x:bU):Int:=if fC x.1 1 64≠0 then fC x.1 1 64 else fC x.2 0 256
theorem Zf (x:bU) (h1:x.1.length<=140737488351232) (h2:x.2.length<=140737488351232):TT.lim 46 [ent x]=some [.i .i64 (nZ x)]:=by
 have k1:=BL x.1 1 64 h1;have k2:=BL x.2 0 256 h2;refine aG rfl rfl ?_ rfl;unfold nZ;by_cases h:fC x.1 1 64=0
 ·simp [k1,h,k2]
 ·simp [k1,h]
def kV:Option (List UInt8)->List bU->Int
 | _,[]=>0
 | p,x::xs=>if nZ x≠0 then nZ x else match p with
  | none=>kV (some x.1) xs
  | some k=>if x.1=k then 14 else if Op.bytesLess x.1 k=true then 7 else kV (some x.1) xs
def tagged (r:Int):List GV:=if r=0 then [.i .i64 1] else [.i .i64 0,.i .i64 r]
def prevK (d:List bU) (i:Nat):Option (List UInt8):=if i=0 then none else (d[i - 1]?).map (·.1)
theorem aaJ (d:List bU) (hd:uq d):∀m i:Nat,i+m=d.length->TT.lim 66 [.l (d.map ent),.i .i64 d.length,.i .i64 i]=some (tagged (kV (prevK d i) (d.drop i)))
 | 0,i,hi=>by
  have h0:d.drop i=[]:=dQ (by omega);refine ay rfl rfl ?_;have h:¬ ((i:Int) < d.length):=by omega
  simp [h,h0,kV,tagged]
 | m+1,i,hi=>by
  have hlt:i < d.length:=by omega
  have hx:=hd.2 d[i] (iI hlt);have hp:=Zf d[i] hx.1 hx.2;have ih:TT.lim 66 [.l (d.map ent),.i .i64 d.length,.i .i64 ((i:Int)+1)]=_:=aaJ d hd m (i+1) (by omega);have hpk:prevK d (i+1)=some d[i].1:=by unfold prevK;rw [ah (by omega)];simp [hlt]
  rw [hpk] at ih;have hdr:d.drop i=d[i]::d.drop (i+1):=eH hlt;rw [hdr];refine ay rfl rfl ?_;have h:((i:Int) < d.length):=by omega
  have hw:=wrap64 (n:=(i:Int)+1) (by omega) (by have:=hd.1;omega);have he:GV.g [GV.s d[i].1,GV.s d[i].2]=ent d[i]:=rfl;by_cases h1:nZ d[i]=0;rotate_left
  ·simp [h,hlt,he,hp,h1,kV,tagged]
  by_cases h0:i=0
  ·subst h0
   simp only [rD,KG] at hw ih;simp [h,hlt,he,hp,h1,kV,prevK,hw];simpa using ih
  ·have hi1:i - 1 < d.length:=by omega
   have hpk2:prevK d i=some d[i - 1].1:=by unfold prevK;rw [ah h0];simp [hi1]
   have hw2:=wrap64 (n:=(i:Int) - 1) (by omega) (by have:=hd.1;omega);have hi0:¬ ((i:Int)=0):=by omega
   have hge:(0:Int)<=(i:Int) - 1:=by omega
   have ht:((i:Int) - 1).toNat=i - 1:=by omega
   have hnl:(1:Int)<=(i:Int):=by omega
   rw [hpk2];by_cases h2:d[i].1=d[i - 1].1
   ·have h2':(d[i].1=d[i - 1].1)=True:=eq_true h2
    clear h2;simp [h,hlt,he,hp,h1,hi0,h0,hw2,ht,hi1,h2',kV,tagged,hnl]
   ·cases h3:Op.bytesLess d[i].1 d[i - 1].1 with
    | true=>simp [h,hlt,he,hp,h1,hi0,h0,hw2,ht,hi1,h2,h3,kV,tagged,hnl]
    | false=>simp [h,hlt,he,hp,h1,hi0,h0,hw2,ht,hi1,h2,h3,kV,hw,ih,hnl]
def pW (d:List bU):Int:=if d.length=0 then 12 else if 16 < d.length then 13 else kV none d
theorem Yd (d:List bU) (hd:uq d):TT.lim 65 [.l (d.map ent)]=some [.i .i64 (pW d)]:=by
 have h17:TT.lim 66 [.l (d.map ent),.i .i64 d.length,.i .i64 0]=_:=aaJ d hd d.length 0 (by omega);have hpk:prevK d 0=none:=rfl;rw [hpk,dF] at h17;have w1:=dX (n:=(d.length:Int)) (by omega) (by have:=hd.1;omega);refine aG rfl rfl ?_ rfl;unfold pW;by_cases h0:d.length=0
 ·have h0':(d.length:Int)=0:=by omega
  have:d=[]:=lq h0;subst this;simp [IntKind.wrap,IntKind.signed]
 ·have h0':¬ (d.length:Int)=0:=by omega
  by_cases h1:16 < d.length
  ·have h1':(16:Int) < (d.length:Int):=by omega
   simp [w1,h0,h1,h0',h1']
  ·have h1':¬ (16:Int) < (d.length:Int):=by omega
   by_cases h2:kV none d=0
   ·simp only [tagged,h2,if_true] at h17
    simp [w1,h0,h1,h0',h1',h17,h2]
   ·simp only [tagged,h2,if_false] at h17
    simp [w1,h0,h1,h0',h1',h17]
def pF (r:Row):Int:=if pW r.1≠0 then pW r.1 else if r.2=0 then 18 else 0
theorem aez (r:Row) (hd:uq r.1):TT.lim 70 [row r]=some [.i .i64 (pF r)]:=by
 have k:=Yd r.1 hd;refine aG rfl rfl ?_ rfl;unfold pF;by_cases h:pW r.1=0
 ·by_cases h2:r.2=0
  ·simp [k,h,h2]
  ·simp [k,h,h2]
 ·simp [k,h]
theorem Yj (d:List bU) (h:d.length<=40):TT.lim 34 [.l (d.map ent)]=some [.l (d.map ent)]:=by
 refine OB (Ds:=Ds) (k:=34) (f:=FP 32 2) rfl ?_;have hall:(d.map ent).all (GV.fF 2)=true:=by
  rw [List.all_eq_true];intro x hx;obtain ⟨r,_,rfl⟩:=sF.1 hx;rfl
 simp only [FP];rw [ak ⟨by rw [Bo];omega,hall⟩]
abbrev K (r:Row):List UInt8:=jG r.1
/-- How many rows at the head have lesser keys. -/
def Xw (k:List UInt8):List Row->Nat
 | []=>0
 | r::rs=>if Op.bytesLess (K r) k=true then Xw k rs+1 else 0
def XG:List Row->List Row->Bool
 | _,[]=>true
 | t,r::rs=>match t.drop (Xw (K r) t) with
  | []=>false
  | s::t'=>decide (K s=K r)&&decide (r.2<=s.2)&&XG (s::t') rs
theorem QY (x y:bU):mW [1,1] [.s x.1,.s x.2] [.s y.1,.s y.2]=some (decide (x=y)):=by
 simp only [mW,gy,KF];congr 1;rw [vg];simp [Prod.ext_iff]
theorem yx (a b:List UInt8):Op.bytesLess a b=true↔a < b:=by rw [IW];simp
theorem aec (a b:List UInt8):Op.bytesLess a b=false↔¬ a < b:=by rw [IW];simp
/-- Rows whose keys rise. -/
def Dk (l:List Row):Prop:=l.Pairwise λa b=>K a < K b
def jF:Option (List UInt8)->List Row->Int
 | _,[]=>0
 | p,r::rs=>if pF r≠0 then pF r else match p with
  | none=>jF (some (K r)) rs
  | some k=>if K r=k then 14 else if Op.bytesLess (K r) k=true then 7 else jF (some (K r)) rs
theorem aaK (t:List Row) (ht:Rows t) (hf:∀r∈t,lF r.1=true):∀ (m i:Nat) (p:List UInt8),i+m=t.length->
 TT.lim 69 [.s p,.l (t.map row),.i .i64 t.length,.i .i64 i]=some (tagged (jF (if i=0 then none else some p) (t.drop i)))
 | 0,i,p,hi=>by
  have h0:t.drop i=[]:=dQ (by omega);refine ay rfl rfl ?_;have h:¬ ((i:Int) < t.length):=by omega
  simp [h,h0,jF,tagged]
 | m+1,i,p,hi=>by
  have hlt:i < t.length:=by omega
  have hr:=ht.2 t[i] (iI hlt);have k15:=aez t[i] hr.1;have k6:=ai5 t[i].1 (hf _ (iI hlt));have hrow:GV.g [.l (t[i].1.map ent),.i .u64 t[i].2]=row t[i]:=rfl;have ih:TT.lim 69 [.s (jG t[i].1),.l (t.map row),.i .i64 t.length,.i .i64 ((i:Int)+1)]=_:=aaK t ht hf m (i+1) (jG t[i].1) (by omega);rw [ah (by omega)] at ih;rw [eH hlt];refine ay rfl rfl ?_;have h:((i:Int) < t.length):=by omega
  have hw:=wrap64 (n:=(i:Int)+1) (by omega) (by have:=ht.1;omega);by_cases h1:pF t[i]=0;rotate_left
  ·simp [-List.getElem_cons_drop,h,hlt,hrow,k15,h1,jF,tagged]
  by_cases h0:i=0
  ·subst h0
   simp only [rD,KG] at hw ih;simp [-List.getElem_cons_drop,h,hlt,hrow,k15,h1,k6,hw,jF];have hn:(0:Int) < (t.length:Int):=by omega
   simpa using ih
  ·have hi0:0 < i:=by omega
   by_cases h2:jG t[i].1=p
   ·have h2':(jG t[i].1=p)=True:=eq_true h2
    clear h2;simp [-List.getElem_cons_drop,h,hlt,hrow,k15,h1,k6,hi0,h0,h2',jF,tagged]
   ·cases h3:Op.bytesLess (jG t[i].1) p with
    | true=>simp [-List.getElem_cons_drop,h,hlt,hrow,k15,h1,k6,hi0,h0,h2,h3,jF,tagged]
    | false=>simp [-List.getElem_cons_drop,h,hlt,hrow,k15,h1,k6,hi0,h0,h2,h3,hw,ih,jF]
def pV (t:List Row):Int:=if 256 < t.length then 13 else jF none t
theorem aeA (t:List Row) (ht:Rows t) (hf:∀r∈t,lF r.1=true):TT.lim 68 [.l (t.map row)]=some [.i .i64 (pV t)]:=by
 have h38:TT.lim 69 [.s [],.l (t.map row),.i .i64 t.length,.i .i64 0]=_:=aaK t ht hf t.length 0 [] (by omega);rw [ak rfl,dF] at h38;refine aG rfl rfl ?_ rfl;unfold pV;by_cases h1:256 < t.length
 ·have h1':(256:Int) < (t.length:Int):=by omega
  simp [h1,h1']
 ·have h1':¬ (256:Int) < (t.length:Int):=by omega
  by_cases h2:jF none t=0
  ·simp only [tagged,h2,if_true] at h38
   simp [h1,h1',h38,h2]
  ·simp only [tagged,h2,if_false] at h38
   simp [h1,h1',h38,h2]
theorem Yi:∀ {t:List Row} (p:Option (List UInt8)),Dk t->(∀r∈t,pF r=0)->(∀k,p=some k->∀r∈t,k < K r)->jF p t=0
 | [],p,_,_,_=>by cases p<;>rfl
 | r::t,p,ht,hc,hp=>by
  have ht':=KJ.1 ht;have ih:=Yi (t:=t) (some (K r)) ht'.2 (λx hx=>hc x (by simp [hx])) (λk hk x hx=>by cases hk;exact ht'.1 x hx);unfold jF;rw [ah (by simp [hc r (by simp)])];cases p with
  | none=>exact ih
  | some k=>
   have hk:=hp k rfl r (by simp);have h1:¬ K r=k:=λe=>by rw [e] at hk;exact Ic _ hk
   have h2:¬ Op.bytesLess (K r) k=true:=λe=>Ic _ (Ie hk ((yx _ _).1 e));simp only;rw [ah h1,ah h2];exact ih
theorem Rows.perm {l m:List Row} (h:l.Perm m) (hl:Rows l):Rows m:=⟨by rw [<- h.length_eq];exact hl.1,λr hr=>hl.2 r (h.mem_iff.2 hr)⟩
def val:List Row->List UInt8->Int
 | [],_=>0
 | r::rs,k=>if K r=k then r.2 else val rs k
def Pos (t:List Row):Prop:=∀r∈t,0 < r.2/\r.2 < 18446744073709551616
def Ob:List Row->List Row->Option (List Row)
 | [],b=>some b
 | x::a,[]=>some (x::a)
 | x::a,y::b=>
  if K x < K y then (Ob a (y::b)).map (x::·)
  else if K y < K x then (Ob (x::a) b).map (y::·)
  else if x.2+y.2 < 18446744073709551616 then (Ob a b).map ((x.1,x.2+y.2)::·) else none
termination_by a b=>a.length+b.length
theorem F5 {d:List bU} (h:lF d=true):d.length<=40:=by
 unfold lF at h;simp at h;omega
def vk (t:List Row):Prop:=∀r∈t,lF r.1=true
def Ok (t:List Row):Prop:=t.length<=256/\Dk t/\∀r∈t,pF r=0
theorem Yh:∀ {t:List Row} (p:Option (List UInt8)),jF p t=0->Dk t/\(∀r∈t,pF r=0)/\∀k,p=some k->∀r∈t,k < K r
 | [],p,_=>⟨List.Pairwise.nil,by simp,by simp⟩
 | r::t,p,h=>by
  unfold jF at h;by_cases h1:pF r=0;rotate_left
  ·rw [ak h1] at h;exact absurd h h1
  rw [ah (by simp [h1])] at h;have main:∀ (h:jF (some (K r)) t=0),Dk (r::t)/\∀x∈r::t,pF x=0:=by
   intro h;obtain ⟨i1,i2,i3⟩:=Yh (some (K r)) h;refine ⟨List.Pairwise.cons (i3 _ rfl) i1,λx hx=>?_⟩;rcases dR.1 hx with rfl | hx
   ·exact h1
   ·exact i2 x hx
  cases p with
  | none=>exact ⟨(main h).1,(main h).2,by simp⟩
  | some k=>
   simp only at h;split at h
   ·cases h
   next h2=>
   split at h
   ·cases h
   next h3=>
   refine ⟨(main h).1,(main h).2, ?_⟩;rintro _ ⟨⟩ x hx
   have hk:k < K r:=by
    rcases W9.1 (KI.1 λe=>h3 ((yx _ _).2 e)) with e | e
    ·exact e
    ·exact absurd e.symm h2
   rcases dR.1 hx with rfl | hx
   ·exact hk
   ·exact Ie hk ((KJ.1 (main h).1).1 x hx)
theorem aeE (t:List Row):pV t=0↔Ok t:=by
 unfold pV Ok;constructor
 ·intro h
  split at h
  ·cases h
  ·obtain ⟨h1,h2,_⟩:=Yh none h
   exact ⟨by omega,h1,h2⟩
 ·rintro ⟨h1,h2,h3⟩
  rw [ah (by omega)];exact Yi none h2 h3 (by simp)
theorem acn (r:Row):pF r=0↔pW r.1=0/\r.2≠0:=by
 unfold pF;by_cases h:pW r.1=0
 ·simp [h]
 ·simp [h]
structure Tb (t:List Row):Prop where
 ok:Ok t
 rows:Rows t
 few:vk t
theorem Tb.pos {t:List Row} (h:Tb t):Pos t:=λr hr=>by
 have h1:=((acn r).1 (h.ok.2.2 r hr)).2;have h2:=(h.rows.2 r hr).2;omega
theorem Tb.rise {t:List Row} (h:Tb t):Dk t:=h.ok.2.1
def tog (a b:List Row):List Row×Int:=match Ob a b with
 | none=>([],3)
 | some m=>if 256 < m.length then ([],13) else (m,0)
structure vw (t:List Row):Prop where
 len:t.length<=300
 few:vk t
 rows:Rows t
theorem Tb.good {t:List Row} (h:Tb t):vw t:=⟨Nat.le_trans h.ok.1 (by decide),h.few,h.rows⟩
abbrev Dl:=Int×Int×List Row
def Yg (d:Dl):Int:=if d.2.1<=d.1 then 20 else pV d.2.2
theorem vw.tb {t:List Row} (h:vw t) (ho:Ok t):Tb t:=⟨ho,h.rows,h.few⟩
abbrev Sn:=Int×List Row
def sn (s:Sn):GV:=.g [.i .u64 s.1,.l (s.2.map row)]
@[simp] theorem aum (s:Sn):(sn s).cells=[.i .u64 s.1,.l (s.2.map row)]:=rfl
@[simp] theorem aun (s:Sn):(sn s).scalar=false:=rfl
def zS:Sn:=(0,[])
def ad3 (s:Sn) (d:Dl):Sn×Int:=
 if pV s.2≠0 then (zS,pV s.2) else if Yg d≠0 then (zS,Yg d) else if s.1≠d.1 then (zS,19)
 else if (tog s.2 d.2.2).2≠0 then (zS,(tog s.2 d.2.2).2) else ((d.2.1,(tog s.2 d.2.2).1),0)
def wK:Option (Int×Int×Int)->List GV
 | some (_,b,_)=>[.i .i64 1,.i .i64 b]
 | none=>[.i .i64 0]
theorem QS (s:List UInt8) (size n least:Int):TT.lim 120 [.s s,.i .i64 size,.i .i64 n,.i .i64 least,.i .i64 size]=some (wK (some (size,n,least))):=by
 refine ay rfl rfl ?_;simp [wK]
def bT (s:List UInt8) (k:Nat):Int:=((s.getD k 0).toNat:Int)
theorem IG (s:List UInt8) (k:Nat):0<=bT s k/\bT s k < 256:=by unfold bT;have:=(s.getD k 0).toNat_lt;omega
theorem XH {s:List UInt8} {k:Nat} (h:k < s.length):s[k]? = some (s.getD k 0):=by simp [List.getD,h]
theorem Hl (s:List UInt8) (size n least:Int) (i:Nat) (hi:(i:Int) < size) (hl:i < s.length) (h0:0<=n) (h1:n < 1000000000000) (hs:size < 1000) :
 ∀out,(if bT s i < 128 then some (wK none) else if 192<=bT s i then some (wK none) else TT.lim 120 [.s s,.i .i64 size,.i .i64 (64 * n+bT s i - 128),.i .i64 least,.i .i64 ((i:Int)+1)])=some out->
 TT.lim 120 [.s s,.i .i64 size,.i .i64 n,.i .i64 least,.i .i64 i]=some out:=by
 intro out h;have hb:=IG s i;have hx:(s[i]?).bind (λc=>some (GV.i .u8 c.toNat))=some (.i .u8 (bT s i)):=by rw [XH hl];rfl
 generalize bT s i=x at *;have w1:=wrap64 (n:=x) (by omega) (by omega);refine ay rfl rfl ?_;by_cases c1:x < 128
 ·rw [ak c1] at h
  rw [<- h];simp [hi,hx,w1,c1,wK]
 rw [ah c1] at h;by_cases c2:192<=x
 ·rw [ak c2] at h
  rw [<- h];simp [hi,hx,w1,c1,c2,wK]
 rw [ah c2] at h;have w2:=wrap64 (n:=64 * n) (by omega) (by omega);have w3:=wrap64 (n:=64 * n+x) (by omega) (by omega);have w4:=wrap64 (n:=64 * n+x - 128) (by omega) (by omega);have w5:=wrap64 (n:=(i:Int)+1) (by omega) (by omega);simp [hi,hx,w1,c1,c2,w2,w3,w4,w5,h]
def DW (v least size:Int):Int:=if v < least then 0 else if 1114111 < v then 0 else if 55296<=v/\v < 57344 then 0 else size
abbrev fQ (x:Int):Prop:=x < 128\/192<=x
def Nb (n b0 b1 b2 b3:Int):Int:=
 if n=0 then 0 else if b0 < 128 then 1 else if b0 < 192 then 0
 else if b0 < 224 then (if n < 2 then 0 else if fQ b1 then 0 else DW (64 * (b0 - 192)+b1 - 128) 128 2)
 else if b0 < 240 then (if n < 3 then 0 else if fQ b1\/fQ b2 then 0 else DW (64 * (64 * (b0 - 224)+b1 - 128)+b2 - 128) 2048 3)
 else if b0 < 248 then (if n < 4 then 0 else if fQ b1\/fQ b2\/fQ b3 then 0 else DW (64 * (64 * (64 * (b0 - 240)+b1 - 128)+b2 - 128)+b3 - 128) 65536 4)
 else 0
/-- What the loop comes to: two, three, four bytes. -/
theorem ajr (s:List UInt8) (n least:Int) (hl:2<=s.length) (h0:0<=n) (h1:n < 64) :
 TT.lim 120 [.s s,.i .i64 2,.i .i64 n,.i .i64 least,.i .i64 1]=some (wK (if fQ (bT s 1) then none else some (2,64 * n+bT s 1 - 128,least))):=by
 refine Hl s 2 n least 1 (by decide) (by omega) h0 (by omega) (by decide) _ ?_;have e:=QS s 2 (64 * n+bT s 1 - 128) least;by_cases c:fQ (bT s 1)
 ·rw [ak c]
  rcases c with c | c
  ·exact ak c
  ·rw [ah (by omega)];exact ak c
 ·rw [ah c,ah (λh=>c (.inl h)),ah (λh=>c (.inr h))];exact e
theorem ajs (s:List UInt8) (n least:Int) (hl:3<=s.length) (h0:0<=n) (h1:n < 64) :
 TT.lim 120 [.s s,.i .i64 3,.i .i64 n,.i .i64 least,.i .i64 1]=some (wK (if fQ (bT s 1)\/fQ (bT s 2) then none else some (3,64 * (64 * n+bT s 1 - 128)+bT s 2 - 128,least))):=by
 have a1:=IG s 1;refine Hl s 3 n least 1 (by decide) (by omega) h0 (by omega) (by decide) _ ?_;by_cases c:fQ (bT s 1)
 ·rw [ak (show fQ (bT s 1)\/fQ (bT s 2) from .inl c)]
  rcases c with c | c
  ·exact ak c
  ·rw [ah (by omega)];exact ak c
 ·rw [ah (λh=>c (.inl h)),ah (λh=>c (.inr h))]
  have c1:128<=bT s 1:=by omega
  refine Hl s 3 _ least 2 (by decide) (by omega) (by show 0<=64 * n+bT s 1 - 128;omega) (by show 64 * n+bT s 1 - 128 < _;omega) (by decide) _ ?_;have e:=QS s 3 (64 * (64 * n+bT s 1 - 128)+bT s 2 - 128) least;by_cases d:fQ (bT s 2)
  ·rw [ak (show fQ (bT s 1)\/fQ (bT s 2) from .inr d)]
   rcases d with d | d
   ·exact ak d
   ·rw [ah (by omega)];exact ak d
  ·rw [ah (show ¬ (fQ (bT s 1)\/fQ (bT s 2)) by simp [c,d]),ah (λh=>d (.inl h)),ah (λh=>d (.inr h))];exact e
theorem ajt (s:List UInt8) (n least:Int) (hl:4<=s.length) (h0:0<=n) (h1:n < 64) :
 TT.lim 120 [.s s,.i .i64 4,.i .i64 n,.i .i64 least,.i .i64 1]=some (wK (if fQ (bT s 1)\/fQ (bT s 2)\/fQ (bT s 3) then none else some (4,64 * (64 * (64 * n+bT s 1 - 128)+bT s 2 - 128)+bT s 3 - 128,least))):=by
 have a1:=IG s 1;have a2:=IG s 2;refine Hl s 4 n least 1 (by decide) (by omega) h0 (by omega) (by decide) _ ?_;by_cases c:fQ (bT s 1)
 ·rw [ak (show fQ (bT s 1)\/fQ (bT s 2)\/fQ (bT s 3) from .inl c)]
  rcases c with c | c
  ·exact ak c
  ·rw [ah (by omega)];exact ak c
 ·rw [ah (λh=>c (.inl h)),ah (λh=>c (.inr h))]
  have c1:128<=bT s 1:=by omega
  refine Hl s 4 _ least 2 (by decide) (by omega) (by show 0<=64 * n+bT s 1 - 128;omega) (by show 64 * n+bT s 1 - 128 < _;omega) (by decide) _ ?_;by_cases d:fQ (bT s 2)
  ·rw [ak (show fQ (bT s 1)\/fQ (bT s 2)\/fQ (bT s 3) from .inr (.inl d))]
   rcases d with d | d
   ·exact ak d
   ·rw [ah (by omega)];exact ak d
  ·rw [ah (λh=>d (.inl h)),ah (λh=>d (.inr h))]
   have d1:128<=bT s 2:=by omega
   refine Hl s 4 _ least 3 (by decide) (by omega) (by show 0<=64 * (64 * n+bT s 1 - 128)+bT s 2 - 128;omega) (by show 64 * (64 * n+bT s 1 - 128)+bT s 2 - 128 < _;omega) (by decide) _ ?_;have e:=QS s 4 (64 * (64 * (64 * n+bT s 1 - 128)+bT s 2 - 128)+bT s 3 - 128) least;by_cases f:fQ (bT s 3)
   ·rw [ak (show fQ (bT s 1)\/fQ (bT s 2)\/fQ (bT s 3) from .inr (.inr f))]
    rcases f with f | f
    ·exact ak f
    ·rw [ah (by omega)];exact ak f
   ·rw [ah (show ¬ (fQ (bT s 1)\/fQ (bT s 2)\/fQ (bT s 3)) by simp [c,d,f]),ah (λh=>f (.inl h)),ah (λh=>f (.inr h))];exact e
def Na (s:List UInt8):Int:=Nb s.length (bT s 0) (bT s 1) (bT s 2) (bT s 3)
theorem QK {c:Prop} [Decidable c] (x:Int×Int×Int) (h:c):wK (if c then none else some x)=[.i .i64 0]:=by rw [ak h];rfl
theorem QL {c:Prop} [Decidable c] (a b d:Int) (h:¬ c):wK (if c then none else some (a,b,d))=[.i .i64 1,.i .i64 b]:=by rw [ah h];rfl
set_option maxHeartbeats 4000000 in
theorem aha (s:List UInt8) (hl:s.length<=140737488351232):TT.lim 119 [.s s]=some [.i .i64 (Na s)]:=by
 have hb:=IG s 0;have k2:=λhl h0 h1=>ajr s (bT s 0 - 192) 128 hl h0 h1;have k3:=λhl h0 h1=>ajs s (bT s 0 - 224) 2048 hl h0 h1;have k4:=λhl h0 h1=>ajt s (bT s 0 - 240) 65536 hl h0 h1;unfold Na Nb;by_cases hn:s.length=0
 ·refine aG rfl rfl ?_ rfl
  simp [hn]
 have hn':¬ (s.length:Int)=0:=by omega
 have hne:¬ s=[]:=λe=>hn (by rw [e];rfl);have hx:(s[0]?).bind (λc=>some (GV.i .u8 c.toNat))=some (.i .u8 (bT s 0)):=by rw [XH (by omega)];rfl
 have w1:=wrap64 (n:=bT s 0) (by omega) (by omega);rw [ah hn'];generalize bT s 0=x at *;generalize bT s 1=b1 at *;generalize bT s 2=b2 at *;generalize bT s 3=b3 at *;by_cases c0:x < 128
 ·refine aG rfl rfl ?_ rfl
  simp [hn',hne,hx,w1,c0]
 by_cases c1:x < 192
 ·have d1:¬ 192<=x:=by omega
  have d2:¬ 224<=x:=by omega
  have d3:¬ 240<=x:=by omega
  refine aG rfl rfl ?_ rfl;simp [hn',hne,hx,w1,c0,c1,d1,d2,d3]
 have d1:192<=x:=by omega
 have w2:=wrap64 (n:=x - 192) (by omega) (by omega);by_cases c2:x < 224
 ·rw [ah c0,ah c1,ak c2]
  by_cases n2:(s.length:Int) < 2
  ·refine aG rfl rfl ?_ rfl
   simp [hn',hne,hx,w1,c0,d1,c2,w2,n2]
  rw [ah n2];have k:=k2 (by omega) (by omega) (by omega);by_cases e1:fQ b1
  ·rw [QK _ e1] at k
   rw [ak e1];refine aG rfl rfl ?_ rfl;simp [hn',hne,hx,w1,c0,d1,c2,w2,n2,k]
  rw [QL _ _ _ e1] at k;rw [ah e1];generalize 64 * (x - 192)+b1 - 128=v at *;unfold DW;by_cases f1:v < 128
  ·refine aG rfl rfl ?_ rfl
   simp [hn',hne,hx,w1,c0,d1,c2,w2,n2,k,f1]
  by_cases f2:1114111 < v
  ·refine aG rfl rfl ?_ rfl
   simp [hn',hne,hx,w1,c0,d1,c2,w2,n2,k,f1,f2]
  by_cases f3:55296<=v
  ·by_cases f4:v < 57344
   ·refine aG rfl rfl ?_ rfl
    simp [hn',hne,hx,w1,c0,d1,c2,w2,n2,k,f1,f2,f3,f4]
   ·refine aG rfl rfl ?_ rfl
    simp [hn',hne,hx,w1,c0,d1,c2,w2,n2,k,f1,f2,f3,f4]
  ·refine aG rfl rfl ?_ rfl
   simp [hn',hne,hx,w1,c0,d1,c2,w2,n2,k,f1,f2,f3]
 have d2:224<=x:=by omega
 have w3:=wrap64 (n:=x - 224) (by omega) (by omega);by_cases c3:x < 240
 ·rw [ah c0,ah c1,ah c2,ak c3]
  by_cases n2:(s.length:Int) < 3
  ·refine aG rfl rfl ?_ rfl
   simp [hn',hne,hx,w1,c0,d1,c2,d2,c3,w3,n2]
  rw [ah n2];have k:=k3 (by omega) (by omega) (by omega);by_cases e1:fQ b1\/fQ b2
  ·rw [QK _ e1] at k
   rw [ak e1];refine aG rfl rfl ?_ rfl;simp [hn',hne,hx,w1,c0,d1,c2,d2,c3,w3,n2,k]
  rw [QL _ _ _ e1] at k;rw [ah e1];generalize 64 * (64 * (x - 224)+b1 - 128)+b2 - 128=v at *;unfold DW;by_cases f1:v < 2048
  ·refine aG rfl rfl ?_ rfl
   simp [hn',hne,hx,w1,c0,d1,c2,d2,c3,w3,n2,k,f1]
  by_cases f2:1114111 < v
  ·refine aG rfl rfl ?_ rfl
   simp [hn',hne,hx,w1,c0,d1,c2,d2,c3,w3,n2,k,f1,f2]
  by_cases f3:55296<=v
  ·by_cases f4:v < 57344
   ·refine aG rfl rfl ?_ rfl
    simp [hn',hne,hx,w1,c0,d1,c2,d2,c3,w3,n2,k,f1,f2,f3,f4]
   ·refine aG rfl rfl ?_ rfl
    simp [hn',hne,hx,w1,c0,d1,c2,d2,c3,w3,n2,k,f1,f2,f3,f4]
  ·refine aG rfl rfl ?_ rfl
   simp [hn',hne,hx,w1,c0,d1,c2,d2,c3,w3,n2,k,f1,f2,f3]
 have d3:240<=x:=by omega
 have w4:=wrap64 (n:=x - 240) (by omega) (by omega);by_cases c4:x < 248
 ·rw [ah c0,ah c1,ah c2,ah c3,ak c4]
  by_cases n2:(s.length:Int) < 4
  ·refine aG rfl rfl ?_ rfl
   simp [hn',hne,hx,w1,c0,d1,c2,d2,c3,d3,c4,w4,n2]
  rw [ah n2];have k:=k4 (by omega) (by omega) (by omega);by_cases e1:fQ b1\/fQ b2\/fQ b3
  ·rw [QK _ e1] at k
   rw [ak e1];refine aG rfl rfl ?_ rfl;simp [hn',hne,hx,w1,c0,d1,c2,d2,c3,d3,c4,w4,n2,k]
  rw [QL _ _ _ e1] at k;rw [ah e1];generalize 64 * (64 * (64 * (x - 240)+b1 - 128)+b2 - 128)+b3 - 128=v at *;unfold DW;by_cases f1:v < 65536
  ·refine aG rfl rfl ?_ rfl
   simp [hn',hne,hx,w1,c0,d1,c2,d2,c3,d3,c4,w4,n2,k,f1]
  by_cases f2:1114111 < v
  ·refine aG rfl rfl ?_ rfl
   simp [hn',hne,hx,w1,c0,d1,c2,d2,c3,d3,c4,w4,n2,k,f1,f2]
  by_cases f3:55296<=v
  ·by_cases f4:v < 57344
   ·refine aG rfl rfl ?_ rfl
    simp [hn',hne,hx,w1,c0,d1,c2,d2,c3,d3,c4,w4,n2,k,f1,f2,f3,f4]
   ·refine aG rfl rfl ?_ rfl
    simp [hn',hne,hx,w1,c0,d1,c2,d2,c3,d3,c4,w4,n2,k,f1,f2,f3,f4]
  ·refine aG rfl rfl ?_ rfl
   simp [hn',hne,hx,w1,c0,d1,c2,d2,c3,d3,c4,w4,n2,k,f1,f2,f3]
 ·refine aG rfl rfl ?_ rfl
  simp [hn',hne,hx,w1,c0,c1,d1,c2,d2,c3,d3,c4]
set_option maxHeartbeats 8000000 in
/-- It is the model's own way of decoding. -/
theorem ahd (n b0 b1 b2 b3:Nat) (hn:0 < n) (h0:b0 < 256) (h1:b1 < 256) (h2:b2 < 256) (h3:b3 < 256):Nb n b0 b1 b2 b3=if (Lib.decodeN n b0 b1 b2 b3).1=65533/\(Lib.decodeN n b0 b1 b2 b3).2=1 then 0 else ((Lib.decodeN n b0 b1 b2 b3).2:Nat):=by
 generalize hd:Lib.decodeN n b0 b1 b2 b3=d;unfold Lib.decodeN at hd;unfold Nb DW;rw [ah (by omega)];repeat' split at hd
 all_goals subst hd
 all_goals dsimp only
 ·rw [ak (by omega),ah (by omega)];rfl
 all_goals rw [ah (show ¬ (b0:Int) < 128 by omega)]
 all_goals first | rw [ah (by omega)] | rw [ak (show True/\True from ⟨trivial,trivial⟩)] | skip
 all_goals (repeat' split)
 all_goals first | omega | (simp only [not_true_eq_false,and_self] at *;omega)
theorem ahc (s:List UInt8) (hne:s≠[]):Na s=if (Lib.decodeL s).1=65533/\(Lib.decodeL s).2=1 then 0 else ((Lib.decodeL s).2:Nat):=by
 unfold Na bT;rw [Lib.decodeL_N];exact ahd _ _ _ _ _ (Bq.2 hne) (Qk _) (Qk _) (Qk _) (Qk _)
theorem agm (s:List UInt8):1<=(Lib.decodeL s).2:=by
 rw [Lib.decodeL_N];rcases Lib.decodeN_shape s.length (s.getD 0 0).toNat (s.getD 1 0).toNat (s.getD 2 0).toNat (s.getD 3 0).toNat with ⟨_,e⟩ | ⟨_,_,_,_,e⟩ | ⟨_,_,_,_,_,_,e⟩ | ⟨_,_,_,_,_,_,_,e⟩ | e
 all_goals rw [e];dsimp only;omega
theorem aaP:∀ (n:Nat) (s:List UInt8),s.length<=n->s.length<=140737488351232->TT.lim 118 [.s s]=some (if Lib.validGoD n s=true then [.i .i64 1] else [.i .i64 0])
 | 0,s,hn,hl=>by
  obtain rfl:s=[]:=lq (by omega);refine ay rfl rfl ?_;simp [Lib.validGoD]
 | n+1,s,hn,hl=>by
  by_cases hne:s=[]
  ·subst hne
   refine ay rfl rfl ?_;simp [Lib.validGoD]
  have hp:=Bq.2 hne;have k:=aha s hl;have hf:=ahc s hne;have hle:=Lib.decodeL_le s hne;have hd:=agm s;have hp':(0:Int) < (s.length:Int):=by omega
  unfold Lib.validGoD;rw [ah hne];by_cases c:(Lib.decodeL s).1=65533/\(Lib.decodeL s).2=1
  ·rw [ak c] at hf
   rw [hf] at k;rw [ak c];refine ay rfl rfl ?_;simp [hp,hp',k]
  ·rw [ah c] at hf
   rw [hf] at k;rw [ah c];have ih:=aaP n (s.drop (Lib.decodeL s).2) (by simp;omega) (by simp;omega);generalize (Lib.decodeL s).2=w at *;have hw:¬ w=0:=by omega
   have ht:List.take s.length s=s:=pK;refine ay rfl rfl ?_;simp [hp,hp',k,hw,hle,ht,ih]
theorem ahF (s:List UInt8) (h:s.length<=140737488351232):TT.lim 117 [.s s]=some [.b (Lib.validD s)]:=by
 have k:=aaP s.length s (dH _) h;unfold Lib.validD;refine aG rfl rfl ?_ rfl;cases hv:Lib.validGoD s.length s<;>rw [hv] at k<;>simp at k<;>simp [k]
theorem BM (s:List UInt8) (lo hi:Int) (h:s.length<=140737488351232):TT.lim 116 [.s s,.i .i64 lo,.i .i64 hi]=some [.i .i64 (fC s lo hi)]:=by
 have h20:=ahF s h;refine aG rfl rfl ?_ rfl;unfold fC;by_cases h1:(s.length:Int) < lo
 ·simp [h1]
 ·by_cases h2:hi < (s.length:Int)
  ·simp [h1,h2]
  ·cases hv:Lib.validD s<;>rw [hv] at h20<;>simp [h1,h2,h20,hv]
theorem Zg (x:bU) (h1:x.1.length<=140737488351232) (h2:x.2.length<=140737488351232):TT.lim 126 [ent x]=some [.i .i64 (nZ x)]:=by
 have k1:=BM x.1 1 64 h1;have k2:=BM x.2 0 256 h2;refine aG rfl rfl ?_ rfl;unfold nZ;by_cases h:fC x.1 1 64=0
 ·simp [k1,h,k2]
 ·simp [k1,h]
def yE:List UInt8->List UInt8->Option Bool
 | x::a,y::b=>if x=y then yE a b else some (decide (x < y))
 | _,_=>none
theorem X3:∀a b:List UInt8,Op.bytesLess a b=(yE a b).getD (decide (a.length < b.length))
 | [],[]=>rfl
 | [],_::_=>by simp [Op.bytesLess,yE]
 | _::_,[]=>by simp [Op.bytesLess,yE]
 | x::a,y::b=>by
  unfold Op.bytesLess yE;rw [X3 a b];by_cases h:x=y
  ·subst h
   simp [UInt8.lt_irrefl]
  ·simp [h]
def GN (a b:List UInt8):Option Bool->List GV
 | some r=>[.i .i64 0,.b r]
 | none=>[.i .i64 1]
theorem aaQ (a b:List UInt8) (ha:a.length<=140737488351232) (hb:b.length<=140737488351232):∀m i:Nat,i+m=a.length->TT.lim 130 [.s a,.s b,.i .i64 i]=some (GN a b (yE (a.drop i) (b.drop i)))
 | 0,i,hi=>by
  have h0:a.drop i=[]:=dQ (by omega);have h:¬ ((i:Int) < a.length):=by omega
  refine ay rfl rfl ?_;simp [h,h0,yE,GN]
 | m+1,i,hi=>by
  have hlt:i < a.length:=by omega
  have h:((i:Int) < a.length):=by omega
  by_cases hlb:i < b.length;rotate_left
  ·have h0:b.drop i=[]:=dQ (by omega)
   have h1:¬ ((i:Int) < b.length):=by omega
   have hd:yE (a.drop i) []=none:=by cases a.drop i<;>rfl
   refine ay rfl rfl ?_;simp [h,h0,h1,hd,GN]
  have hb1:((i:Int) < b.length):=by omega
  have ih:TT.lim 130 [.s a,.s b,.i .i64 ((i:Int)+1)]=_:=aaQ a b ha hb m (i+1) (by omega);have hw:=wrap64 (n:=(i:Int)+1) (by omega) (by omega);rw [eH hlt,eH hlb];unfold yE;by_cases e:a[i]=b[i]
  ·rw [ak e]
   have e':((a[i].toNat:Int)=(b[i].toNat:Int))=True:=eq_true (by rw [e]);refine ay rfl rfl ?_;simp [h,hlt,hlb,hb1,e',hw,ih]
  ·rw [ah e]
   have e':¬ (a[i].toNat:Int)=(b[i].toNat:Int):=λh=>e (KY.1 (by omega));have hd:decide (a[i] < b[i])=decide (a[i].toNat < b[i].toNat):=by rw [vg];simp [UInt8.lt_iff_toNat_lt]
   refine ay rfl rfl ?_;simp [h,hlt,hlb,hb1,e',hd,GN]
theorem aaB (a b:List UInt8) (ha:a.length<=140737488351232) (hb:b.length<=140737488351232):TT.lim 129 [.s a,.s b]=some [.b (Op.bytesLess a b)]:=by
 have k:TT.lim 130 [.s a,.s b,.i .i64 0]=_:=aaQ a b ha hb a.length 0 (by omega);rw [dF,dF] at k;rw [X3];refine aG rfl rfl ?_ rfl;cases hd:yE a b with
 | none=>
  rw [hd] at k;have hl:decide ((a.length:Int) < (b.length:Int))=decide (a.length < b.length):=by rw [vg];simp
  simp [k,GN,hl]
 | some r=>
  rw [hd] at k;simp [k,GN]
def FQ (x y:bU):Int:=if Op.bytesLess x.1 y.1=true then -1 else if x.1=y.1/\Op.bytesLess x.2 y.2=true then -1 else if x=y then 0 else 1
structure Dn (x:bU):Prop where
 key:x.1.length<=140737488351232
 val:x.2.length<=140737488351232
theorem Yl (x y:bU) (hx:Dn x) (hy:Dn y):TT.lim 128 [ent x,ent y]=some [.i .i64 (FQ x y)]:=by
 have k1:=aaB x.1 y.1 hx.key hy.key;have k2:=aaB x.2 y.2 hx.val hy.val;have ke:=QY x y;unfold FQ;refine aG rfl rfl ?_ rfl;cases h1:Op.bytesLess x.1 y.1 with
 | true=>rw [h1] at k1;simp [k1]
 | false=>
  rw [h1] at k1;by_cases h2:x.1=y.1
  ·have h2':(x.1=y.1)=True:=eq_true h2
   clear h2;cases h3:Op.bytesLess x.2 y.2 with
   | true=>rw [h3] at k2;simp [k1,h2',k2]
   | false=>
    rw [h3] at k2;by_cases h4:x=y
    ·have h4':decide (x=y)=true:=by simp [h4]
     rw [h4'] at ke;have ahI:(x=y)=True:=eq_true h4;clear h4;simp [k1,h2',k2,ke,ahI]
    ·have h4':decide (x=y)=false:=by simp [h4]
     rw [h4'] at ke;simp [k1,h2',k2,ke,h4]
  ·by_cases h4:x=y
   ·exact absurd (by rw [h4]) h2
   ·have h4':decide (x=y)=false:=by simp [h4]
    rw [h4'] at ke;simp [k1,h2,ke,h4]
def oP (p x:List UInt8):Int:=if x=p then 14 else if Op.bytesLess x p=true then 7 else 0
theorem XI (p x:bU) (hp:Dn p) (hx:Dn x):TT.lim 127 [ent p,ent x]=some [.i .i64 (oP p.1 x.1)]:=by
 have k:=Yl p x hp hx;have e1:GV.g [.s p.1,.s p.2]=ent p:=rfl;have e2:GV.g [.s x.1,.s x.2]=ent x:=rfl;unfold oP;by_cases h1:x.1=p.1
 ·have h1':(p.1=x.1)=True:=eq_true h1.symm
  rw [ak h1];refine aG rfl rfl ?_ rfl;simp [h1']
 rw [ah h1];have h1':¬ p.1=x.1:=λe=>h1 e.symm;have hne:¬ p=x:=λe=>h1' (by rw [e]);have hc:FQ p x=if Op.bytesLess x.1 p.1=true then 1 else -1:=by
  unfold FQ;by_cases h2:p.1 < x.1
  ·rw [ak ((yx _ _).2 h2),ah λh=>Ic _ (Ie h2 ((yx _ _).1 h))]
  ·have h3:x.1 < p.1:=by
    rcases W9.1 (KI.1 h2) with h | h
    ·exact h
    ·exact absurd h h1
   rw [ah λh=>h2 ((yx _ _).1 h),ah λh=>h1' h.1,ah hne,ak ((yx _ _).2 h3)]
 rw [hc] at k;refine aG rfl rfl ?_ rfl;cases h3:Op.bytesLess x.1 p.1 with
 | true=>rw [h3] at k;simp [h1',e1,e2,k]
 | false=>rw [h3] at k;simp [h1',e1,e2,k]
theorem uq.small {d:List bU} (h:uq d):∀x∈d,Dn x:=λx hx=>⟨(h.2 x hx).1,(h.2 x hx).2⟩
theorem Tn (d:List bU) (e i:Int) (he:e≠0):TT.lim 158 [.l (d.map ent),.i .i64 e,.i .i64 i]=some [.i .i64 0,.i .i64 e]:=by
 refine ay rfl rfl ?_;by_cases h:i < (d.length:Int)
 ·simp [h,he]
 ·simp [h]
theorem aaO (d:List bU) (hd:uq d):∀m i:Nat,i+m=d.length->TT.lim 158 [.l (d.map ent),.i .i64 0,.i .i64 i]=some [.i .i64 0,.i .i64 (kV (prevK d i) (d.drop i))]
 | 0,i,hi=>by
  have h0:d.drop i=[]:=dQ (by omega);refine ay rfl rfl ?_;have h:¬ ((i:Int) < d.length):=by omega
  simp [h,h0,kV]
 | m+1,i,hi=>by
  have hlt:i < d.length:=by omega
  have hx:=hd.small d[i] (iI hlt);have hp:=Zg d[i] hx.key hx.val;have ih:TT.lim 158 [.l (d.map ent),.i .i64 0,.i .i64 ((i:Int)+1)]=_:=aaO d hd m (i+1) (by omega);have hst:=λe he=>Tn d e ((i:Int)+1) he;have hpk:prevK d (i+1)=some d[i].1:=by unfold prevK;rw [ah (by omega)];simp [hlt]
  rw [hpk] at ih;have hdr:d.drop i=d[i]::d.drop (i+1):=eH hlt;rw [hdr];have h:((i:Int) < d.length):=by omega
  have hw:=wrap64 (n:=(i:Int)+1) (by omega) (by have:=hd.1;omega);have he:GV.g [GV.s d[i].1,GV.s d[i].2]=ent d[i]:=rfl;by_cases h1:nZ d[i]=0;rotate_left
  ·have hs:=hst _ h1
   have hc:kV (prevK d i) (d[i]::d.drop (i+1))=nZ d[i]:=by
    cases prevK d i<;>simp [kV,h1]
   rw [hc];refine ay rfl rfl ?_;simp [h,hlt,he,hp,h1,hw,hs]
  by_cases h0:i=0
  ·subst h0
   have hc:kV (prevK d 0) (d[0]::d.drop 1)=kV (some d[0].1) (d.drop 1):=by simp [prevK,kV,h1]
   rw [hc];simp only [rD,KG] at hw ih;have hpos:(0:Int) < (d.length:Int):=by omega
   generalize kV (some d[0].1) (d.drop 1)=out at *;refine ay rfl rfl ?_;simp [h,hlt,hpos,he,hp,h1,hw,ih]
  ·have hi1:i - 1 < d.length:=by omega
   have hpk2:prevK d i=some d[i - 1].1:=by unfold prevK;rw [ah h0];simp [hi1]
   have hw2:=wrap64 (n:=(i:Int) - 1) (by omega) (by have:=hd.1;omega);have hi0:(0:Int) < (i:Int):=by omega
   have aac:0 < i:=by omega
   have ht:((i:Int) - 1).toNat=i - 1:=by omega
   have hnl:(1:Int)<=(i:Int):=by omega
   have hge:(0:Int)<=(i:Int) - 1:=by omega
   have hy:=hd.small d[i - 1] (iI hi1);have kb:=XI d[i - 1] d[i] hy hx;have he2:GV.g [GV.s d[i - 1].1,GV.s d[i - 1].2]=ent d[i - 1]:=rfl;have hc:kV (prevK d i) (d[i]::d.drop (i+1))=if oP d[i - 1].1 d[i].1≠0 then oP d[i - 1].1 d[i].1 else kV (some d[i].1) (d.drop (i+1)):=by
    rw [hpk2];unfold oP;conv=>lhs;unfold kV
    rw [ah (by simp [h1])];by_cases q1:d[i].1=d[i - 1].1
    ·simp [q1]
    ·by_cases q2:Op.bytesLess d[i].1 d[i - 1].1=true
     ·simp [q1,q2]
     ·simp [q1,q2]
   rw [hc];have hst2:=hst (oP d[i - 1].1 d[i].1);generalize oP d[i - 1].1 d[i].1=bb at *;generalize kV (some d[i].1) (d.drop (i+1))=out at *;by_cases hb:bb=0
   ·subst hb
    refine ay rfl rfl ?_;simp [h,hlt,he,he2,hp,h1,hi0,aac,hw2,ht,hge,hi1,hnl,kb,hw,ih]
   ·have hs:=hst2 hb
    refine ay rfl rfl ?_;simp [h,hlt,he,he2,hp,h1,hi0,aac,hw2,ht,hge,hi1,hnl,kb,hw,hb,hs]
theorem Ye (d:List bU) (hd:uq d):TT.lim 157 [.l (d.map ent)]=some [.i .i64 (pW d)]:=by
 have h17:TT.lim 158 [.l (d.map ent),.i .i64 0,.i .i64 0]=_:=aaO d hd d.length 0 (by omega);have hpk:prevK d 0=none:=rfl;rw [hpk,dF] at h17;have w1:=dX (n:=(d.length:Int)) (by omega) (by have:=hd.1;omega);have s1:=Tn d 12 0 (by decide);have s2:=Tn d 13 0 (by decide);refine aG rfl rfl ?_ rfl;unfold pW;by_cases h0:d.length=0
 ·have:d=[]:=lq h0
  subst this;simp only [vF] at s1;simp [IntKind.wrap,IntKind.signed,s1]
 ·have hne:¬ d=[]:=λe=>h0 (by rw [e];rfl)
  by_cases h1:16 < d.length
  ·have h1':(16:Int) < (d.length:Int):=by omega
   simp [w1,h0,hne,h1,h1',s2]
  ·have h1':¬ (16:Int) < (d.length:Int):=by omega
   simp [w1,h0,hne,h1,h1',h17]
theorem amN (r:Row) (hd:uq r.1):TT.lim 156 [row r]=some [.i .i64 (pF r)]:=by
 have k:=Ye r.1 hd;refine aG rfl rfl ?_ rfl;unfold pF;by_cases h:pW r.1=0
 ·by_cases h2:r.2=0
  ·simp [k,h,h2]
  ·simp [k,h,h2]
 ·simp [k,h]
theorem aaM (d:List bU) (hd:d.length<=40):∀ (m i:Nat) (acc:List bU),i+m=d.length->acc.length=i->TT.lim 169 [.l (acc.map ent),.l (d.map ent),.i .i64 d.length,.i .i64 i]=some [.i .i64 0,.l ((acc++d.drop i).map ent)]
 | 0,i,acc,hi,ha=>by
  have h0:d.drop i=[]:=dQ (by omega);have h:¬ ((i:Int) < d.length):=by omega
  refine ay rfl rfl ?_;simp [h,h0]
 | m+1,i,acc,hi,ha=>by
  have hlt:i < d.length:=by omega
  have ih:TT.lim 169 [.l ((acc++[d[i]]).map ent),.l (d.map ent),.i .i64 d.length,.i .i64 ((i:Int)+1)]=_:=aaM d hd m (i+1) (acc++[d[i]]) (by omega) (by simp;omega);rw [rE,Ij,<- eH hlt] at ih;generalize hL:(acc++d.drop i).map ent=L at ih ⊢;simp only [uy,jy,vF] at ih;have h:((i:Int) < d.length):=by omega
  have hw:=wrap64 (n:=(i:Int)+1) (by omega) (by omega);have he:GV.g [GV.s d[i].1,GV.s d[i].2]=ent d[i]:=rfl;have hok:(ent d[i]).fF 2=true:=rfl;have hb:2 * (acc.length+1) * 32<=281474976710656/\acc.length+1<=281474976710656:=by omega
  refine ay rfl rfl ?_;simp [h,hlt,he,hok,hb,hw,ih]
theorem ada (d:List bU) (hd:d.length<=40):TT.lim 168 [.l (d.map ent)]=some [.l (d.map ent)]:=by
 have k:TT.lim 169 [.l [],.l (d.map ent),.i .i64 d.length,.i .i64 0]=_:=aaM d hd d.length 0 [] (by omega) rfl;rw [dF,eP] at k;refine aG rfl rfl ?_ rfl;simp [k]
theorem aaL (l:List Row) (hl:l.length<=300) (hf:vk l):∀ (m i:Nat) (acc:List Row),i+m=l.length->acc.length=i->TT.lim 171 [.l (acc.map row),.l (l.map row),.i .i64 l.length,.i .i64 i]=some [.i .i64 0,.l ((acc++l.drop i).map row)]
 | 0,i,acc,hi,ha=>by
  have h0:l.drop i=[]:=dQ (by omega);have h:¬ ((i:Int) < l.length):=by omega
  refine ay rfl rfl ?_;simp [h,h0]
 | m+1,i,acc,hi,ha=>by
  have hlt:i < l.length:=by omega
  have ih:TT.lim 171 [.l ((acc++[l[i]]).map row),.l (l.map row),.i .i64 l.length,.i .i64 ((i:Int)+1)]=_:=aaL l hl hf m (i+1) (acc++[l[i]]) (by omega) (by simp;omega);rw [rE,Ij,<- eH hlt] at ih;generalize hL:(acc++l.drop i).map row=L at ih ⊢;simp only [uy,jy,vF] at ih;have k:=ada l[i].1 (F5 (hf _ (iI hlt)));have h:((i:Int) < l.length):=by omega
  have hw:=wrap64 (n:=(i:Int)+1) (by omega) (by omega);have he:GV.g [GV.l (l[i].1.map ent),GV.i .u64 l[i].2]=row l[i]:=rfl;have hok:(row l[i]).fF 2=true:=rfl;have hb:2 * (acc.length+1) * 32<=281474976710656/\acc.length+1<=281474976710656:=by omega
  refine ay rfl rfl ?_;simp [h,hlt,k,he,hok,hb,hw,ih]
theorem aqu (l:List Row) (hl:vw l):TT.lim 170 [.l (l.map row)]=some [.l (l.map row)]:=by
 have k:TT.lim 171 [.l [],.l (l.map row),.i .i64 l.length,.i .i64 0]=_:=aaL l hl.len hl.few l.length 0 [] (by omega) rfl;rw [dF,eP] at k;refine aG rfl rfl ?_ rfl;simp [k]
theorem aqs (n:Nat):(n:Int).tmod 128=((n % 128:Nat):Int):=by rw [P5 (by omega)];omega
theorem aqp (n:Nat):(n:Int).tdiv 128=((n / 128:Nat):Int):=by rw [WQ (by omega)];omega
theorem X0 (n:Nat) (h:n < 256):mP [.i .u8 (n:Int)]=some [UInt8.ofNat n]:=by
 have:=QC [n] (by simpa using h);simpa [iF] using this
theorem add_one (s:List UInt8) (c:UInt8) (h:s.length<=1000000):fE .add (some (.s s)) (some (.s [c]))=some (.s (s++[c])):=by
 rw [Qy,ak (by simp only [uw];omega)]
theorem ap3 (n a b q:Int) (s c r:List UInt8) (h':127 < n) (e1:n.tmod 128=a) (e2:n.tdiv 128=b) (w1:IntKind.u64.wrap (a+128)=a+128) (w2:IntKind.u8.wrap (a+128)=a+128) (w3:IntKind.u64.wrap b=b)
 (e3:mP [.i .u8 (a+128)]=some c) (hb:fE .add (some (.s s)) (some (.s c))=some (.s (s++c))) (k:TT.lim 150 [.i .u64 b,.s (s++c)]=some [.i .i64 0,.i .u64 q,.s (s++(c++r))]) :
 TT.lim 150 [.i .u64 n,.s s]=some [.i .i64 0,.i .u64 q,.s (s++(c++r))]:=by
 refine ay rfl rfl ?_;simp [-Qy,h',e1,e2,w1,w2,w3,e3,hb,k]
theorem ala (n q:Int) (r c:List UInt8) (k:TT.lim 150 [.i .u64 n,.s []]=some [.i .i64 0,.i .u64 q,.s r]) (w:IntKind.u8.wrap q=q) (e:mP [.i .u8 q]=some c) (hr:fE .add (some (.s r)) (some (.s c))=some (.s (r++c))) :
 TT.lim 149 [.i .u64 n]=some [.s (r++c)]:=by
 refine aG rfl rfl ?_ rfl;simp [-Qy,k,w,e,hr]
theorem aju:∀n:Nat,n < 18446744073709551616->∃q r,q < 128/\r++[UInt8.ofNat q]=fH n/\∀s:List UInt8,s.length+(fH n).length<=1000->TT.lim 150 [.i .u64 n,.s s]=some [.i .i64 0,.i .u64 (q:Nat),.s (s++r)]:=by
 intro n;induction n using Nat.strongRecOn with
 | _ n ih=>
  intro hn;by_cases h:n < 128
  ·refine ⟨n,[],h,by rw [Hy h,eP],λs hs=>?_⟩
   have h':¬ (127:Int) < (n:Int):=by omega
   refine ay rfl rfl ?_;simp [h']
  ·obtain ⟨q,r,h1,h2,h3⟩:=ih (n / 128) (by omega) (by omega)
   refine ⟨q,[UInt8.ofNat (n % 128+128)]++r,h1,by rw [Ky h,<- h2,rE,Ij],λs hs=>?_⟩;rw [Ky h,pJ] at hs;have k:=h3 (s++[UInt8.ofNat (n % 128+128)]) (by simp;omega);rw [rE] at k;have e3:=X0 (n % 128+128) (by omega);rw [show ((n % 128+128:Nat):Int)=((n % 128:Nat):Int)+128 by omega] at e3;exact ap3 n _ _ q s _ r (by omega) (aqs n) (aqp n) (dX (by omega) (by omega)) (Ws (by omega) (by omega)) (dX (by omega) (by omega)) e3 (add_one s _ (by omega)) k
theorem UR (n:Nat) (hn:n < 18446744073709551616):TT.lim 149 [.i .u64 n]=some [.s (fH n)]:=by
 obtain ⟨q,r,h1,h2,h3⟩:=aju n hn;have hl:=zF hn;have k:=h3 [] (by simp;omega);rw [eP] at k;rw [<- h2];exact ala n q r _ k (Ws (by omega) (by omega)) (X0 q (by omega)) (add_one r _ (by rw [<- h2] at hl;simp at hl;omega))
theorem agz (x:bU) (h1:x.1.length<=140737488351232) (h2:x.2.length<=140737488351232):TT.lim 152 [ent x]=some [.s (jg x)]:=by
 have k1:=UR x.1.length (by omega);have k2:=UR x.2.length (by omega);have l1:=zF (n:=x.1.length) (by omega);have l2:=zF (n:=x.2.length) (by omega);have w1:=dX (n:=(x.1.length:Int)) (by omega) (by omega);have w2:=dX (n:=(x.2.length:Int)) (by omega) (by omega);have c1:((fH x.1.length).length:Int)+(x.1.length:Int)<=9223372036854775807:=by omega
 have c2:((fH x.1.length).length:Int)+((x.1.length:Int)+((fH x.2.length).length:Int))<=9223372036854775807:=by omega
 have c3:((fH x.1.length).length:Int)+((x.1.length:Int)+(((fH x.2.length).length:Int)+(x.2.length:Int)))<=9223372036854775807:=by omega
 refine aG rfl rfl ?_ rfl;simp [w1,w2,k1,k2,c1,c2,c3,jg,Int.add_assoc]
theorem aaR (d:List bU) (hf:d.all Af=true) (hl:d.length<=40):∀ (m i:Nat) (acc:List UInt8),i+m=d.length->acc.length<=10+620 * i->
 TT.lim 151 [.s acc,.l (d.map ent),.i .i64 d.length,.i .i64 i]=some [.i .i64 0,.s (acc++(d.drop i).flatMap jg)]
 | 0,i,acc,hi,ha=>by
  have h0:d.drop i=[]:=dQ (by omega);refine ay rfl rfl ?_;have h:¬ ((i:Int) < d.length):=by omega
  simp [h,h0]
 | m+1,i,acc,hi,ha=>by
  have hlt:i < d.length:=by omega
  have hx:=List.all_eq_true.1 hf d[i] (iI hlt);have hx1:=hx;unfold Af at hx1;simp only [decide_eq_true_iff] at hx1;have hp:=agz d[i] (by omega) (by omega);have hpl:=QT hx;have ih:TT.lim 151 [.s (acc++jg d[i]),.l (d.map ent),.i .i64 d.length,.i .i64 ((i:Int)+1)]=_:=aaR d hf hl m (i+1) (acc++jg d[i]) (by omega) (by simp;omega);have hd:(d.drop i).flatMap jg=jg d[i]++(d.drop (i+1)).flatMap jg:=by rw [eH hlt,iW]
  rw [hd,<- rE];have h:((i:Int) < d.length):=by omega
  have hw:=wrap64 (n:=(i:Int)+1) (by omega) (by omega);have hb:(acc.length:Int)+((jg d[i]).length:Int)<=9223372036854775807:=by omega
  have he:GV.g [GV.s d[i].1,GV.s d[i].2]=ent d[i]:=rfl;refine ay rfl rfl ?_;simp [h,hlt,he,hp,hb,hw,ih]
theorem aap (d:List bU) (hf:lF d=true):TT.lim 148 [.l (d.map ent)]=some [.s (jG d)]:=by
 unfold lF at hf;rw [aJ,decide_eq_true_iff] at hf;have k:=UR d.length (by omega);have l1:=zF (n:=d.length) (by omega);have w1:=dX (n:=(d.length:Int)) (by omega) (by omega);have h11:TT.lim 151 [.s (fH d.length),.l (d.map ent),.i .i64 d.length,.i .i64 0]=_:=aaR d hf.1 hf.2 d.length 0 (fH d.length) (by omega) (by omega);rw [dF] at h11;refine aG rfl rfl ?_ rfl;unfold jG;generalize d.flatMap jg=F at *;simp [w1,k,h11]
theorem aas {d:List bU} (hf:lF d=true):(jG d).length<=30000:=by
 unfold lF at hf;rw [aJ,decide_eq_true_iff] at hf;have l1:=zF (n:=d.length) (by omega);have:=Rn d hf.1;unfold jG;simp only [jD];omega
theorem aaC (a b:List UInt8) (ha:a.length<=140737488351232) (hb:b.length<=140737488351232):TT.lim 135 [.s a,.s b]=some [.b (Op.bytesLess a b)]:=by
 have k:=Yl (a,[]) (b,[]) ⟨ha,by simp⟩ ⟨hb,by simp⟩;have e1:GV.g [.s a,.s []]=ent (a,[]):=rfl;have e2:GV.g [.s b,.s []]=ent (b,[]):=rfl;have hc:decide (FQ (a,[]) (b,[]) < 0)=Op.bytesLess a b:=by
  unfold FQ;cases h:Op.bytesLess a b with
  | true=>simp
  | false=>
   simp only [eG,if_false];rw [ah (by simp [Op.bytesLess])];split<;>rfl
 refine aG rfl rfl ?_ rfl;simp [e1,e2,k,hc]
theorem aaN (t:List Row) (ht:Rows t) (hf:vk t) (h256:t.length<=256):∀m i:Nat,i+m=t.length->
 TT.lim 155 [.l (t.map row),.i .i64 t.length,.i .i64 i]=some (tagged (jF (if h:0 < i then (t[i - 1]?).map K else none) (t.drop i)))
 | 0,i,hi=>by
  have h0:t.drop i=[]:=dQ (by omega);have h:¬ ((i:Int) < t.length):=by omega
  refine ay rfl rfl ?_;simp [h,h0,jF,tagged]
 | m+1,i,hi=>by
  have hlt:i < t.length:=by omega
  have hr:=ht.2 t[i] (iI hlt);have fr:=hf t[i] (iI hlt);have k15:=amN t[i] hr.1;have k6:=aap t[i].1 fr;have hrow:GV.g [.l (t[i].1.map ent),.i .u64 t[i].2]=row t[i]:=rfl;have ih:TT.lim 155 [.l (t.map row),.i .i64 t.length,.i .i64 ((i:Int)+1)]=_:=aaN t ht hf h256 m (i+1) (by omega);have hpk:(if h:0 < i+1 then (t[i+1 - 1]?).map K else none)=some (K t[i]):=by simp [hlt]
  rw [hpk] at ih;rw [eH hlt];have h:((i:Int) < t.length):=by omega
  have hw:=wrap64 (n:=(i:Int)+1) (by omega) (by omega);by_cases h1:pF t[i]=0;rotate_left
  ·have hc:∀p,jF p (t[i]::t.drop (i+1))=pF t[i]:=λp=>by unfold jF;rw [ak h1]
   rw [hc];have ht1:tagged (pF t[i])=[.i .i64 0,.i .i64 (pF t[i])]:=by unfold tagged;rw [ah h1]
   rw [ht1];refine ay rfl rfl ?_;simp [-List.getElem_cons_drop,h,hlt,hrow,k15,h1]
  by_cases h0:i=0
  ·subst h0
   have hc:jF (if h:0 < 0 then (t[0 - 1]?).map K else none) (t[0]::t.drop (0+1))=jF (some (K t[0])) (t.drop (0+1)):=by
    conv=>lhs;unfold jF
    simp [h1]
   rw [hc];generalize tagged (jF (some (K t[0])) (t.drop (0+1)))=out at *;simp only [rD,KG] at hw ih;have hn:(0:Int) < (t.length:Int):=by omega
   refine ay rfl rfl ?_;simp [-List.getElem_cons_drop,h,hlt,hn,hrow,k15,h1,k6,hw,ih]
  ·have hi0:0 < i:=by omega
   have hi1:i - 1 < t.length:=by omega
   have RV:(0:Int) < (i:Int):=by omega
   have hw2:=wrap64 (n:=(i:Int) - 1) (by omega) (by omega);have ht2:((i:Int) - 1).toNat=i - 1:=by omega
   have hnl:(1:Int)<=(i:Int):=by omega
   have hge:(0:Int)<=(i:Int) - 1:=by omega
   have fp:=hf t[i - 1] (iI hi1);have k7:=aap t[i - 1].1 fp;have kl:=aaC (jG t[i - 1].1) (jG t[i].1) (by have:=aas fp;omega) (by have:=aas fr;omega);have hp:(if h:0 < i then (t[i - 1]?).map K else none)=some (K t[i - 1]):=by simp [hi0,hi1]
   rw [hp];have hc:jF (some (K t[i - 1])) (t[i]::t.drop (i+1))=if K t[i]=K t[i - 1] then 14 else if Op.bytesLess (K t[i]) (K t[i - 1])=true then 7 else jF (some (K t[i])) (t.drop (i+1)):=by
    conv=>lhs;unfold jF
    rw [ah (by simp [h1])]
   rw [hc];generalize jF (some (K t[i])) (t.drop (i+1))=out at *;by_cases h2:jG t[i].1=jG t[i - 1].1
   ·rw [ak h2]
    have h2':(jG t[i - 1].1=jG t[i].1)=True:=eq_true h2.symm;refine ay rfl rfl ?_;simp [-List.getElem_cons_drop,h,hlt,hrow,k15,h1,k6,RV,hi0,hw2,ht2,hnl,hge,hi1,k7,h2',tagged]
   ·rw [ah h2]
    have h2':¬ jG t[i - 1].1=jG t[i].1:=λe=>h2 e.symm;by_cases h3:jG t[i].1 < jG t[i - 1].1
    ·rw [ak ((yx _ _).2 h3)]
     rw [(aec _ _).2 λh=>Ic _ (Ie h h3)] at kl;refine ay rfl rfl ?_;simp [-List.getElem_cons_drop,h,hlt,hrow,k15,h1,k6,RV,hi0,hw2,ht2,hnl,hge,hi1,k7,h2',kl,tagged]
    ·rw [ah λh=>h3 ((yx _ _).1 h)]
     have h4:jG t[i - 1].1 < jG t[i].1:=by
      rcases W9.1 (KI.1 h3) with h | h
      ·exact h
      ·exact absurd h h2'
     rw [(yx _ _).2 h4] at kl;refine ay rfl rfl ?_;simp [-List.getElem_cons_drop,h,hlt,hrow,k15,h1,k6,RV,hi0,hw2,ht2,hnl,hge,hi1,k7,h2',kl,hw,ih]
theorem aeB (t:List Row) (ht:Rows t) (hf:vk t):TT.lim 154 [.l (t.map row)]=some [.i .i64 (pV t)]:=by
 unfold pV;by_cases h1:256 < t.length
 ·have h1':(256:Int) < (t.length:Int):=by omega
  refine aG rfl rfl ?_ rfl;simp [h1,h1']
 ·have h1':¬ (256:Int) < (t.length:Int):=by omega
  have h38:TT.lim 155 [.l (t.map row),.i .i64 t.length,.i .i64 0]=_:=aaN t ht hf (by omega) t.length 0 (by omega);rw [dF] at h38;have hp:(if h:0 < 0 then (t[0 - 1]?).map K else none)=none:=rfl;rw [hp] at h38;refine aG rfl rfl ?_ rfl;by_cases h2:jF none t=0
  ·simp only [tagged,h2,if_true] at h38
   simp [h1,h1',h38,h2]
  ·simp only [tagged,h2,if_false] at h38
   simp [h1,h1',h38,h2]
theorem aaT (a b:List Row) (i:Nat) (ha:i < a.length) (hb:i < b.length) (hl:a[i].1.length=b[i].1.length) (RI:a[i].1.length<=40) (x3 x4 x5 x7 x8 x9:GV):∀m j:Nat,j+m=a[i].1.length->
 TT.lim 178 [.l (a.map row),.l (b.map row),.i .i64 i,x3,x4,x5,.i .i64 a[i].1.length,x7,x8,x9,.i .i64 j]=some (if a[i].1.drop j=b[i].1.drop j then [.i .i64 1] else [.i .i64 0])
 | 0,j,hj=>by
  have h0:a[i].1.drop j=[]:=dQ (by omega);have h1:b[i].1.drop j=[]:=dQ (by omega);have h:¬ ((j:Int) < a[i].1.length):=by omega
  refine ay rfl rfl ?_;simp [h,h0,h1]
 | m+1,j,hj=>by
  have hla:j < a[i].1.length:=by omega
  have hlb:j < b[i].1.length:=by omega
  have ih:TT.lim 178 [.l (a.map row),.l (b.map row),.i .i64 i,x3,x4,x5,.i .i64 a[i].1.length,x7,x8,x9,.i .i64 ((j:Int)+1)]=_:=aaT a b i ha hb hl RI x3 x4 x5 x7 x8 x9 m (j+1) (by omega);have h:((j:Int) < a[i].1.length):=by omega
  have hw:=wrap64 (n:=(j:Int)+1) (by omega) (by omega);have ke:=QY a[i].1[j] b[i].1[j];have hc:(a[i].1.drop j=b[i].1.drop j)=(a[i].1[j]=b[i].1[j]/\a[i].1.drop (j+1)=b[i].1.drop (j+1)):=by
   rw [eH hla,eH hlb,EZ]
  simp only [hc];by_cases e:a[i].1[j]=b[i].1[j]
  ·have e':(a[i].1[j]=b[i].1[j])=True:=eq_true e
   rw [DT e] at ke;clear e hc;simp only [e',true_and];refine ay rfl rfl ?_;simp [h,ha,hb,hla,hlb,ke,hw,ih]
  ·rw [Ac e] at ke
   rw [ah λh=>e h.1];clear hc;refine ay rfl rfl ?_;simp [h,ha,hb,hla,hlb,ke]
theorem aaS (a b:List Row) (hl:a.length=b.length) (hal:a.length<=1000) (fa:vk a):∀m i:Nat,i+m=a.length->
 TT.lim 177 [.l (a.map row),.l (b.map row),.i .i64 a.length,.i .i64 i]=some (if a.drop i=b.drop i then [.i .i64 1] else [.i .i64 0])
 | 0,i,hi=>by
  have h0:a.drop i=[]:=dQ (by omega);have h1:b.drop i=[]:=dQ (by omega);have h:¬ ((i:Int) < a.length):=by omega
  refine ay rfl rfl ?_;simp [h,h0,h1]
 | m+1,i,hi=>by
  have hla:i < a.length:=by omega
  have hlb:i < b.length:=by omega
  have ih:TT.lim 177 [.l (a.map row),.l (b.map row),.i .i64 a.length,.i .i64 ((i:Int)+1)]=_:=aaS a b hl hal fa m (i+1) (by omega);have h:((i:Int) < a.length):=by omega
  have hw:=wrap64 (n:=(i:Int)+1) (by omega) (by omega);have RI:=F5 (fa _ (iI hla));have hc:(a.drop i=b.drop i)=(a[i]=b[i]/\a.drop (i+1)=b.drop (i+1)):=by
   rw [eH hla,eH hlb,EZ]
  simp only [hc];have hpe:(a[i]=b[i])=(a[i].1=b[i].1/\a[i].2=b[i].2):=propext Prod.ext_iff;clear hc;by_cases e2:a[i].2=b[i].2;rotate_left
  ·rw [ah λh=>e2 (by rw [h.1])]
   clear hpe;refine ay rfl rfl ?_;simp [h,hla,hlb,e2]
  by_cases e3:a[i].1.length=b[i].1.length;rotate_left
  ·rw [ah λh=>e3 (by rw [h.1])]
   have e2':(a[i].2=b[i].2)=True:=eq_true e2;clear hpe e2;have e3':¬ (a[i].1.length:Int)=(b[i].1.length:Int):=by omega
   refine ay rfl rfl ?_;simp [h,hla,hlb,e2',e3,e3']
  have k:=aaT a b i hla hlb e3 RI (.i .i64 a.length) (row a[i]) (.l (a[i].1.map ent)) (row b[i]) (.l (b[i].1.map ent)) (.i .i64 b[i].1.length) a[i].1.length 0 (by omega);rw [dF,dF] at k;simp only [rD] at k;have e2':(a[i].2=b[i].2)=True:=eq_true e2;have e3':((a[i].1.length:Int)=(b[i].1.length:Int))=True:=eq_true (by omega);have YN:(a[i].1.length=b[i].1.length)=True:=eq_true e3;by_cases e1:a[i].1=b[i].1
  ·rw [ak e1] at k
   have hc2:(a[i]=b[i])=True:=eq_true (Prod.ext e1 e2);simp only [hc2,true_and];clear hpe e2 e3 e1 hc2;refine ay rfl rfl ?_;simp [h,hla,hlb,e2',e3',YN,k,hw,ih]
  ·rw [ah e1] at k
   rw [ah λh=>e1 (by rw [h.1])];clear hpe e2 e3;refine ay rfl rfl ?_;simp [h,hla,hlb,e2',e3',YN,k]
theorem aob (a b:List Row) (hal:a.length<=1000) (fa:vk a):TT.lim 176 [.l (a.map row),.l (b.map row)]=some [.b (decide (a=b))]:=by
 by_cases hl:a.length=b.length
 ·have k:TT.lim 177 [.l (a.map row),.l (b.map row),.i .i64 a.length,.i .i64 0]=_:=aaS a b hl hal fa a.length 0 (by omega)
  rw [dF,dF] at k;have hl':((a.length:Int)=(b.length:Int))=True:=eq_true (by omega);have hl'':(a.length=b.length)=True:=eq_true hl;clear hl;by_cases e:a=b
  ·rw [ak e] at k
   rw [DT e];clear e;refine aG rfl rfl ?_ rfl;simp [hl',hl'',k]
  ·rw [ah e] at k
   rw [Ac e];refine aG rfl rfl ?_ rfl;simp [hl',hl'',k]
 ·rw [Ac λe=>hl (by rw [e])]
  have hl':¬ (a.length:Int)=(b.length:Int):=by omega
  refine aG rfl rfl ?_ rfl;simp [hl,hl']
end V
end Go.Proofs.YthgifdbaegpbpaaGreatDoor
