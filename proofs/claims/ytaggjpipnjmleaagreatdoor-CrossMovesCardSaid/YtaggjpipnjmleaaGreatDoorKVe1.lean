/- What the trees compute: plain laws. -/
import Derived.Test.YtaggjpipnjmleaaGreatDoorKVT
import Derived.Test.YtaggjpipnjmleaaGreatDoorAbsPl
import Derived.Test.YtaggjpipnjmleaaGreatDoorAbsGo
import Derived.Test.YtaggjpipnjmleaaGreatDoorAbsTold2
import Derived.Test.YtaggjpipnjmleaaGreatDoorAbsTold3
import Derived.Test.YtaggjpipnjmleaaGreatDoorAbsFields
import Derived.Test.YtaggjpipnjmleaaGreatDoorAbsSortF
import Derived.Lib.TrimUEq
import Derived.Lib.MapLaws
namespace Go.Proofs.YtaggjpipnjmleaaGreatDoor
open Go Go.aJ
set_option linter.unusedSimpArgs false
set_option linter.unusedVariables false
set_option maxRecDepth 100000
namespace V
theorem DF:∀a b:List UInt8,Op.bytesLess a b=decide (a < b)
 | _,[]=>by simp [Op.bytesLess]
 | [],_::_=>by simp [Op.bytesLess]
 | a::x,b::y=>by
   rw [Op.bytesLess,DF x y,mY];simp [afh]
/-- An entry: key and value. A row: its entries and its number. -/
abbrev bU:=List UInt8×List UInt8
abbrev Row:=List bU×Int
def ent (x:bU):GV:=.g [.s x.1,.s x.2]
def row (r:Row):GV:=.g [.l (r.1.map ent),.i .u64 r.2]
@[simp] theorem atD (x:bU):(ent x).cells=[.s x.1,.s x.2]:=rfl
@[simp] theorem avg (r:Row):(row r).cells=[.l (r.1.map ent),.i .u64 r.2]:=rfl
@[simp] theorem atE (x:bU):(ent x).scalar=false:=rfl
@[simp] theorem avh (r:Row):(row r).scalar=false:=rfl
/-- Texts and lists of no more than any machine bears. -/
def oJ (d:List bU):Prop:=d.length<=140737488351232/\∀x∈d,x.1.length<=140737488351232/\x.2.length<=140737488351232
def Rows (l:List Row):Prop:=l.length<=140737488351232/\∀r∈l,oJ r.1/\0<=r.2/\r.2 < 18446744073709551616
def oU (x:bU):Bool:=decide (x.1.length+x.2.length<=600)
theorem abX (d:List bU) (hd:oJ d):∀m i:Nat,i+m=d.length->TT.lim 4 [.l (d.map ent),.i .i64 d.length,.i .i64 i]=some (if (d.drop i).all oU=true then [.i .i64 1] else [.i .i64 0])
 | 0,i,hi=>by
   have h0:d.drop i=[]:=dN (by omega);refine aB rfl rfl ?_;have h:¬ ((i:Int) < d.length):=by omega
   simp [h,h0]
 | m+1,i,hi=>by
   have hlt:i < d.length:=by omega
   have ih:TT.lim 4 [.l (d.map ent),.i .i64 d.length,.i .i64 ((i:Int)+1)]=_:=abX d hd m (i+1) (by omega);refine aB rfl rfl ?_;have h:((i:Int) < d.length):=by omega
   have hw:=wrap64 (n:=(i:Int)+1) (by omega) (by have:=hd.1;omega);have hx:=hd.2 d[i] (fP hlt);have hw2:=wrap64 (n:=(d[i].1.length:Int)+(d[i].2.length:Int)) (by omega) (by omega);have hda:(d.drop i).all oU=(oU d[i]&&(d.drop (i+1)).all oU):=by rw [dZ hlt,qy]
   by_cases hf:(600:Int) < (d[i].1.length:Int)+(d[i].2.length:Int)
   ·have:oU d[i]=false:=by unfold oU;simp;omega
    simp [h,hlt,hw2,hf,hda,this]
   ·have:oU d[i]=true:=by unfold oU;simp;omega
    rw [hda,this,IV];simp [h,hlt,hw,hw2,hf,ih]
def gZ (d:List bU):Bool:=d.all oU&&decide (d.length<=40)
theorem aaJ (d:List bU) (hd:oJ d):TT.lim 3 [.l (d.map ent)]=some [.b (gZ d)]:=by
 refine aG rfl rfl ?_ rfl;have h5:TT.lim 4 [.l (d.map ent),.i .i64 d.length,.i .i64 0]=_:=abX d hd d.length 0 (by omega);rw [bY] at h5;cases hc:d.all oU with
 | false=>rw [hc] at h5;simp [h5,gZ,hc]
 | true=>
   rw [hc] at h5;simp only [if_true] at h5;have:(decide ((d.length:Int)<=40))=decide (d.length<=40):=by rw [mY];simp;omega
   simp [h5,gZ,hc,this]
def aW (n:Nat):List UInt8:=if n < 128 then [UInt8.ofNat n] else UInt8.ofNat (n % 128+128)::aW (n / 128)
termination_by n
decreasing_by omega
theorem IK {n:Nat} (h:n < 128):aW n=[UInt8.ofNat n]:=by rw [aW,aj h]
theorem LH {n:Nat} (h:¬ n < 128):aW n=UInt8.ofNat (n % 128+128)::aW (n / 128):=by rw [aW,ah h]
def jV (n:Nat):Nat:=(aW n).length
theorem aq4 {n:Int} (h0:0<=n):n.fdiv (2 ^ (7:Nat))=n / 128:=by
 rw [LU _ (by decide)];rfl
theorem aef {n:Nat}:mQ .shr .u64 (n:Int) 7=some (.i .u64 ((n / 128:Nat):Int)):=by
 have:((n:Int)).fdiv (2 ^ (7:Nat))=((n / 128:Nat):Int):=by rw [aq4 (by omega)];omega
 simp [mQ,IntKind.bits];exact this
theorem Q7 (n:Nat):0 < jV n:=by unfold jV;rw [aW];split<;>simp
theorem Q5 {n:Nat} (h:¬ n < 128):jV n=jV (n / 128)+1:=by unfold jV;rw [LH h];rfl
theorem ae6:∀ (k n:Nat),0 < k->n < 128 ^ k->jV n<=k
 | 0,_,h,_=>by omega
 | k+1,n,_,h=>by
   by_cases hn:n < 128
   ·unfold jV;rw [IK hn];simp
   ·rw [Q5 hn]
    cases k with
    | zero=>simp at h;omega
    | succ k=>
      have:n / 128 < 128 ^ (k+1):=by rw [Ba] at h;omega
      have:=ae6 (k+1) (n / 128) (by omega) this;omega
theorem EZ {n:Nat} (h:n < 18446744073709551616):jV n<=10:=ae6 10 n (by omega) (by omega)
theorem al4:∀ (n s:Nat),s+jV n<=1000->n < 18446744073709551616->TT.lim 10 [.i .u64 n,.i .i64 s]=some [.i .i64 0,.i .i64 ((s+jV n - 1:Nat):Int)]:=by
 intro n;induction n using Nat.strongRecOn with
 | _ n ih=>
   intro s hs hn;refine aB rfl rfl ?_;by_cases h:n < 128
   ·have h':¬ (128:Int)<=n:=by omega
    simp [h',jV,IK h]
   ·have h':(128:Int)<=n:=by omega
    have hv:=Q5 h;have hp:=Q7 (n / 128);have hw:=wrap64 (n:=(s:Int)+1) (by omega) (by omega);have ih':TT.lim 10 [.i .u64 ((n / 128:Nat):Int),.i .i64 ((s:Int)+1)]=_:=ih (n / 128) (by omega) (s+1) (by omega) (by omega);have hn':s+jV n - 1=s+1+jV (n / 128) - 1:=by omega
    rw [hn'];have h7:mQ .shr .u64 (n:Int) 7=some (.i .u64 ((n / 128:Nat):Int)):=aef;generalize ((n / 128:Nat):Int)=q at h7 ih';simp [h',hw,h7,ih']
theorem Lc (n:Nat) (hn:n < 18446744073709551616):TT.lim 9 [.i .u64 n]=some [.i .i64 (jV n)]:=by
 have hp:=Q7 n;have h9:TT.lim 10 [.i .u64 n,.i .i64 1]=_:=al4 n 1 (by have:=EZ hn;omega) hn;rw [show 1+jV n - 1=jV n by omega] at h9;refine aG rfl rfl ?_ rfl;simp [h9]
/-- The bytes of a number, each with its high bit set. -/
def jU:Nat->Nat->List Nat
 | 0,_=>[]
 | k+1,n=>(n % 128+128)::jU k (n / 128)
def iQ (n:Nat):GV:=.i .u8 n
theorem afD (n:Nat) (hn:n < 18446744073709551616):fU .and .u64 (n:Int) 127=some (.i .u64 ((n % 128:Nat):Int)):=by
 have h1:((BitVec.ofInt 64 (n:Int) &&& BitVec.ofInt 64 127).toNat:Nat)=n % 128:=by
  rw [Ye,wM,wM];have e1:((n:Int) % ((2 ^ 64:Nat):Int)).toNat=n:=by omega
  have e2:((127:Int) % ((2 ^ 64:Nat):Int)).toNat=2 ^ 7 - 1:=by decide
  rw [e1,e2,afm]
 show some (GV.i .u64 (IntKind.u64.wrap (((BitVec.ofInt 64 (n:Int) &&& BitVec.ofInt 64 127).toNat:Nat):Int)))=_
 rw [h1,dF (by omega) (by omega)]
theorem Y5 (n:Nat) (hn:n < 256):fU .and .u8 (n:Int) 127=some (.i .u8 ((n % 128:Nat):Int)):=by
 have:∀x:Fin 256,IntKind.u8.wrap (((BitVec.ofInt IntKind.u8.bits ((x.val:Nat):Int) &&& BitVec.ofInt IntKind.u8.bits 127).toNat:Nat):Int)=((x.val % 128:Nat):Int):=by decide +kernel
 show some (GV.i .u8 _)=some (GV.i .u8 _)
 exact xq (λz=>some (GV.i .u8 z)) (this ⟨n,hn⟩)
theorem amV (n:Nat) (hn:n < 128):fU .or .u8 (n:Int) 128=some (.i .u8 ((n+128:Nat):Int)):=by
 have:∀x:Fin 128,IntKind.u8.wrap (((BitVec.ofInt IntKind.u8.bits ((x.val:Nat):Int) ||| BitVec.ofInt IntKind.u8.bits 128).toNat:Nat):Int)=((x.val+128:Nat):Int):=by decide +kernel
 show some (GV.i .u8 _)=some (GV.i .u8 _)
 exact xq (λz=>some (GV.i .u8 z)) (this ⟨n,hn⟩)
theorem Rf {n:Int} (h0:0<=n) (h1:n < 256):IntKind.u8.wrap n=n:=by
 have:IntKind.u8.wrap n=n % 256:=by simp [IntKind.wrap,IntKind.signed,IntKind.bits]
 rw [this];omega
@[simp] theorem atq (n:Nat):(iQ n).cells=[iQ n]:=rfl
@[simp] theorem att (n:Nat):(iQ n).scalar=true:=rfl
@[simp] theorem atr (n:Nat) (v:GV):(iQ n).put 0 [v]=some v:=rfl
theorem SN:∀l:List Nat,(∀x∈l,x < 256)->lC (l.map iQ)=some (l.map UInt8.ofNat)
 | [],_=>rfl
 | a::l,h=>by
   have h1:=h a (by simp);have h2:=SN l λx hx=>h x (by simp [hx]);simp only [iU,iQ,lC] at h2 ⊢;rw [aj (by omega)];have:(λn:Nat=>GV.i .u8 (n:Int))=iQ:=rfl;rw [h2];simp
theorem abS:∀ (m n:Nat) (done:List Nat),n < 18446744073709551616->done.length+m < 1000->
 TT.lim 11 [.i .u64 n,.l ((done++List.replicate m 0).map iQ),.i .i64 ((done.length+m:Nat):Int),.i .i64 done.length]=some [.i .i64 0,.l ((done++jU m n).map iQ)]
 | 0,n,done,hn,hd=>by
   refine aB rfl rfl ?_;simp [jU]
 | m+1,n,done,hn,hd=>by
   have hlt:(done.length:Int) < ((done.length+(m+1):Nat):Int):=by omega
   have hw:=wrap64 (n:=(done.length:Int)+1) (by omega) (by omega);have hw8:=Rf (n:=((n % 128:Nat):Int)) (by omega) (by omega);have h7:mQ .shr .u64 (n:Int) 7=some (.i .u64 ((n / 128:Nat):Int)):=aef;have ha:=afD n hn;have ho:=amV (n % 128) (by omega);have ih:=abS m (n / 128) (done++[n % 128+128]) (by omega) (by simp;omega);have hlen:(done++[n % 128+128]).length+m=done.length+(m+1):=by simp;omega
   rw [hlen] at ih;have hl2:(((done++[n % 128+128]).length:Nat):Int)=(done.length:Int)+1:=by simp
   rw [hl2] at ih;have hset:((done++List.replicate (m+1) 0).map iQ).set done.length (iQ (n % 128+128))=(done++[n % 128+128]++List.replicate m 0).map iQ:=by
    rw [I8,<- List.map_set,List.set_append_right _ _ (dL _),yx];simp
   have hget:((done++List.replicate (m+1) 0).map iQ)[done.length]? = some (iQ 0):=by
    rw [iF,rY (dL _),yx,I8];rfl
   have hll:((done++List.replicate (m+1) 0).map iQ).length=done.length+(m+1):=by simp
   have hv:done++jU (m+1) n=done++[n % 128+128]++jU m (n / 128):=by simp [jU]
   rw [hv];generalize hL:(done++List.replicate (m+1) 0).map iQ=L at *;refine aB rfl rfl ?_;have hix:(0:Int)<=(done.length:Int)/\(done.length:Int) < (L.length:Int):=by rw [hll];omega
   have hob:GV.i IntKind.u8 ((n % 128+128:Nat):Int)=iQ (n % 128+128):=rfl;have UL:L.set done.length (GV.i IntKind.u8 ((n % 128+128:Nat):Int))=(done++[n % 128+128]++List.replicate m 0).map iQ:=hset;generalize (done++[n % 128+128]++List.replicate m 0).map iQ=L2 at ih UL;generalize (done++[n % 128+128]++jU m (n / 128)).map iQ=L3 at ih ⊢;generalize ((n / 128:Nat):Int)=q at h7 ih;generalize ((n % 128+128:Nat):Int)=z at ho UL;generalize ((n % 128:Nat):Int)=rr at ha hw8 ho;generalize ((done.length+(m+1):Nat):Int)=N at hlt ih ⊢;simp [hlt,ha,hw8,ho,hix,hget,h7,hw,UL,ih]
theorem XV:∀m n,(jU m n).length=m
 | 0,_=>rfl
 | m+1,n=>by simp [jU,XV m]
theorem XW:∀m n,∀x∈jU m n,x < 256
 | 0,_,x,h=>by simp [jU] at h
 | m+1,n,x,h=>by
   simp only [jU,dO] at h;rcases h with rfl | h
   ·omega
   ·exact XW m _ x h
/-- The last byte without its high bit: as numbers are written. -/
theorem ae5:∀ (s n:Nat),jV n=s+1->∃x,(jU (s+1) n)[s]? = some x/\((jU (s+1) n).set s (x % 128)).map UInt8.ofNat=aW n
 | 0,n,h=>by
   have hn:n < 128:=by
    by_cases hn:n < 128
    ·exact hn
    ·rw [Q5 hn] at h;have:=Q7 (n / 128);omega
   refine ⟨n % 128+128,by simp [jU], ?_⟩;rw [IK hn];simp [jU];rw [Mc hn]
 | s+1,n,h=>by
   have hn:¬ n < 128:=by
    intro hn;unfold jV at h;rw [IK hn] at h;simp at h
   rw [Q5 hn] at h;obtain ⟨x,h1,h2⟩:=ae5 s (n / 128) (by omega);refine ⟨x,by simp only [jU,pK] at h1 ⊢;exact h1, ?_⟩;rw [LH hn,<- h2];simp [jU]
theorem wC (n:Nat) (hn:n < 18446744073709551616):TT.lim 8 [.i .u64 n]=some [.s (aW n)]:=by
 have h8:=Lc n hn;have hp:=Q7 n;have hs:=EZ hn;obtain ⟨s,hs1⟩:∃s,jV n=s+1:=⟨jV n - 1,by omega⟩
 obtain ⟨x,h1,h2⟩:=ae5 s n hs1;rw [hs1] at h8;have h10:TT.lim 11 [.i .u64 n,.l ((List.replicate (s+1) 0).map iQ),.i .i64 ((s+1:Nat):Int),.i .i64 0]=some [.i .i64 0,.l ((jU (s+1) n).map iQ)]:=by
  have:=abS (s+1) n [] hn (by simp;omega);simpa using this
 have hr:(List.replicate (s+1) 0).map iQ=List.replicate (s+1) (GV.i .u8 0):=by rw [List.map_replicate];rfl
 rw [hr] at h10;have hx:x < 256:=XW _ _ x (qA h1);have ha:=Y5 x hx;have hget:((jU (s+1) n).map iQ)[s]? = some (iQ x):=by rw [iF,h1];rfl
 have hset:((jU (s+1) n).map iQ).set s (GV.i .u8 ((x % 128:Nat):Int))=((jU (s+1) n).set s (x % 128)).map iQ:=(List.map_set (f:=iQ) (l:=jU (s+1) n) (i:=s) (a:=x % 128)).symm;have hb:=SN ((jU (s+1) n).set s (x % 128)) (λy hy=>by
  rcases YE hy with hy | rfl
  ·exact XW _ _ y hy
  ·omega)
 rw [h2] at hb;have hlen:(((jU (s+1) n).set s (x % 128)).map iQ).length=s+1:=by simp [XV]
 have hlr:(List.replicate (s+1) (GV.i .u8 0)).length=s+1:=by simp
 have hl1:((jU (s+1) n).map iQ).length=s+1:=by simp [XV]
 generalize ((jU (s+1) n).set s (x % 128)).map iQ=L3 at hset hb hlen;generalize (jU (s+1) n).map iQ=L2 at h10 hget hset hl1;generalize hrep:List.replicate (s+1) (GV.i .u8 0)=L1 at h10 hlr;refine aG rfl rfl ?_ rfl;have hw:=wrap64 (n:=(s:Int)) (by omega) (by omega);have hcast:((s+1:Nat):Int)=(s:Int)+1:=by omega
 rw [hcast] at h8 h10;have hc1:(0:Int)<=(s:Int)+1/\(s:Int)+1<=281474976710656/\(s:Int)+1<=1152921504606846976:=by omega
 have hc2:((s:Int)+1).toNat=s+1:=by omega
 have hlt:(s:Int) < (s:Int)+1:=by omega
 have hs2:(s:Int)+1 - 1=(s:Int):=by omega
 generalize hM:((x % 128:Nat):Int)=M at ha hset;have hxx:iQ x=.i .u8 x:=rfl;have h48:s+1<=281474976710656:=by omega
 have hg2:L2[s]'(by omega)=iQ x:=by have:=hget;rw [bV (by omega)] at this;exact wU this
 simp [h8,hc1,hc2,hrep,hlr,h10,hl1,hs2,hw,hlt,hget,hg2,ha,hset,hxx,hlen,hb,h48,GV.eU]
theorem SI (a b:List UInt8):eP (a++b)=eP a++eP b:=by simp [eP]
@[simp] theorem Zr (a:List UInt8):(eP a).length=a.length:=by simp [eP]
theorem Jv (a:List UInt8):(eP a).all (GV.eU 1)=true:=by
 rw [List.all_eq_true];intro x hx;obtain ⟨b,_,rfl⟩:=l7.1 hx;rfl
theorem SL:∀a:List UInt8,lC (eP a)=some a
 | []=>rfl
 | x::a=>by
   have ih:=SL a;simp only [eP,iU,lC] at ih ⊢;have:=x.toNat_lt;rw [aj (by omega),ih];simp
def jv (x:bU):List UInt8:=aW x.1.length++x.1++aW x.2.length++x.2
def eG (d:List bU):List UInt8:=aW d.length++d.flatMap jv
theorem iO {n:Nat} (h:n < 18446744073709551616):(aW n).length<=10:=EZ h
theorem aiZ (x:bU) (h1:x.1.length<=140737488351232) (h2:x.2.length<=140737488351232):TT.lim 13 [ent x]=some [.s (jv x)]:=by
 have k1:=wC x.1.length (by omega);have k2:=wC x.2.length (by omega);have l1:=iO (n:=x.1.length) (by omega);have l2:=iO (n:=x.2.length) (by omega);have w1:=dF (n:=(x.1.length:Int)) (by omega) (by omega);have w2:=dF (n:=(x.2.length:Int)) (by omega) (by omega);refine aG rfl rfl ?_ rfl;have c1:((aW x.1.length).length:Int)+(x.1.length:Int)<=9223372036854775807:=by omega
 have c2:((aW x.1.length).length:Int)+((x.1.length:Int)+((aW x.2.length).length:Int))<=9223372036854775807:=by omega
 have c3:((aW x.1.length).length:Int)+((x.1.length:Int)+(((aW x.2.length).length:Int)+(x.2.length:Int)))<=9223372036854775807:=by omega
 simp [w1,w2,k1,k2,c1,c2,c3,jv,Int.add_assoc]
theorem TB {x:bU} (h:oU x=true):(jv x).length<=620:=by
 unfold oU at h;simp only [decide_eq_true_iff] at h;have l1:=iO (n:=x.1.length) (by omega);have l2:=iO (n:=x.2.length) (by omega);simp only [jv,dX];omega
theorem Ua:∀d:List bU,d.all oU=true->(d.flatMap jv).length<=620 * d.length
 | [],_=>by simp
 | x::d,h=>by
   rw [qy,aI] at h;have:=TB h.1;have:=Ua d h.2;simp only [jk,dX,jc];omega
theorem abT (d:List bU) (hf:d.all oU=true) (hl:d.length<=40):∀ (m i:Nat) (acc:List UInt8),i+m=d.length->acc.length<=10+620 * i->
 TT.lim 12 [.l (d.map ent),.i .i64 d.length,.i .i64 i,.l (eP acc)]=some [.i .i64 0,.l (eP (acc++(d.drop i).flatMap jv))]
 | 0,i,acc,hi,ha=>by
   have h0:d.drop i=[]:=dN (by omega);refine aB rfl rfl ?_;have h:¬ ((i:Int) < d.length):=by omega
   simp [h,h0]
 | m+1,i,acc,hi,ha=>by
   have hlt:i < d.length:=by omega
   have hx:=List.all_eq_true.1 hf d[i] (fP hlt);have hx1:=hx;unfold oU at hx1;simp only [decide_eq_true_iff] at hx1;have hp:=aiZ d[i] (by omega) (by omega);have hpl:=TB hx;have ih:TT.lim 12 [.l (d.map ent),.i .i64 d.length,.i .i64 ((i:Int)+1),.l (eP (acc++jv d[i]))]=_:=abT d hf hl m (i+1) (acc++jv d[i]) (by omega) (by simp;omega);rw [SI] at ih;have hd:(d.drop i).flatMap jv=jv d[i]++(d.drop (i+1)).flatMap jv:=by rw [dZ hlt,jk]
   rw [hd,<- List.append_assoc];refine aB rfl rfl ?_;have h:((i:Int) < d.length):=by omega
   have hw:=wrap64 (n:=(i:Int)+1) (by omega) (by omega);have hok:=Jv (jv d[i]);have hb:2 * (acc.length+(jv d[i]).length)<=281474976710656/\acc.length+(jv d[i]).length<=281474976710656:=by omega
   have he:GV.g [GV.s d[i].1,GV.s d[i].2]=ent d[i]:=rfl;simp [-List.all_eq_true,h,hlt,he,hp,hok,hb,hw,ih]
theorem OZ (d:List bU) (hf:gZ d=true):TT.lim 7 [.l (d.map ent)]=some [.s (eG d)]:=by
 unfold gZ at hf;rw [aI,decide_eq_true_iff] at hf;have k:=wC d.length (by omega);have l1:=iO (n:=d.length) (by omega);have w1:=dF (n:=(d.length:Int)) (by omega) (by omega);have h11:TT.lim 12 [.l (d.map ent),.i .i64 d.length,.i .i64 0,.l (eP (aW d.length))]=_:=abT d hf.1 hf.2 d.length 0 (aW d.length) (by omega) (by omega);rw [bY] at h11;have hb:2 * (aW d.length).length<=281474976710656/\(aW d.length).length<=281474976710656:=by omega
 have hok:=Jv (aW d.length);have hfl:=Ua d hf.1;have hc:(aW d.length).length+(List.flatMap jv d).length<=281474976710656:=by omega
 have hbg:=SL (aW d.length++d.flatMap jv);refine aG rfl rfl ?_ rfl;unfold eG;generalize d.flatMap jv=F at *;simp [-List.all_eq_true,w1,k,hb,hok,h11,hc,hbg]
def jK (s:List UInt8) (lo hi:Int):Int:=if (s.length:Int) < lo then 13 else if hi < (s.length:Int) then 13 else if Lib.validD s=true then 0 else 11
theorem akr (s:List UInt8) (h:s.length<=140737488351232):TT.lim 44 [.s s]=some [.b (Lib.validD s)]:=by
 have h21:TT.lim 45 [.s s]=some [.b (Lib.validD s)]:=KT (Ds:=Ds) (k:=45) (f:=IJ) rfl (by simp only [IJ];rw [aj (by omega)]);refine aG rfl rfl ?_ rfl;simp [h21]
theorem FZ (s:List UInt8) (lo hi:Int) (h:s.length<=140737488351232):TT.lim 43 [.s s,.i .i64 lo,.i .i64 hi]=some [.i .i64 (jK s lo hi)]:=by
 have h20:=akr s h;refine aG rfl rfl ?_ rfl;unfold jK;by_cases h1:(s.length:Int) < lo
 ·simp [h1]
 ·by_cases h2:hi < (s.length:Int)
  ·simp [h1,h2]
  ·cases hv:Lib.validD s<;>rw [hv] at h20<;>simp [h1,h2,h20,hv]
def nI (x:bU):Int:=if jK x.1 1 64≠0 then jK x.1 1 64 else jK x.2 0 256
theorem aau (x:bU) (h1:x.1.length<=140737488351232) (h2:x.2.length<=140737488351232):TT.lim 51 [ent x]=some [.i .i64 (nI x)]:=by
 have k1:=FZ x.1 1 64 h1;have k2:=FZ x.2 0 256 h2;refine aG rfl rfl ?_ rfl;unfold nI;by_cases h:jK x.1 1 64=0
 ·simp [k1,h,k2]
 ·simp [k1,h]
def kK:Option (List UInt8)->List bU->Int
 | _,[]=>0
 | p,x::xs=>if nI x≠0 then nI x else match p with
   | none=>kK (some x.1) xs
   | some k=>if x.1=k then 14 else if Op.bytesLess x.1 k=true then 7 else kK (some x.1) xs
def tagged (r:Int):List GV:=if r=0 then [.i .i64 1] else [.i .i64 0,.i .i64 r]
def prevK (d:List bU) (i:Nat):Option (List UInt8):=if i=0 then none else (d[i - 1]?).map (·.1)
theorem abU (d:List bU) (hd:oJ d):∀m i:Nat,i+m=d.length->TT.lim 50 [.l (d.map ent),.i .i64 d.length,.i .i64 i]=some (tagged (kK (prevK d i) (d.drop i)))
 | 0,i,hi=>by
   have h0:d.drop i=[]:=dN (by omega);refine aB rfl rfl ?_;have h:¬ ((i:Int) < d.length):=by omega
   simp [h,h0,kK,tagged]
 | m+1,i,hi=>by
   have hlt:i < d.length:=by omega
   have hx:=hd.2 d[i] (fP hlt);have hp:=aau d[i] hx.1 hx.2;have ih:TT.lim 50 [.l (d.map ent),.i .i64 d.length,.i .i64 ((i:Int)+1)]=_:=abU d hd m (i+1) (by omega);have hpk:prevK d (i+1)=some d[i].1:=by unfold prevK;rw [ah (by omega)];simp [hlt]
   rw [hpk] at ih;have hdr:d.drop i=d[i]::d.drop (i+1):=dZ hlt;rw [hdr];refine aB rfl rfl ?_;have h:((i:Int) < d.length):=by omega
   have hw:=wrap64 (n:=(i:Int)+1) (by omega) (by have:=hd.1;omega);have he:GV.g [GV.s d[i].1,GV.s d[i].2]=ent d[i]:=rfl;by_cases h1:nI d[i]=0;rotate_left
   ·simp [h,hlt,he,hp,h1,kK,tagged]
   by_cases h0:i=0
   ·subst h0
    simp only [lZ,LW] at hw ih;simp [h,hlt,he,hp,h1,kK,prevK,hw];simpa using ih
   ·have hi1:i - 1 < d.length:=by omega
    have hpk2:prevK d i=some d[i - 1].1:=by unfold prevK;rw [ah h0];simp [hi1]
    have hw2:=wrap64 (n:=(i:Int) - 1) (by omega) (by have:=hd.1;omega);have hi0:¬ ((i:Int)=0):=by omega
    have hge:(0:Int)<=(i:Int) - 1:=by omega
    have ht:((i:Int) - 1).toNat=i - 1:=by omega
    have hnl:(1:Int)<=(i:Int):=by omega
    rw [hpk2];by_cases h2:d[i].1=d[i - 1].1
    ·have h2':(d[i].1=d[i - 1].1)=True:=eq_true h2
     clear h2;simp [h,hlt,he,hp,h1,hi0,h0,hw2,ht,hi1,h2',kK,tagged,hnl]
    ·cases h3:Op.bytesLess d[i].1 d[i - 1].1 with
     | true=>simp [h,hlt,he,hp,h1,hi0,h0,hw2,ht,hi1,h2,h3,kK,tagged,hnl]
     | false=>simp [h,hlt,he,hp,h1,hi0,h0,hw2,ht,hi1,h2,h3,kK,hw,ih,hnl]
def qV (d:List bU):Int:=if d.length=0 then 12 else if 16 < d.length then 13 else kK none d
theorem ZI (d:List bU) (hd:oJ d):TT.lim 49 [.l (d.map ent)]=some [.i .i64 (qV d)]:=by
 have h17:TT.lim 50 [.l (d.map ent),.i .i64 d.length,.i .i64 0]=_:=abU d hd d.length 0 (by omega);have hpk:prevK d 0=none:=rfl;rw [hpk,bY] at h17;have w1:=dF (n:=(d.length:Int)) (by omega) (by have:=hd.1;omega);refine aG rfl rfl ?_ rfl;unfold qV;by_cases h0:d.length=0
 ·have h0':(d.length:Int)=0:=by omega
  have:d=[]:=jQ h0;subst this;simp [IntKind.wrap,IntKind.signed]
 ·have h0':¬ (d.length:Int)=0:=by omega
  by_cases h1:16 < d.length
  ·have h1':(16:Int) < (d.length:Int):=by omega
   simp [w1,h0,h1,h0',h1']
  ·have h1':¬ (16:Int) < (d.length:Int):=by omega
   by_cases h2:kK none d=0
   ·simp only [tagged,h2,if_true] at h17
    simp [w1,h0,h1,h0',h1',h17,h2]
   ·simp only [tagged,h2,if_false] at h17
    simp [w1,h0,h1,h0',h1',h17]
def oH (r:Row):Int:=if qV r.1≠0 then qV r.1 else if r.2=0 then 18 else 0
theorem aga (r:Row) (hd:oJ r.1):TT.lim 55 [row r]=some [.i .i64 (oH r)]:=by
 have k:=ZI r.1 hd;refine aG rfl rfl ?_ rfl;unfold oH;by_cases h:qV r.1=0
 ·by_cases h2:r.2=0
  ·simp [k,h,h2]
  ·simp [k,h,h2]
 ·simp [k,h]
def pX (long:Bool) (r:Row):Bool:=decide (r.1.length<=18)&&gZ r.1&&(!long || decide ((eG r.1).length<=100))
theorem abV (l:List Row) (hl:Rows l):∀m i:Nat,i+m=l.length->TT.lim 6 [.l (l.map row),.i .i64 l.length,.i .i64 i]=some (if (l.drop i).all (pX (decide (40 < l.length)))=true then [.i .i64 1] else [.i .i64 0])
 | 0,i,hi=>by
   have h0:l.drop i=[]:=dN (by omega);refine aB rfl rfl ?_;have h:¬ ((i:Int) < l.length):=by omega
   simp [h,h0]
 | m+1,i,hi=>by
   have hlt:i < l.length:=by omega
   have hr:=hl.2 l[i] (fP hlt);have ih:TT.lim 6 [.l (l.map row),.i .i64 l.length,.i .i64 ((i:Int)+1)]=_:=abV l hl m (i+1) (by omega);have hda:(l.drop i).all (pX (decide (40 < l.length)))=(pX (decide (40 < l.length)) l[i]&&(l.drop (i+1)).all (pX (decide (40 < l.length)))):=by rw [dZ hlt,qy]
   rw [hda];refine aB rfl rfl ?_;have h:((i:Int) < l.length):=by omega
   have hw:=wrap64 (n:=(i:Int)+1) (by omega) (by have:=hl.1;omega);have h4:=aaJ l[i].1 hr.1;by_cases h1:18 < l[i].1.length
   ·have h1':(18:Int) < (l[i].1.length:Int):=by omega
    have:pX (decide (40 < l.length)) l[i]=false:=by unfold pX;simp;omega
    rw [this];simp [h,hlt,h1']
   have h1':¬ (18:Int) < (l[i].1.length:Int):=by omega
   have h1d:l[i].1.length<=18:=by omega
   cases hf:gZ l[i].1 with
   | false=>
     rw [hf] at h4;have:pX (decide (40 < l.length)) l[i]=false:=by unfold pX;simp [hf]
     rw [this];simp [h,hlt,h1',h4]
   | true=>
     rw [hf] at h4;have k6:=OZ l[i].1 hf;by_cases h2:40 < l.length
     ·have h2':(40:Int) < (l.length:Int):=by omega
      by_cases h3:100 < (eG l[i].1).length
      ·have h3':(100:Int) < ((eG l[i].1).length:Int):=by omega
       have:pX (decide (40 < l.length)) l[i]=false:=by unfold pX;simp [h2];omega
       rw [this];simp [h,hlt,h1',h4,h2',k6,h3']
      ·have h3':¬ (100:Int) < ((eG l[i].1).length:Int):=by omega
       have:pX (decide (40 < l.length)) l[i]=true:=by unfold pX;simp [h2,hf,h1d];omega
       rw [this,IV];simp [h,hlt,h1',h4,h2',k6,h3',hw,ih]
     ·have h2':¬ (40:Int) < (l.length:Int):=by omega
      have:pX (decide (40 < l.length)) l[i]=true:=by unfold pX;simp [h2,hf,h1d]
      rw [this,IV];simp [h,hlt,h1',h4,h2',hw,ih]
def BM (l:List Row):Bool:=l.all (pX (decide (40 < l.length)))&&decide (l.length<=300)
theorem ajz (l:List Row) (hl:Rows l):TT.lim 5 [.l (l.map row)]=some [.b (BM l)]:=by
 refine aG rfl rfl ?_ rfl;have h3:TT.lim 6 [.l (l.map row),.i .i64 l.length,.i .i64 0]=_:=abV l hl l.length 0 (by omega);rw [bY] at h3;unfold BM;cases hc:l.all (pX (decide (40 < l.length))) with
 | false=>rw [hc] at h3;simp [h3]
 | true=>
   rw [hc] at h3;simp only [if_true] at h3;have:(decide ((l.length:Int)<=300))=decide (l.length<=300):=by rw [mY];simp;omega
   simp [h3,this]
theorem ajx {l:List Row} (h:BM l=true):∀r∈l,gZ r.1=true:=by
 unfold BM at h;rw [aI] at h;intro r hr;have:=List.all_eq_true.1 h.1 r hr;unfold pX at this;simp only [aI] at this;exact this.1.2
theorem ZP (d:List bU) (h:d.length<=40):TT.lim 113 [.l (d.map ent)]=some [.l (d.map ent)]:=by
 refine KT (Ds:=Ds) (k:=113) (f:=F8 32 2) rfl ?_;have hall:(d.map ent).all (GV.eU 2)=true:=by
  rw [List.all_eq_true];intro x hx;obtain ⟨r,_,rfl⟩:=l7.1 hx;rfl
 simp only [F8];rw [aj ⟨by rw [vH];omega,hall⟩]
abbrev K (r:Row):List UInt8:=eG r.1
/-- How many rows at the head have lesser keys. -/
def Y1 (k:List UInt8):List Row->Nat
 | []=>0
 | r::rs=>if Op.bytesLess (K r) k=true then Y1 k rs+1 else 0
def Zc:List Row->List Row->Bool
 | _,[]=>true
 | t,r::rs=>match t.drop (Y1 (K r) t) with
   | []=>false
   | s::t'=>decide (K s=K r)&&decide (r.2<=s.2)&&Zc (s::t') rs
theorem TK (x y:bU):lT [1,1] [.s x.1,.s x.2] [.s y.1,.s y.2]=some (decide (x=y)):=by
 simp only [lT,gU,LQ];congr 1;rw [mY];simp [Prod.ext_iff]
theorem yI (a b:List UInt8):Op.bytesLess a b=true↔a < b:=by rw [DF];simp
theorem afO (a b:List UInt8):Op.bytesLess a b=false↔¬ a < b:=by rw [DF];simp
/-- Rows whose keys rise. -/
def Dl (l:List Row):Prop:=l.Pairwise λa b=>K a < K b
theorem ai1 {cs:List GV} {r0:List GV} (h:bJ.iI [.list true [.str,.str],.int .u64] cs):∃r:Row,(oJ r.1/\0<=r.2/\r.2 < 18446744073709551616)/\GV.g cs=row r:=by
 obtain ⟨g,l,rfl,h1,h⟩:=iL h;obtain ⟨n,l,rfl,h2,h⟩:=iL h;obtain rfl:=J4 h;obtain ⟨n,rfl,n1,n2⟩:=oW h2;obtain ⟨xs,rfl,h3,h4⟩:=OL h1;obtain ⟨d,hd,rfl⟩:∃d:List bU,(∀x∈d,x.1.length<=140737488351232/\x.2.length<=140737488351232)/\xs=d.map ent:=Kw λx hx=>by
  obtain ⟨k1,k2⟩:=h4 x hx;cases x<;>simp [GV.scalar] at k2
  obtain ⟨a,l,e1,a1,k1⟩:=iL k1;obtain ⟨b,l,rfl,b1,k1⟩:=iL k1;obtain rfl:=J4 k1;obtain ⟨s,rfl,s1⟩:=BU a1;obtain ⟨u,rfl,u1⟩:=BU b1;simp only [SV] at e1;subst e1;exact ⟨(s,u),⟨Nat.le_trans s1 (by decide),jl u1 (by decide)⟩,rfl⟩
 exact ⟨(d,n),⟨⟨by have:=jl h3 (by decide:reachBytes<=140737488351232);simpa using this,hd⟩,n1,n2⟩,rfl⟩
theorem apa {g:GV} (h:(bJ.list true [.list true [.str,.str],.int .u64]).has g):∃l:List Row,Rows l/\g=.l (l.map row):=by
 obtain ⟨xs,rfl,h1,h2⟩:=OL h;obtain ⟨l,hl,rfl⟩:∃l:List Row,(∀r∈l,oJ r.1/\0<=r.2/\r.2 < 18446744073709551616)/\xs=l.map row:=Kw λx hx=>by
  obtain ⟨k1,k2⟩:=h2 x hx;cases x<;>simp [GV.scalar] at k2
  obtain ⟨r,hr,e⟩:=ai1 (r0:=[]) k1;exact ⟨r,hr,e⟩
 exact ⟨l,⟨by have:=jl h1 (by decide:reachBytes<=140737488351232);simpa using this,hl⟩,rfl⟩
def jM:Option (List UInt8)->List Row->Int
 | _,[]=>0
 | p,r::rs=>if oH r≠0 then oH r else match p with
   | none=>jM (some (K r)) rs
   | some k=>if K r=k then 14 else if Op.bytesLess (K r) k=true then 7 else jM (some (K r)) rs
theorem abW (t:List Row) (ht:Rows t) (hf:∀r∈t,gZ r.1=true):∀ (m i:Nat) (p:List UInt8),i+m=t.length->
 TT.lim 54 [.s p,.l (t.map row),.i .i64 t.length,.i .i64 i]=some (tagged (jM (if i=0 then none else some p) (t.drop i)))
 | 0,i,p,hi=>by
   have h0:t.drop i=[]:=dN (by omega);refine aB rfl rfl ?_;have h:¬ ((i:Int) < t.length):=by omega
   simp [h,h0,jM,tagged]
 | m+1,i,p,hi=>by
   have hlt:i < t.length:=by omega
   have hr:=ht.2 t[i] (fP hlt);have k15:=aga t[i] hr.1;have k6:=OZ t[i].1 (hf _ (fP hlt));have hrow:GV.g [.l (t[i].1.map ent),.i .u64 t[i].2]=row t[i]:=rfl;have ih:TT.lim 54 [.s (eG t[i].1),.l (t.map row),.i .i64 t.length,.i .i64 ((i:Int)+1)]=_:=abW t ht hf m (i+1) (eG t[i].1) (by omega);rw [ah (by omega)] at ih;rw [dZ hlt];refine aB rfl rfl ?_;have h:((i:Int) < t.length):=by omega
   have hw:=wrap64 (n:=(i:Int)+1) (by omega) (by have:=ht.1;omega);by_cases h1:oH t[i]=0;rotate_left
   ·simp [-List.getElem_cons_drop,h,hlt,hrow,k15,h1,jM,tagged]
   by_cases h0:i=0
   ·subst h0
    simp only [lZ,LW] at hw ih;simp [-List.getElem_cons_drop,h,hlt,hrow,k15,h1,k6,hw,jM];have hn:(0:Int) < (t.length:Int):=by omega
    simpa using ih
   ·have hi0:0 < i:=by omega
    by_cases h2:eG t[i].1=p
    ·have h2':(eG t[i].1=p)=True:=eq_true h2
     clear h2;simp [-List.getElem_cons_drop,h,hlt,hrow,k15,h1,k6,hi0,h0,h2',jM,tagged]
    ·cases h3:Op.bytesLess (eG t[i].1) p with
     | true=>simp [-List.getElem_cons_drop,h,hlt,hrow,k15,h1,k6,hi0,h0,h2,h3,jM,tagged]
     | false=>simp [-List.getElem_cons_drop,h,hlt,hrow,k15,h1,k6,hi0,h0,h2,h3,hw,ih,jM]
def sU (t:List Row):Int:=if 256 < t.length then 13 else jM none t
theorem ZJ (t:List Row) (ht:Rows t) (hf:∀r∈t,gZ r.1=true):TT.lim 53 [.l (t.map row)]=some [.i .i64 (sU t)]:=by
 have h38:TT.lim 54 [.s [],.l (t.map row),.i .i64 t.length,.i .i64 0]=_:=abW t ht hf t.length 0 [] (by omega);rw [aj rfl,bY] at h38;refine aG rfl rfl ?_ rfl;unfold sU;by_cases h1:256 < t.length
 ·have h1':(256:Int) < (t.length:Int):=by omega
  simp [h1,h1']
 ·have h1':¬ (256:Int) < (t.length:Int):=by omega
  by_cases h2:jM none t=0
  ·simp only [tagged,h2,if_true] at h38
   simp [h1,h1',h38,h2]
  ·simp only [tagged,h2,if_false] at h38
   simp [h1,h1',h38,h2]
theorem ZO:∀ {t:List Row} (p:Option (List UInt8)),Dl t->(∀r∈t,oH r=0)->(∀k,p=some k->∀r∈t,k < K r)->jM p t=0
 | [],p,_,_,_=>by cases p<;>rfl
 | r::t,p,ht,hc,hp=>by
   have ht':=wS.1 ht;have ih:=ZO (t:=t) (some (K r)) ht'.2 (λx hx=>hc x (by simp [hx])) (λk hk x hx=>by cases hk;exact ht'.1 x hx);unfold jM;rw [ah (by simp [hc r (by simp)])];cases p with
   | none=>exact ih
   | some k=>
     have hk:=hp k rfl r (by simp);have h1:¬ K r=k:=λe=>by rw [e] at hk;exact I5 _ hk
     have h2:¬ Op.bytesLess (K r) k=true:=λe=>I5 _ (I7 hk ((yI _ _).1 e));simp only;rw [ah h1,ah h2];exact ih
theorem Rows.perm {l m:List Row} (h:l.Perm m) (hl:Rows l):Rows m:=⟨by rw [<- h.length_eq];exact hl.1,λr hr=>hl.2 r (h.mem_iff.2 hr)⟩
def val:List Row->List UInt8->Int
 | [],_=>0
 | r::rs,k=>if K r=k then r.2 else val rs k
def Pos (t:List Row):Prop:=∀r∈t,0 < r.2/\r.2 < 18446744073709551616
theorem BN {d:List bU} (h:gZ d=true):d.length<=40:=by
 unfold gZ at h;simp at h;omega
def oK (t:List Row):Prop:=∀r∈t,gZ r.1=true
def Ok (t:List Row):Prop:=t.length<=256/\Dl t/\∀r∈t,oH r=0
theorem ZN:∀ {t:List Row} (p:Option (List UInt8)),jM p t=0->Dl t/\(∀r∈t,oH r=0)/\∀k,p=some k->∀r∈t,k < K r
 | [],p,_=>⟨List.Pairwise.nil,by simp,by simp⟩
 | r::t,p,h=>by
   unfold jM at h;by_cases h1:oH r=0;rotate_left
   ·rw [aj h1] at h;exact absurd h h1
   rw [ah (by simp [h1])] at h;have main:∀ (h:jM (some (K r)) t=0),Dl (r::t)/\∀x∈r::t,oH x=0:=by
    intro h;obtain ⟨i1,i2,i3⟩:=ZN (some (K r)) h;refine ⟨List.Pairwise.cons (i3 _ rfl) i1,λx hx=>?_⟩;rcases dO.1 hx with rfl | hx
    ·exact h1
    ·exact i2 x hx
   cases p with
   | none=>exact ⟨(main h).1,(main h).2,by simp⟩
   | some k=>
     simp only at h;split at h
     ·cases h
     next h2=>
     split at h
     ·cases h
     next h3=>
     refine ⟨(main h).1,(main h).2, ?_⟩;rintro _ ⟨⟩ x hx
     have hk:k < K r:=by
      rcases Yz.1 (LZ.1 λe=>h3 ((yI _ _).2 e)) with e | e
      ·exact e
      ·exact absurd e.symm h2
     rcases dO.1 hx with rfl | hx
     ·exact hk
     ·exact I7 hk ((wS.1 (main h).1).1 x hx)
theorem SY (t:List Row):sU t=0↔Ok t:=by
 unfold sU Ok;constructor
 ·intro h
  split at h
  ·cases h
  ·obtain ⟨h1,h2,_⟩:=ZN none h
   exact ⟨by omega,h1,h2⟩
 ·rintro ⟨h1,h2,h3⟩
  rw [ah (by omega)];exact ZO none h2 h3 (by simp)
theorem adU (r:Row):oH r=0↔qV r.1=0/\r.2≠0:=by
 unfold oH;by_cases h:qV r.1=0
 ·simp [h]
 ·simp [h]
structure Tb (t:List Row):Prop where
 ok:Ok t
 rows:Rows t
 few:oK t
theorem Tb.pos {t:List Row} (h:Tb t):Pos t:=λr hr=>by
 have h1:=((adU r).1 (h.ok.2.2 r hr)).2;have h2:=(h.rows.2 r hr).2;omega
theorem Tb.rise {t:List Row} (h:Tb t):Dl t:=h.ok.2.1
structure rX (t:List Row):Prop where
 len:t.length<=300
 few:oK t
 rows:Rows t
theorem Tb.good {t:List Row} (h:Tb t):rX t:=⟨Nat.le_trans h.ok.1 (by decide),h.few,h.rows⟩
theorem rX.tb {t:List Row} (h:rX t) (ho:Ok t):Tb t:=⟨ho,h.rows,h.few⟩
theorem akt {l:List Row} (hl:Rows l) (h:BM l=true):rX l:=by
 refine ⟨?_,λr hr=>ajx h r hr,hl⟩;unfold BM at h;rw [aI,decide_eq_true_iff] at h;exact h.2
abbrev Sn:=Int×List Row
def xu:Option (Int×Int×Int)->List GV
 | some (_,b,_)=>[.i .i64 1,.i .i64 b]
 | none=>[.i .i64 0]
theorem TA (s:List UInt8) (size n least:Int):TT.lim 167 [.s s,.i .i64 size,.i .i64 n,.i .i64 least,.i .i64 size]=some (xu (some (size,n,least))):=by
 refine aB rfl rfl ?_;simp [xu]
def cO (s:List UInt8) (k:Nat):Int:=((s.getD k 0).toNat:Int)
theorem Jq (s:List UInt8) (k:Nat):0<=cO s k/\cO s k < 256:=by unfold cO;have:=(s.getD k 0).toNat_lt;omega
theorem Zd {s:List UInt8} {k:Nat} (h:k < s.length):s[k]? = some (s.getD k 0):=by simp [List.getD,h]
theorem Iy (s:List UInt8) (size n least:Int) (i:Nat) (hi:(i:Int) < size) (hl:i < s.length) (h0:0<=n) (h1:n < 1000000000000) (hs:size < 1000) :
 ∀out,(if cO s i < 128 then some (xu none) else if 192<=cO s i then some (xu none) else TT.lim 167 [.s s,.i .i64 size,.i .i64 (64 * n+cO s i - 128),.i .i64 least,.i .i64 ((i:Int)+1)])=some out->
 TT.lim 167 [.s s,.i .i64 size,.i .i64 n,.i .i64 least,.i .i64 i]=some out:=by
 intro out h;have hb:=Jq s i;have hx:(s[i]?).bind (λc=>some (GV.i .u8 c.toNat))=some (.i .u8 (cO s i)):=by rw [Zd hl];rfl
 generalize cO s i=x at *;have w1:=wrap64 (n:=x) (by omega) (by omega);refine aB rfl rfl ?_;by_cases c1:x < 128
 ·rw [aj c1] at h
  rw [<- h];simp [hi,hx,w1,c1,xu]
 rw [ah c1] at h;by_cases c2:192<=x
 ·rw [aj c2] at h
  rw [<- h];simp [hi,hx,w1,c1,c2,xu]
 rw [ah c2] at h;have w2:=wrap64 (n:=64 * n) (by omega) (by omega);have w3:=wrap64 (n:=64 * n+x) (by omega) (by omega);have w4:=wrap64 (n:=64 * n+x - 128) (by omega) (by omega);have w5:=wrap64 (n:=(i:Int)+1) (by omega) (by omega);simp [hi,hx,w1,c1,c2,w2,w3,w4,w5,h]
def DW (v least size:Int):Int:=if v < least then 0 else if 1114111 < v then 0 else if 55296<=v/\v < 57344 then 0 else size
abbrev gV (x:Int):Prop:=x < 128\/192<=x
def Oj (n b0 b1 b2 b3:Int):Int:=
 if n=0 then 0 else if b0 < 128 then 1 else if b0 < 192 then 0
 else if b0 < 224 then (if n < 2 then 0 else if gV b1 then 0 else DW (64 * (b0 - 192)+b1 - 128) 128 2)
 else if b0 < 240 then (if n < 3 then 0 else if gV b1\/gV b2 then 0 else DW (64 * (64 * (b0 - 224)+b1 - 128)+b2 - 128) 2048 3)
 else if b0 < 248 then (if n < 4 then 0 else if gV b1\/gV b2\/gV b3 then 0 else DW (64 * (64 * (64 * (b0 - 240)+b1 - 128)+b2 - 128)+b3 - 128) 65536 4)
 else 0
/-- What the loop comes to: two, three, four bytes. -/
theorem al0 (s:List UInt8) (n least:Int) (hl:2<=s.length) (h0:0<=n) (h1:n < 64) :
 TT.lim 167 [.s s,.i .i64 2,.i .i64 n,.i .i64 least,.i .i64 1]=some (xu (if gV (cO s 1) then none else some (2,64 * n+cO s 1 - 128,least))):=by
 refine Iy s 2 n least 1 (by decide) (by omega) h0 (by omega) (by decide) _ ?_;have e:=TA s 2 (64 * n+cO s 1 - 128) least;by_cases c:gV (cO s 1)
 ·rw [aj c]
  rcases c with c | c
  ·exact aj c
  ·rw [ah (by omega)];exact aj c
 ·rw [ah c,ah (λh=>c (.inl h)),ah (λh=>c (.inr h))];exact e
theorem al1 (s:List UInt8) (n least:Int) (hl:3<=s.length) (h0:0<=n) (h1:n < 64) :
 TT.lim 167 [.s s,.i .i64 3,.i .i64 n,.i .i64 least,.i .i64 1]=some (xu (if gV (cO s 1)\/gV (cO s 2) then none else some (3,64 * (64 * n+cO s 1 - 128)+cO s 2 - 128,least))):=by
 have a1:=Jq s 1;refine Iy s 3 n least 1 (by decide) (by omega) h0 (by omega) (by decide) _ ?_;by_cases c:gV (cO s 1)
 ·rw [aj (show gV (cO s 1)\/gV (cO s 2) from .inl c)]
  rcases c with c | c
  ·exact aj c
  ·rw [ah (by omega)];exact aj c
 ·rw [ah (λh=>c (.inl h)),ah (λh=>c (.inr h))]
  have c1:128<=cO s 1:=by omega
  refine Iy s 3 _ least 2 (by decide) (by omega) (by show 0<=64 * n+cO s 1 - 128;omega) (by show 64 * n+cO s 1 - 128 < _;omega) (by decide) _ ?_;have e:=TA s 3 (64 * (64 * n+cO s 1 - 128)+cO s 2 - 128) least;by_cases d:gV (cO s 2)
  ·rw [aj (show gV (cO s 1)\/gV (cO s 2) from .inr d)]
   rcases d with d | d
   ·exact aj d
   ·rw [ah (by omega)];exact aj d
  ·rw [ah (show ¬ (gV (cO s 1)\/gV (cO s 2)) by simp [c,d]),ah (λh=>d (.inl h)),ah (λh=>d (.inr h))];exact e
theorem al2 (s:List UInt8) (n least:Int) (hl:4<=s.length) (h0:0<=n) (h1:n < 64) :
 TT.lim 167 [.s s,.i .i64 4,.i .i64 n,.i .i64 least,.i .i64 1]=some (xu (if gV (cO s 1)\/gV (cO s 2)\/gV (cO s 3) then none else some (4,64 * (64 * (64 * n+cO s 1 - 128)+cO s 2 - 128)+cO s 3 - 128,least))):=by
 have a1:=Jq s 1;have a2:=Jq s 2;refine Iy s 4 n least 1 (by decide) (by omega) h0 (by omega) (by decide) _ ?_;by_cases c:gV (cO s 1)
 ·rw [aj (show gV (cO s 1)\/gV (cO s 2)\/gV (cO s 3) from .inl c)]
  rcases c with c | c
  ·exact aj c
  ·rw [ah (by omega)];exact aj c
 ·rw [ah (λh=>c (.inl h)),ah (λh=>c (.inr h))]
  have c1:128<=cO s 1:=by omega
  refine Iy s 4 _ least 2 (by decide) (by omega) (by show 0<=64 * n+cO s 1 - 128;omega) (by show 64 * n+cO s 1 - 128 < _;omega) (by decide) _ ?_;by_cases d:gV (cO s 2)
  ·rw [aj (show gV (cO s 1)\/gV (cO s 2)\/gV (cO s 3) from .inr (.inl d))]
   rcases d with d | d
   ·exact aj d
   ·rw [ah (by omega)];exact aj d
  ·rw [ah (λh=>d (.inl h)),ah (λh=>d (.inr h))]
   have d1:128<=cO s 2:=by omega
   refine Iy s 4 _ least 3 (by decide) (by omega) (by show 0<=64 * (64 * n+cO s 1 - 128)+cO s 2 - 128;omega) (by show 64 * (64 * n+cO s 1 - 128)+cO s 2 - 128 < _;omega) (by decide) _ ?_;have e:=TA s 4 (64 * (64 * (64 * n+cO s 1 - 128)+cO s 2 - 128)+cO s 3 - 128) least;by_cases f:gV (cO s 3)
   ·rw [aj (show gV (cO s 1)\/gV (cO s 2)\/gV (cO s 3) from .inr (.inr f))]
    rcases f with f | f
    ·exact aj f
    ·rw [ah (by omega)];exact aj f
   ·rw [ah (show ¬ (gV (cO s 1)\/gV (cO s 2)\/gV (cO s 3)) by simp [c,d,f]),ah (λh=>f (.inl h)),ah (λh=>f (.inr h))];exact e
def Oi (s:List UInt8):Int:=Oj s.length (cO s 0) (cO s 1) (cO s 2) (cO s 3)
theorem Tn {c:Prop} [Decidable c] (x:Int×Int×Int) (h:c):xu (if c then none else some x)=[.i .i64 0]:=by rw [aj h];rfl
theorem Tq {c:Prop} [Decidable c] (a b d:Int) (h:¬ c):xu (if c then none else some (a,b,d))=[.i .i64 1,.i .i64 b]:=by rw [ah h];rfl
set_option maxHeartbeats 4000000 in
theorem ajF (s:List UInt8) (hl:s.length<=140737488351232):TT.lim 166 [.s s]=some [.i .i64 (Oi s)]:=by
 have hb:=Jq s 0;have k2:=λhl h0 h1=>al0 s (cO s 0 - 192) 128 hl h0 h1;have k3:=λhl h0 h1=>al1 s (cO s 0 - 224) 2048 hl h0 h1;have k4:=λhl h0 h1=>al2 s (cO s 0 - 240) 65536 hl h0 h1;unfold Oi Oj;by_cases hn:s.length=0
 ·refine aG rfl rfl ?_ rfl
  simp [hn]
 have hn':¬ (s.length:Int)=0:=by omega
 have hne:¬ s=[]:=λe=>hn (by rw [e];rfl);have hx:(s[0]?).bind (λc=>some (GV.i .u8 c.toNat))=some (.i .u8 (cO s 0)):=by rw [Zd (by omega)];rfl
 have w1:=wrap64 (n:=cO s 0) (by omega) (by omega);rw [ah hn'];generalize cO s 0=x at *;generalize cO s 1=b1 at *;generalize cO s 2=b2 at *;generalize cO s 3=b3 at *;by_cases c0:x < 128
 ·refine aG rfl rfl ?_ rfl
  simp [hn',hne,hx,w1,c0]
 by_cases c1:x < 192
 ·have d1:¬ 192<=x:=by omega
  have d2:¬ 224<=x:=by omega
  have d3:¬ 240<=x:=by omega
  refine aG rfl rfl ?_ rfl;simp [hn',hne,hx,w1,c0,c1,d1,d2,d3]
 have d1:192<=x:=by omega
 have w2:=wrap64 (n:=x - 192) (by omega) (by omega);by_cases c2:x < 224
 ·rw [ah c0,ah c1,aj c2]
  by_cases n2:(s.length:Int) < 2
  ·refine aG rfl rfl ?_ rfl
   simp [hn',hne,hx,w1,c0,d1,c2,w2,n2]
  rw [ah n2];have k:=k2 (by omega) (by omega) (by omega);by_cases e1:gV b1
  ·rw [Tn _ e1] at k
   rw [aj e1];refine aG rfl rfl ?_ rfl;simp [hn',hne,hx,w1,c0,d1,c2,w2,n2,k]
  rw [Tq _ _ _ e1] at k;rw [ah e1];generalize 64 * (x - 192)+b1 - 128=v at *;unfold DW;by_cases f1:v < 128
  ·refine aG rfl rfl ?_ rfl
   simp [hn',hne,hx,w1,c0,d1,c2,w2,n2,k,f1]
  by_cases f2:1114111 < v
  ·refine aG rfl rfl ?_ rfl
   simp [hn',hne,hx,w1,c0,d1,c2,w2,n2,k,f1,f2]
  by_cases f3:55296<=v
  ·by_cases f4:v < 57344
   ·refine aG rfl rfl ?_ rfl
    simp [hn',hne,hx,w1,c0,d1,c2,w2,n2,k,f1,f2,f3,f4]
   ·refine aG rfl rfl ?_ rfl
    simp [hn',hne,hx,w1,c0,d1,c2,w2,n2,k,f1,f2,f3,f4]
  ·refine aG rfl rfl ?_ rfl
   simp [hn',hne,hx,w1,c0,d1,c2,w2,n2,k,f1,f2,f3]
 have d2:224<=x:=by omega
 have w3:=wrap64 (n:=x - 224) (by omega) (by omega);by_cases c3:x < 240
 ·rw [ah c0,ah c1,ah c2,aj c3]
  by_cases n2:(s.length:Int) < 3
  ·refine aG rfl rfl ?_ rfl
   simp [hn',hne,hx,w1,c0,d1,c2,d2,c3,w3,n2]
  rw [ah n2];have k:=k3 (by omega) (by omega) (by omega);by_cases e1:gV b1\/gV b2
  ·rw [Tn _ e1] at k
   rw [aj e1];refine aG rfl rfl ?_ rfl;simp [hn',hne,hx,w1,c0,d1,c2,d2,c3,w3,n2,k]
  rw [Tq _ _ _ e1] at k;rw [ah e1];generalize 64 * (64 * (x - 224)+b1 - 128)+b2 - 128=v at *;unfold DW;by_cases f1:v < 2048
  ·refine aG rfl rfl ?_ rfl
   simp [hn',hne,hx,w1,c0,d1,c2,d2,c3,w3,n2,k,f1]
  by_cases f2:1114111 < v
  ·refine aG rfl rfl ?_ rfl
   simp [hn',hne,hx,w1,c0,d1,c2,d2,c3,w3,n2,k,f1,f2]
  by_cases f3:55296<=v
  ·by_cases f4:v < 57344
   ·refine aG rfl rfl ?_ rfl
    simp [hn',hne,hx,w1,c0,d1,c2,d2,c3,w3,n2,k,f1,f2,f3,f4]
   ·refine aG rfl rfl ?_ rfl
    simp [hn',hne,hx,w1,c0,d1,c2,d2,c3,w3,n2,k,f1,f2,f3,f4]
  ·refine aG rfl rfl ?_ rfl
   simp [hn',hne,hx,w1,c0,d1,c2,d2,c3,w3,n2,k,f1,f2,f3]
 have d3:240<=x:=by omega
 have w4:=wrap64 (n:=x - 240) (by omega) (by omega);by_cases c4:x < 248
 ·rw [ah c0,ah c1,ah c2,ah c3,aj c4]
  by_cases n2:(s.length:Int) < 4
  ·refine aG rfl rfl ?_ rfl
   simp [hn',hne,hx,w1,c0,d1,c2,d2,c3,d3,c4,w4,n2]
  rw [ah n2];have k:=k4 (by omega) (by omega) (by omega);by_cases e1:gV b1\/gV b2\/gV b3
  ·rw [Tn _ e1] at k
   rw [aj e1];refine aG rfl rfl ?_ rfl;simp [hn',hne,hx,w1,c0,d1,c2,d2,c3,d3,c4,w4,n2,k]
  rw [Tq _ _ _ e1] at k;rw [ah e1];generalize 64 * (64 * (64 * (x - 240)+b1 - 128)+b2 - 128)+b3 - 128=v at *;unfold DW;by_cases f1:v < 65536
  ·refine aG rfl rfl ?_ rfl
   simp [hn',hne,hx,w1,c0,d1,c2,d2,c3,d3,c4,w4,n2,k,f1]
  by_cases f2:1114111 < v
  ·refine aG rfl rfl ?_ rfl
   simp [hn',hne,hx,w1,c0,d1,c2,d2,c3,d3,c4,w4,n2,k,f1,f2]
  by_cases f3:55296<=v
  ·by_cases f4:v < 57344
   ·refine aG rfl rfl ?_ rfl
    simp [hn',hne,hx,w1,c0,d1,c2,d2,c3,d3,c4,w4,n2,k,f1,f2,f3,f4]
   ·refine aG rfl rfl ?_ rfl
    simp [hn',hne,hx,w1,c0,d1,c2,d2,c3,d3,c4,w4,n2,k,f1,f2,f3,f4]
  ·refine aG rfl rfl ?_ rfl
   simp [hn',hne,hx,w1,c0,d1,c2,d2,c3,d3,c4,w4,n2,k,f1,f2,f3]
 ·refine aG rfl rfl ?_ rfl
  simp [hn',hne,hx,w1,c0,c1,d1,c2,d2,c3,d3,c4]
set_option maxHeartbeats 8000000 in
/-- It is the model's own way of decoding. -/
theorem ajI (n b0 b1 b2 b3:Nat) (hn:0 < n) (h0:b0 < 256) (h1:b1 < 256) (h2:b2 < 256) (h3:b3 < 256):Oj n b0 b1 b2 b3=if (Lib.decodeN n b0 b1 b2 b3).1=65533/\(Lib.decodeN n b0 b1 b2 b3).2=1 then 0 else ((Lib.decodeN n b0 b1 b2 b3).2:Nat):=by
 generalize hd:Lib.decodeN n b0 b1 b2 b3=d;unfold Lib.decodeN at hd;unfold Oj DW;rw [ah (by omega)];repeat' split at hd
 all_goals subst hd
 all_goals dsimp only
 ·rw [aj (by omega),ah (by omega)];rfl
 all_goals rw [ah (show ¬ (b0:Int) < 128 by omega)]
 all_goals first | rw [ah (by omega)] | rw [aj (show True/\True from ⟨trivial,trivial⟩)] | skip
 all_goals (repeat' split)
 all_goals first | omega | (simp only [not_true_eq_false,and_self] at *;omega)
theorem ajH (s:List UInt8) (hne:s≠[]):Oi s=if (Lib.decodeL s).1=65533/\(Lib.decodeL s).2=1 then 0 else ((Lib.decodeL s).2:Nat):=by
 unfold Oi cO;rw [Lib.decodeL_N];exact ajI _ _ _ _ _ (AZ.2 hne) (RV _) (RV _) (RV _) (RV _)
theorem aiM (s:List UInt8):1<=(Lib.decodeL s).2:=by
 rw [Lib.decodeL_N];rcases Lib.decodeN_shape s.length (s.getD 0 0).toNat (s.getD 1 0).toNat (s.getD 2 0).toNat (s.getD 3 0).toNat with ⟨_,e⟩ | ⟨_,_,_,_,e⟩ | ⟨_,_,_,_,_,_,e⟩ | ⟨_,_,_,_,_,_,_,e⟩ | e
 all_goals rw [e];dsimp only;omega
theorem ab3:∀ (n:Nat) (s:List UInt8),s.length<=n->s.length<=140737488351232->TT.lim 165 [.s s]=some (if Lib.validGoD n s=true then [.i .i64 1] else [.i .i64 0])
 | 0,s,hn,hl=>by
   obtain rfl:s=[]:=jQ (by omega);refine aB rfl rfl ?_;simp [Lib.validGoD]
 | n+1,s,hn,hl=>by
   by_cases hne:s=[]
   ·subst hne
    refine aB rfl rfl ?_;simp [Lib.validGoD]
   have hp:=AZ.2 hne;have k:=ajF s hl;have hf:=ajH s hne;have hle:=Lib.decodeL_le s hne;have hd:=aiM s;have hp':(0:Int) < (s.length:Int):=by omega
   unfold Lib.validGoD;rw [ah hne];by_cases c:(Lib.decodeL s).1=65533/\(Lib.decodeL s).2=1
   ·rw [aj c] at hf
    rw [hf] at k;rw [aj c];refine aB rfl rfl ?_;simp [hp,hp',k]
   ·rw [ah c] at hf
    rw [hf] at k;rw [ah c];have ih:=ab3 n (s.drop (Lib.decodeL s).2) (by simp;omega) (by simp;omega);generalize (Lib.decodeL s).2=w at *;have hw:¬ w=0:=by omega
    have ht:List.take s.length s=s:=mZ;refine aB rfl rfl ?_;simp [hp,hp',k,hw,hle,ht,ih]
theorem aks (s:List UInt8) (h:s.length<=140737488351232):TT.lim 164 [.s s]=some [.b (Lib.validD s)]:=by
 have k:=ab3 s.length s (dL _) h;unfold Lib.validD;refine aG rfl rfl ?_ rfl;cases hv:Lib.validGoD s.length s<;>rw [hv] at k<;>simp at k<;>simp [k]
theorem F5 (s:List UInt8) (lo hi:Int) (h:s.length<=140737488351232):TT.lim 163 [.s s,.i .i64 lo,.i .i64 hi]=some [.i .i64 (jK s lo hi)]:=by
 have h20:=aks s h;refine aG rfl rfl ?_ rfl;unfold jK;by_cases h1:(s.length:Int) < lo
 ·simp [h1]
 ·by_cases h2:hi < (s.length:Int)
  ·simp [h1,h2]
  ·cases hv:Lib.validD s<;>rw [hv] at h20<;>simp [h1,h2,h20,hv]
theorem aav (x:bU) (h1:x.1.length<=140737488351232) (h2:x.2.length<=140737488351232):TT.lim 162 [ent x]=some [.i .i64 (nI x)]:=by
 have k1:=F5 x.1 1 64 h1;have k2:=F5 x.2 0 256 h2;refine aG rfl rfl ?_ rfl;unfold nI;by_cases h:jK x.1 1 64=0
 ·simp [k1,h,k2]
 ·simp [k1,h]
def yN:List UInt8->List UInt8->Option Bool
 | x::a,y::b=>if x=y then yN a b else some (decide (x < y))
 | _,_=>none
theorem Zv:∀a b:List UInt8,Op.bytesLess a b=(yN a b).getD (decide (a.length < b.length))
 | [],[]=>rfl
 | [],_::_=>by simp [Op.bytesLess,yN]
 | _::_,[]=>by simp [Op.bytesLess,yN]
 | x::a,y::b=>by
   unfold Op.bytesLess yN;rw [Zv a b];by_cases h:x=y
   ·subst h
    simp [UInt8.lt_irrefl]
   ·simp [h]
def Ie (a b:List UInt8):Option Bool->List GV
 | some r=>[.i .i64 0,.b r]
 | none=>[.i .i64 1]
theorem ab4 (a b:List UInt8) (ha:a.length<=140737488351232) (hb:b.length<=140737488351232):∀m i:Nat,i+m=a.length->TT.lim 171 [.s a,.s b,.i .i64 i]=some (Ie a b (yN (a.drop i) (b.drop i)))
 | 0,i,hi=>by
   have h0:a.drop i=[]:=dN (by omega);have h:¬ ((i:Int) < a.length):=by omega
   refine aB rfl rfl ?_;simp [h,h0,yN,Ie]
 | m+1,i,hi=>by
   have hlt:i < a.length:=by omega
   have h:((i:Int) < a.length):=by omega
   by_cases hlb:i < b.length;rotate_left
   ·have h0:b.drop i=[]:=dN (by omega)
    have h1:¬ ((i:Int) < b.length):=by omega
    have hd:yN (a.drop i) []=none:=by cases a.drop i<;>rfl
    refine aB rfl rfl ?_;simp [h,h0,h1,hd,Ie]
   have hb1:((i:Int) < b.length):=by omega
   have ih:TT.lim 171 [.s a,.s b,.i .i64 ((i:Int)+1)]=_:=ab4 a b ha hb m (i+1) (by omega);have hw:=wrap64 (n:=(i:Int)+1) (by omega) (by omega);rw [dZ hlt,dZ hlb];unfold yN;by_cases e:a[i]=b[i]
   ·rw [aj e]
    have e':((a[i].toNat:Int)=(b[i].toNat:Int))=True:=eq_true (by rw [e]);refine aB rfl rfl ?_;simp [h,hlt,hlb,hb1,e',hw,ih]
   ·rw [ah e]
    have e':¬ (a[i].toNat:Int)=(b[i].toNat:Int):=λh=>e (MJ.1 (by omega));have hd:decide (a[i] < b[i])=decide (a[i].toNat < b[i].toNat):=by rw [mY];simp [UInt8.lt_iff_toNat_lt]
    refine aB rfl rfl ?_;simp [h,hlt,hlb,hb1,e',hd,Ie]
theorem abM (a b:List UInt8) (ha:a.length<=140737488351232) (hb:b.length<=140737488351232):TT.lim 170 [.s a,.s b]=some [.b (Op.bytesLess a b)]:=by
 have k:TT.lim 171 [.s a,.s b,.i .i64 0]=_:=ab4 a b ha hb a.length 0 (by omega);rw [bY,bY] at k;rw [Zv];refine aG rfl rfl ?_ rfl;cases hd:yN a b with
 | none=>
   rw [hd] at k;have hl:decide ((a.length:Int) < (b.length:Int))=decide (a.length < b.length):=by rw [mY];simp
   simp [k,Ie,hl]
 | some r=>
   rw [hd] at k;simp [k,Ie]
def F9 (x y:bU):Int:=if Op.bytesLess x.1 y.1=true then -1 else if x.1=y.1/\Op.bytesLess x.2 y.2=true then -1 else if x=y then 0 else 1
structure Dn (x:bU):Prop where
 key:x.1.length<=140737488351232
 val:x.2.length<=140737488351232
theorem ZR (x y:bU) (hx:Dn x) (hy:Dn y):TT.lim 169 [ent x,ent y]=some [.i .i64 (F9 x y)]:=by
 have k1:=abM x.1 y.1 hx.key hy.key;have k2:=abM x.2 y.2 hx.val hy.val;have ke:=TK x y;unfold F9;refine aG rfl rfl ?_ rfl;cases h1:Op.bytesLess x.1 y.1 with
 | true=>rw [h1] at k1;simp [k1]
 | false=>
   rw [h1] at k1;by_cases h2:x.1=y.1
   ·have h2':(x.1=y.1)=True:=eq_true h2
    clear h2;cases h3:Op.bytesLess x.2 y.2 with
    | true=>rw [h3] at k2;simp [k1,h2',k2]
    | false=>
      rw [h3] at k2;by_cases h4:x=y
      ·have h4':decide (x=y)=true:=by simp [h4]
       rw [h4'] at ke;have akw:(x=y)=True:=eq_true h4;clear h4;simp [k1,h2',k2,ke,akw]
      ·have h4':decide (x=y)=false:=by simp [h4]
       rw [h4'] at ke;simp [k1,h2',k2,ke,h4]
   ·by_cases h4:x=y
    ·exact absurd (by rw [h4]) h2
    ·have h4':decide (x=y)=false:=by simp [h4]
     rw [h4'] at ke;simp [k1,h2,ke,h4]
def oq (p x:List UInt8):Int:=if x=p then 14 else if Op.bytesLess x p=true then 7 else 0
theorem Ze (p x:bU) (hp:Dn p) (hx:Dn x):TT.lim 168 [ent p,ent x]=some [.i .i64 (oq p.1 x.1)]:=by
 have k:=ZR p x hp hx;have e1:GV.g [.s p.1,.s p.2]=ent p:=rfl;have e2:GV.g [.s x.1,.s x.2]=ent x:=rfl;unfold oq;by_cases h1:x.1=p.1
 ·have h1':(p.1=x.1)=True:=eq_true h1.symm
  rw [aj h1];refine aG rfl rfl ?_ rfl;simp [h1']
 rw [ah h1];have h1':¬ p.1=x.1:=λe=>h1 e.symm;have hne:¬ p=x:=λe=>h1' (by rw [e]);have hc:F9 p x=if Op.bytesLess x.1 p.1=true then 1 else -1:=by
  unfold F9;by_cases h2:p.1 < x.1
  ·rw [aj ((yI _ _).2 h2),ah λh=>I5 _ (I7 h2 ((yI _ _).1 h))]
  ·have h3:x.1 < p.1:=by
    rcases Yz.1 (LZ.1 h2) with h | h
    ·exact h
    ·exact absurd h h1
   rw [ah λh=>h2 ((yI _ _).1 h),ah λh=>h1' h.1,ah hne,aj ((yI _ _).2 h3)]
 rw [hc] at k;refine aG rfl rfl ?_ rfl;cases h3:Op.bytesLess x.1 p.1 with
 | true=>rw [h3] at k;simp [h1',e1,e2,k]
 | false=>rw [h3] at k;simp [h1',e1,e2,k]
theorem oJ.small {d:List bU} (h:oJ d):∀x∈d,Dn x:=λx hx=>⟨(h.2 x hx).1,(h.2 x hx).2⟩
theorem Vp (d:List bU) (e i:Int) (he:e≠0):TT.lim 161 [.l (d.map ent),.i .i64 e,.i .i64 i]=some [.i .i64 0,.i .i64 e]:=by
 refine aB rfl rfl ?_;by_cases h:i < (d.length:Int)
 ·simp [h,he]
 ·simp [h]
theorem ab2 (d:List bU) (hd:oJ d):∀m i:Nat,i+m=d.length->TT.lim 161 [.l (d.map ent),.i .i64 0,.i .i64 i]=some [.i .i64 0,.i .i64 (kK (prevK d i) (d.drop i))]
 | 0,i,hi=>by
   have h0:d.drop i=[]:=dN (by omega);refine aB rfl rfl ?_;have h:¬ ((i:Int) < d.length):=by omega
   simp [h,h0,kK]
 | m+1,i,hi=>by
   have hlt:i < d.length:=by omega
   have hx:=hd.small d[i] (fP hlt);have hp:=aav d[i] hx.key hx.val;have ih:TT.lim 161 [.l (d.map ent),.i .i64 0,.i .i64 ((i:Int)+1)]=_:=ab2 d hd m (i+1) (by omega);have hst:=λe he=>Vp d e ((i:Int)+1) he;have hpk:prevK d (i+1)=some d[i].1:=by unfold prevK;rw [ah (by omega)];simp [hlt]
   rw [hpk] at ih;have hdr:d.drop i=d[i]::d.drop (i+1):=dZ hlt;rw [hdr];have h:((i:Int) < d.length):=by omega
   have hw:=wrap64 (n:=(i:Int)+1) (by omega) (by have:=hd.1;omega);have he:GV.g [GV.s d[i].1,GV.s d[i].2]=ent d[i]:=rfl;by_cases h1:nI d[i]=0;rotate_left
   ·have hs:=hst _ h1
    have hc:kK (prevK d i) (d[i]::d.drop (i+1))=nI d[i]:=by
     cases prevK d i<;>simp [kK,h1]
    rw [hc];refine aB rfl rfl ?_;simp [h,hlt,he,hp,h1,hw,hs]
   by_cases h0:i=0
   ·subst h0
    have hc:kK (prevK d 0) (d[0]::d.drop 1)=kK (some d[0].1) (d.drop 1):=by simp [prevK,kK,h1]
    rw [hc];simp only [lZ,LW] at hw ih;have hpos:(0:Int) < (d.length:Int):=by omega
    generalize kK (some d[0].1) (d.drop 1)=out at *;refine aB rfl rfl ?_;simp [h,hlt,hpos,he,hp,h1,hw,ih]
   ·have hi1:i - 1 < d.length:=by omega
    have hpk2:prevK d i=some d[i - 1].1:=by unfold prevK;rw [ah h0];simp [hi1]
    have hw2:=wrap64 (n:=(i:Int) - 1) (by omega) (by have:=hd.1;omega);have hi0:(0:Int) < (i:Int):=by omega
    have abg:0 < i:=by omega
    have ht:((i:Int) - 1).toNat=i - 1:=by omega
    have hnl:(1:Int)<=(i:Int):=by omega
    have hge:(0:Int)<=(i:Int) - 1:=by omega
    have hy:=hd.small d[i - 1] (fP hi1);have kb:=Ze d[i - 1] d[i] hy hx;have he2:GV.g [GV.s d[i - 1].1,GV.s d[i - 1].2]=ent d[i - 1]:=rfl;have hc:kK (prevK d i) (d[i]::d.drop (i+1))=if oq d[i - 1].1 d[i].1≠0 then oq d[i - 1].1 d[i].1 else kK (some d[i].1) (d.drop (i+1)):=by
     rw [hpk2];unfold oq;conv=>lhs;unfold kK
     rw [ah (by simp [h1])];by_cases q1:d[i].1=d[i - 1].1
     ·simp [q1]
     ·by_cases q2:Op.bytesLess d[i].1 d[i - 1].1=true
      ·simp [q1,q2]
      ·simp [q1,q2]
    rw [hc];have hst2:=hst (oq d[i - 1].1 d[i].1);generalize oq d[i - 1].1 d[i].1=bb at *;generalize kK (some d[i].1) (d.drop (i+1))=out at *;by_cases hb:bb=0
    ·subst hb
     refine aB rfl rfl ?_;simp [h,hlt,he,he2,hp,h1,hi0,abg,hw2,ht,hge,hi1,hnl,kb,hw,ih]
    ·have hs:=hst2 hb
     refine aB rfl rfl ?_;simp [h,hlt,he,he2,hp,h1,hi0,abg,hw2,ht,hge,hi1,hnl,kb,hw,hb,hs]
theorem ZL (d:List bU) (hd:oJ d):TT.lim 160 [.l (d.map ent)]=some [.i .i64 (qV d)]:=by
 have h17:TT.lim 161 [.l (d.map ent),.i .i64 0,.i .i64 0]=_:=ab2 d hd d.length 0 (by omega);have hpk:prevK d 0=none:=rfl;rw [hpk,bY] at h17;have w1:=dF (n:=(d.length:Int)) (by omega) (by have:=hd.1;omega);have s1:=Vp d 12 0 (by decide);have s2:=Vp d 13 0 (by decide);refine aG rfl rfl ?_ rfl;unfold qV;by_cases h0:d.length=0
 ·have:d=[]:=jQ h0
  subst this;simp only [vI] at s1;simp [IntKind.wrap,IntKind.signed,s1]
 ·have hne:¬ d=[]:=λe=>h0 (by rw [e];rfl)
  by_cases h1:16 < d.length
  ·have h1':(16:Int) < (d.length:Int):=by omega
   simp [w1,h0,hne,h1,h1',s2]
  ·have h1':¬ (16:Int) < (d.length:Int):=by omega
   simp [w1,h0,hne,h1,h1',h17]
theorem ao9 (r:Row) (hd:oJ r.1):TT.lim 159 [row r]=some [.i .i64 (oH r)]:=by
 have k:=ZL r.1 hd;refine aG rfl rfl ?_ rfl;unfold oH;by_cases h:qV r.1=0
 ·by_cases h2:r.2=0
  ·simp [k,h,h2]
  ·simp [k,h,h2]
 ·simp [k,h]
theorem abZ (d:List bU) (hd:d.length<=40):∀ (m i:Nat) (acc:List bU),i+m=d.length->acc.length=i->TT.lim 130 [.l (acc.map ent),.l (d.map ent),.i .i64 d.length,.i .i64 i]=some [.i .i64 0,.l ((acc++d.drop i).map ent)]
 | 0,i,acc,hi,ha=>by
   have h0:d.drop i=[]:=dN (by omega);have h:¬ ((i:Int) < d.length):=by omega
   refine aB rfl rfl ?_;simp [h,h0]
 | m+1,i,acc,hi,ha=>by
   have hlt:i < d.length:=by omega
   have ih:TT.lim 130 [.l ((acc++[d[i]]).map ent),.l (d.map ent),.i .i64 d.length,.i .i64 ((i:Int)+1)]=_:=abZ d hd m (i+1) (acc++[d[i]]) (by omega) (by simp;omega);rw [List.append_assoc,I9,<- dZ hlt] at ih;generalize hL:(acc++d.drop i).map ent=L at ih ⊢;simp only [pR,iU,vI] at ih;have h:((i:Int) < d.length):=by omega
   have hw:=wrap64 (n:=(i:Int)+1) (by omega) (by omega);have he:GV.g [GV.s d[i].1,GV.s d[i].2]=ent d[i]:=rfl;have hok:(ent d[i]).eU 2=true:=rfl;have hb:2 * (acc.length+1) * 32<=281474976710656/\acc.length+1<=281474976710656:=by omega
   refine aB rfl rfl ?_;simp [h,hlt,he,hok,hb,hw,ih]
theorem aeI (d:List bU) (hd:d.length<=40):TT.lim 129 [.l (d.map ent)]=some [.l (d.map ent)]:=by
 have k:TT.lim 130 [.l [],.l (d.map ent),.i .i64 d.length,.i .i64 0]=_:=abZ d hd d.length 0 [] (by omega) rfl;rw [bY,dK] at k;refine aG rfl rfl ?_ rfl;simp [k]
theorem abY (l:List Row) (hl:l.length<=300) (hf:oK l):∀ (m i:Nat) (acc:List Row),i+m=l.length->acc.length=i->TT.lim 132 [.l (acc.map row),.l (l.map row),.i .i64 l.length,.i .i64 i]=some [.i .i64 0,.l ((acc++l.drop i).map row)]
 | 0,i,acc,hi,ha=>by
   have h0:l.drop i=[]:=dN (by omega);have h:¬ ((i:Int) < l.length):=by omega
   refine aB rfl rfl ?_;simp [h,h0]
 | m+1,i,acc,hi,ha=>by
   have hlt:i < l.length:=by omega
   have ih:TT.lim 132 [.l ((acc++[l[i]]).map row),.l (l.map row),.i .i64 l.length,.i .i64 ((i:Int)+1)]=_:=abY l hl hf m (i+1) (acc++[l[i]]) (by omega) (by simp;omega);rw [List.append_assoc,I9,<- dZ hlt] at ih;generalize hL:(acc++l.drop i).map row=L at ih ⊢;simp only [pR,iU,vI] at ih;have k:=aeI l[i].1 (BN (hf _ (fP hlt)));have h:((i:Int) < l.length):=by omega
   have hw:=wrap64 (n:=(i:Int)+1) (by omega) (by omega);have he:GV.g [GV.l (l[i].1.map ent),GV.i .u64 l[i].2]=row l[i]:=rfl;have hok:(row l[i]).eU 2=true:=rfl;have hb:2 * (acc.length+1) * 32<=281474976710656/\acc.length+1<=281474976710656:=by omega
   refine aB rfl rfl ?_;simp [h,hlt,k,he,hok,hb,hw,ih]
theorem arT (l:List Row) (hl:rX l):TT.lim 131 [.l (l.map row)]=some [.l (l.map row)]:=by
 have k:TT.lim 132 [.l [],.l (l.map row),.i .i64 l.length,.i .i64 0]=_:=abY l hl.len hl.few l.length 0 [] (by omega) rfl;rw [bY,dK] at k;refine aG rfl rfl ?_ rfl;simp [k]
theorem arR (n:Nat):(n:Int).tmod 128=((n % 128:Nat):Int):=by rw [Rq (by omega)];omega
theorem arP (n:Nat):(n:Int).tdiv 128=((n / 128:Nat):Int):=by rw [Yn (by omega)];omega
theorem Zu (n:Nat) (h:n < 256):lC [.i .u8 (n:Int)]=some [UInt8.ofNat n]:=by
 have:=SN [n] (by simpa using h);simpa [iQ] using this
theorem add_one (s:List UInt8) (c:UInt8) (h:s.length<=1000000):gB .add (some (.s s)) (some (.s [c]))=some (.s (s++[c])):=by
 rw [SE,aj (by simp only [qO];omega)]
theorem aro (n a b q:Int) (s c r:List UInt8) (h':127 < n) (e1:n.tmod 128=a) (e2:n.tdiv 128=b) (w1:IntKind.u64.wrap (a+128)=a+128) (w2:IntKind.u8.wrap (a+128)=a+128) (w3:IntKind.u64.wrap b=b)
 (e3:lC [.i .u8 (a+128)]=some c) (hb:gB .add (some (.s s)) (some (.s c))=some (.s (s++c))) (k:TT.lim 153 [.i .u64 b,.s (s++c)]=some [.i .i64 0,.i .u64 q,.s (s++(c++r))]) :
 TT.lim 153 [.i .u64 n,.s s]=some [.i .i64 0,.i .u64 q,.s (s++(c++r))]:=by
 refine aB rfl rfl ?_;simp [-SE,h',e1,e2,w1,w2,w3,e3,hb,k]
theorem an6 (n q:Int) (r c:List UInt8) (k:TT.lim 153 [.i .u64 n,.s []]=some [.i .i64 0,.i .u64 q,.s r]) (w:IntKind.u8.wrap q=q) (e:lC [.i .u8 q]=some c) (hr:gB .add (some (.s r)) (some (.s c))=some (.s (r++c))) :
 TT.lim 152 [.i .u64 n]=some [.s (r++c)]:=by
 refine aG rfl rfl ?_ rfl;simp [-SE,k,w,e,hr]
theorem al3:∀n:Nat,n < 18446744073709551616->∃q r,q < 128/\r++[UInt8.ofNat q]=aW n/\∀s:List UInt8,s.length+(aW n).length<=1000->TT.lim 153 [.i .u64 n,.s s]=some [.i .i64 0,.i .u64 (q:Nat),.s (s++r)]:=by
 intro n;induction n using Nat.strongRecOn with
 | _ n ih=>
   intro hn;by_cases h:n < 128
   ·refine ⟨n,[],h,by rw [IK h,dK],λs hs=>?_⟩
    have h':¬ (127:Int) < (n:Int):=by omega
    refine aB rfl rfl ?_;simp [h']
   ·obtain ⟨q,r,h1,h2,h3⟩:=ih (n / 128) (by omega) (by omega)
    refine ⟨q,[UInt8.ofNat (n % 128+128)]++r,h1,by rw [LH h,<- h2,List.append_assoc,I9],λs hs=>?_⟩;rw [LH h,jc] at hs;have k:=h3 (s++[UInt8.ofNat (n % 128+128)]) (by simp;omega);rw [List.append_assoc] at k;have e3:=Zu (n % 128+128) (by omega);rw [show ((n % 128+128:Nat):Int)=((n % 128:Nat):Int)+128 by omega] at e3;exact aro n _ _ q s _ r (by omega) (arR n) (arP n) (dF (by omega) (by omega)) (Rf (by omega) (by omega)) (dF (by omega) (by omega)) e3 (add_one s _ (by omega)) k
theorem wE (n:Nat) (hn:n < 18446744073709551616):TT.lim 152 [.i .u64 n]=some [.s (aW n)]:=by
 obtain ⟨q,r,h1,h2,h3⟩:=al3 n hn;have hl:=iO hn;have k:=h3 [] (by simp;omega);rw [dK] at k;rw [<- h2];exact an6 n q r _ k (Rf (by omega) (by omega)) (Zu q (by omega)) (add_one r _ (by rw [<- h2] at hl;simp at hl;omega))
theorem ai0 (x:bU) (h1:x.1.length<=140737488351232) (h2:x.2.length<=140737488351232):TT.lim 155 [ent x]=some [.s (jv x)]:=by
 have k1:=wE x.1.length (by omega);have k2:=wE x.2.length (by omega);have l1:=iO (n:=x.1.length) (by omega);have l2:=iO (n:=x.2.length) (by omega);have w1:=dF (n:=(x.1.length:Int)) (by omega) (by omega);have w2:=dF (n:=(x.2.length:Int)) (by omega) (by omega);have c1:((aW x.1.length).length:Int)+(x.1.length:Int)<=9223372036854775807:=by omega
 have c2:((aW x.1.length).length:Int)+((x.1.length:Int)+((aW x.2.length).length:Int))<=9223372036854775807:=by omega
 have c3:((aW x.1.length).length:Int)+((x.1.length:Int)+(((aW x.2.length).length:Int)+(x.2.length:Int)))<=9223372036854775807:=by omega
 refine aG rfl rfl ?_ rfl;simp [w1,w2,k1,k2,c1,c2,c3,jv,Int.add_assoc]
theorem ab5 (d:List bU) (hf:d.all oU=true) (hl:d.length<=40):∀ (m i:Nat) (acc:List UInt8),i+m=d.length->acc.length<=10+620 * i->
 TT.lim 154 [.s acc,.l (d.map ent),.i .i64 d.length,.i .i64 i]=some [.i .i64 0,.s (acc++(d.drop i).flatMap jv)]
 | 0,i,acc,hi,ha=>by
   have h0:d.drop i=[]:=dN (by omega);refine aB rfl rfl ?_;have h:¬ ((i:Int) < d.length):=by omega
   simp [h,h0]
 | m+1,i,acc,hi,ha=>by
   have hlt:i < d.length:=by omega
   have hx:=List.all_eq_true.1 hf d[i] (fP hlt);have hx1:=hx;unfold oU at hx1;simp only [decide_eq_true_iff] at hx1;have hp:=ai0 d[i] (by omega) (by omega);have hpl:=TB hx;have ih:TT.lim 154 [.s (acc++jv d[i]),.l (d.map ent),.i .i64 d.length,.i .i64 ((i:Int)+1)]=_:=ab5 d hf hl m (i+1) (acc++jv d[i]) (by omega) (by simp;omega);have hd:(d.drop i).flatMap jv=jv d[i]++(d.drop (i+1)).flatMap jv:=by rw [dZ hlt,jk]
   rw [hd,<- List.append_assoc];have h:((i:Int) < d.length):=by omega
   have hw:=wrap64 (n:=(i:Int)+1) (by omega) (by omega);have hb:(acc.length:Int)+((jv d[i]).length:Int)<=9223372036854775807:=by omega
   have he:GV.g [GV.s d[i].1,GV.s d[i].2]=ent d[i]:=rfl;refine aB rfl rfl ?_;simp [h,hlt,he,hp,hb,hw,ih]
theorem Kq (d:List bU) (hf:gZ d=true):TT.lim 151 [.l (d.map ent)]=some [.s (eG d)]:=by
 unfold gZ at hf;rw [aI,decide_eq_true_iff] at hf;have k:=wE d.length (by omega);have l1:=iO (n:=d.length) (by omega);have w1:=dF (n:=(d.length:Int)) (by omega) (by omega);have h11:TT.lim 154 [.s (aW d.length),.l (d.map ent),.i .i64 d.length,.i .i64 0]=_:=ab5 d hf.1 hf.2 d.length 0 (aW d.length) (by omega) (by omega);rw [bY] at h11;refine aG rfl rfl ?_ rfl;unfold eG;generalize d.flatMap jv=F at *;simp [w1,k,h11]
theorem Ei {d:List bU} (hf:gZ d=true):(eG d).length<=30000:=by
 unfold gZ at hf;rw [aI,decide_eq_true_iff] at hf;have l1:=iO (n:=d.length) (by omega);have:=Ua d hf.1;unfold eG;simp only [dX];omega
theorem abN (a b:List UInt8) (ha:a.length<=140737488351232) (hb:b.length<=140737488351232):TT.lim 172 [.s a,.s b]=some [.b (Op.bytesLess a b)]:=by
 have k:=ZR (a,[]) (b,[]) ⟨ha,by simp⟩ ⟨hb,by simp⟩;have e1:GV.g [.s a,.s []]=ent (a,[]):=rfl;have e2:GV.g [.s b,.s []]=ent (b,[]):=rfl;have hc:decide (F9 (a,[]) (b,[]) < 0)=Op.bytesLess a b:=by
  unfold F9;cases h:Op.bytesLess a b with
  | true=>simp
  | false=>
    simp only [fF,if_false];rw [ah (by simp [Op.bytesLess])];split<;>rfl
 refine aG rfl rfl ?_ rfl;simp [e1,e2,k,hc]
theorem ab1 (t:List Row) (ht:Rows t) (hf:oK t) (h256:t.length<=256):∀m i:Nat,i+m=t.length->
 TT.lim 158 [.l (t.map row),.i .i64 t.length,.i .i64 i]=some (tagged (jM (if h:0 < i then (t[i - 1]?).map K else none) (t.drop i)))
 | 0,i,hi=>by
   have h0:t.drop i=[]:=dN (by omega);have h:¬ ((i:Int) < t.length):=by omega
   refine aB rfl rfl ?_;simp [h,h0,jM,tagged]
 | m+1,i,hi=>by
   have hlt:i < t.length:=by omega
   have hr:=ht.2 t[i] (fP hlt);have fr:=hf t[i] (fP hlt);have k15:=ao9 t[i] hr.1;have k6:=Kq t[i].1 fr;have hrow:GV.g [.l (t[i].1.map ent),.i .u64 t[i].2]=row t[i]:=rfl;have ih:TT.lim 158 [.l (t.map row),.i .i64 t.length,.i .i64 ((i:Int)+1)]=_:=ab1 t ht hf h256 m (i+1) (by omega);have hpk:(if h:0 < i+1 then (t[i+1 - 1]?).map K else none)=some (K t[i]):=by simp [hlt]
   rw [hpk] at ih;rw [dZ hlt];have h:((i:Int) < t.length):=by omega
   have hw:=wrap64 (n:=(i:Int)+1) (by omega) (by omega);by_cases h1:oH t[i]=0;rotate_left
   ·have hc:∀p,jM p (t[i]::t.drop (i+1))=oH t[i]:=λp=>by unfold jM;rw [aj h1]
    rw [hc];have ht1:tagged (oH t[i])=[.i .i64 0,.i .i64 (oH t[i])]:=by unfold tagged;rw [ah h1]
    rw [ht1];refine aB rfl rfl ?_;simp [-List.getElem_cons_drop,h,hlt,hrow,k15,h1]
   by_cases h0:i=0
   ·subst h0
    have hc:jM (if h:0 < 0 then (t[0 - 1]?).map K else none) (t[0]::t.drop (0+1))=jM (some (K t[0])) (t.drop (0+1)):=by
     conv=>lhs;unfold jM
     simp [h1]
    rw [hc];generalize tagged (jM (some (K t[0])) (t.drop (0+1)))=out at *;simp only [lZ,LW] at hw ih;have hn:(0:Int) < (t.length:Int):=by omega
    refine aB rfl rfl ?_;simp [-List.getElem_cons_drop,h,hlt,hn,hrow,k15,h1,k6,hw,ih]
   ·have hi0:0 < i:=by omega
    have hi1:i - 1 < t.length:=by omega
    have UD:(0:Int) < (i:Int):=by omega
    have hw2:=wrap64 (n:=(i:Int) - 1) (by omega) (by omega);have ht2:((i:Int) - 1).toNat=i - 1:=by omega
    have hnl:(1:Int)<=(i:Int):=by omega
    have hge:(0:Int)<=(i:Int) - 1:=by omega
    have fp:=hf t[i - 1] (fP hi1);have k7:=Kq t[i - 1].1 fp;have kl:=abN (eG t[i - 1].1) (eG t[i].1) (by have:=Ei fp;omega) (by have:=Ei fr;omega);have hp:(if h:0 < i then (t[i - 1]?).map K else none)=some (K t[i - 1]):=by simp [hi0,hi1]
    rw [hp];have hc:jM (some (K t[i - 1])) (t[i]::t.drop (i+1))=if K t[i]=K t[i - 1] then 14 else if Op.bytesLess (K t[i]) (K t[i - 1])=true then 7 else jM (some (K t[i])) (t.drop (i+1)):=by
     conv=>lhs;unfold jM
     rw [ah (by simp [h1])]
    rw [hc];generalize jM (some (K t[i])) (t.drop (i+1))=out at *;by_cases h2:eG t[i].1=eG t[i - 1].1
    ·rw [aj h2]
     have h2':(eG t[i - 1].1=eG t[i].1)=True:=eq_true h2.symm;refine aB rfl rfl ?_;simp [-List.getElem_cons_drop,h,hlt,hrow,k15,h1,k6,UD,hi0,hw2,ht2,hnl,hge,hi1,k7,h2',tagged]
    ·rw [ah h2]
     have h2':¬ eG t[i - 1].1=eG t[i].1:=λe=>h2 e.symm;by_cases h3:eG t[i].1 < eG t[i - 1].1
     ·rw [aj ((yI _ _).2 h3)]
      rw [(afO _ _).2 λh=>I5 _ (I7 h h3)] at kl;refine aB rfl rfl ?_;simp [-List.getElem_cons_drop,h,hlt,hrow,k15,h1,k6,UD,hi0,hw2,ht2,hnl,hge,hi1,k7,h2',kl,tagged]
     ·rw [ah λh=>h3 ((yI _ _).1 h)]
      have h4:eG t[i - 1].1 < eG t[i].1:=by
       rcases Yz.1 (LZ.1 h3) with h | h
       ·exact h
       ·exact absurd h h2'
      rw [(yI _ _).2 h4] at kl;refine aB rfl rfl ?_;simp [-List.getElem_cons_drop,h,hlt,hrow,k15,h1,k6,UD,hi0,hw2,ht2,hnl,hge,hi1,k7,h2',kl,hw,ih]
theorem ZK (t:List Row) (ht:Rows t) (hf:oK t):TT.lim 157 [.l (t.map row)]=some [.i .i64 (sU t)]:=by
 unfold sU;by_cases h1:256 < t.length
 ·have h1':(256:Int) < (t.length:Int):=by omega
  refine aG rfl rfl ?_ rfl;simp [h1,h1']
 ·have h1':¬ (256:Int) < (t.length:Int):=by omega
  have h38:TT.lim 158 [.l (t.map row),.i .i64 t.length,.i .i64 0]=_:=ab1 t ht hf (by omega) t.length 0 (by omega);rw [bY] at h38;have hp:(if h:0 < 0 then (t[0 - 1]?).map K else none)=none:=rfl;rw [hp] at h38;refine aG rfl rfl ?_ rfl;by_cases h2:jM none t=0
  ·simp only [tagged,h2,if_true] at h38
   simp [h1,h1',h38,h2]
  ·simp only [tagged,h2,if_false] at h38
   simp [h1,h1',h38,h2]
theorem ab7 (a b:List Row) (i:Nat) (ha:i < a.length) (hb:i < b.length) (hl:a[i].1.length=b[i].1.length) (Uo:a[i].1.length<=40) (x3 x4 x5 x7 x8 x9:GV):∀m j:Nat,j+m=a[i].1.length->
 TT.lim 219 [.l (a.map row),.l (b.map row),.i .i64 i,x3,x4,x5,.i .i64 a[i].1.length,x7,x8,x9,.i .i64 j]=some (if a[i].1.drop j=b[i].1.drop j then [.i .i64 1] else [.i .i64 0])
 | 0,j,hj=>by
   have h0:a[i].1.drop j=[]:=dN (by omega);have h1:b[i].1.drop j=[]:=dN (by omega);have h:¬ ((j:Int) < a[i].1.length):=by omega
   refine aB rfl rfl ?_;simp [h,h0,h1]
 | m+1,j,hj=>by
   have hla:j < a[i].1.length:=by omega
   have hlb:j < b[i].1.length:=by omega
   have ih:TT.lim 219 [.l (a.map row),.l (b.map row),.i .i64 i,x3,x4,x5,.i .i64 a[i].1.length,x7,x8,x9,.i .i64 ((j:Int)+1)]=_:=ab7 a b i ha hb hl Uo x3 x4 x5 x7 x8 x9 m (j+1) (by omega);have h:((j:Int) < a[i].1.length):=by omega
   have hw:=wrap64 (n:=(j:Int)+1) (by omega) (by omega);have ke:=TK a[i].1[j] b[i].1[j];have hc:(a[i].1.drop j=b[i].1.drop j)=(a[i].1[j]=b[i].1[j]/\a[i].1.drop (j+1)=b[i].1.drop (j+1)):=by
    rw [dZ hla,dZ hlb,Dh]
   simp only [hc];by_cases e:a[i].1[j]=b[i].1[j]
   ·have e':(a[i].1[j]=b[i].1[j])=True:=eq_true e
    rw [zN e] at ke;clear e hc;simp only [e',true_and];refine aB rfl rfl ?_;simp [h,ha,hb,hla,hlb,ke,hw,ih]
   ·rw [zM e] at ke
    rw [ah λh=>e h.1];clear hc;refine aB rfl rfl ?_;simp [h,ha,hb,hla,hlb,ke]
theorem ab6 (a b:List Row) (hl:a.length=b.length) (hal:a.length<=1000) (fa:oK a):∀m i:Nat,i+m=a.length->
 TT.lim 218 [.l (a.map row),.l (b.map row),.i .i64 a.length,.i .i64 i]=some (if a.drop i=b.drop i then [.i .i64 1] else [.i .i64 0])
 | 0,i,hi=>by
   have h0:a.drop i=[]:=dN (by omega);have h1:b.drop i=[]:=dN (by omega);have h:¬ ((i:Int) < a.length):=by omega
   refine aB rfl rfl ?_;simp [h,h0,h1]
 | m+1,i,hi=>by
   have hla:i < a.length:=by omega
   have hlb:i < b.length:=by omega
   have ih:TT.lim 218 [.l (a.map row),.l (b.map row),.i .i64 a.length,.i .i64 ((i:Int)+1)]=_:=ab6 a b hl hal fa m (i+1) (by omega);have h:((i:Int) < a.length):=by omega
   have hw:=wrap64 (n:=(i:Int)+1) (by omega) (by omega);have Uo:=BN (fa _ (fP hla));have hc:(a.drop i=b.drop i)=(a[i]=b[i]/\a.drop (i+1)=b.drop (i+1)):=by
    rw [dZ hla,dZ hlb,Dh]
   simp only [hc];have hpe:(a[i]=b[i])=(a[i].1=b[i].1/\a[i].2=b[i].2):=propext Prod.ext_iff;clear hc;by_cases e2:a[i].2=b[i].2;rotate_left
   ·rw [ah λh=>e2 (by rw [h.1])]
    clear hpe;refine aB rfl rfl ?_;simp [h,hla,hlb,e2]
   by_cases e3:a[i].1.length=b[i].1.length;rotate_left
   ·rw [ah λh=>e3 (by rw [h.1])]
    have e2':(a[i].2=b[i].2)=True:=eq_true e2;clear hpe e2;have e3':¬ (a[i].1.length:Int)=(b[i].1.length:Int):=by omega
    refine aB rfl rfl ?_;simp [h,hla,hlb,e2',e3,e3']
   have k:=ab7 a b i hla hlb e3 Uo (.i .i64 a.length) (row a[i]) (.l (a[i].1.map ent)) (row b[i]) (.l (b[i].1.map ent)) (.i .i64 b[i].1.length) a[i].1.length 0 (by omega);rw [bY,bY] at k;simp only [lZ] at k;have e2':(a[i].2=b[i].2)=True:=eq_true e2;have e3':((a[i].1.length:Int)=(b[i].1.length:Int))=True:=eq_true (by omega);have aaq:(a[i].1.length=b[i].1.length)=True:=eq_true e3;by_cases e1:a[i].1=b[i].1
   ·rw [aj e1] at k
    have hc2:(a[i]=b[i])=True:=eq_true (Prod.ext e1 e2);simp only [hc2,true_and];clear hpe e2 e3 e1 hc2;refine aB rfl rfl ?_;simp [h,hla,hlb,e2',e3',aaq,k,hw,ih]
   ·rw [ah e1] at k
    rw [ah λh=>e1 (by rw [h.1])];clear hpe e2 e3;refine aB rfl rfl ?_;simp [h,hla,hlb,e2',e3',aaq,k]
theorem aqP (a b:List Row) (hal:a.length<=1000) (fa:oK a):TT.lim 217 [.l (a.map row),.l (b.map row)]=some [.b (decide (a=b))]:=by
 by_cases hl:a.length=b.length
 ·have k:TT.lim 218 [.l (a.map row),.l (b.map row),.i .i64 a.length,.i .i64 0]=_:=ab6 a b hl hal fa a.length 0 (by omega)
  rw [bY,bY] at k;have hl':((a.length:Int)=(b.length:Int))=True:=eq_true (by omega);have hl'':(a.length=b.length)=True:=eq_true hl;clear hl;by_cases e:a=b
  ·rw [aj e] at k
   rw [zN e];clear e;refine aG rfl rfl ?_ rfl;simp [hl',hl'',k]
  ·rw [ah e] at k
   rw [zM e];refine aG rfl rfl ?_ rfl;simp [hl',hl'',k]
 ·rw [zM λe=>hl (by rw [e])]
  have hl':¬ (a.length:Int)=(b.length:Int):=by omega
  refine aG rfl rfl ?_ rfl;simp [hl,hl']
def common:List UInt8->List UInt8->Nat
 | a::x,b::y=>if a=b then common x y+1 else 0
 | _,_=>0
theorem NM (b:List UInt8):common [] b=0:=by unfold common;rfl
theorem agr (a:List UInt8):common a []=0:=by cases a<;>rfl
theorem JF:∀a b:List UInt8,common a b<=a.length/\common a b<=b.length
 | [],b=>by simp [common]
 | _::_,[]=>by simp [common]
 | a::x,b::y=>by
   unfold common;have:=JF x y;split
   ·simp only [jc];omega
   ·omega
theorem ZY (a b:List UInt8) (ha:a.length<=140737488351232) (hb:b.length<=140737488351232):∀m i:Nat,i+m=a.length->TT.lim 83 [.s a,.s b,.i .i64 i]=some [.i .i64 0,.i .i64 ((i+common (a.drop i) (b.drop i):Nat):Int)]
 | 0,i,hi=>by
   have h0:a.drop i=[]:=dN (by omega);have h:¬ ((i:Int) < a.length):=by omega
   refine aB rfl rfl ?_;simp [h,h0,NM]
 | m+1,i,hi=>by
   have hlt:i < a.length:=by omega
   have h:((i:Int) < a.length):=by omega
   by_cases hlb:i < b.length;rotate_left
   ·have h0:b.drop i=[]:=dN (by omega)
    have h1:¬ ((i:Int) < b.length):=by omega
    refine aB rfl rfl ?_;simp [h,h0,h1,agr]
   have hb1:((i:Int) < b.length):=by omega
   have ih:TT.lim 83 [.s a,.s b,.i .i64 ((i:Int)+1)]=_:=ZY a b ha hb m (i+1) (by omega);have hw:=wrap64 (n:=(i:Int)+1) (by omega) (by omega);rw [dZ hlt,dZ hlb];unfold common;by_cases e:a[i]=b[i]
   ·rw [aj e]
    have e':((a[i].toNat:Int)=(b[i].toNat:Int))=True:=eq_true (by rw [e]);have e2:((i+(common (a.drop (i+1)) (b.drop (i+1))+1):Nat):Int)=((i+1+common (a.drop (i+1)) (b.drop (i+1)):Nat):Int):=by omega
    rw [e2];refine aB rfl rfl ?_;simp [h,hlt,hlb,hb1,e',hw,ih]
   ·rw [ah e]
    have e':¬ (a[i].toNat:Int)=(b[i].toNat:Int):=λh=>e (MJ.1 (by omega));refine aB rfl rfl ?_;simp [h,hlt,hlb,hb1,e']
theorem Tf (a b:List UInt8) (ha:a.length<=140737488351232) (hb:b.length<=140737488351232):TT.lim 82 [.s a,.s b]=some [.i .i64 (common a b)]:=by
 have k:TT.lim 83 [.s a,.s b,.i .i64 0]=_:=ZY a b ha hb a.length 0 (by omega);rw [bY,bY,iV] at k;refine aG rfl rfl ?_ rfl;simp [k]
theorem adx (a b:List UInt8) (ha:a.length<=140737488351232) (hb:b.length<=140737488351232):∀m i:Nat,i+m=a.length->
 TT.lim 177 [.s a,.s b,.i .i64 i]=some (if common (a.drop i) (b.drop i) < a.length - i/\common (a.drop i) (b.drop i) < b.length - i then [.i .i64 0,.i .i64 ((i+common (a.drop i) (b.drop i):Nat):Int)] else [.i .i64 1])
 | 0,i,hi=>by
   have h0:a.drop i=[]:=dN (by omega);have h:¬ ((i:Int) < a.length):=by omega
   have h2:¬ (common ([]:List UInt8) (b.drop i) < a.length - i/\common [] (b.drop i) < b.length - i):=by omega
   rw [h0,ah h2];refine aB rfl rfl ?_;simp [h]
 | m+1,i,hi=>by
   have hlt:i < a.length:=by omega
   have h:((i:Int) < a.length):=by omega
   by_cases hlb:i < b.length;rotate_left
   ·have h1:¬ ((i:Int) < b.length):=by omega
    rw [ah (by omega)];refine aB rfl rfl ?_;simp [h,h1]
   have hb1:((i:Int) < b.length):=by omega
   have ih:TT.lim 177 [.s a,.s b,.i .i64 ((i:Int)+1)]=_:=adx a b ha hb m (i+1) (by omega);have hw:=wrap64 (n:=(i:Int)+1) (by omega) (by omega);have hc:common (a.drop i) (b.drop i)=if a[i]=b[i] then common (a.drop (i+1)) (b.drop (i+1))+1 else 0:=by
    rw [dZ hlt,dZ hlb];rfl
   rw [hc];by_cases e:a[i]=b[i]
   ·rw [aj e]
    have e':((a[i].toNat:Int)=(b[i].toNat:Int))=True:=eq_true (by rw [e]);have e2:((i+(common (a.drop (i+1)) (b.drop (i+1))+1):Nat):Int)=((i+1+common (a.drop (i+1)) (b.drop (i+1)):Nat):Int):=by omega
    have e3:(common (a.drop (i+1)) (b.drop (i+1))+1 < a.length - i/\common (a.drop (i+1)) (b.drop (i+1))+1 < b.length - i)=(common (a.drop (i+1)) (b.drop (i+1)) < a.length - (i+1)/\common (a.drop (i+1)) (b.drop (i+1)) < b.length - (i+1)):=by
     apply propext;omega
    rw [e2];simp only [e3];refine aB rfl rfl ?_;simp [-Int.natCast_add,h,hlt,hlb,hb1,e',hw,ih]
   ·rw [ah e]
    have e':¬ (a[i].toNat:Int)=(b[i].toNat:Int):=λh=>e (MJ.1 (by omega));rw [aj (by omega)];refine aB rfl rfl ?_;simp [h,hlt,hlb,hb1,e']
theorem ady (a b:List UInt8) (ha:a.length<=140737488351232) (hb:b.length<=140737488351232):TT.lim 176 [.s a,.s b]=some [.i .i64 (common a b)]:=by
 have k:TT.lim 177 [.s a,.s b,.i .i64 0]=_:=adx a b ha hb a.length 0 (by omega);rw [bY,bY,iV,yA,yA] at k;have hl:=JF a b;refine aG rfl rfl ?_ rfl;by_cases hc:common a b < a.length/\common a b < b.length
 ·rw [aj hc] at k
  simp [k]
 ·rw [ah hc] at k
  by_cases h2:(b.length:Int) < a.length
  ·have:(common a b:Int)=b.length:=by omega
   simp [k,h2,this]
  ·have:(common a b:Int)=a.length:=by omega
   simp [k,h2,this]
/-- A text behind another one, as it is written. -/
def rD (a s:List UInt8):List UInt8:=aW (common a s)++aW (s.length - common a s)++s.drop (common a s)
theorem amR (a s:List UInt8) (ha:a.length<=100000000) (hs:s.length<=100000000):TT.lim 81 [.s a,.s s]=some [.s (rD a s)]:=by
 have k:=Tf a s (by omega) (by omega);have hl:=JF a s;have p1:=wC (common a s) (by omega);have p2:=wC (s.length - common a s) (by omega);have l1:=iO (n:=common a s) (by omega);have l2:=iO (n:=s.length - common a s) (by omega);have w1:=dF (n:=(common a s:Int)) (by omega) (by omega);have w2:=dF (n:=(s.length:Int) - (common a s:Int)) (by omega) (by omega);have w3:=wrap64 (n:=(s.length:Int) - (common a s:Int)) (by omega) (by omega);have e2:(s.length:Int) - (common a s:Int)=((s.length - common a s:Nat):Int):=by omega
 rw [e2] at w2 w3;refine aG rfl rfl ?_ rfl;unfold rD;generalize common a s=c at *;have h1:((aW c).length:Int)+((aW (s.length - c)).length:Int)<=9223372036854775807:=by omega
 have h2:((aW c).length:Int)+((aW (s.length - c)).length:Int)+((s.length:Int) - (c:Int))<=9223372036854775807:=by omega
 have h3:(c:Int)<=s.length:=by omega
 have h4:((s.length - c:Nat):Int)=(s.length:Int) - c:=by omega
 have hd:(s.take s.length).drop c=s.drop c:=by rw [mZ]
 rw [<- e2] at w2 w3;rw [<- e2] at p2;simp [k,p1,p2,w1,w2,w3,h1,h2,h3,h4,hd]
def iE:List UInt8->Nat
 | []=>0
 | b::r=>b.toNat % 128+128 * iE r
def jD:Nat->List UInt8->Option Nat
 | 0,_=>none
 | _+1,[]=>none
 | n+1,b::r=>if b.toNat < 128 then some 1 else (jD n r).map (· + 1)
def oI (k:Nat) (b:Nat):Int:=if k=10/\1 < b then 3 else if 1 < k/\b=0 then 2 else 0
/-- The number that a text begins with, in how many bytes, or why there is none. -/
def ak (s:List UInt8):Nat×Nat×Int:=match jD 10 s with
 | none=>(0,0,if 10<=s.length then 3 else 1)
 | some k=>if oI k (s.getD (k - 1) 0).toNat≠0 then (0,0,oI k (s.getD (k - 1) 0).toNat) else (iE (s.take k),k,0)
theorem LG:∀ {n:Nat} {s:List UInt8} {k:Nat},jD n s=some k->1<=k/\k<=n/\k<=s.length/\(s.getD (k - 1) 0).toNat < 128
 | 0,s,k,h=>by simp [jD] at h
 | n+1,[],k,h=>by simp [jD] at h
 | n+1,b::r,k,h=>by
   unfold jD at h;split at h
   ·next hb=>cases h;simpa using hb
   ·obtain ⟨j,hj,rfl⟩:=bf.1 h
    obtain ⟨h1,h2,h3,h4⟩:=LG hj;obtain ⟨i,rfl⟩:∃i,j=i+1:=⟨j - 1,by omega⟩
    refine ⟨by omega,by omega,by simp;omega, ?_⟩;simpa using h4
theorem XY:∀ (s:List UInt8),iE s < 128 ^ s.length
 | []=>by simp [iE]
 | b::r=>by
   have:=XY r;simp only [iE,jc,Ba];omega
theorem aed (b i:Nat) (hb:b < 128) (hi:i<=9) (h9:i=9->b<=1):mQ .shl .u64 (b:Int) ((7 * i:Nat):Int)=some (.i .u64 ((b * 128 ^ i:Nat):Int)):=by
 have e:min ((7 * i:Nat):Int).toNat 64=7 * i:=by simp;omega
 have e2:(2:Int) ^ (7 * i)=((128 ^ i:Nat):Int):=by rw [Int.pow_mul];simp
 have hlt:b * 128 ^ i < 18446744073709551616:=by
  rcases vK i 9 with h | h
  ·have:(128:Nat) ^ i<=128 ^ 8:=FB (by omega) (by omega)
   have h2:b * 128 ^ i<=127 * 128 ^ 8:=Nat.mul_le_mul (by omega) this;omega
  ·have hi9:i=9:=by omega
   subst hi9;have:=h9 rfl;omega
 unfold mQ;rw [ah (by omega)];show some (GV.i .u64 (IntKind.u64.wrap ((b:Int) * 2 ^ (min ((7 * i:Nat):Int).toNat 64))))=_
 rw [e,e2,<- Int.natCast_mul,dF (by omega) (by omega)]
theorem orI (a c i:Nat) (ha:a < 2 ^ i) (h:a+c * 2 ^ i < 18446744073709551616):fU .or .u64 (a:Int) ((c * 2 ^ i:Nat):Int)=some (.i .u64 ((a+c * 2 ^ i:Nat):Int)):=by
 have h1:((BitVec.ofInt 64 (a:Int) ||| BitVec.ofInt 64 ((c * 2 ^ i:Nat):Int)).toNat:Nat)=a+c * 2 ^ i:=by
  rw [BitVec.toNat_or,wM,wM];generalize hC:c * 2 ^ i=C at *;have e1:((a:Int) % ((2 ^ 64:Nat):Int)).toNat=a:=by omega
  have e2:((C:Int) % ((2 ^ 64:Nat):Int)).toNat=C:=by omega
  rw [e1,e2,<- hC,Nat.or_comm,zy,Ja];exact (afo ha c).symm
 show some (GV.i .u64 (IntKind.u64.wrap (((BitVec.ofInt 64 (a:Int) ||| BitVec.ofInt 64 ((c * 2 ^ i:Nat):Int)).toNat:Nat):Int)))=_
 rw [h1,dF (by omega) (by omega)]
theorem Ih (i:Nat):128 ^ i=2 ^ (7 * i):=by rw [Nat.pow_mul]
/-- Some number, whichever. -/
theorem aee (a b:Int) (hb:0<=b):∃r,mQ .shl .u64 a b=some (.i .u64 r):=by
 unfold mQ;rw [ah (by omega)];exact ⟨_,rfl⟩
theorem or_some (a b:Int):∃r,fU .or .u64 a b=some (.i .u64 r):=⟨_,rfl⟩
def zU (s:List UInt8) (acc:Int) (i:Nat):List GV:=match jD (10 - i) (s.drop i) with
 | none=>[.i .i64 1,.s s]
 | some k=>if oI (i+k) (s.getD (i+k - 1) 0).toNat≠0 then [.i .i64 0,.i .u64 0,.i .i64 0,.i .i64 (oI (i+k) (s.getD (i+k - 1) 0).toNat)]
   else [.i .i64 0,.i .u64 (acc+((128 ^ i * iE ((s.drop i).take k):Nat):Int)),.i .i64 ((i+k:Nat):Int),.i .i64 0]
theorem getLoop (s:List UInt8) (hs:s.length<=140737488351232):∀ (m i:Nat) (acc:Int),i+m=min s.length 10->(i<=9->0<=acc/\acc < ((128 ^ i:Nat):Int))->
 TT.lim 95 [.s s,.i .u64 acc,.i .i64 ((min s.length 10:Nat):Int),.i .i64 i]=some (zU s acc i)
 | 0,i,acc,hi,ha=>by
   have h:¬ ((i:Int) < ((min s.length 10:Nat):Int)):=by omega
   have hv:jD (10 - i) (s.drop i)=none:=by
    rcases vK i 10 with h1 | h1
    ·have:s.drop i=[]:=dN (by omega)
     rw [this];obtain ⟨j,hj⟩:∃j,10 - i=j+1:=⟨10 - i - 1,by omega⟩
     rw [hj];rfl
    ·have:10 - i=0:=by omega
     rw [this];unfold jD;rfl
   unfold zU;rw [hv];generalize ((min s.length 10:Nat):Int)=M at *;refine aB rfl rfl ?_;simp [h]
 | m+1,i,acc,hi,ha=>by
   have hlt:i < s.length:=by omega
   have h9:i<=9:=by omega
   have h:((i:Int) < ((min s.length 10:Nat):Int)):=by omega
   obtain ⟨a1,a2⟩:=ha h9;obtain ⟨n,rfl⟩:∃n:Nat,acc=n:=⟨acc.toNat,by omega⟩
   have hb:=(s[i]).toNat_lt;have k7:=Y5 (s[i]).toNat (by omega);have w8:=dF (n:=(((s[i]).toNat % 128:Nat):Int)) (by omega) (by omega);have wi:=wrap64 (n:=7 * (i:Int)) (by omega) (by omega);have wj:=wrap64 (n:=(i:Int)+1) (by omega) (by omega);have hd:s.drop i=s[i]::s.drop (i+1):=dZ hlt;obtain ⟨j,hj⟩:∃j,10 - i=j+1:=⟨10 - i - 1,by omega⟩
   have hj':10 - (i+1)=j:=by omega
   have e7:(7 * (i:Int))=((7 * i:Nat):Int):=by omega
   have hgd:s.getD i 0=s[i]:=by simp [List.getD,hlt]
   by_cases hc:128<=(s[i]).toNat
   ·-- another one follows
    have hc':((128:Int)<=((s[i]).toNat:Int)):=by omega
    have step:∃V:Int,(i+1<=9->0<=V/\V < ((128 ^ (i+1):Nat):Int)/\V=n+(((s[i]).toNat % 128 * 128 ^ i:Nat):Int))/\(∃S,mQ .shl .u64 ((((s[i]).toNat % 128:Nat)):Int) (7 * (i:Int))=some (.i .u64 S)/\fU .or .u64 (n:Int) S=some (.i .u64 V)):=by
     rcases vK i 9 with h1 | h1
     ·have k1:=aed ((s[i]).toNat % 128) i (by omega) (by omega) (by omega)
      have hp:(s[i]).toNat % 128 * 128 ^ i<=127 * 128 ^ i:=sD _ (by omega);have hpp:128 ^ (i+1)=128 * 128 ^ i:=by rw [Ba,zy]
      have hq:(128:Nat) ^ i<=128 ^ 8:=FB (by omega) (by omega);have k2:=orI n ((s[i]).toNat % 128) (7 * i) (by rw [<- Ih];omega) (by rw [<- Ih];omega);rw [<- Ih] at k2;refine ⟨_,λ_=>⟨by omega, ?_,rfl⟩,_,by rw [e7];exact k1,by rw [k2];simp⟩;rw [hpp];omega
     ·obtain ⟨S,hS⟩:=aee ((((s[i]).toNat % 128:Nat)):Int) (7 * (i:Int)) (by omega)
      obtain ⟨V,hV⟩:=or_some (n:Int) S;exact ⟨V,λh=>by omega,S,hS,hV⟩
    obtain ⟨V,hV,S,hS,hO⟩:=step;have ih:TT.lim 95 [.s s,.i .u64 V,.i .i64 ((min s.length 10:Nat):Int),.i .i64 ((i:Int)+1)]=_:=getLoop s hs m (i+1) V (by omega) (λh=>⟨(hV h).1,(hV h).2.1⟩);have hout:zU s n i=zU s V (i+1):=by
     unfold zU;rw [hd,hj,hj'];have hv:jD (j+1) (s[i]::s.drop (i+1))=(jD j (s.drop (i+1))).map (· + 1):=by
      show (if (s[i]).toNat < 128 then _ else _)=_
      rw [ah (by omega)]
     rw [hv];cases hx:jD j (s.drop (i+1)) with
     | none=>rfl
     | some k=>
       obtain ⟨q1,q2,_,_⟩:=LG hx;have hV':=hV (by omega);have e1:i+(k+1)=i+1+k:=by omega
       simp only [gU,e1];split
       ·rfl
       ·have e2:(n:Int)+((128 ^ i * iE ((s[i]::s.drop (i+1)).take (k+1)):Nat):Int)=V+((128 ^ (i+1) * iE ((s.drop (i+1)).take k):Nat):Int):=by
         rw [hV'.2.2,yw];have:128 ^ i * iE (s[i]::(s.drop (i+1)).take k)=(s[i]).toNat % 128 * 128 ^ i+128 ^ (i+1) * iE ((s.drop (i+1)).take k):=by
          show 128 ^ i * ((s[i]).toNat % 128+128 * iE _)=_
          rw [RJ,Ba,RN,zy (128 ^ i) ((s[i]).toNat % 128)]
         rw [this];omega
        rw [e2]
    rw [hout];generalize zU s V (i+1)=O at *;generalize ((min s.length 10:Nat):Int)=M at *;have em:(((s[i]).toNat % 128:Nat):Int)=((s[i]).toNat:Int) % 128:=by omega
    rw [em] at k7 w8 hS;refine aB rfl rfl ?_;simp [h,hlt,hc',k7,w8,wi,wj,hS,hO,ih]
   ·-- the last one
    have hc':¬ ((128:Int)<=((s[i]).toNat:Int)):=by omega
    have hv:jD (j+1) (s[i]::s.drop (i+1))=some 1:=by
     show (if (s[i]).toNat < 128 then _ else _)=_
     rw [aj (by omega)]
    have hout:zU s n i=if oI (i+1) (s[i]).toNat≠0 then [.i .i64 0,.i .u64 0,.i .i64 0,.i .i64 (oI (i+1) (s[i]).toNat)] else [.i .i64 0,.i .u64 ((n+(s[i]).toNat * 128 ^ i:Nat):Int),.i .i64 ((i:Int)+1),.i .i64 0]:=by
     unfold zU;rw [hd,hj,hv];have e1:i+1 - 1=i:=by omega
     have e2:128 ^ i * iE ((s[i]::s.drop (i+1)).take 1)=(s[i]).toNat * 128 ^ i:=by
      simp only [yw,RF,iE];rw [Mc (by omega),zy];simp
     simp only [e1,hgd,e2];congr 1
    rw [hout];have step:∃S V,mQ .shl .u64 ((((s[i]).toNat % 128:Nat)):Int) (7 * (i:Int))=some (.i .u64 S)/\fU .or .u64 (n:Int) S=some (.i .u64 V)/\(oI (i+1) (s[i]).toNat=0->V=((n+(s[i]).toNat * 128 ^ i:Nat):Int)):=by
     by_cases hbad:i=9/\1 < (s[i]).toNat
     ·obtain ⟨S,hS⟩:=aee ((((s[i]).toNat % 128:Nat)):Int) (7 * (i:Int)) (by omega)
      obtain ⟨V,hV⟩:=or_some (n:Int) S;refine ⟨S,V,hS,hV,λh=>?_⟩;unfold oI at h;rw [aj (by omega)] at h;cases h
     ·have k1:=aed ((s[i]).toNat % 128) i (by omega) (by omega) (by omega)
      have em:(s[i]).toNat % 128=(s[i]).toNat:=Mc (by omega);rw [em] at k1;have hp:(s[i]).toNat * 128 ^ i<=127 * 128 ^ i:=sD _ (by omega);have hb64:n+(s[i]).toNat * 128 ^ i < 18446744073709551616:=by
       rcases vK i 9 with h1 | h1
       ·have hq:(128:Nat) ^ i<=128 ^ 8:=FB (by omega) (by omega)
        omega
       ·have hi9:i=9:=by omega
        have h1:(s[i]).toNat<=1:=by omega
        have hq:(128:Nat) ^ i=128 ^ 9:=by rw [hi9]
        have hp2:(s[i]).toNat * 128 ^ i<=1 * 128 ^ i:=sD _ h1;omega
      have k2:=orI n (s[i]).toNat (7 * i) (by rw [<- Ih];omega) (by rw [<- Ih];omega);rw [<- Ih] at k2;exact ⟨_,_,by rw [e7,em];exact k1,k2,λ_=>rfl⟩
    obtain ⟨S,V,hS,hO,hV⟩:=step;generalize ((n+(s[i]).toNat * 128 ^ i:Nat):Int)=R at *;generalize ((min s.length 10:Nat):Int)=M at *;have bd:oI (i+1) (s[i]).toNat=if (i:Int)=9/\(1:Int) < ((s[i]).toNat:Int) then 3 else if (0:Int) < (i:Int)/\((s[i]).toNat:Int)=0 then 2 else 0:=by
     unfold oI;congr 1
     ·apply propext;omega
     ·congr 1
      apply propext;omega
    rw [bd] at hV ⊢;have em:(((s[i]).toNat % 128:Nat):Int)=((s[i]).toNat:Int) % 128:=by omega
    rw [em] at k7 w8 hS;refine aB rfl rfl ?_
    rcases (Dc ((i:Int)=9)).imp eq_true eq_false with q1 | q1<;>rcases (Dc ((1:Int) < ((s[i]).toNat:Int))).imp eq_true eq_false with q2 | q2<;>
     rcases (Dc ((0:Int) < (i:Int))).imp eq_true eq_false with q3 | q3<;>rcases (Dc (((s[i]).toNat:Int)=0)).imp eq_true eq_false with q4 | q4
    all_goals
     have KU:(0 < i)=((0:Int) < (i:Int)):=propext (by omega);have KW:((s[i]).toNat=0)=(((s[i]).toNat:Int)=0):=propext (by omega);rw [q3] at KU;rw [q4] at KW;simp only [q1,q2,q3,q4,and_self,and_true,and_false,false_and,true_and,if_true,if_false] at hV ⊢;first
     | (have hV:=hV trivial;subst hV)
     | skip
     simp [h,hlt,hc',k7,w8,wi,wj,hS,hO,q1,q2,q3,q4,KU,KW]
theorem tH (s:List UInt8) (hs:s.length<=140737488351232):TT.lim 94 [.s s]=some [.i .u64 ((ak s).1:Nat),.i .i64 ((ak s).2.1:Nat),.i .i64 (ak s).2.2]:=by
 have k:TT.lim 95 [.s s,.i .u64 0,.i .i64 ((min s.length 10:Nat):Int),.i .i64 0]=_:=getLoop s hs (min s.length 10) 0 0 (by omega) (by simp);have hm:(if (10:Int) < (s.length:Int) then (10:Int) else (s.length:Int))=((min s.length 10:Nat):Int):=by split<;>omega
 unfold zU at k;rw [bY,yA] at k;unfold ak;generalize ((min s.length 10:Nat):Int)=M at *;refine aG rfl rfl ?_ rfl;cases hv:jD 10 s with
 | none=>
   rw [hv] at k;by_cases h10:10<=s.length
   ·have h1:(10:Int)<=s.length:=by omega
    simp [hm,k,h10,h1]
   ·have h1:¬ (10:Int)<=s.length:=by omega
    simp [hm,k,h10,h1]
 | some j=>
   rw [hv] at k;simp only [iV,Nat.pow_zero,Dk,LW] at k;by_cases hb:oI j (s.getD (j - 1) 0).toNat=0
   ·simp only [hb,ne_eq,not_true_eq_false,if_false] at k ⊢
    simp [hm,k]
   ·simp only [hb,ne_eq,not_false_eq_true,if_true] at k ⊢
    simp [hm,k]
theorem aoX (s:List UInt8) (k i:Int) (h:¬ k=0) (h0:0<=i):TT.lim 195 [.s s,.i .i64 k,.i .i64 i]=some [.i .i64 0,.s s,.i .i64 k]:=by
 refine aB rfl rfl ?_;by_cases h1:i < s.length<;>by_cases h2:i < 10<;>simp [h,h1,h2]
theorem adN (s:List UInt8) (hs:s.length<=140737488351232):∀m i:Nat,i+m=min s.length 10->
 TT.lim 195 [.s s,.i .i64 0,.i .i64 i]=some [.i .i64 0,.s s,.i .i64 ((match jD (10 - i) (s.drop i) with | none=>0 | some k=>i+k:Nat):Int)]
 | 0,i,hi=>by
   have hv:jD (10 - i) (s.drop i)=none:=by
    rcases vK i 10 with h1 | h1
    ·have:s.drop i=[]:=dN (by omega)
     rw [this];obtain ⟨j,hj⟩:∃j,10 - i=j+1:=⟨10 - i - 1,by omega⟩
     rw [hj];rfl
    ·have:10 - i=0:=by omega
     rw [this];unfold jD;rfl
   rw [hv];refine aB rfl rfl ?_;by_cases h1:(i:Int) < s.length
   ·have h2:¬ (i:Int) < 10:=by omega
    simp [h1,h2]
   ·simp [h1]
 | m+1,i,hi=>by
   have hlt:i < s.length:=by omega
   have h1:(i:Int) < s.length:=by omega
   have h2:(i:Int) < 10:=by omega
   have wj:=wrap64 (n:=(i:Int)+1) (by omega) (by omega);have hd:s.drop i=s[i]::s.drop (i+1):=dZ hlt;obtain ⟨j,hj⟩:∃j,10 - i=j+1:=⟨10 - i - 1,by omega⟩
   have hj':10 - (i+1)=j:=by omega
   rw [hd,hj];by_cases hc:(s[i]).toNat < 128
   ·have hc':((s[i]).toNat:Int) < 128:=by omega
    have hv:jD (j+1) (s[i]::s.drop (i+1))=some 1:=by
     show (if (s[i]).toNat < 128 then _ else _)=_
     rw [aj hc]
    rw [hv];have k:=aoX s ((i:Int)+1) ((i:Int)+1) (by omega) (by omega);refine aB rfl rfl ?_;simp [h1,h2,hlt,hc',wj,k]
   ·have hc':¬ ((s[i]).toNat:Int) < 128:=by omega
    have hv:jD (j+1) (s[i]::s.drop (i+1))=(jD j (s.drop (i+1))).map (· + 1):=by
     show (if (s[i]).toNat < 128 then _ else _)=_
     rw [ah hc]
    rw [hv];have ih:TT.lim 195 [.s s,.i .i64 0,.i .i64 ((i:Int)+1)]=_:=adN s hs m (i+1) (by omega);rw [hj'] at ih;have he:(match (jD j (s.drop (i+1))).map (· + 1) with | none=>0 | some k=>i+k:Nat)=(match jD j (s.drop (i+1)) with | none=>0 | some k=>i+1+k:Nat):=by
     cases jD j (s.drop (i+1)) with
     | none=>rfl
     | some k=>simp;omega
    rw [he];generalize (match jD j (s.drop (i+1)) with | none=>0 | some k=>i+1+k:Nat)=R at *;refine aB rfl rfl ?_;simp [h1,h2,hlt,hc',wj,ih]
theorem adO (s:List UInt8) (K:Nat) (hK:K<=10) (hs:K<=s.length):∀ (m i acc:Nat) (p:Int),i+m=K->(i<=9->p=((128 ^ i:Nat):Int))->acc+128 ^ i * iE ((s.drop i).take m) < 18446744073709551616->
 TT.lim 196 [.s s,.i .i64 K,.i .u64 acc,.i .u64 p,.i .i64 i]=some [.i .i64 0,.i .i64 K,.i .u64 ((acc+128 ^ i * iE ((s.drop i).take m):Nat):Int)]
 | 0,i,acc,p,hi,hp,hb=>by
   have h:¬ ((i:Int) < (K:Int)):=by omega
   refine aB rfl rfl ?_;simp [h,iE]
 | m+1,i,acc,p,hi,hp,hb=>by
   have hlt:i < s.length:=by omega
   have h:((i:Int) < (K:Int)):=by omega
   have hp:=hp (by omega);subst hp;have hd:s.drop i=s[i]::s.drop (i+1):=dZ hlt;have e:128 ^ i * iE ((s.drop i).take (m+1))=(s[i]).toNat % 128 * 128 ^ i+128 ^ (i+1) * iE ((s.drop (i+1)).take m):=by
    rw [hd,yw];show 128 ^ i * ((s[i]).toNat % 128+128 * iE _)=_
    rw [RJ,Ba,RN,zy (128 ^ i) ((s[i]).toNat % 128)]
   rw [e] at hb ⊢;have hb8:=(s[i]).toNat_lt;have wj:=wrap64 (n:=(i:Int)+1) (by omega) (by omega)
   have ih:TT.lim 196 [.s s,.i .i64 K,.i .u64 ((acc+(s[i]).toNat % 128 * 128 ^ i:Nat):Int),.i .u64 (IntKind.u64.wrap (((128 ^ i:Nat):Int) * 128)),.i .i64 ((i:Int)+1)]=_:=
    adO s K hK hs m (i+1) (acc+(s[i]).toNat % 128 * 128 ^ i) _ (by omega) (λh9=>by
     have hq:(128:Nat) ^ i<=128 ^ 8:=FB (by omega) (by omega);have h0:(0:Int)<=((128 ^ i:Nat):Int):=Int.natCast_nonneg _;have:=dF (n:=((128 ^ i:Nat):Int) * 128) (by omega) (by omega);rw [this,Ba];simp) (by omega)
   have em:((s[i]).toNat:Int).tmod 128=(((s[i]).toNat % 128:Nat):Int):=by rw [Rq (by omega)];omega
   have w8:=dF (n:=(((s[i]).toNat % 128:Nat):Int)) (by omega) (by omega);have hml:(s[i]).toNat % 128 * 128 ^ i < 18446744073709551616:=by omega
   have wm:IntKind.u64.wrap ((((s[i]).toNat % 128:Nat):Int) * ((128 ^ i:Nat):Int))=(((s[i]).toNat % 128 * 128 ^ i:Nat):Int):=by
    rw [<- Int.natCast_mul,dF (by omega) (by omega)]
   have wa:IntKind.u64.wrap ((acc:Int)+(((s[i]).toNat % 128 * 128 ^ i:Nat):Int))=((acc+(s[i]).toNat % 128 * 128 ^ i:Nat):Int):=by
    rw [<- Int.natCast_add,dF (by omega) (by omega)]
   rw [jd] at ih;generalize acc+((s[i]).toNat % 128 * 128 ^ i+128 ^ (i+1) * iE ((s.drop (i+1)).take m))=TOT at *;generalize ((acc+(s[i]).toNat % 128 * 128 ^ i:Nat):Int)=A at *;generalize (((s[i]).toNat % 128 * 128 ^ i:Nat):Int)=B at *;generalize (((s[i]).toNat % 128:Nat):Int)=C at *;generalize ((128 ^ i:Nat):Int)=Q at *;refine aB rfl rfl ?_;simp [h,hlt,em,w8,wm,wa,wj,ih]
theorem Ar (s:List UInt8) (hs:s.length<=140737488351232):TT.lim 194 [.s s]=some [.i .u64 ((ak s).1:Nat),.i .i64 ((ak s).2.1:Nat),.i .i64 (ak s).2.2]:=by
 have k:TT.lim 195 [.s s,.i .i64 0,.i .i64 0]=_:=adN s hs (min s.length 10) 0 (by omega);rw [bY,yA] at k;unfold ak;refine aG rfl rfl ?_ rfl;cases hv:jD 10 s with
 | none=>
   rw [hv] at k;have k:TT.lim 195 [.s s,.i .i64 0,.i .i64 0]=some [.i .i64 0,.s s,.i .i64 0]:=k;by_cases h10:10<=s.length
   ·have h1:(10:Int)<=s.length:=by omega
    simp [k,h10,h1]
   ·have h1:¬ (10:Int)<=s.length:=by omega
    simp [k,h10,h1]
 | some K=>
   rw [hv] at k;obtain ⟨v1,v2,v3,v4⟩:=LG hv;simp only [iV] at k;have hgd:s.getD (K - 1) 0=s[K - 1]'(by omega):=by simp [List.getD,show K - 1 < s.length by omega]
   rw [hgd] at v4;simp only [hgd];have hget:s[K - 1]? = some (s[K - 1]'(by omega)):=bV (by omega);have hK0:¬ ((K:Int)=0):=by omega
   have hK1:¬ (K=0):=by omega
   have hK2:(1:Int)<=(K:Int):=by omega
   have hK3:1<=K:=by omega
   have wk:=wrap64 (n:=(K:Int) - 1) (by omega) (by omega);have hkn:((K:Int) - 1).toNat=K - 1:=by omega
   have hk0:(0:Int)<=(K:Int) - 1:=by omega
   have hval:oI K (s[K - 1]'(by omega)).toNat=0->TT.lim 196 [.s s,.i .i64 K,.i .u64 0,.i .u64 1,.i .i64 0]=some [.i .i64 0,.i .i64 K,.i .u64 ((iE (s.take K):Nat):Int)]:=by
    intro hbad;have hlt:iE (s.take K) < 18446744073709551616:=by
     have h1:iE (s.take K)=iE (s.take (K - 1))+128 ^ (K - 1) * ((s[K - 1]'(by omega)).toNat % 128):=by
      have:∀ (a:List UInt8) (b:UInt8),iE (a++[b])=iE a+128 ^ a.length * (b.toNat % 128):=by
       intro a b;induction a with
       | nil=>simp [iE]
       | cons c a ih=>
         simp only [gu,iE,ih,jc,Ba,RJ,jd];rw [zy (128 ^ a.length) 128,RN]
      have e:s.take K=s.take (K - 1)++[s[K - 1]'(by omega)]:=by
       obtain ⟨j,rfl⟩:∃j,K=j+1:=⟨K - 1,by omega⟩
       simp
      rw [e,this,jL,Dj (by omega)]
     have h2:=XY (s.take (K - 1));rw [jL,Dj (by omega)] at h2;rw [h1];rcases vK K 10 with h3 | h3
     ·have hq:(128:Nat) ^ (K - 1)<=128 ^ 8:=FB (by omega) (by omega)
      have hq2:128 ^ (K - 1) * ((s[K - 1]'(by omega)).toNat % 128)<=128 ^ (K - 1) * 127:=Jc _ (by omega);omega
     ·have hK10:K=10:=by omega
      have hb1:(s[K - 1]'(by omega)).toNat<=1:=by
       unfold oI at hbad;split at hbad
       ·cases hbad
       ·next h=>omega
      have hq:(128:Nat) ^ (K - 1)=128 ^ 9:=by rw [hK10]
      have hq2:128 ^ (K - 1) * ((s[K - 1]'(by omega)).toNat % 128)<=128 ^ (K - 1) * 1:=Jc _ (by omega);omega
    have:=adO s K v2 v3 K 0 0 1 (by omega) (λ_=>rfl) (by simpa using hlt);simpa using this
   have bd:oI K (s[K - 1]'(by omega)).toNat=if (K:Int)=10/\(1:Int) < ((s[K - 1]'(by omega)).toNat:Int) then 3 else if (1:Int) < (K:Int)/\((s[K - 1]'(by omega)).toNat:Int)=0 then 2 else 0:=by
    unfold oI;congr 1
    ·apply propext;omega
    ·congr 1
     apply propext;omega
   have h9:(K:Int)=10->s[9]? = some (s[K - 1]'(by omega)):=by
    intro h;have:K - 1=9:=by omega
    rw [<- this];exact hget
   obtain ⟨b,hbe⟩:∃b,s[K - 1]'(by omega)=b:=⟨_,rfl⟩
   simp only [hbe] at hval bd h9 hget ⊢;rw [bd] at hval ⊢
   rcases (Dc ((K:Int)=10)).imp eq_true eq_false with q1 | q1<;>rcases (Dc ((1:Int) < (b.toNat:Int))).imp eq_true eq_false with q2 | q2<;>
    rcases (Dc ((1:Int) < (K:Int))).imp eq_true eq_false with q3 | q3<;>rcases (Dc ((b.toNat:Int)=0)).imp eq_true eq_false with q4 | q4
   all_goals
    have q2n:(1 < b.toNat)=((1:Int) < (b.toNat:Int)):=propext (by omega);have KU:(1 < K)=((1:Int) < (K:Int)):=propext (by omega);have KW:(b.toNat=0)=((b.toNat:Int)=0):=propext (by omega);rw [q2] at q2n;rw [q3] at KU;rw [q4] at KW;simp only [q1,q2,q3,q4,and_self,and_true,and_false,false_and,true_and,if_true,if_false,ne_eq,not_true_eq_false,not_false_eq_true] at hval ⊢;first
    | (have hval:=hval trivial)
    | skip
    first
    | (have h9:=h9 (of_eq_true q1))
    | skip
    simp [k,hK0,hK1,hK2,hK3,wk,hkn,hk0,hget,h9,hval,q1,q2,q3,q4,q2n,KU,KW]
theorem aso (a:List UInt8) (b:UInt8):iE (a++[b])=iE a+128 ^ a.length * (b.toNat % 128):=by
 induction a with
 | nil=>simp [iE]
 | cons c a ih=>
   simp only [gu,iE,ih,jc,Ba,RJ,jd];rw [zy (128 ^ a.length) 128,RN]
/-- Bytes that are a number's writing. -/
theorem adn:∀ (j k:Nat) (s:List UInt8),jD j s=some k->(1 < k->(s.getD (k - 1) 0)≠0)->aW (iE (s.take k))=s.take k/\(1 < k\/s.getD (k - 1) 0≠0->iE (s.take k)≠0)
 | 0,k,s,h,_=>by simp [jD] at h
 | j+1,k,[],h,_=>by simp [jD] at h
 | j+1,k,b::r,h,hz=>by
   unfold jD at h;split at h
   ·next hb=>
    cases h;simp only [yw,RF,iE,Nat.mul_zero,kV];rw [Mc hb];refine ⟨by rw [IK hb];simp,λhh=>?_⟩;rcases hh with hh | hh
    ·omega
    ·intro e
     apply hh;simp only [yx,List.getD_cons_zero];exact MJ.1 (by simpa using e)
   ·next hb=>
    obtain ⟨i,hi,rfl⟩:=bf.1 h;obtain ⟨q1,q2,q3,q4⟩:=LG hi;obtain ⟨l,rfl⟩:∃l,i=l+1:=⟨i - 1,by omega⟩
    have hz':r.getD l 0≠0:=by have:=hz (by omega);simpa using this
    obtain ⟨e1,e2⟩:=adn j (l+1) r hi (λ_=>by simpa using hz');have e2:=e2 (.inr (by simpa using hz'));have hb8:=b.toNat_lt;rw [yw];simp only [iE];refine ⟨?_,λ_=>by omega⟩;rw [LH (by omega)];have a1:(b.toNat % 128+128 * iE (r.take (l+1))) % 128+128=b.toNat:=by omega
    have a2:(b.toNat % 128+128 * iE (r.take (l+1))) / 128=iE (r.take (l+1)):=by omega
    rw [a1,a2,e1];simp
structure VOk (s:List UInt8) (n k:Nat):Prop where
 pos:1<=k
 ten:k<=10
 len:k<=s.length
 lt:n < 18446744073709551616
 put:aW n=s.take k
theorem iD {s:List UInt8} (h:(ak s).2.2=0):VOk s (ak s).1 (ak s).2.1:=by
 unfold ak at h ⊢;cases hv:jD 10 s with
 | none=>
   rw [hv] at h;simp only at h;split at h<;>cases h
 | some k=>
   rw [hv] at h;simp only at h ⊢;obtain ⟨v1,v2,v3,v4⟩:=LG hv;by_cases hb:oI k (s.getD (k - 1) 0).toNat=0
   ·simp only [hb,ne_eq,not_true_eq_false,if_false]
    have hz:1 < k->s.getD (k - 1) 0≠0:=by
     intro h1 h2;unfold oI at hb;rw [h2] at hb;split at hb
     ·cases hb
     ·rw [aj ⟨h1,rfl⟩] at hb;cases hb
    refine ⟨v1,v2,v3, ?_,(adn 10 k s hv hz).1⟩;have e:s.take k=s.take (k - 1)++[s.getD (k - 1) 0]:=by
     obtain ⟨j,rfl⟩:∃j,k=j+1:=⟨k - 1,by omega⟩
     have:j < s.length:=by omega
     simp [List.getD,this]
    have h2:=XY (s.take (k - 1));rw [e,aso,jL,Dj (by omega)];rw [jL,Dj (by omega)] at h2;rcases vK k 10 with h3 | h3
    ·have hq:(128:Nat) ^ (k - 1)<=128 ^ 8:=FB (by omega) (by omega)
     have hq2:128 ^ (k - 1) * ((s.getD (k - 1) 0).toNat % 128)<=128 ^ (k - 1) * 127:=Jc _ (by omega);omega
    ·have hK10:k=10:=by omega
     have hb1:(s.getD (k - 1) 0).toNat<=1:=by
      unfold oI at hb;split at hb
      ·cases hb
      ·next h=>omega
     have hq:(128:Nat) ^ (k - 1)=128 ^ 9:=by rw [hK10]
     have hq2:128 ^ (k - 1) * ((s.getD (k - 1) 0).toNat % 128)<=128 ^ (k - 1) * 1:=Jc _ (by omega);omega
   ·simp only [hb,ne_eq,not_false_eq_true,if_true] at h
theorem CZ {s:List UInt8} (h:(ak s).2.2≠0):(ak s).1=0/\(ak s).2.1=0:=by
 unfold ak at h ⊢;cases hv:jD 10 s with
 | none=>exact ⟨rfl,rfl⟩
 | some k=>
   rw [hv] at h;simp only at h ⊢;by_cases hb:oI k (s.getD (k - 1) 0).toNat=0
   ·simp only [hb,ne_eq,not_true_eq_false,if_false] at h
   ·simp only [hb,ne_eq,not_false_eq_true,if_true]
    exact ⟨trivial,trivial⟩
/-- Taken of a cursor. -/
theorem zi (t:List UInt8) (at':Nat) (h:at'<=t.length) (ht:t.length<=140737488351232) :
 TT.lim 100 [.s t,.i .i64 at']=some [.i .i64 0,.i .u64 ((ak (t.drop at')).1:Nat),.i .i64 (ak (t.drop at')).2.2,.s t,.i .i64 ((at'+(ak (t.drop at')).2.1:Nat):Int)]:=by
 have k:=tH (t.drop at') (by rw [dh];omega);have hd:(t.take t.length).drop at'=t.drop at':=by rw [mZ]
 have h1:(at':Int)<=t.length:=by omega
 refine aB rfl rfl ?_;by_cases he:(ak (t.drop at')).2.2=0
 ·have hv:=iD he
  have hl:=hv.len;have h10:=hv.ten;rw [dh] at hl;generalize (ak (t.drop at')).1=n at *;generalize (ak (t.drop at')).2.1=j at *;generalize (ak (t.drop at')).2.2=e at *;have w1:=dF (n:=(j:Int)) (by omega) (by omega);have w2:=wrap64 (n:=(t.length:Int) - (at':Int)) (by omega) (by omega);have w3:=dF (n:=(t.length:Int) - (at':Int)) (by omega) (by omega);have w4:=wrap64 (n:=(j:Int)) (by omega) (by omega);have w5:=wrap64 (n:=(at':Int)+(j:Int)) (by omega) (by omega);have c1:¬ ((t.length:Int) - (at':Int) < (j:Int)):=by omega
  have c2:(at':Int)<=(at':Int)+(j:Int)/\(at':Int)+(j:Int)<=t.length:=by omega
  subst he;simp [hd,h1,k,w1,w2,w3,w4,w5,c1,c2]
 ·obtain ⟨e1,e2⟩:=CZ he
  rw [e1,e2] at k ⊢;generalize (ak (t.drop at')).2.2=e at *;simp [hd,h1,k,he]
def ig (e:Int):List UInt8×Nat×Int:=([],0,e)
/-- The text that stands next, how many bytes it took, and the code. -/
def aX (s a0:List UInt8) (first:Bool):List UInt8×Nat×Int:=
 let a:=if first=true then [] else a0
 let v:=ak s
 if v.2.2≠0 then ig v.2.2 else
 if a.length < v.1 then ig 23 else
 let v2:=ak (s.drop v.2.1)
 if v2.2.2≠0 then ig v2.2.2 else
 if s.length - (v.2.1+v2.2.1) < v2.1 then ig 1 else
 let t:=a.take v.1++(s.drop (v.2.1+v2.2.1)).take v2.1
 if first=false/\Op.bytesLess a t=false then ig 7 else
 if v.1 < common a t then ig 23 else (t,v.2.1+v2.2.1+v2.1,0)
theorem alL (a t:List UInt8):(Op.bytesLess t a || t==a) = !(Op.bytesLess a t):=by
 rw [DF,DF,mY];simp only [lM,decide_eq_true_iff,beq_iff_eq,wP,decide_eq_false_iff_not];constructor
 ·rintro (h | h) h2
  ·exact I5 _ (I7 h h2)
  ·subst h;exact I5 _ h2
 ·intro h
  by_cases h1:t < a
  ·exact .inl h1
  ·exact .inr (List.le_antisymm (LZ.1 h) (LZ.1 h1))
theorem Ti:∀ (k:Nat) (a x:List UInt8),k<=a.length->k<=common a (a.take k++x)
 | 0,a,x,h=>by omega
 | k+1,[],x,h=>by simp at h
 | k+1,b::a,x,h=>by
   rw [yw,gu];unfold common;rw [aj rfl];have:=Ti k a x (by simpa using h);omega
theorem anZ (t a:List UInt8) (first:Bool) (at':Nat) (h:at'<=t.length) (ht:t.length<=100000000) (ha:a.length<=100000000) :
 ∃at2:Nat,TT.lim 125 [.s t,.i .i64 at',.s a,.b first]=some [.i .i64 0,.s (aX (t.drop at') a first).1,.i .i64 (aX (t.drop at') a first).2.2,.s t,.i .i64 at2]/\
  ((aX (t.drop at') a first).2.2=0->at2=at'+(aX (t.drop at') a first).2.1):=by
 have k1:=zi t at' h (by omega);by_cases he:(ak (t.drop at')).2.2=0;rotate_left
 ·obtain ⟨e1,e2⟩:=CZ he
  have hp:aX (t.drop at') a first=ig (ak (t.drop at')).2.2:=by unfold aX;simp only;rw [aj he]
  rw [e1,e2] at k1;rw [hp];clear e1 e2 hp;generalize (ak (t.drop at')).2.2=e at *;refine ⟨at',aB rfl rfl ?_,λh=>absurd h he⟩;cases first<;>simp [k1,he,ig]
 have hv:=iD he;have hl:=hv.len;have h64:=hv.lt;have h10:=hv.ten;rw [dh] at hl
 have hpn:∀a':List UInt8,a'=(if first=true then [] else a)->aX (t.drop at') a first=(if a'.length < (ak (t.drop at')).1 then ig 23 else
  if (ak (t.drop (at'+(ak (t.drop at')).2.1))).2.2≠0 then ig (ak (t.drop (at'+(ak (t.drop at')).2.1))).2.2 else
  if (t.length - at') - ((ak (t.drop at')).2.1+(ak (t.drop (at'+(ak (t.drop at')).2.1))).2.1) < (ak (t.drop (at'+(ak (t.drop at')).2.1))).1 then ig 1 else
  if first=false/\Op.bytesLess a' (a'.take (ak (t.drop at')).1++(t.drop (at'+((ak (t.drop at')).2.1+(ak (t.drop (at'+(ak (t.drop at')).2.1))).2.1))).take (ak (t.drop (at'+(ak (t.drop at')).2.1))).1)=false then ig 7 else
  if (ak (t.drop at')).1 < common a' (a'.take (ak (t.drop at')).1++(t.drop (at'+((ak (t.drop at')).2.1+(ak (t.drop (at'+(ak (t.drop at')).2.1))).2.1))).take (ak (t.drop (at'+(ak (t.drop at')).2.1))).1) then ig 23 else
  (a'.take (ak (t.drop at')).1++(t.drop (at'+((ak (t.drop at')).2.1+(ak (t.drop (at'+(ak (t.drop at')).2.1))).2.1))).take (ak (t.drop (at'+(ak (t.drop at')).2.1))).1,(ak (t.drop at')).2.1+(ak (t.drop (at'+(ak (t.drop at')).2.1))).2.1+(ak (t.drop (at'+(ak (t.drop at')).2.1))).1,0)):=by
  intro a' ha';unfold aX;simp only [lu,dh,<- ha',he,ne_eq,not_true_eq_false,if_false]
 rw [he] at k1;have k2:=zi t (at'+(ak (t.drop at')).2.1) (by omega) (by omega);have hv2:=λh=>iD (s:=t.drop (at'+(ak (t.drop at')).2.1)) h;have hv3:=λh=>CZ (s:=t.drop (at'+(ak (t.drop at')).2.1)) h;generalize hv0:ak (t.drop at')=v at *;obtain ⟨n,i,e⟩:=v;simp only at *;generalize hv1:ak (t.drop (at'+i))=v2 at *;obtain ⟨m,j,e2⟩:=v2;simp only at *;clear hv0 hv1 hv;subst he;simp only [Int.natCast_add] at k1 k2
 -- whichever is ahead
 cases first with
 | true=>
   have hp:=hpn [] rfl;rw [hp];clear hp hpn;by_cases c1:0 < n
   ·have c1':(0:Int) < n:=by omega
    rw [aj (by simpa using c1)];refine ⟨at'+i,aB rfl rfl ?_,λh=>by cases h⟩;simp [k1,c1,c1',ig]
   have c1':¬ (0:Int) < n:=by omega
   rw [ah (by simpa using c1)];by_cases c2:e2=0;rotate_left
   ·obtain ⟨q1,q2⟩:=hv3 c2
    subst q1;subst q2;rw [aj c2];refine ⟨at'+i,aB rfl rfl ?_,λh=>absurd h c2⟩;simp [k1,k2,c1,c1',c2,ig]
   subst c2;obtain ⟨q1,q2,q3,q4,_⟩:=hv2 rfl;rw [dh] at q3;rw [ah (by simp)];have w2:=wrap64 (n:=(t.length:Int) - ((at':Int)+(i:Int)+(j:Int))) (by omega) (by omega);have w3:=dF (n:=(t.length:Int) - ((at':Int)+(i:Int)+(j:Int))) (by omega) (by omega);by_cases c3:t.length - at' - (i+j) < m
   ·have c3':(t.length:Int) - ((at':Int)+(i:Int)+(j:Int)) < (m:Int):=by omega
    rw [aj c3];refine ⟨at'+i+j,aB rfl rfl ?_,λh=>by cases h⟩;simp [k1,k2,c1,c1',w2,w3,c3',ig]
   have c3':¬ (t.length:Int) - ((at':Int)+(i:Int)+(j:Int)) < (m:Int):=by omega
   rw [ah c3,ah (by simp)];have n0:n=0:=by omega
   subst n0;have hc:common [] ([]++(t.drop (at'+(i+j))).take m)=0:=NM _;have w4:=wrap64 (n:=(m:Int)) (by omega) (by omega);have w5:=wrap64 (n:=(at':Int)+(i:Int)+(j:Int)+(m:Int)) (by omega) (by omega);have w0:=wrap64 (n:=(0:Int)) (by omega) (by omega);have ts:((t.take (at'+i+j+m)).drop (at'+i+j))=(t.drop (at'+(i+j))).take m:=by
    rw [<- jd,yt];congr 1;omega
   have kc:=Tf [] ((t.drop (at'+(i+j))).take m) (by simp) (by simp;omega);rw [NM] at kc;have c4:(at':Int)+(i:Int)+(j:Int)<=(at':Int)+(i:Int)+(j:Int)+(m:Int)/\(at':Int)+(i:Int)+(j:Int)+(m:Int)<=t.length:=by omega
   have c5:(0:Int)<=(at':Int)+(i:Int)+(j:Int):=by omega
   have t1:((at':Int)+(i:Int)+(j:Int)+(m:Int)).toNat=at'+i+j+m:=by omega
   have t2:((at':Int)+(i:Int)+(j:Int)).toNat=at'+i+j:=by omega
   rw [List.take_nil,ah (by rw [hc];omega)];have hl0:(((t.drop (at'+(i+j))).take m).length:Int)<=9223372036854775807:=by
    have:((t.drop (at'+(i+j))).take m).length<=t.length:=by rw [jL,dh];omega
    omega
   refine ⟨at'+i+j+m,aB rfl rfl ?_,λ_=>by simp only;omega⟩;rw [dK];generalize (t.drop (at'+(i+j))).take m=X at *;simp [k1,k2,w0,w2,w3,w4,w5,c3',c4,c5,t1,t2,ts,kc,hl0]
 | false=>
   have hp:=hpn a rfl;rw [hp];clear hp hpn;have wa:=dF (n:=(a.length:Int)) (by omega) (by omega);by_cases c1:a.length < n
   ·have c1':(a.length:Int) < n:=by omega
    rw [aj c1];refine ⟨at'+i,aB rfl rfl ?_,λh=>by cases h⟩;simp [k1,c1,c1',wa,ig]
   have c1':¬ (a.length:Int) < n:=by omega
   rw [ah c1];by_cases c2:e2=0;rotate_left
   ·obtain ⟨q1,q2⟩:=hv3 c2
    subst q1;subst q2;rw [aj c2];refine ⟨at'+i,aB rfl rfl ?_,λh=>absurd h c2⟩;simp [k1,k2,c1,c1',c2,wa,ig]
   subst c2;obtain ⟨q1,q2,q3,q4,_⟩:=hv2 rfl;rw [dh] at q3;rw [ah (by simp)];have w2:=wrap64 (n:=(t.length:Int) - ((at':Int)+(i:Int)+(j:Int))) (by omega) (by omega);have w3:=dF (n:=(t.length:Int) - ((at':Int)+(i:Int)+(j:Int))) (by omega) (by omega);by_cases c3:t.length - at' - (i+j) < m
   ·have c3':(t.length:Int) - ((at':Int)+(i:Int)+(j:Int)) < (m:Int):=by omega
    rw [aj c3];refine ⟨at'+i+j,aB rfl rfl ?_,λh=>by cases h⟩;simp [k1,k2,c1,c1',w2,w3,c3',wa,ig]
   have c3':¬ (t.length:Int) - ((at':Int)+(i:Int)+(j:Int)) < (m:Int):=by omega
   rw [ah c3];have w4:=wrap64 (n:=(m:Int)) (by omega) (by omega);have w5:=wrap64 (n:=(at':Int)+(i:Int)+(j:Int)+(m:Int)) (by omega) (by omega);have wn:=wrap64 (n:=(n:Int)) (by omega) (by omega);have ts:((t.take (at'+i+j+m)).drop (at'+i+j))=(t.drop (at'+(i+j))).take m:=by
    rw [<- jd,yt];congr 1;omega
   have hlx:((t.drop (at'+(i+j))).take m).length<=t.length:=by rw [jL,dh];omega
   have kc:=Tf a (a.take n++(t.drop (at'+(i+j))).take m) (by omega) (by rw [dX,jL];omega);have c4:(at':Int)+(i:Int)+(j:Int)<=(at':Int)+(i:Int)+(j:Int)+(m:Int)/\(at':Int)+(i:Int)+(j:Int)+(m:Int)<=t.length:=by omega
   have c5:(0:Int)<=(at':Int)+(i:Int)+(j:Int):=by omega
   have c6:(n:Int)<=a.length:=by omega
   have t1:((at':Int)+(i:Int)+(j:Int)+(m:Int)).toNat=at'+i+j+m:=by omega
   have t2:((at':Int)+(i:Int)+(j:Int)).toNat=at'+i+j:=by omega
   have hlm:(min n a.length:Nat)=n:=by omega
   have hl0:(n:Int)+(((t.drop (at'+(i+j))).take m).length:Int)<=9223372036854775807:=by omega
   have hle:=alL a (a.take n++(t.drop (at'+(i+j))).take m);generalize (t.drop (at'+(i+j))).take m=X at *;by_cases c7:Op.bytesLess a (a.take n++X)=false
   ·rw [aj ⟨rfl,c7⟩]
    rw [c7] at hle;refine ⟨at'+i+j+m,aB rfl rfl ?_,λh=>by cases h⟩;have hle':(Op.bytesLess (a.take n++X) a=true\/a.take n++X=a)=True:=eq_true (by simpa using hle);simp [k1,k2,wa,wn,w2,w3,w4,w5,c1',c3',c4,c5,c6,t1,t2,ts,hl0,hlm,hle',ig]
   ·rw [ah (λh=>c7 h.2)]
    have c7:Op.bytesLess a (a.take n++X)=true:=by simpa using c7
    rw [c7] at hle;have hle':(Op.bytesLess (a.take n++X) a=true\/a.take n++X=a)=False:=eq_false (by simpa using hle);by_cases c8:n < common a (a.take n++X)
    ·have xg:(n:Int) < (common a (a.take n++X):Int):=by omega
     rw [aj c8];refine ⟨at'+i+j+m,aB rfl rfl ?_,λh=>by cases h⟩;simp [k1,k2,wa,wn,w2,w3,w4,w5,c1',c3',c4,c5,c6,t1,t2,ts,hl0,hlm,hle',kc,xg,ig]
    ·have xg:¬ (n:Int) < (common a (a.take n++X):Int):=by omega
     rw [ah c8];refine ⟨at'+i+j+m,aB rfl rfl ?_,λ_=>by simp only;omega⟩;simp [k1,k2,wa,wn,w2,w3,w4,w5,c1',c3',c4,c5,c6,t1,t2,ts,hl0,hlm,hle',kc,xg]
theorem P9 {s a:List UInt8} {first:Bool} (h:(aX s a first).2.2=0):2<=(aX s a first).2.1/\(aX s a first).2.1<=s.length/\(aX s a first).1.length<=(if first=true then 0 else a.length)+(aX s a first).2.1:=by
 have hA:(if first=true then 0 else a.length)=(if first=true then [] else a).length:=by cases first<;>rfl
 rw [hA];clear hA;unfold aX at h ⊢;simp only at h ⊢;generalize (if first=true then [] else a)=a' at h ⊢;split at h
 ·next c=>exact absurd h c
 next c0=>
 rw [ah c0];split at h
 ·cases h
 next c1=>
 rw [ah c1];split at h
 ·next c=>exact absurd h c
 next c2=>
 rw [ah c2];split at h
 ·cases h
 next c3=>
 rw [ah c3];split at h
 ·cases h
 next c4=>
 rw [ah c4];split at h
 ·cases h
 next c5=>
 rw [ah c5];have v1:=iD (s:=s) (by simpa using c0);have v2:=iD (s:=s.drop (ak s).2.1) (by simpa using c2);have p1:=v1.pos;have p2:=v2.pos;have l1:=v1.len;have l2:=v2.len;rw [dh] at l2;refine ⟨by simp only;omega,by simp only;omega, ?_⟩;simp only [dX,jL,dh];omega
/-- What the document's way hands back. -/
theorem ao4 (s a:List UInt8) (first:Bool) (hs:s.length<=100000000) (ha:a.length<=100000000) :
 TT.lim 212 [.s s,.s a,.b first]=some [.s (aX s a first).1,.s (if (aX s a first).2.2=0 then s.drop (aX s a first).2.1 else []),.i .i64 (aX s a first).2.2]:=by
 have k1:=Ar s (by omega);by_cases he:(ak s).2.2=0;rotate_left
 ·have hp:aX s a first=ig (ak s).2.2:=by unfold aX;simp only;rw [aj he]
  rw [hp];clear hp;generalize (ak s).2.2=e at *;refine aG rfl (by cases first<;>rfl) ?_ (by rfl);simp [k1,he,ig]
 have hv:=iD he;have hl:=hv.len;have h64:=hv.lt;have h10:=hv.ten;have k2:=Ar (s.drop (ak s).2.1) (by rw [dh];omega);have hd:(s.take s.length).drop (ak s).2.1=s.drop (ak s).2.1:=by rw [mZ]
 have hpn:∀a':List UInt8,a'=(if first=true then [] else a)->aX s a first=(if a'.length < (ak s).1 then ig 23 else
  if (ak (s.drop (ak s).2.1)).2.2≠0 then ig (ak (s.drop (ak s).2.1)).2.2 else
  if s.length - ((ak s).2.1+(ak (s.drop (ak s).2.1)).2.1) < (ak (s.drop (ak s).2.1)).1 then ig 1 else
  if first=false/\Op.bytesLess a' (a'.take (ak s).1++(s.drop ((ak s).2.1+(ak (s.drop (ak s).2.1)).2.1)).take (ak (s.drop (ak s).2.1)).1)=false then ig 7 else
  if (ak s).1 < common a' (a'.take (ak s).1++(s.drop ((ak s).2.1+(ak (s.drop (ak s).2.1)).2.1)).take (ak (s.drop (ak s).2.1)).1) then ig 23 else
  (a'.take (ak s).1++(s.drop ((ak s).2.1+(ak (s.drop (ak s).2.1)).2.1)).take (ak (s.drop (ak s).2.1)).1,(ak s).2.1+(ak (s.drop (ak s).2.1)).2.1+(ak (s.drop (ak s).2.1)).1,0)):=by
  intro a' ha';unfold aX;simp only [lu,dh,<- ha',he,ne_eq,not_true_eq_false,if_false]
 rw [he] at k1;have hv2:=λh=>iD (s:=s.drop (ak s).2.1) h;have hv3:=λh=>CZ (s:=s.drop (ak s).2.1) h;generalize hv0:ak s=v at *;obtain ⟨n,i,e⟩:=v;simp only at *;generalize hv1:ak (s.drop i)=v2 at *;obtain ⟨m,j,e2⟩:=v2;simp only at *;clear hv0 hv1 hv;subst he;have i1:(i:Int)<=s.length:=by omega
 have wa:=dF (n:=(a.length:Int)) (by omega) (by omega);cases first with
 | true=>
   have hp:=hpn [] rfl;rw [hp];clear hp hpn;by_cases c1:n=0;rotate_left
   ·rw [aj (by simp;omega)]
    refine aG rfl rfl ?_ rfl;simp [k1,c1,ig]
   subst c1;have c1':¬ (a.length:Int) < 0:=by omega
   rw [ah (by simp)];by_cases c2:e2=0;rotate_left
   ·rw [aj c2]
    refine aG rfl rfl ?_ rfl;simp [k1,k2,hd,i1,wa,c1',c2,ig]
   subst c2;obtain ⟨q1,q2,q3,q4,_⟩:=hv2 rfl;rw [dh] at q3;rw [ah (by simp)];have w1:=wrap64 (n:=(i:Int)+(j:Int)) (by omega) (by omega);have w2:=wrap64 (n:=(s.length:Int) - ((i:Int)+(j:Int))) (by omega) (by omega);have w3:=dF (n:=(s.length:Int) - ((i:Int)+(j:Int))) (by omega) (by omega);by_cases c3:s.length - (i+j) < m
   ·have c3':(s.length:Int) - ((i:Int)+(j:Int)) < (m:Int):=by omega
    rw [aj c3];refine aG rfl rfl ?_ rfl;simp [k1,k2,hd,i1,wa,c1',w1,w2,w3,c3',ig]
   have c3':¬ (s.length:Int) - ((i:Int)+(j:Int)) < (m:Int):=by omega
   rw [ah c3,ah (by simp)];have hc:common [] ([]++(s.drop (i+j)).take m)=0:=NM _;have w4:=wrap64 (n:=(m:Int)) (by omega) (by omega);have w5:=wrap64 (n:=(i:Int)+(j:Int)+(m:Int)) (by omega) (by omega);have w0:=wrap64 (n:=(0:Int)) (by omega) (by omega);have ts:((s.take (i+j+m)).drop (i+j))=(s.drop (i+j)).take m:=by
    rw [yt];congr 1;omega
   have tr:((s.take s.length).drop (i+j+m))=s.drop (i+j+m):=by rw [mZ]
   have c4:(i:Int)+(j:Int)<=(i:Int)+(j:Int)+(m:Int)/\(i:Int)+(j:Int)+(m:Int)<=s.length:=by omega
   have c5:(0:Int)<=(i:Int)+(j:Int):=by omega
   have c6:(0:Int)<=(i:Int)+(j:Int)+(m:Int):=by omega
   have t1:((i:Int)+(j:Int)+(m:Int)).toNat=i+j+m:=by omega
   have t2:((i:Int)+(j:Int)).toNat=i+j:=by omega
   rw [List.take_nil,ah (by rw [hc];omega)];have hlx:((s.drop (i+j)).take m).length<=s.length:=by rw [jL,dh];omega
   have hl0:(((s.drop (i+j)).take m).length:Int)<=9223372036854775807:=by omega
   refine aG rfl rfl ?_ rfl;rw [dK];generalize (s.drop (i+j)).take m=X at *;generalize hY:s.drop (i+j+m)=Y at *;simp [k1,k2,hd,i1,wa,c1',w0,w1,w2,w3,w4,w5,c3',c4,c5,c6,t1,t2,ts,tr,hY,hl0]
 | false=>
   have hp:=hpn a rfl;rw [hp];clear hp hpn;by_cases c1:a.length < n
   ·have c1':(a.length:Int) < n:=by omega
    rw [aj c1];refine aG rfl rfl ?_ rfl;simp [k1,c1,c1',wa,ig]
   have c1':¬ (a.length:Int) < n:=by omega
   rw [ah c1];by_cases c2:e2=0;rotate_left
   ·rw [aj c2]
    refine aG rfl rfl ?_ rfl;simp [k1,k2,hd,i1,c1',c2,wa,ig]
   subst c2;obtain ⟨q1,q2,q3,q4,_⟩:=hv2 rfl;rw [dh] at q3;rw [ah (by simp)];have w1:=wrap64 (n:=(i:Int)+(j:Int)) (by omega) (by omega);have w2:=wrap64 (n:=(s.length:Int) - ((i:Int)+(j:Int))) (by omega) (by omega);have w3:=dF (n:=(s.length:Int) - ((i:Int)+(j:Int))) (by omega) (by omega);by_cases c3:s.length - (i+j) < m
   ·have c3':(s.length:Int) - ((i:Int)+(j:Int)) < (m:Int):=by omega
    rw [aj c3];refine aG rfl rfl ?_ rfl;simp [k1,k2,hd,i1,c1',w1,w2,w3,c3',wa,ig]
   have c3':¬ (s.length:Int) - ((i:Int)+(j:Int)) < (m:Int):=by omega
   rw [ah c3];have w4:=wrap64 (n:=(m:Int)) (by omega) (by omega);have w5:=wrap64 (n:=(i:Int)+(j:Int)+(m:Int)) (by omega) (by omega);have wn:=wrap64 (n:=(n:Int)) (by omega) (by omega);have ts:((s.take (i+j+m)).drop (i+j))=(s.drop (i+j)).take m:=by
    rw [yt];congr 1;omega
   have tr:((s.take s.length).drop (i+j+m))=s.drop (i+j+m):=by rw [mZ]
   have hlx:((s.drop (i+j)).take m).length<=s.length:=by rw [jL,dh];omega
   have hla:(a.take n++(s.drop (i+j)).take m).length<=200000000:=by rw [dX,jL];omega
   have kc:=ady a (a.take n++(s.drop (i+j)).take m) (by omega) (by omega);have kl:=abN a (a.take n++(s.drop (i+j)).take m) (by omega) (by omega);have hge:=Ti n a ((s.drop (i+j)).take m) (by omega);have c4:(i:Int)+(j:Int)<=(i:Int)+(j:Int)+(m:Int)/\(i:Int)+(j:Int)+(m:Int)<=s.length:=by omega
   have c5:(0:Int)<=(i:Int)+(j:Int):=by omega
   have c9:(0:Int)<=(i:Int)+(j:Int)+(m:Int):=by omega
   have c6:(n:Int)<=a.length:=by omega
   have t1:((i:Int)+(j:Int)+(m:Int)).toNat=i+j+m:=by omega
   have t2:((i:Int)+(j:Int)).toNat=i+j:=by omega
   have hlm:(min n a.length:Nat)=n:=by omega
   have hl0:(n:Int)+(((s.drop (i+j)).take m).length:Int)<=9223372036854775807:=by omega
   generalize (s.drop (i+j)).take m=X at *;generalize hY:s.drop (i+j+m)=Y at *;by_cases c7:Op.bytesLess a (a.take n++X)=false
   ·rw [aj ⟨rfl,c7⟩]
    rw [c7] at kl;refine aG rfl rfl ?_ rfl;simp [k1,k2,hd,i1,wa,wn,w1,w2,w3,w4,w5,c1',c3',c4,c5,c6,c9,t1,t2,ts,tr,hY,hl0,hlm,kl,ig]
   ·rw [ah (λh=>c7 h.2)]
    have c7:Op.bytesLess a (a.take n++X)=true:=by simpa using c7
    rw [c7] at kl;by_cases c8:n < common a (a.take n++X)
    ·have xg:¬ ((common a (a.take n++X):Int)=n):=by omega
     have c8n:¬ (common a (a.take n++X)=n):=by omega
     rw [aj c8];refine aG rfl rfl ?_ rfl;simp [k1,k2,hd,i1,wa,wn,w1,w2,w3,w4,w5,c1',c3',c4,c5,c6,c9,t1,t2,ts,tr,hY,hl0,hlm,kl,kc,xg,c8n,ig]
    ·have xg:common a (a.take n++X)=n:=by omega
     rw [ah c8];rw [xg] at kc;refine aG rfl rfl ?_ rfl;simp [k1,k2,hd,i1,wa,wn,w1,w2,w3,w4,w5,c1',c3',c4,c5,c6,c9,t1,t2,ts,tr,hY,hl0,hlm,kl,kc]
theorem PX (a s:List UInt8) (hs:s.length<=100000000):(rD a s).length<=20+s.length:=by
 have hl:=JF a s;have l1:=iO (n:=common a s) (by omega);have l2:=iO (n:=s.length - common a s) (by omega);unfold rD;simp only [dX,dh];omega
theorem adT (a s:List UInt8) (ha:a.length<=100000000) (hs:s.length<=100000000):TT.lim 175 [.s a,.s s]=some [.s (rD a s)]:=by
 have k:=ady a s (by omega) (by omega);have hl:=JF a s;have p1:=wE (common a s) (by omega);have p2:=wE (s.length - common a s) (by omega);have l1:=iO (n:=common a s) (by omega);have l2:=iO (n:=s.length - common a s) (by omega);have w1:=dF (n:=(common a s:Int)) (by omega) (by omega);have w2:=dF (n:=(s.length:Int) - (common a s:Int)) (by omega) (by omega);have w3:=wrap64 (n:=(s.length:Int) - (common a s:Int)) (by omega) (by omega);have e2:(s.length:Int) - (common a s:Int)=((s.length - common a s:Nat):Int):=by omega
 rw [e2] at w2 w3;refine aG rfl rfl ?_ rfl;unfold rD;generalize common a s=c at *;have h1:((aW c).length:Int)+((aW (s.length - c)).length:Int)<=9223372036854775807:=by omega
 have h2:((aW c).length:Int)+((aW (s.length - c)).length:Int)+((s.length:Int) - (c:Int))<=9223372036854775807:=by omega
 have h3:(c:Int)<=s.length:=by omega
 have h4:((s.length - c:Nat):Int)=(s.length:Int) - c:=by omega
 have hd:(s.take s.length).drop c=s.drop c:=by rw [mZ]
 rw [<- e2] at w2 w3;rw [<- e2] at p2;simp [k,p1,p2,w1,w2,w3,h1,h2,h3,h4,hd]
/-- A text that stands next: the text, how many bytes it took, the code. -/
def bT (s:List UInt8):List UInt8×Nat×Int:=
 if (ak s).2.2≠0 then ([],0,(ak s).2.2) else
 if s.length - (ak s).2.1 < (ak s).1 then ([],0,1) else
 ((s.drop (ak s).2.1).take (ak s).1,(ak s).2.1+(ak s).1,0)
theorem IB {s:List UInt8} (h:(bT s).2.2=0):1<=(bT s).2.1/\(bT s).2.1<=s.length/\(bT s).1.length<=s.length:=by
 unfold bT at h ⊢;by_cases h1:(ak s).2.2=0;rotate_left
 ·rw [aj h1] at h
  exact absurd h h1
 rw [ah (λe=>e h1)] at h ⊢;obtain ⟨v1,v2,v3,v4,v5⟩:=iD h1;by_cases h2:s.length - (ak s).2.1 < (ak s).1
 ·rw [aj h2] at h;cases h
 rw [ah h2];simp only [jL,dh];omega
theorem aeF (t:List UInt8) (at':Nat) (h:at'<=t.length) (ht:t.length<=100000000) :
 ∃at2:Nat,TT.lim 121 [.s t,.i .i64 at']=some [.i .i64 0,.s (bT (t.drop at')).1,.i .i64 (bT (t.drop at')).2.2,.s t,.i .i64 at2]/\((bT (t.drop at')).2.2=0->at2=at'+(bT (t.drop at')).2.1):=by
 have k1:=zi t at' h (by omega);unfold bT;by_cases he:(ak (t.drop at')).2.2=0;rotate_left
 ·obtain ⟨e1,e2⟩:=CZ he
  rw [e1,e2] at k1;rw [aj he];generalize (ak (t.drop at')).2.2=e at *;refine ⟨at',aB rfl rfl ?_,λh=>absurd h he⟩;simp [k1,he]
 obtain ⟨v1,v2,v3,v4,_⟩:=iD he;rw [ah (λe=>e he)];rw [he] at k1;rw [dh] at v3 ⊢;rw [lu];generalize (ak (t.drop at')).1=n at *;generalize (ak (t.drop at')).2.1=i at *;have w1:=wrap64 (n:=(t.length:Int) - ((at':Int)+(i:Int))) (by omega) (by omega);have w2:=dF (n:=(t.length:Int) - ((at':Int)+(i:Int))) (by omega) (by omega);simp only [Int.natCast_add] at k1;by_cases c1:t.length - at' - i < n
 ·have c1':(t.length:Int) - ((at':Int)+(i:Int)) < (n:Int):=by omega
  rw [aj c1];refine ⟨at'+i,aB rfl rfl ?_,λh=>by cases h⟩;simp [k1,w1,w2,c1']
 ·have c1':¬ (t.length:Int) - ((at':Int)+(i:Int)) < (n:Int):=by omega
  rw [ah c1];have w3:=wrap64 (n:=(n:Int)) (by omega) (by omega);have w4:=wrap64 (n:=(at':Int)+(i:Int)+(n:Int)) (by omega) (by omega);have ts:((t.take (at'+i+n)).drop (at'+i))=(t.drop (at'+i)).take n:=by
   rw [yt];congr 1;omega
  have c2:(at':Int)+(i:Int)<=(at':Int)+(i:Int)+(n:Int)/\(at':Int)+(i:Int)+(n:Int)<=t.length:=by omega
  have c3:(0:Int)<=(at':Int)+(i:Int):=by omega
  have t1:((at':Int)+(i:Int)+(n:Int)).toNat=at'+i+n:=by omega
  have t2:((at':Int)+(i:Int)).toNat=at'+i:=by omega
  generalize (t.drop (at'+i)).take n=X at *;refine ⟨at'+i+n,aB rfl rfl ?_,λ_=>by simp only;omega⟩;simp [k1,w1,w2,w3,w4,c1',c2,c3,t1,t2,ts]
theorem ad2 (s:List UInt8) (hs:s.length<=100000000):TT.lim 208 [.s s]=some [.s (bT s).1,.s (if (bT s).2.2=0 then s.drop (bT s).2.1 else []),.i .i64 (bT s).2.2]:=by
 have k1:=Ar s (by omega);unfold bT;by_cases he:(ak s).2.2=0;rotate_left
 ·rw [aj he]
  generalize (ak s).2.2=e at *;refine aG rfl rfl ?_ (by rfl);simp [k1,he]
 obtain ⟨v1,v2,v3,v4,_⟩:=iD he;rw [ah (λe=>e he)];rw [he] at k1;generalize (ak s).1=n at *;generalize (ak s).2.1=i at *;have w1:=wrap64 (n:=(s.length:Int) - (i:Int)) (by omega) (by omega);have w2:=dF (n:=(s.length:Int) - (i:Int)) (by omega) (by omega);by_cases c1:s.length - i < n
 ·have c1':(s.length:Int) - (i:Int) < (n:Int):=by omega
  rw [aj c1];refine aG rfl rfl ?_ rfl;simp [k1,w1,w2,c1']
 ·have c1':¬ (s.length:Int) - (i:Int) < (n:Int):=by omega
  rw [ah c1];have w3:=wrap64 (n:=(n:Int)) (by omega) (by omega);have w4:=wrap64 (n:=(i:Int)+(n:Int)) (by omega) (by omega);have ts:((s.take (i+n)).drop i)=(s.drop i).take n:=by
   rw [yt];congr 1;omega
  have tr:(s.take s.length).drop (i+n)=s.drop (i+n):=by rw [mZ]
  have c2:(i:Int)<=(i:Int)+(n:Int)/\(i:Int)+(n:Int)<=s.length:=by omega
  have c3:(0:Int)<=(i:Int)+(n:Int):=by omega
  have c4:i<=i+n:=by omega
  have c5:(i:Int)+(n:Int)<=s.length:=by omega
  have t1:((i:Int)+(n:Int)).toNat=i+n:=by omega
  generalize (s.drop i).take n=X at *;generalize hY:s.drop (i+n)=Y at *;refine aG rfl rfl ?_ rfl;simp [k1,w1,w2,w3,w4,c1',c2,c3,c5,t1,ts,tr,hY]
/-- An entry that stands next. -/
def bK (s:List UInt8):bU×Nat×Int:=
 if (bT s).2.2≠0 then (([],[]),0,(bT s).2.2) else
 if (bT (s.drop (bT s).2.1)).2.2≠0 then (([],[]),0,(bT (s.drop (bT s).2.1)).2.2) else
 if nI ((bT s).1,(bT (s.drop (bT s).2.1)).1)≠0 then (([],[]),0,nI ((bT s).1,(bT (s.drop (bT s).2.1)).1)) else
 (((bT s).1,(bT (s.drop (bT s).2.1)).1),(bT s).2.1+(bT (s.drop (bT s).2.1)).2.1,0)
theorem JO {s:List UInt8} (h:(bK s).2.2=0):2<=(bK s).2.1/\(bK s).2.1<=s.length/\nI (bK s).1=0/\(bK s).1.1.length<=s.length/\(bK s).1.2.length<=s.length/\
 (bT s).2.2=0/\(bT (s.drop (bT s).2.1)).2.2=0/\(bK s).1=((bT s).1,(bT (s.drop (bT s).2.1)).1)/\(bK s).2.1=(bT s).2.1+(bT (s.drop (bT s).2.1)).2.1:=by
 unfold bK at h ⊢;by_cases h1:(bT s).2.2=0;rotate_left
 ·rw [aj h1] at h;exact absurd h h1
 rw [ah (λe=>e h1)] at h ⊢;by_cases h2:(bT (s.drop (bT s).2.1)).2.2=0;rotate_left
 ·rw [aj h2] at h;exact absurd h h2
 rw [ah (λe=>e h2)] at h ⊢;by_cases h3:nI ((bT s).1,(bT (s.drop (bT s).2.1)).1)=0;rotate_left
 ·rw [aj h3] at h;exact absurd h h3
 rw [ah (λe=>e h3)];obtain ⟨a1,a2,a3⟩:=IB h1;obtain ⟨b1,b2,b3⟩:=IB h2;rw [dh] at b2 b3;exact ⟨by simp only;omega,by simp only;omega,h3,a3,by simp only;omega,h1,h2,rfl,rfl⟩
theorem aiX (t:List UInt8) (at':Nat) (h:at'<=t.length) (ht:t.length<=100000000) :
 ∃at2:Nat,TT.lim 120 [.s t,.i .i64 at']=some [.i .i64 0,.s (bK (t.drop at')).1.1,.s (bK (t.drop at')).1.2,.i .i64 (bK (t.drop at')).2.2,.s t,.i .i64 at2]/\((bK (t.drop at')).2.2=0->at2=at'+(bK (t.drop at')).2.1):=by
 obtain ⟨p,k1,e1⟩:=aeF t at' h ht;unfold bK;by_cases h1:(bT (t.drop at')).2.2=0;rotate_left
 ·rw [aj h1]
  generalize bT (t.drop at')=A at *;refine ⟨p,aB rfl rfl ?_,λh=>absurd h h1⟩;simp [k1,h1]
 have e1:=e1 h1;obtain ⟨a1,a2,a3⟩:=IB h1;rw [dh] at a2 a3;have hdd:(t.drop at').drop (bT (t.drop at')).2.1=t.drop p:=by rw [lu,e1]
 obtain ⟨q,k2,e2⟩:=aeF t p (by omega) ht;rw [ah (λe=>e h1),hdd];rw [h1] at k1;by_cases h2:(bT (t.drop p)).2.2=0;rotate_left
 ·rw [aj h2]
  generalize bT (t.drop at')=A at *;generalize bT (t.drop p)=B at *;refine ⟨q,aB rfl rfl ?_,λh=>absurd h h2⟩;simp [k1,k2,h2]
 have e2:=e2 h2;obtain ⟨b1,b2,b3⟩:=IB h2;rw [dh] at b2 b3;rw [ah (λe=>e h2)];rw [h2] at k2;have kc:=aau ((bT (t.drop at')).1,(bT (t.drop p)).1) (by simp only;omega) (by simp only;omega);have Eh:TT.lim 51 [.g [.s (bT (t.drop at')).1,.s (bT (t.drop p)).1]]=_:=kc;generalize bT (t.drop at')=A at *;generalize bT (t.drop p)=B at *;by_cases h3:nI (A.1,B.1)=0;rotate_left
 ·rw [aj h3]
  refine ⟨q,aB rfl rfl ?_,λh=>absurd h h3⟩;generalize nI (A.1,B.1)=E at *;simp [k1,k2,Eh,h3]
 ·rw [ah (λe=>e h3)]
  rw [h3] at Eh;refine ⟨q,aB rfl rfl ?_,λ_=>by simp only;omega⟩;simp [k1,k2,Eh]
theorem aoT (s:List UInt8) (hs:s.length<=100000000):TT.lim 207 [.s s]=some [ent (bK s).1,.s (if (bK s).2.2=0 then s.drop (bK s).2.1 else []),.i .i64 (bK s).2.2]:=by
 have k1:=ad2 s hs;unfold bK;by_cases h1:(bT s).2.2=0;rotate_left
 ·rw [aj h1]
  generalize bT s=A at *;refine aG rfl rfl ?_ (by rfl);simp [k1,h1];rfl
 obtain ⟨a1,a2,a3⟩:=IB h1;rw [aj h1,h1] at k1;have k2:=ad2 (s.drop (bT s).2.1) (by rw [dh];omega);rw [ah (λe=>e h1)];by_cases h2:(bT (s.drop (bT s).2.1)).2.2=0;rotate_left
 ·rw [aj h2]
  generalize bT (s.drop (bT s).2.1)=B at *;generalize s.drop (bT s).2.1=Y at *;generalize bT s=A at *;refine aG rfl rfl ?_ (by rfl);simp [k1,k2,h2];rfl
 obtain ⟨b1,b2,b3⟩:=IB h2;rw [dh] at b2 b3;rw [aj h2,h2,lu] at k2;rw [ah (λe=>e h2)];have kc:=aav ((bT s).1,(bT (s.drop (bT s).2.1)).1) (by simp only;omega) (by simp only;omega);have Eh:TT.lim 162 [.g [.s (bT s).1,.s (bT (s.drop (bT s).2.1)).1]]=_:=kc;generalize bT (s.drop (bT s).2.1)=B at *;generalize s.drop (bT s).2.1=Y at *;generalize bT s=A at *;by_cases h3:nI (A.1,B.1)=0;rotate_left
 ·rw [aj h3]
  generalize nI (A.1,B.1)=E at *;refine aG rfl rfl ?_ (by rfl);simp [k1,k2,Eh,h3];rfl
 ·rw [ah (λe=>e h3)]
  rw [h3] at Eh;refine aG rfl rfl ?_ (by rfl);simp [k1,k2,Eh];rfl
def sN (p:Option bU) (x:bU):Int:=match p with
 | none=>0
 | some k=>oq k.1 x.1
/-- Entries by rising keys: what is read, how many bytes it took, the code. -/
def dV:Nat->Option bU->List UInt8->List bU×Nat×Int
 | 0,_,_=>([],0,0)
 | m+1,p,s=>if (bK s).2.2≠0 then ([],0,(bK s).2.2) else
   if sN p (bK s).1≠0 then ([],0,sN p (bK s).1) else
   if (dV m (some (bK s).1) (s.drop (bK s).2.1)).2.2≠0 then ([],0,(dV m (some (bK s).1) (s.drop (bK s).2.1)).2.2) else
   ((bK s).1::(dV m (some (bK s).1) (s.drop (bK s).2.1)).1,(bK s).2.1+(dV m (some (bK s).1) (s.drop (bK s).2.1)).2.1,0)
theorem NS (m:Nat) (p:Option bU) (s:List UInt8):dV (m+1) p s=if (bK s).2.2≠0 then ([],0,(bK s).2.2) else
 if sN p (bK s).1≠0 then ([],0,sN p (bK s).1) else
 if (dV m (some (bK s).1) (s.drop (bK s).2.1)).2.2≠0 then ([],0,(dV m (some (bK s).1) (s.drop (bK s).2.1)).2.2) else
 ((bK s).1::(dV m (some (bK s).1) (s.drop (bK s).2.1)).1,(bK s).2.1+(dV m (some (bK s).1) (s.drop (bK s).2.1)).2.1,0):=rfl
def yV (acc:List bU) (t:List UInt8) (at2:Nat) (r:List bU×Nat×Int):List GV:=if r.2.2≠0 then [.i .i64 0,.i .i64 r.2.2,.s t,.i .i64 at2] else [.i .i64 1,.l ((acc++r.1).map ent),.s t,.i .i64 at2]
theorem aiT (L:List GV) (n i at' at2:Int) (t:List UInt8) (x:bU) (e:Int) (h:i < n) (he:¬ e=0)
 (k:TT.lim 120 [.s t,.i .i64 at']=some [.i .i64 0,.s x.1,.s x.2,.i .i64 e,.s t,.i .i64 at2]) :
 TT.lim 119 [.l L,.i .i64 n,.i .i64 i,.s t,.i .i64 at']=some [.i .i64 0,.i .i64 e,.s t,.i .i64 at2]:=by
 refine aB rfl rfl ?_;simp [h,k,he]
theorem aiR (L:List GV) (n at' at2:Int) (t:List UInt8) (x:bU) (R:List GV) (h:0 < n) (hb:2 * (L.length+1) * 32<=281474976710656/\L.length+1<=281474976710656)
 (k:TT.lim 120 [.s t,.i .i64 at']=some [.i .i64 0,.s x.1,.s x.2,.i .i64 0,.s t,.i .i64 at2])
 (ih:TT.lim 119 [.l (L++[ent x]),.i .i64 n,.i .i64 1,.s t,.i .i64 at2]=some R) :
 TT.lim 119 [.l L,.i .i64 n,.i .i64 0,.s t,.i .i64 at']=some R:=by
 have he:GV.g [.s x.1,.s x.2]=ent x:=rfl;have w1:=wrap64 (n:=1) (by omega) (by omega);refine aB rfl rfl ?_;simp [h,k,he,GV.eU,hb,w1,ih]
theorem aiS (L:List GV) (n:Int) (i:Nat) (at' at2:Int) (t:List UInt8) (p x:bU) (h:(i:Int)+1 < n) (hi:i+1<=100000000) (hl:L.length=i+1) (hg:L[i]? = some (ent p)) (hb:¬ oq p.1 x.1=0)
 (k:TT.lim 120 [.s t,.i .i64 at']=some [.i .i64 0,.s x.1,.s x.2,.i .i64 0,.s t,.i .i64 at2]) :
 TT.lim 119 [.l L,.i .i64 n,.i .i64 ((i:Int)+1),.s t,.i .i64 at']=some [.i .i64 0,.i .i64 (oq p.1 x.1),.s t,.i .i64 at2]:=by
 have h0:(0:Int) < (i:Int)+1:=by omega
 have hii:(i:Int) < (i:Int)+1:=by omega
 have w:=wrap64 (n:=(i:Int)) (by omega) (by omega);have hgi:L[i]'(by omega)=ent p:=by have:=hg;rw [bV (by omega)] at this;exact wU this
 unfold oq at hb ⊢;by_cases e1:x.1=p.1
 ·have e1':(x.1=p.1)=True:=eq_true e1
  clear e1;refine aB rfl rfl ?_;simp [h,k,h0,hii,w,hl,hg,hgi,e1']
 ·by_cases e2:Op.bytesLess x.1 p.1=true
  ·refine aB rfl rfl ?_
   simp [h,k,h0,hii,w,hl,hg,hgi,e1,e2]
  ·simp [e1,e2] at hb
theorem aiU (L:List GV) (n:Int) (i:Nat) (at' at2:Int) (t:List UInt8) (p x:bU) (R:List GV) (h:(i:Int)+1 < n) (hi:i+1<=100000000) (hl:(i:Int) < L.length) (hl2:L.length<=100000000) (hg:L[i]? = some (ent p)) (hb:oq p.1 x.1=0)
 (k:TT.lim 120 [.s t,.i .i64 at']=some [.i .i64 0,.s x.1,.s x.2,.i .i64 0,.s t,.i .i64 at2])
 (ih:TT.lim 119 [.l (L++[ent x]),.i .i64 n,.i .i64 ((i:Int)+1+1),.s t,.i .i64 at2]=some R) :
 TT.lim 119 [.l L,.i .i64 n,.i .i64 ((i:Int)+1),.s t,.i .i64 at']=some R:=by
 have h0:(0:Int) < (i:Int)+1:=by omega
 have hii:(i:Int) < (i:Int)+1:=by omega
 have w:=wrap64 (n:=(i:Int)) (by omega) (by omega);have w2:=wrap64 (n:=(i:Int)+1+1) (by omega) (by omega);have hl3:i < L.length:=by omega
 have hgi:L[i]=ent p:=by have:=hg;rw [bV hl3] at this;exact wU this
 have he:GV.g [.s x.1,.s x.2]=ent x:=rfl;have hbb:2 * (L.length+1) * 32<=281474976710656/\L.length+1<=281474976710656:=by omega
 unfold oq at hb;have e1:¬ x.1=p.1:=by intro e;rw [aj e] at hb;exact absurd hb (by decide)
 rw [ah e1] at hb;have e2:¬ Op.bytesLess x.1 p.1=true:=by intro e;rw [aj e] at hb;exact absurd hb (by decide)
 have e2:Op.bytesLess x.1 p.1=false:=by simpa using e2
 refine aB rfl rfl ?_;simp [h,k,h0,hii,w,w2,hl,hl3,hg,hgi,e1,e2,he,GV.eU,hbb,ih]
/-- What is ahead. -/
def abJ (acc:List bU) (p:Option bU):Prop:=(acc=[]/\p=none)\/∃a x,acc=a++[x]/\p=some x
theorem aaj (t:List UInt8) (ht:t.length<=100000000) (n:Nat) (hn:n<=1000):∀ (m:Nat) (acc:List bU) (p:Option bU) (at':Nat),acc.length+m=n->abJ acc p->at'<=t.length->
 ∃at2:Nat,TT.lim 119 [.l (acc.map ent),.i .i64 n,.i .i64 acc.length,.s t,.i .i64 at']=some (yV acc t at2 (dV m p (t.drop at')))/\((dV m p (t.drop at')).2.2=0->at2=at'+(dV m p (t.drop at')).2.1)
 | 0,acc,p,at',hi,hp,h=>by
   have hlt:¬ ((acc.length:Int) < (n:Int)):=by omega
   refine ⟨at', ?_,λ_=>by simp [dV]⟩;have hl:(acc.map ent).length=acc.length:=by simp
   unfold dV yV;simp only [ne_eq,not_true_eq_false,if_false,lq];generalize acc.map ent=L at *;refine aB rfl rfl ?_;simp [hlt]
 | m+1,acc,p,at',hi,hp,h=>by
   obtain ⟨at2,k,e2⟩:=aiX t at' h ht;rw [NS];by_cases h1:(bK (t.drop at')).2.2=0;rotate_left
   ·rw [aj h1]
    refine ⟨at2, ?_,λh=>absurd h h1⟩;have:yV acc t at2 ([],0,(bK (t.drop at')).2.2)=[.i .i64 0,.i .i64 (bK (t.drop at')).2.2,.s t,.i .i64 at2]:=by unfold yV;rw [aj h1]
    rw [this];exact aiT _ _ _ _ _ _ _ _ (by omega) h1 k
   rw [ah (λe=>e h1)];rw [h1] at k;have e2:=e2 h1;obtain ⟨a1,a2,_⟩:=JO h1;rw [dh] at a2;have hdd:(t.drop at').drop (bK (t.drop at')).2.1=t.drop at2:=by rw [lu,e2]
   rw [hdd];have hat:at2<=t.length:=by omega
   generalize hX:(bK (t.drop at')).1=x at *;obtain ⟨at3,ih,e3⟩:=aaj t ht n hn m (acc++[x]) (some x) at2 (by rw [dX,qO];omega) (.inr ⟨acc,x,rfl,rfl⟩) hat;have hout:yV acc t at3 (if (dV m (some x) (t.drop at2)).2.2≠0 then ([],0,(dV m (some x) (t.drop at2)).2.2) else (x::(dV m (some x) (t.drop at2)).1,(bK (t.drop at')).2.1+(dV m (some x) (t.drop at2)).2.1,0))=yV (acc++[x]) t at3 (dV m (some x) (t.drop at2)):=by
    unfold yV;by_cases hq:(dV m (some x) (t.drop at2)).2.2=0
    ·simp [hq]
    ·simp [hq]
   have hfin:((if (dV m (some x) (t.drop at2)).2.2≠0 then (([]:List bU),0,(dV m (some x) (t.drop at2)).2.2) else (x::(dV m (some x) (t.drop at2)).1,(bK (t.drop at')).2.1+(dV m (some x) (t.drop at2)).2.1,0)).2.2=0->at3=at'+(if (dV m (some x) (t.drop at2)).2.2≠0 then (([]:List bU),0,(dV m (some x) (t.drop at2)).2.2) else (x::(dV m (some x) (t.drop at2)).1,(bK (t.drop at')).2.1+(dV m (some x) (t.drop at2)).2.1,0)).2.1):=by
    by_cases hq:(dV m (some x) (t.drop at2)).2.2=0
    ·rw [ah (λe=>e hq)]
     intro _;have:=e3 hq;simp only;omega
    ·rw [aj hq]
     intro h;exact absurd h hq
   rw [pR] at ih;rcases hp with ⟨rfl,rfl⟩ | ⟨a,y,rfl,rfl⟩
   ·have hb0:sN none x=0:=rfl
    rw [hb0,ah (by simp)];refine ⟨at3, ?_,hfin⟩;rw [hout];exact aiR [] n at' at2 t x _ (by simp at hi;omega) (by simp) k ih
   ·by_cases hb:oq y.1 x.1=0
    rotate_left
    ·have hb':sN (some y) x≠0:=hb
     rw [aj hb'];refine ⟨at2, ?_,λh=>absurd h hb⟩;have:yV (a++[y]) t at2 ([],0,sN (some y) x)=[.i .i64 0,.i .i64 (oq y.1 x.1),.s t,.i .i64 at2]:=by unfold yV;rw [aj hb'];rfl
     rw [this];have hl:((a++[y]).length:Int)=(a.length:Int)+1:=by simp
     rw [hl];rw [dX,qO] at hi;exact aiS _ n a.length at' at2 t y x (by omega) (by omega) (by simp) (by simp) hb k
    ·have hb':¬ sN (some y) x≠0:=λe=>e hb
     rw [ah hb'];refine ⟨at3, ?_,hfin⟩;rw [hout];have hl:((a++[y]).length:Int)=(a.length:Int)+1:=by simp
     have hl2:((a++[y]++[x]).length:Int)=(a.length:Int)+1+1:=by simp;omega
     rw [hl];rw [hl2] at ih;rw [dX,qO] at hi;exact aiU _ n a.length at' at2 t y x _ (by omega) (by omega) (by simp;omega) (by simp;omega) (by simp) hb k ih
def sV (e:Int):List bU×Nat×Int:=([],0,e)
/-- A descriptor that stands next. -/
def jg (s:List UInt8):List bU×Nat×Int:=
 if (ak s).2.2≠0 then sV (ak s).2.2 else
 if (ak s).1=0 then sV 12 else
 if 16 < (ak s).1 then sV 13 else
 if (dV (ak s).1 none (s.drop (ak s).2.1)).2.2≠0 then sV (dV (ak s).1 none (s.drop (ak s).2.1)).2.2 else
 ((dV (ak s).1 none (s.drop (ak s).2.1)).1,(ak s).2.1+(dV (ak s).1 none (s.drop (ak s).2.1)).2.1,0)
theorem aiO (t:List UInt8) (at':Nat) (h:at'<=t.length) (ht:t.length<=100000000) :
 ∃at2:Nat,TT.lim 118 [.s t,.i .i64 at']=some [.i .i64 0,.l ((jg (t.drop at')).1.map ent),.i .i64 (jg (t.drop at')).2.2,.s t,.i .i64 at2]/\((jg (t.drop at')).2.2=0->at2=at'+(jg (t.drop at')).2.1):=by
 have k1:=zi t at' h (by omega);unfold jg;by_cases he:(ak (t.drop at')).2.2=0;rotate_left
 ·obtain ⟨e1,e2⟩:=CZ he
  rw [e1,e2] at k1;rw [aj he];generalize (ak (t.drop at')).2.2=e at *;refine ⟨at',aB rfl rfl ?_,λh=>absurd h he⟩;simp [k1,he,sV]
 obtain ⟨v1,v2,v3,v4,_⟩:=iD he;rw [ah (λe=>e he)];rw [he] at k1;rw [dh] at v3;rw [lu];by_cases h16:16 < (ak (t.drop at')).1
 ·have h0:¬ (ak (t.drop at')).1=0:=by omega
  have oC:(16:Int) < ((ak (t.drop at')).1:Nat):=by omega
  rw [ah h0,aj h16];generalize (ak (t.drop at')).1=n at *;generalize (ak (t.drop at')).2.1=i at *;refine ⟨at'+i,aB rfl rfl ?_,λh=>by cases h⟩;simp only [Int.natCast_add] at k1;simp [k1,h0,h16,oC,sV]
 obtain ⟨at2,k2,e2⟩:=aaj t ht (ak (t.drop at')).1 (by omega) (ak (t.drop at')).1 [] none (at'+(ak (t.drop at')).2.1) (by simp) (.inl ⟨rfl,rfl⟩) (by omega);generalize (ak (t.drop at')).1=n at *;generalize (ak (t.drop at')).2.1=i at *;by_cases h0:n=0
 ·rw [aj h0]
  have h0':((n:Int)=0)=True:=eq_true (by omega);refine ⟨at'+i,aB rfl rfl ?_,λh=>by cases h⟩;simp only [Int.natCast_add] at k1;simp [k1,h0,h0',sV]
 rw [ah h0,ah h16];have oC:¬ (16:Int) < (n:Int):=by omega
 have w:=wrap64 (n:=(n:Int)) (by omega) (by omega);have hc:(0:Int)<=(n:Int)/\32 * (n:Int)<=281474976710656/\(n:Int)<=1152921504606846976:=by omega
 have k2':TT.lim 119 [.l [],.i .i64 n,.i .i64 0,.s t,.i .i64 ((at':Int)+(i:Int))]=_:=k2;generalize hdl:dV n none (t.drop (at'+i))=r at *;refine ⟨at2,aB rfl rfl ?_,λh=>?_⟩
 ·simp only [Int.natCast_add] at k1
  unfold yV at k2';by_cases hq:r.2.2=0
  ·simp only [hq,ne_eq,not_true_eq_false,if_false,dK] at k2' ⊢
   simp [k1,h0,h16,oC,w,hc,k2',GV.eU]
  ·simp only [hq,ne_eq,not_false_eq_true,if_true] at k2' ⊢
   simp [k1,h0,h16,oC,w,hc,k2',GV.eU,sV]
 ·by_cases hq:r.2.2=0
  ·rw [ah (λe=>e hq)]
   have:=e2 hq;simp only;omega
  ·rw [aj hq] at h
   exact absurd h hq
def yZ (acc:List bU) (s:List UInt8) (r:List bU×Nat×Int):List GV:=if r.2.2≠0 then [.i .i64 0,.i .i64 r.2.2] else [.i .i64 1,.s (s.drop r.2.1),.l ((acc++r.1).map ent)]
theorem aoO (L:List GV) (n i:Int) (s Y:List UInt8) (x:bU) (e:Int) (h:i < n) (he:¬ e=0)
 (k:TT.lim 207 [.s s]=some [ent x,.s Y,.i .i64 e]) :
 TT.lim 206 [.s s,.i .u64 n,.l L,.i .u64 i]=some [.i .i64 0,.i .i64 e]:=by
 refine aB rfl rfl ?_;simp [h,k,he]
theorem aoM (L:List GV) (n:Int) (s Y:List UInt8) (x:bU) (R:List GV) (h:0 < n) (hb:2 * (L.length+1) * 32<=281474976710656/\L.length+1<=281474976710656)
 (k:TT.lim 207 [.s s]=some [ent x,.s Y,.i .i64 0])
 (ih:TT.lim 206 [.s Y,.i .u64 n,.l (L++[ent x]),.i .u64 1]=some R) :
 TT.lim 206 [.s s,.i .u64 n,.l L,.i .u64 0]=some R:=by
 have he:GV.g [.s x.1,.s x.2]=ent x:=rfl;have w1:=dF (n:=1) (by omega) (by omega);refine aB rfl rfl ?_;simp [h,k,he,GV.eU,hb,w1,ih]
theorem aoN (L:List GV) (n:Int) (i:Nat) (s Y:List UInt8) (p x:bU) (b:Int) (h:(i:Int)+1 < n) (hi:i+1<=100000000) (hl:(i:Int) < L.length) (hg:L[i]? = some (ent p)) (hb:¬ b=0)
 (kb:TT.lim 168 [ent p,ent x]=some [.i .i64 b]) (k:TT.lim 207 [.s s]=some [ent x,.s Y,.i .i64 0]) :
 TT.lim 206 [.s s,.i .u64 n,.l L,.i .u64 ((i:Int)+1)]=some [.i .i64 0,.i .i64 b]:=by
 have h0:(0:Int) < (i:Int)+1:=by omega
 have w:=dF (n:=(i:Int)) (by omega) (by omega);have hl3:i < L.length:=by omega
 have hgi:L[i]=ent p:=by have:=hg;rw [bV hl3] at this;exact wU this
 have he:GV.g [.s x.1,.s x.2]=ent x:=rfl;have he2:GV.g [.s p.1,.s p.2]=ent p:=rfl;refine aB rfl rfl ?_;simp [h,k,h0,w,hl,hl3,hg,hgi,he,he2,kb,hb]
theorem aoP (L:List GV) (n:Int) (i:Nat) (s Y:List UInt8) (p x:bU) (R:List GV) (h:(i:Int)+1 < n) (hi:i+1<=100000000) (hl:(i:Int) < L.length) (hl2:L.length<=100000000) (hg:L[i]? = some (ent p))
 (kb:TT.lim 168 [ent p,ent x]=some [.i .i64 0]) (k:TT.lim 207 [.s s]=some [ent x,.s Y,.i .i64 0])
 (ih:TT.lim 206 [.s Y,.i .u64 n,.l (L++[ent x]),.i .u64 ((i:Int)+1+1)]=some R) :
 TT.lim 206 [.s s,.i .u64 n,.l L,.i .u64 ((i:Int)+1)]=some R:=by
 have h0:(0:Int) < (i:Int)+1:=by omega
 have w:=dF (n:=(i:Int)) (by omega) (by omega);have w2:=dF (n:=(i:Int)+1+1) (by omega) (by omega);have hl3:i < L.length:=by omega
 have hgi:L[i]=ent p:=by have:=hg;rw [bV hl3] at this;exact wU this
 have he:GV.g [.s x.1,.s x.2]=ent x:=rfl;have he2:GV.g [.s p.1,.s p.2]=ent p:=rfl;have hbb:2 * (L.length+1) * 32<=281474976710656/\L.length+1<=281474976710656:=by omega
 refine aB rfl rfl ?_;simp [h,k,h0,w,w2,hl,hl3,hg,hgi,he,he2,kb,GV.eU,hbb,ih]
theorem adD (n:Nat) (hn:n<=1000):∀ (m:Nat) (acc:List bU) (p:Option bU) (s:List UInt8),acc.length+m=n->abJ acc p->s.length<=100000000->(∀x,p=some x->Dn x)->
 TT.lim 206 [.s s,.i .u64 n,.l (acc.map ent),.i .u64 acc.length]=some (yZ acc s (dV m p s))
 | 0,acc,p,s,hi,hp,h,_=>by
   have hlt:¬ ((acc.length:Int) < (n:Int)):=by omega
   unfold dV yZ;simp only [ne_eq,not_true_eq_false,if_false,lq,bY];generalize acc.map ent=L at *;refine aB rfl rfl ?_;simp [hlt]
 | m+1,acc,p,s,hi,hp,h,hsm=>by
   have k:=aoT s h;rw [NS];by_cases h1:(bK s).2.2=0;rotate_left
   ·rw [aj h1]
    have:yZ acc s ([],0,(bK s).2.2)=[.i .i64 0,.i .i64 (bK s).2.2]:=by unfold yZ;rw [aj h1]
    rw [this];exact aoO _ _ _ _ _ _ _ (by omega) h1 k
   rw [ah (λe=>e h1)];rw [aj h1,h1] at k;obtain ⟨a1,a2,_,a4,a5,_⟩:=JO h1;have hsx:Dn (bK s).1:=⟨by omega,by omega⟩
   generalize hX:(bK s).1=x at *;have ih:=adD n hn m (acc++[x]) (some x) (s.drop (bK s).2.1) (by rw [dX,qO];omega) (.inr ⟨acc,x,rfl,rfl⟩) (by rw [dh];omega) (λy hy=>by cases hy;exact hsx);have hout:yZ acc s (if (dV m (some x) (s.drop (bK s).2.1)).2.2≠0 then ([],0,(dV m (some x) (s.drop (bK s).2.1)).2.2) else (x::(dV m (some x) (s.drop (bK s).2.1)).1,(bK s).2.1+(dV m (some x) (s.drop (bK s).2.1)).2.1,0))=yZ (acc++[x]) (s.drop (bK s).2.1) (dV m (some x) (s.drop (bK s).2.1)):=by
    unfold yZ;by_cases hq:(dV m (some x) (s.drop (bK s).2.1)).2.2=0
    ·simp [hq]
    ·simp [hq]
   rw [pR] at ih;rcases hp with ⟨rfl,rfl⟩ | ⟨a,y,rfl,rfl⟩
   ·have hb0:sN none x=0:=rfl
    rw [hb0,ah (by simp),hout];exact aoM [] n s _ x _ (by simp at hi;omega) (by simp) k ih
   ·have kb:=Ze y x (hsm y rfl) hsx
    have hl:((a++[y]).length:Int)=(a.length:Int)+1:=by simp
    rw [dX,qO] at hi;by_cases hb:oq y.1 x.1=0;rotate_left
    ·have hb':sN (some y) x≠0:=hb
     rw [aj hb'];have:yZ (a++[y]) s ([],0,sN (some y) x)=[.i .i64 0,.i .i64 (oq y.1 x.1)]:=by unfold yZ;rw [aj hb'];rfl
     rw [this,hl];exact aoN _ n a.length s _ y x _ (by omega) (by omega) (by simp;omega) (by simp) hb kb k
    ·have hb':¬ sN (some y) x≠0:=λe=>e hb
     rw [ah hb',hout];have hl2:((a++[y]++[x]).length:Int)=(a.length:Int)+1+1:=by simp;omega
     rw [hl];rw [hl2] at ih;rw [hb] at kb;exact aoP _ n a.length s _ y x _ (by omega) (by omega) (by simp;omega) (by simp;omega) (by simp) kb k ih
theorem aoL (s:List UInt8) (hs:s.length<=100000000):TT.lim 205 [.s s]=some [.l ((jg s).1.map ent),.s (if (jg s).2.2=0 then s.drop (jg s).2.1 else []),.i .i64 (jg s).2.2]:=by
 have k1:=Ar s (by omega);unfold jg;by_cases he:(ak s).2.2=0;rotate_left
 ·rw [aj he]
  generalize (ak s).2.2=e at *;refine aG rfl rfl ?_ (by rfl);simp [k1,he,sV]
 obtain ⟨v1,v2,v3,v4,_⟩:=iD he;rw [ah (λe=>e he)];rw [he] at k1;by_cases h16:16 < (ak s).1
 ·have h0:¬ (ak s).1=0:=by omega
  have oC:(16:Int) < ((ak s).1:Nat):=by omega
  rw [ah h0,aj h16];generalize (ak s).1=n at *;generalize (ak s).2.1=i at *;refine aG rfl rfl ?_ rfl;simp [k1,h0,h16,oC,sV]
 have k2:=adD (ak s).1 (by omega) (ak s).1 [] none (s.drop (ak s).2.1) (by simp) (.inl ⟨rfl,rfl⟩) (by rw [dh];omega) (λx hx=>by cases hx);have hd:(s.take s.length).drop (ak s).2.1=s.drop (ak s).2.1:=by rw [mZ]
 generalize (ak s).1=n at *;generalize (ak s).2.1=i at *;by_cases h0:n=0
 ·rw [aj h0]
  have h0':((n:Int)=0)=True:=eq_true (by omega);refine aG rfl rfl ?_ rfl;simp [k1,h0,h0',sV]
 rw [ah h0,ah h16];have oC:¬ (16:Int) < (n:Int):=by omega
 have hi:(i:Int)<=s.length:=by omega
 have k2':TT.lim 206 [.s (s.drop i),.i .u64 n,.l [],.i .u64 0]=_:=k2;unfold yZ at k2';rw [lu] at k2';generalize dV n none (s.drop i)=r at *;generalize hY:s.drop i=Y at *;by_cases hq:r.2.2=0
 ·simp only [hq,ne_eq,not_true_eq_false,if_false,dK] at k2' ⊢
  generalize s.drop (i+r.2.1)=Z at *;refine aG rfl rfl ?_ (by rfl);simp [k1,h0,h16,oC,hi,hd,hY,k2']
 ·simp only [hq,ne_eq,not_false_eq_true,if_true] at k2' ⊢
  refine aG rfl rfl ?_ (by rfl);simp [k1,h0,h16,oC,hi,hd,hY,k2',sV,hq]
/-- A whole text, as a descriptor. -/
def jo (s:List UInt8):List bU×Int:=
 if (jg s).2.2≠0 then ([],(jg s).2.2) else if (jg s).2.1 < s.length then ([],10) else ((jg s).1,0)
theorem Tz:∀ (m:Nat) (p:Option bU) (s:List UInt8),(dV m p s).2.2=0->(dV m p s).2.1<=s.length/\(dV m p s).1.length=m/\∀x∈(dV m p s).1,nI x=0/\x.1.length<=s.length/\x.2.length<=s.length
 | 0,p,s,_=>by simp [dV]
 | m+1,p,s,h=>by
   rw [NS] at h ⊢;by_cases h1:(bK s).2.2=0;rotate_left
   ·rw [aj h1] at h;exact absurd h h1
   rw [ah (λe=>e h1)] at h ⊢;by_cases h2:sN p (bK s).1=0;rotate_left
   ·rw [aj h2] at h;exact absurd h h2
   rw [ah (λe=>e h2)] at h ⊢;by_cases h3:(dV m (some (bK s).1) (s.drop (bK s).2.1)).2.2=0;rotate_left
   ·rw [aj h3] at h;exact absurd h h3
   rw [ah (λe=>e h3)];obtain ⟨a1,a2,a3,a4,a5,_⟩:=JO h1;obtain ⟨b1,b2,b3⟩:=Tz m (some (bK s).1) _ h3;rw [dh] at b1;refine ⟨by simp only;omega,by simp [b2],λx hx=>?_⟩;rcases dO.1 hx with rfl | hx
   ·exact ⟨a3,a4,a5⟩
   ·obtain ⟨c1,c2,c3⟩:=b3 x hx
    rw [dh] at c2 c3;exact ⟨c1,by omega,by omega⟩
theorem aal {s:List UInt8} (h:(jg s).2.2=0):(ak s).2.2=0/\0 < (ak s).1/\(ak s).1<=16/\(dV (ak s).1 none (s.drop (ak s).2.1)).2.2=0/\(jg s).1=(dV (ak s).1 none (s.drop (ak s).2.1)).1/\
 (jg s).2.1=(ak s).2.1+(dV (ak s).1 none (s.drop (ak s).2.1)).2.1/\(jg s).2.1<=s.length:=by
 unfold jg at h ⊢;by_cases h1:(ak s).2.2=0;rotate_left
 ·rw [aj h1] at h;exact absurd h h1
 rw [ah (λe=>e h1)] at h ⊢;by_cases h2:(ak s).1=0
 ·rw [aj h2] at h;exact absurd h (by simp [sV])
 rw [ah h2] at h ⊢;by_cases h3:16 < (ak s).1
 ·rw [aj h3] at h;exact absurd h (by simp [sV])
 rw [ah h3] at h ⊢;by_cases h4:(dV (ak s).1 none (s.drop (ak s).2.1)).2.2=0;rotate_left
 ·rw [aj h4] at h;exact absurd h h4
 rw [ah (λe=>e h4)];obtain ⟨v1,v2,v3,_,_⟩:=iD h1;obtain ⟨d1,_,_⟩:=Tz _ _ _ h4;rw [dh] at d1;exact ⟨h1,by omega,by omega,h4,rfl,rfl,by simp only;omega⟩
theorem aam (s:List UInt8) (hs:s.length<=100000000):TT.lim 117 [.s s]=some [.l ((jo s).1.map ent),.i .i64 (jo s).2]:=by
 obtain ⟨at2,k,e2⟩:=aiO s 0 (by omega) hs;rw [bY,show ((0:Nat):Int)=0 from rfl] at k;rw [bY] at e2;unfold jo;by_cases h1:(jg s).2.2=0;rotate_left
 ·rw [aj h1]
  generalize jg s=r at *;refine aG rfl rfl ?_ (by rfl);simp [k,h1]
 have e2:=e2 h1;obtain ⟨_,_,_,_,_,_,a7⟩:=aal h1;rw [ah (λe=>e h1)];rw [h1] at k;rw [iV] at e2;have w:=wrap64 (n:=(s.length:Int) - (at2:Int)) (by omega) (by omega);rw [<- e2] at a7 ⊢;generalize jg s=r at *;by_cases h2:at2 < s.length
 ·rw [aj h2]
  refine aG rfl rfl ?_ rfl;simp [k,w,h2]
 ·rw [ah h2]
  refine aG rfl rfl ?_ rfl;simp [k,w,h2]
theorem adE (s:List UInt8) (hs:s.length<=100000000):TT.lim 204 [.s s]=some [.l ((jo s).1.map ent),.i .i64 (jo s).2]:=by
 have k:=aoL s hs;unfold jo;by_cases h1:(jg s).2.2=0;rotate_left
 ·rw [aj h1]
  generalize jg s=r at *;refine aG rfl rfl ?_ (by rfl);simp [k,h1]
 rw [ah (λe=>e h1)];rw [aj h1,h1] at k;have hd:(s.drop (jg s).2.1=[])=¬ ((jg s).2.1 < s.length):=by apply propext;rw [List.drop_eq_nil_iff];omega
 generalize hY:s.drop (jg s).2.1=Y at *;generalize jg s=r at *;by_cases h2:r.2.1 < s.length
 ·rw [aj h2]
  have hd':(Y=[])=False:=by rw [hd];simp [h2]
  clear hd;refine aG rfl rfl ?_ rfl;simp [k,hd']
 ·rw [ah h2]
  have hd':(Y=[])=True:=by rw [hd];simp [h2]
  clear hd;refine aG rfl rfl ?_ rfl;simp [k,hd']
def vg (e:Int):Row×Nat×Int:=(([],0),0,e)
/-- The row of a key, whose number stands next. -/
def fD (key s:List UInt8):Row×Nat×Int:=
 if (jo key).2≠0 then vg (jo key).2 else
 if (ak s).2.2≠0 then vg (ak s).2.2 else
 if (ak s).1=0 then vg 17 else (((jo key).1,((ak s).1:Nat)),(ak s).2.1,0)
theorem WR {key s:List UInt8} (h:(fD key s).2.2=0):(jo key).2=0/\(ak s).2.2=0/\(ak s).1≠0/\(fD key s).1=((jo key).1,(((ak s).1:Nat):Int))/\(fD key s).2.1=(ak s).2.1:=by
 unfold fD at h ⊢;by_cases h1:(jo key).2=0;rotate_left
 ·rw [aj h1] at h;exact absurd h h1
 rw [ah (λe=>e h1)] at h ⊢;by_cases h2:(ak s).2.2=0;rotate_left
 ·rw [aj h2] at h;exact absurd h h2
 rw [ah (λe=>e h2)] at h ⊢;by_cases h3:(ak s).1=0
 ·rw [aj h3] at h;exact absurd h (by simp [vg])
 rw [ah h3];exact ⟨h1,h2,h3,rfl,rfl⟩
theorem rowP (key t:List UInt8) (at':Nat) (h:at'<=t.length) (ht:t.length<=100000000) (hk:key.length<=100000000) :
 ∃at2:Nat,TT.lim 126 [.s key,.s t,.i .i64 at']=some [.i .i64 0,.l ((fD key (t.drop at')).1.1.map ent),.i .u64 (fD key (t.drop at')).1.2,.i .i64 (fD key (t.drop at')).2.2,.s t,.i .i64 at2]/\
  ((fD key (t.drop at')).2.2=0->at2=at'+(fD key (t.drop at')).2.1):=by
 have k1:=aam key hk;have k2:=zi t at' h (by omega);unfold fD;generalize jo key=D at *;by_cases h1:D.2=0;rotate_left
 ·rw [aj h1]
  refine ⟨at',aB rfl rfl ?_,λh=>absurd h h1⟩;simp [k1,h1,vg]
 rw [ah (λe=>e h1)];by_cases h2:(ak (t.drop at')).2.2=0;rotate_left
 ·obtain ⟨e1,e2⟩:=CZ h2
  rw [e1,e2] at k2;rw [aj h2];generalize ak (t.drop at')=V at *;refine ⟨at',aB rfl rfl ?_,λh=>absurd h h2⟩;simp [k1,k2,h1,h2,vg]
 rw [ah (λe=>e h2)];rw [h2] at k2;simp only [Int.natCast_add] at k2;generalize ak (t.drop at')=V at *;by_cases h3:V.1=0
 ·rw [aj h3]
  rw [h3] at k2;refine ⟨at'+V.2.1,aB rfl rfl ?_,λh=>by cases h⟩;simp [k1,k2,h1,vg]
 ·rw [ah h3]
  refine ⟨at'+V.2.1,aB rfl rfl ?_,λ_=>rfl⟩;simp [k1,k2,h1,h3]
/-- Rows, one behind the other. -/
def fC:Nat->List UInt8->Bool->List UInt8->List Row×Nat×Int
 | 0,_,_,_=>([],0,0)
 | m+1,a,first,s=>if (aX s a first).2.2≠0 then ([],0,(aX s a first).2.2) else
   if (fD (aX s a first).1 (s.drop (aX s a first).2.1)).2.2≠0 then ([],0,(fD (aX s a first).1 (s.drop (aX s a first).2.1)).2.2) else
   if (fC m (aX s a first).1 false (s.drop ((aX s a first).2.1+(fD (aX s a first).1 (s.drop (aX s a first).2.1)).2.1))).2.2≠0 then ([],0,(fC m (aX s a first).1 false (s.drop ((aX s a first).2.1+(fD (aX s a first).1 (s.drop (aX s a first).2.1)).2.1))).2.2) else
   ((fD (aX s a first).1 (s.drop (aX s a first).2.1)).1::(fC m (aX s a first).1 false (s.drop ((aX s a first).2.1+(fD (aX s a first).1 (s.drop (aX s a first).2.1)).2.1))).1,
    (aX s a first).2.1+(fD (aX s a first).1 (s.drop (aX s a first).2.1)).2.1+(fC m (aX s a first).1 false (s.drop ((aX s a first).2.1+(fD (aX s a first).1 (s.drop (aX s a first).2.1)).2.1))).2.1,0)
theorem P8 (m:Nat) (a:List UInt8) (first:Bool) (s:List UInt8):fC (m+1) a first s=if (aX s a first).2.2≠0 then ([],0,(aX s a first).2.2) else
 if (fD (aX s a first).1 (s.drop (aX s a first).2.1)).2.2≠0 then ([],0,(fD (aX s a first).1 (s.drop (aX s a first).2.1)).2.2) else
 if (fC m (aX s a first).1 false (s.drop ((aX s a first).2.1+(fD (aX s a first).1 (s.drop (aX s a first).2.1)).2.1))).2.2≠0 then ([],0,(fC m (aX s a first).1 false (s.drop ((aX s a first).2.1+(fD (aX s a first).1 (s.drop (aX s a first).2.1)).2.1))).2.2) else
 ((fD (aX s a first).1 (s.drop (aX s a first).2.1)).1::(fC m (aX s a first).1 false (s.drop ((aX s a first).2.1+(fD (aX s a first).1 (s.drop (aX s a first).2.1)).2.1))).1,
  (aX s a first).2.1+(fD (aX s a first).1 (s.drop (aX s a first).2.1)).2.1+(fC m (aX s a first).1 false (s.drop ((aX s a first).2.1+(fD (aX s a first).1 (s.drop (aX s a first).2.1)).2.1))).2.1,0):=rfl
def yY (acc:List Row) (t:List UInt8) (at2:Nat) (r:List Row×Nat×Int):List GV:=if r.2.2≠0 then [.i .i64 0,.i .i64 r.2.2,.s t,.i .i64 at2] else [.i .i64 1,.l ((acc++r.1).map row),.s t,.i .i64 at2]
theorem an3 (L:List GV) (a t X:List UInt8) (n i at' at2:Int) (first:Bool) (e:Int) (h:i < n) (hf:decide (i=0)=first) (he:¬ e=0)
 (k:TT.lim 125 [.s t,.i .i64 at',.s a,.b first]=some [.i .i64 0,.s X,.i .i64 e,.s t,.i .i64 at2]) :
 TT.lim 124 [.l L,.s a,.i .i64 n,.i .i64 i,.s t,.i .i64 at']=some [.i .i64 0,.i .i64 e,.s t,.i .i64 at2]:=by
 refine aB rfl rfl ?_;simp [h,hf,k,he]
theorem an5 (L:List GV) (a t X:List UInt8) (D:List GV) (N:Int) (n i at' at2 at3:Int) (first:Bool) (e:Int) (h:i < n) (hf:decide (i=0)=first) (he:¬ e=0)
 (k:TT.lim 125 [.s t,.i .i64 at',.s a,.b first]=some [.i .i64 0,.s X,.i .i64 0,.s t,.i .i64 at2])
 (k2:TT.lim 126 [.s X,.s t,.i .i64 at2]=some [.i .i64 0,.l D,.i .u64 N,.i .i64 e,.s t,.i .i64 at3]) :
 TT.lim 124 [.l L,.s a,.i .i64 n,.i .i64 i,.s t,.i .i64 at']=some [.i .i64 0,.i .i64 e,.s t,.i .i64 at3]:=by
 refine aB rfl rfl ?_;simp [h,hf,k,k2,he]
theorem an4 (L:List GV) (a t X:List UInt8) (D:List GV) (N:Int) (n i at' at2 at3:Int) (first:Bool) (R:List GV) (h:i < n) (hf:decide (i=0)=first) (hw:IntKind.i64.wrap (i+1)=i+1) (hb:L.length<=100000000)
 (k:TT.lim 125 [.s t,.i .i64 at',.s a,.b first]=some [.i .i64 0,.s X,.i .i64 0,.s t,.i .i64 at2])
 (k2:TT.lim 126 [.s X,.s t,.i .i64 at2]=some [.i .i64 0,.l D,.i .u64 N,.i .i64 0,.s t,.i .i64 at3])
 (ih:TT.lim 124 [.l (L++[.g [.l D,.i .u64 N]]),.s X,.i .i64 n,.i .i64 (i+1),.s t,.i .i64 at3]=some R) :
 TT.lim 124 [.l L,.s a,.i .i64 n,.i .i64 i,.s t,.i .i64 at']=some R:=by
 have hbb:2 * (L.length+1) * 32<=281474976710656/\L.length+1<=281474976710656:=by omega
 refine aB rfl rfl ?_;simp [h,hf,k,k2,hw,GV.eU,hbb,ih]
theorem ac9 (t:List UInt8) (ht:t.length<=100000000) (n:Nat) (hn:n<=1000):∀ (m:Nat) (acc:List Row) (a:List UInt8) (at':Nat),acc.length+m=n->at'<=t.length->a.length<=at'->
 ∃at2:Nat,TT.lim 124 [.l (acc.map row),.s a,.i .i64 n,.i .i64 acc.length,.s t,.i .i64 at']=some (yY acc t at2 (fC m a (decide ((acc.length:Int)=0)) (t.drop at')))/\
  ((fC m a (decide ((acc.length:Int)=0)) (t.drop at')).2.2=0->at2=at'+(fC m a (decide ((acc.length:Int)=0)) (t.drop at')).2.1)
 | 0,acc,a,at',hi,h,ha=>by
   have hlt:¬ ((acc.length:Int) < (n:Int)):=by omega
   refine ⟨at', ?_,λ_=>by simp [fC]⟩;unfold fC yY;simp only [ne_eq,not_true_eq_false,if_false,lq];generalize acc.map row=L at *;refine aB rfl rfl ?_;simp [hlt]
 | m+1,acc,a,at',hi,h,ha=>by
   obtain ⟨at2,k,e2⟩:=anZ t a (decide ((acc.length:Int)=0)) at' h ht (by omega);rw [P8];generalize hf:decide ((acc.length:Int)=0)=first at *
   by_cases h1:(aX (t.drop at') a first).2.2=0;rotate_left
   ·rw [aj h1]
    refine ⟨at2, ?_,λh=>absurd h h1⟩;have:yY acc t at2 ([],0,(aX (t.drop at') a first).2.2)=[.i .i64 0,.i .i64 (aX (t.drop at') a first).2.2,.s t,.i .i64 at2]:=by unfold yY;rw [aj h1]
    rw [this];exact an3 _ _ _ _ _ _ _ _ _ _ (by omega) hf h1 k
   rw [ah (λe=>e h1)];rw [h1] at k;have e2:=e2 h1;obtain ⟨a1,a2,a3⟩:=P9 h1;rw [dh] at a2;have hdd:∀j,(t.drop at').drop ((aX (t.drop at') a first).2.1+j)=t.drop (at2+j):=by intro j;rw [lu,e2,jd]
   have akH:(t.drop at').drop (aX (t.drop at') a first).2.1=t.drop at2:=by rw [lu,e2]
   have hal:(aX (t.drop at') a first).1.length<=at2:=by split at a3<;>omega
   rw [hdd,akH];generalize (aX (t.drop at') a first).1=X at *;generalize (aX (t.drop at') a first).2.1=j1 at *;obtain ⟨at3,k2,e3⟩:=rowP X t at2 (by omega) ht (by omega);by_cases h2:(fD X (t.drop at2)).2.2=0;rotate_left
   ·rw [aj h2]
    refine ⟨at3, ?_,λh=>absurd h h2⟩;have:yY acc t at3 ([],0,(fD X (t.drop at2)).2.2)=[.i .i64 0,.i .i64 (fD X (t.drop at2)).2.2,.s t,.i .i64 at3]:=by unfold yY;rw [aj h2]
    rw [this];exact an5 _ _ _ _ _ _ _ _ _ _ _ _ _ (by omega) hf h2 k k2
   rw [ah (λe=>e h2)];rw [h2] at k2;have e3:=e3 h2;obtain ⟨_,q2,_,_,q5⟩:=WR h2;obtain ⟨v1,v2,v3,_,_⟩:=iD q2;rw [dh] at v3;have e3':at2+(fD X (t.drop at2)).2.1=at3:=e3.symm;rw [e3'];have hrow:GV.g [.l ((fD X (t.drop at2)).1.1.map ent),.i .u64 (fD X (t.drop at2)).1.2]=row (fD X (t.drop at2)).1:=rfl;obtain ⟨at4,ih,e4⟩:=ac9 t ht n hn m (acc++[(fD X (t.drop at2)).1]) X at3 (by rw [dX,qO];omega) (by omega) (by omega);have hfalse:decide (((acc++[(fD X (t.drop at2)).1]).length:Int)=0)=false:=by simp;omega
   have hl:((acc++[(fD X (t.drop at2)).1]).length:Int)=(acc.length:Int)+1:=by simp
   rw [hfalse] at ih e4;rw [hl,pR] at ih;generalize (fD X (t.drop at2)).1=Q at *;generalize (fD X (t.drop at2)).2.1=j2 at *;have hout:yY acc t at4 (if (fC m X false (t.drop at3)).2.2≠0 then ([],0,(fC m X false (t.drop at3)).2.2) else (Q::(fC m X false (t.drop at3)).1,j1+j2+(fC m X false (t.drop at3)).2.1,0))=yY (acc++[Q]) t at4 (fC m X false (t.drop at3)):=by
    unfold yY;by_cases hq:(fC m X false (t.drop at3)).2.2=0
    ·simp [hq]
    ·simp [hq]
   refine ⟨at4, ?_, ?_⟩
   ·rw [hout]
    exact an4 _ _ _ _ _ _ _ _ _ _ _ _ _ (by omega) hf (wrap64 (by omega) (by omega)) (by simp;omega) k k2 (by rw [hrow];exact ih)
   ·by_cases hq:(fC m X false (t.drop at3)).2.2=0
    ·rw [ah (λe=>e hq)]
     intro _;have:=e4 hq;simp only;omega
    ·rw [aj hq]
     intro h;exact absurd h hq
def yS (e:Int):List Row×Nat×Int:=([],0,e)
/-- A table that stands next. -/
def iY (s:List UInt8):List Row×Nat×Int:=
 if (ak s).2.2≠0 then yS (ak s).2.2 else
 if 256 < (ak s).1 then yS 13 else
 if (fC (ak s).1 [] true (s.drop (ak s).2.1)).2.2≠0 then yS (fC (ak s).1 [] true (s.drop (ak s).2.1)).2.2 else
 ((fC (ak s).1 [] true (s.drop (ak s).2.1)).1,(ak s).2.1+(fC (ak s).1 [] true (s.drop (ak s).2.1)).2.1,0)
theorem alC (t:List UInt8) (at':Nat) (h:at'<=t.length) (ht:t.length<=100000000) :
 ∃at2:Nat,TT.lim 123 [.s t,.i .i64 at']=some [.i .i64 0,.l ((iY (t.drop at')).1.map row),.i .i64 (iY (t.drop at')).2.2,.s t,.i .i64 at2]/\((iY (t.drop at')).2.2=0->at2=at'+(iY (t.drop at')).2.1):=by
 have k1:=zi t at' h (by omega);unfold iY;by_cases he:(ak (t.drop at')).2.2=0;rotate_left
 ·obtain ⟨e1,e2⟩:=CZ he
  rw [e1,e2] at k1;rw [aj he];generalize (ak (t.drop at')).2.2=e at *;refine ⟨at',aB rfl rfl ?_,λh=>absurd h he⟩;simp [k1,he,yS]
 obtain ⟨v1,v2,v3,v4,_⟩:=iD he;rw [ah (λe=>e he)];rw [he] at k1;rw [dh] at v3;rw [lu];by_cases h16:256 < (ak (t.drop at')).1
 ·have oC:(256:Int) < ((ak (t.drop at')).1:Nat):=by omega
  rw [aj h16];generalize (ak (t.drop at')).1=n at *;generalize (ak (t.drop at')).2.1=i at *;refine ⟨at'+i,aB rfl rfl ?_,λh=>by cases h⟩;simp only [Int.natCast_add] at k1;simp [k1,h16,oC,yS]
 obtain ⟨at2,k2,e2⟩:=ac9 t ht (ak (t.drop at')).1 (by omega) (ak (t.drop at')).1 [] [] (at'+(ak (t.drop at')).2.1) (by simp) (by omega) (by simp);generalize (ak (t.drop at')).1=n at *;generalize (ak (t.drop at')).2.1=i at *;rw [ah h16];have oC:¬ (256:Int) < (n:Int):=by omega
 have w:=wrap64 (n:=(n:Int)) (by omega) (by omega);have hc:(0:Int)<=(n:Int)/\32 * (n:Int)<=281474976710656/\(n:Int)<=1152921504606846976:=by omega
 rw [show decide ((([]:List Row).length:Int)=0)=true from rfl] at k2 e2;have k2':TT.lim 124 [.l [],.s [],.i .i64 n,.i .i64 0,.s t,.i .i64 ((at':Int)+(i:Int))]=_:=k2;generalize fC n [] true (t.drop (at'+i))=r at *;refine ⟨at2,aB rfl rfl ?_,λh=>?_⟩
 ·simp only [Int.natCast_add] at k1
  unfold yY at k2';by_cases hq:r.2.2=0
  ·simp only [hq,ne_eq,not_true_eq_false,if_false,dK] at k2' ⊢
   simp [k1,h16,oC,w,hc,k2',GV.eU]
  ·simp only [hq,ne_eq,not_false_eq_true,if_true] at k2' ⊢
   simp [k1,h16,oC,w,hc,k2',GV.eU,yS]
 ·by_cases hq:r.2.2=0
  ·rw [ah (λe=>e hq)]
   have:=e2 hq;simp only;omega
  ·rw [aj hq] at h
   exact absurd h hq
def uZ (acc:List Row) (s:List UInt8) (r:List Row×Nat×Int):List GV:=if r.2.2≠0 then [.i .i64 0,.i .i64 r.2.2] else [.i .i64 1,.s (s.drop r.2.1),.l ((acc++r.1).map row)]
theorem apd (L:List GV) (a s X Y:List UInt8) (n i:Int) (first:Bool) (e:Int) (h:i < n) (hf:decide (i=0)=first) (he:¬ e=0)
 (k:TT.lim 212 [.s s,.s a,.b first]=some [.s X,.s Y,.i .i64 e]) :
 TT.lim 211 [.s s,.i .u64 n,.l L,.s a,.i .u64 i]=some [.i .i64 0,.i .i64 e]:=by
 refine aB rfl rfl ?_;simp [h,hf,k,he]
theorem apc (L:List GV) (a s X Y:List UInt8) (D:List GV) (n i:Int) (first:Bool) (e:Int) (h:i < n) (hf:decide (i=0)=first) (he:¬ e=0)
 (k:TT.lim 212 [.s s,.s a,.b first]=some [.s X,.s Y,.i .i64 0]) (k2:TT.lim 204 [.s X]=some [.l D,.i .i64 e]) :
 TT.lim 211 [.s s,.i .u64 n,.l L,.s a,.i .u64 i]=some [.i .i64 0,.i .i64 e]:=by
 refine aB rfl rfl ?_;simp [h,hf,k,k2,he]
theorem apf (L:List GV) (a s X Y:List UInt8) (D:List GV) (n i N j:Int) (first:Bool) (e:Int) (h:i < n) (hf:decide (i=0)=first) (he:¬ e=0)
 (k:TT.lim 212 [.s s,.s a,.b first]=some [.s X,.s Y,.i .i64 0]) (k2:TT.lim 204 [.s X]=some [.l D,.i .i64 0])
 (k3:TT.lim 194 [.s Y]=some [.i .u64 N,.i .i64 j,.i .i64 e]) :
 TT.lim 211 [.s s,.i .u64 n,.l L,.s a,.i .u64 i]=some [.i .i64 0,.i .i64 e]:=by
 refine aB rfl rfl ?_;simp [h,hf,k,k2,k3,he]
theorem apg (L:List GV) (a s X Y:List UInt8) (D:List GV) (n i j:Int) (first:Bool) (h:i < n) (hf:decide (i=0)=first)
 (k:TT.lim 212 [.s s,.s a,.b first]=some [.s X,.s Y,.i .i64 0]) (k2:TT.lim 204 [.s X]=some [.l D,.i .i64 0])
 (k3:TT.lim 194 [.s Y]=some [.i .u64 0,.i .i64 j,.i .i64 0]) :
 TT.lim 211 [.s s,.i .u64 n,.l L,.s a,.i .u64 i]=some [.i .i64 0,.i .i64 17]:=by
 refine aB rfl rfl ?_;simp [h,hf,k,k2,k3]
theorem ape (L:List GV) (a s X Y:List UInt8) (D:List GV) (n i N:Int) (j:Nat) (first:Bool) (R:List GV) (h:i < n) (hf:decide (i=0)=first) (hN:¬ N=0) (hw:IntKind.u64.wrap (i+1)=i+1) (hb:L.length<=100000000) (hj:j<=Y.length)
 (k:TT.lim 212 [.s s,.s a,.b first]=some [.s X,.s Y,.i .i64 0]) (k2:TT.lim 204 [.s X]=some [.l D,.i .i64 0])
 (k3:TT.lim 194 [.s Y]=some [.i .u64 N,.i .i64 j,.i .i64 0])
 (ih:TT.lim 211 [.s (Y.drop j),.i .u64 n,.l (L++[.g [.l D,.i .u64 N]]),.s X,.i .u64 (i+1)]=some R) :
 TT.lim 211 [.s s,.i .u64 n,.l L,.s a,.i .u64 i]=some R:=by
 have hbb:2 * (L.length+1) * 32<=281474976710656/\L.length+1<=281474976710656:=by omega
 have hj':(j:Int)<=Y.length:=by omega
 have hd:(Y.take Y.length).drop j=Y.drop j:=by rw [mZ]
 generalize hZ:Y.drop j=Z at *;refine aB rfl rfl ?_;simp [h,hf,k,k2,k3,hN,hw,GV.eU,hbb,hj',hd,hZ,ih]
theorem adV (n:Nat) (hn:n<=1000):∀ (m:Nat) (acc:List Row) (a s:List UInt8),acc.length+m=n->a.length+s.length<=100000000->
 TT.lim 211 [.s s,.i .u64 n,.l (acc.map row),.s a,.i .u64 acc.length]=some (uZ acc s (fC m a (decide ((acc.length:Int)=0)) s))
 | 0,acc,a,s,hi,h=>by
   have hlt:¬ ((acc.length:Int) < (n:Int)):=by omega
   unfold fC uZ;simp only [ne_eq,not_true_eq_false,if_false,lq,bY];generalize acc.map row=L at *;refine aB rfl rfl ?_;simp [hlt]
 | m+1,acc,a,s,hi,h=>by
   have k:=ao4 s a (decide ((acc.length:Int)=0)) (by omega) (by omega);rw [P8];generalize hf:decide ((acc.length:Int)=0)=first at *
   by_cases h1:(aX s a first).2.2=0;rotate_left
   ·rw [aj h1]
    have:uZ acc s ([],0,(aX s a first).2.2)=[.i .i64 0,.i .i64 (aX s a first).2.2]:=by unfold uZ;rw [aj h1]
    rw [this];exact apd _ _ _ _ _ _ _ _ _ (by omega) hf h1 k
   rw [ah (λe=>e h1)];rw [aj h1,h1] at k;obtain ⟨a1,a2,a3⟩:=P9 h1;have hal:(aX s a first).1.length+(s.length - (aX s a first).2.1)<=a.length+s.length:=by split at a3<;>omega
   have hdd:∀j,s.drop ((aX s a first).2.1+j)=(s.drop (aX s a first).2.1).drop j:=by intro j;rw [lu]
   rw [hdd];have hYl:(s.drop (aX s a first).2.1).length=s.length - (aX s a first).2.1:=dh;generalize hX:(aX s a first).1=X at *;generalize hj1:(aX s a first).2.1=j1 at *;generalize hY:s.drop j1=Y at *;have kd:=adE X (by omega);have kv:=Ar Y (by omega);have UJ:∀e,e≠0->uZ acc s ([],0,e)=[.i .i64 0,.i .i64 e]:=by intro e he;unfold uZ;rw [aj he]
   by_cases c1:(jo X).2=0;rotate_left
   ·have:fD X Y=vg (jo X).2:=by unfold fD;rw [aj c1]
    rw [this,aj (show (vg (jo X).2).2.2≠0 from c1)];show _=some (uZ acc s ([],0,(jo X).2))
    rw [UJ _ c1];exact apc _ _ _ _ _ _ _ _ _ _ (by omega) hf c1 k kd
   by_cases c2:(ak Y).2.2=0;rotate_left
   ·have:fD X Y=vg (ak Y).2.2:=by unfold fD;rw [ah (λe=>e c1),aj c2]
    rw [this,aj (show (vg (ak Y).2.2).2.2≠0 from c2)];show _=some (uZ acc s ([],0,(ak Y).2.2))
    rw [UJ _ c2];rw [c1] at kd;exact apf _ _ _ _ _ _ _ _ _ _ _ _ (by omega) hf c2 k kd kv
   by_cases c3:(ak Y).1=0
   ·have:fD X Y=vg 17:=by unfold fD;rw [ah (λe=>e c1),ah (λe=>e c2),aj c3]
    rw [this,aj (by simp [vg])];show _=some (uZ acc s ([],0,17))
    rw [UJ _ (by decide)];rw [c1] at kd;rw [c2,c3] at kv;exact apg _ _ _ _ _ _ _ _ _ _ (by omega) hf k kd kv
   have hq:fD X Y=(((jo X).1,(((ak Y).1:Nat):Int)),(ak Y).2.1,0):=by unfold fD;rw [ah (λe=>e c1),ah (λe=>e c2),ah c3]
   obtain ⟨v1,v2,v3,_,_⟩:=iD c2;rw [hq,ah (by simp)];simp only;rw [c1] at kd;rw [c2] at kv;have ih:=adV n hn m (acc++[((jo X).1,(((ak Y).1:Nat):Int))]) X (Y.drop (ak Y).2.1) (by rw [dX,qO];omega) (by rw [dh];omega);have hfalse:decide (((acc++[((jo X).1,(((ak Y).1:Nat):Int))]).length:Int)=0)=false:=by simp;omega
   have hl:((acc++[((jo X).1,(((ak Y).1:Nat):Int))]).length:Int)=(acc.length:Int)+1:=by simp
   rw [hfalse,hl,pR] at ih;have hsd:∀z,s.drop (j1+(ak Y).2.1+z)=(Y.drop (ak Y).2.1).drop z:=by intro z;rw [<- hY,lu,lu];congr 1;omega
   have hout:uZ acc s (if (fC m X false (Y.drop (ak Y).2.1)).2.2≠0 then ([],0,(fC m X false (Y.drop (ak Y).2.1)).2.2) else (((jo X).1,(((ak Y).1:Nat):Int))::(fC m X false (Y.drop (ak Y).2.1)).1,j1+(ak Y).2.1+(fC m X false (Y.drop (ak Y).2.1)).2.1,0)) =
    uZ (acc++[((jo X).1,(((ak Y).1:Nat):Int))]) (Y.drop (ak Y).2.1) (fC m X false (Y.drop (ak Y).2.1)):=by
    unfold uZ;by_cases hq:(fC m X false (Y.drop (ak Y).2.1)).2.2=0
    ·simp only [hq,ne_eq,not_true_eq_false,if_false,hsd]
     simp
    ·simp [hq]
   rw [hout];exact ape _ _ _ _ _ _ _ _ _ _ _ _ (by omega) hf (by omega) (dF (by omega) (by omega)) (by simp;omega) v3 k kd kv ih
theorem aoY (s:List UInt8) (hs:s.length<=100000000):TT.lim 210 [.s s]=some [.l ((iY s).1.map row),.s (if (iY s).2.2=0 then s.drop (iY s).2.1 else []),.i .i64 (iY s).2.2]:=by
 have k1:=Ar s (by omega);unfold iY;by_cases he:(ak s).2.2=0;rotate_left
 ·rw [aj he]
  generalize (ak s).2.2=e at *;refine aG rfl rfl ?_ (by rfl);simp [k1,he,yS]
 obtain ⟨v1,v2,v3,v4,_⟩:=iD he;rw [ah (λe=>e he)];rw [he] at k1;by_cases h16:256 < (ak s).1
 ·have oC:(256:Int) < ((ak s).1:Nat):=by omega
  rw [aj h16];generalize (ak s).1=n at *;generalize (ak s).2.1=i at *;refine aG rfl rfl ?_ rfl;simp [k1,h16,oC,yS]
 have k2:=adV (ak s).1 (by omega) (ak s).1 [] [] (s.drop (ak s).2.1) (by simp) (by rw [dh];simp;omega);have hd:(s.take s.length).drop (ak s).2.1=s.drop (ak s).2.1:=by rw [mZ]
 generalize (ak s).1=n at *;generalize (ak s).2.1=i at *;rw [ah h16];have oC:¬ (256:Int) < (n:Int):=by omega
 have hi:(i:Int)<=s.length:=by omega
 rw [show decide ((([]:List Row).length:Int)=0)=true from rfl] at k2;have k2':TT.lim 211 [.s (s.drop i),.i .u64 n,.l [],.s [],.i .u64 0]=_:=k2;unfold uZ at k2';rw [lu] at k2';generalize fC n [] true (s.drop i)=r at *;generalize hY:s.drop i=Y at *;by_cases hq:r.2.2=0
 ·simp only [hq,ne_eq,not_true_eq_false,if_false,dK] at k2' ⊢
  generalize s.drop (i+r.2.1)=Z at *;refine aG rfl rfl ?_ (by rfl);simp [k1,h16,oC,hi,hd,hY,k2']
 ·simp only [hq,ne_eq,not_false_eq_true,if_true] at k2' ⊢
  refine aG rfl rfl ?_ (by rfl);simp [k1,h16,oC,hi,hd,hY,k2',yS,hq]
/-- A whole text, as a table. -/
def lg (s:List UInt8):List Row×Int:=
 if (iY s).2.2≠0 then ([],(iY s).2.2) else if (iY s).2.1 < s.length then ([],10) else ((iY s).1,0)
theorem WI:∀ (m:Nat) (a:List UInt8) (first:Bool) (s:List UInt8),(fC m a first s).2.2=0->(fC m a first s).2.1<=s.length/\(fC m a first s).1.length=m
 | 0,a,first,s,_=>by simp [fC]
 | m+1,a,first,s,h=>by
   rw [P8] at h ⊢;by_cases h1:(aX s a first).2.2=0;rotate_left
   ·rw [aj h1] at h;exact absurd h h1
   rw [ah (λe=>e h1)] at h ⊢;by_cases h2:(fD (aX s a first).1 (s.drop (aX s a first).2.1)).2.2=0;rotate_left
   ·rw [aj h2] at h;exact absurd h h2
   rw [ah (λe=>e h2)] at h ⊢;by_cases h3:(fC m (aX s a first).1 false (s.drop ((aX s a first).2.1+(fD (aX s a first).1 (s.drop (aX s a first).2.1)).2.1))).2.2=0;rotate_left
   ·rw [aj h3] at h;exact absurd h h3
   rw [ah (λe=>e h3)];obtain ⟨a1,a2,_⟩:=P9 h1;obtain ⟨_,q2,_,_,q5⟩:=WR h2;obtain ⟨v1,v2,v3,_,_⟩:=iD q2;rw [dh] at v3;obtain ⟨b1,b2⟩:=WI m _ _ _ h3;rw [dh] at b1;exact ⟨by simp only;omega,by simp [b2]⟩
theorem abB {s:List UInt8} (h:(iY s).2.2=0):(ak s).2.2=0/\(ak s).1<=256/\(fC (ak s).1 [] true (s.drop (ak s).2.1)).2.2=0/\(iY s).1=(fC (ak s).1 [] true (s.drop (ak s).2.1)).1/\
 (iY s).2.1=(ak s).2.1+(fC (ak s).1 [] true (s.drop (ak s).2.1)).2.1/\(iY s).2.1<=s.length:=by
 unfold iY at h ⊢;by_cases h1:(ak s).2.2=0;rotate_left
 ·rw [aj h1] at h;exact absurd h h1
 rw [ah (λe=>e h1)] at h ⊢;by_cases h3:256 < (ak s).1
 ·rw [aj h3] at h;exact absurd h (by simp [yS])
 rw [ah h3] at h ⊢;by_cases h4:(fC (ak s).1 [] true (s.drop (ak s).2.1)).2.2=0;rotate_left
 ·rw [aj h4] at h;exact absurd h h4
 rw [ah (λe=>e h4)];obtain ⟨v1,v2,v3,_,_⟩:=iD h1;obtain ⟨d1,_⟩:=WI _ _ _ _ h4;rw [dh] at d1;exact ⟨h1,by omega,h4,rfl,rfl,by simp only;omega⟩
theorem arW (s:List UInt8) (hs:s.length<=100000000):TT.lim 122 [.s s]=some [.l ((lg s).1.map row),.i .i64 (lg s).2]:=by
 obtain ⟨at2,k,e2⟩:=alC s 0 (by omega) hs;rw [bY,show ((0:Nat):Int)=0 from rfl] at k;rw [bY] at e2;unfold lg;by_cases h1:(iY s).2.2=0;rotate_left
 ·rw [aj h1]
  generalize iY s=r at *;refine aG rfl rfl ?_ (by rfl);simp [k,h1]
 have e2:=e2 h1;obtain ⟨_,_,_,_,_,a7⟩:=abB h1;rw [ah (λe=>e h1)];rw [h1] at k;rw [iV] at e2;have w:=wrap64 (n:=(s.length:Int) - (at2:Int)) (by omega) (by omega);rw [<- e2] at a7 ⊢;generalize iY s=r at *;by_cases h2:at2 < s.length
 ·rw [aj h2]
  refine aG rfl rfl ?_ rfl;simp [k,w,h2]
 ·rw [ah h2]
  refine aG rfl rfl ?_ rfl;simp [k,w,h2]
theorem apo (s:List UInt8) (hs:s.length<=100000000):TT.lim 209 [.s s]=some [.l ((lg s).1.map row),.i .i64 (lg s).2]:=by
 have k:=aoY s hs;unfold lg;by_cases h1:(iY s).2.2=0;rotate_left
 ·rw [aj h1]
  generalize iY s=r at *;refine aG rfl rfl ?_ (by rfl);simp [k,h1]
 rw [ah (λe=>e h1)];rw [aj h1,h1] at k;have hd:(s.drop (iY s).2.1=[])=¬ ((iY s).2.1 < s.length):=by apply propext;rw [List.drop_eq_nil_iff];omega
 generalize hY:s.drop (iY s).2.1=Y at *;generalize iY s=r at *;by_cases h2:r.2.1 < s.length
 ·rw [aj h2]
  have hd':(Y=[])=False:=by rw [hd];simp [h2]
  clear hd;refine aG rfl rfl ?_ rfl;simp [k,hd']
 ·rw [ah h2]
  have hd':(Y=[])=True:=by rw [hd];simp [h2]
  clear hd;refine aG rfl rfl ?_ rfl;simp [k,hd']
def pq:List UInt8->List Row->List UInt8
 | _,[]=>[]
 | a,r::t=>rD a (eG r.1)++(aW r.2.toNat++pq (eG r.1) t)
/-- A table, as it is written. -/
def tZ (t:List Row):List UInt8:=aW t.length++pq [] t
def CJ (t:List Row):List UInt8×Int:=if sU t≠0 then ([],sU t) else (tZ t,0)
theorem Xc:∀ (t:List Row) (a:List UInt8),(∀r∈t,gZ r.1=true/\0<=r.2/\r.2 < 18446744073709551616)->(pq a t).length<=40000 * t.length
 | [],a,_=>by simp [pq]
 | r::t,a,h=>by
   obtain ⟨h1,h2,h3⟩:=h r (by simp);have hk:=Ei h1;have ho:=PX a (eG r.1) (by omega);have hv:=iO (n:=r.2.toNat) (by omega);have ih:=Xc t (eG r.1) λq hq=>h q (by simp [hq]);simp only [pq,dX,jc];omega
theorem alF (L:List GV) (n i:Int) (D:List bU) (N:Int) (a k O V acc:List UInt8) (R:List GV) (j:Nat) (hi:i=j) (h:i < n) (hg:L[j]? = some (row (D,N))) (hw:IntKind.i64.wrap (i+1)=i+1) (k1:TT.lim 7 [.l (D.map ent)]=some [.s k]) (k2:TT.lim 81 [.s a,.s k]=some [.s O])
 (k3:TT.lim 8 [.i .u64 N]=some [.s V]) (hb1:2 * (acc.length+O.length)<=281474976710656/\acc.length+O.length<=281474976710656) (hb2:2 * (acc.length+(O.length+V.length))<=281474976710656/\acc.length+(O.length+V.length)<=281474976710656)
 (ih:TT.lim 80 [.s k,.l L,.i .i64 n,.i .i64 (i+1),.l (eP acc++(eP O++eP V))]=some R) :
 TT.lim 80 [.s a,.l L,.i .i64 n,.i .i64 i,.l (eP acc)]=some R:=by
 subst hi;have ok1:=Jv O;have ok2:=Jv V;refine aB rfl rfl ?_;simp [-List.all_eq_true,h,hg,hw,k1,k2,k3,ok1,ok2,hb1,hb2,jd,ih]
theorem abG (l:List Row) (hl:l.length<=1000) (hf:∀r∈l,gZ r.1=true/\0<=r.2/\r.2 < 18446744073709551616):∀ (m i:Nat) (a acc:List UInt8),i+m=l.length->a.length<=100000->acc.length<=10+40000 * i->
 TT.lim 80 [.s a,.l (l.map row),.i .i64 l.length,.i .i64 i,.l (eP acc)]=some [.i .i64 0,.l (eP (acc++pq a (l.drop i)))]
 | 0,i,a,acc,hi,ha,hacc=>by
   have hd:l.drop i=[]:=dN (by omega);have h:¬ ((i:Int) < l.length):=by omega
   rw [hd];refine aB rfl rfl ?_;simp [h,pq]
 | m+1,i,a,acc,hi,ha,hacc=>by
   have hlt:i < l.length:=by omega
   obtain ⟨h1,h2,h3⟩:=hf l[i] (fP hlt);have hk:=Ei h1;have k1:=OZ l[i].1 h1;have k2:=amR a (eG l[i].1) (by omega) (by omega);have ho:=PX a (eG l[i].1) (by omega);have k3:=wC l[i].2.toNat (by omega);rw [show ((l[i].2.toNat:Nat):Int)=l[i].2 by omega] at k3;have hv:=iO (n:=l[i].2.toNat) (by omega);have ih:=abG l hl hf m (i+1) (eG l[i].1) (acc++(rD a (eG l[i].1)++aW l[i].2.toNat)) (by omega) (by omega) (by simp only [dX];omega);have he:acc++pq a (l.drop i)=acc++(rD a (eG l[i].1)++aW l[i].2.toNat)++pq (eG l[i].1) (l.drop (i+1)):=by
    rw [dZ hlt];simp [pq]
   rw [he];rw [SI acc,SI] at ih;rw [show ((i+1:Nat):Int)=(i:Int)+1 by omega] at ih;exact alF _ _ _ l[i].1 l[i].2 a _ _ _ acc _ i rfl (by omega) (by simp [hlt]) (wrap64 (by omega) (by omega)) k1 k2 k3 (by omega) (by omega) ih
theorem alE (t:List Row) (ht:Rows t) (hf:oK t):TT.lim 79 [.l (t.map row)]=some [.s (CJ t).1,.i .i64 (CJ t).2]:=by
 have k1:=ZJ t ht hf;unfold CJ;by_cases hc:sU t=0;rotate_left
 ·rw [aj hc]
  refine aG rfl rfl ?_ (by rfl);simp [k1,hc]
 rw [ah (λe=>e hc)];rw [hc] at k1;have h256:=((SY t).1 hc).1;have vW:∀r∈t,gZ r.1=true/\0<=r.2/\r.2 < 18446744073709551616:=λr hr=>⟨hf r hr,(ht.2 r hr).2.1,(ht.2 r hr).2.2⟩
 have k2:=wC t.length (by omega);have l2:=iO (n:=t.length) (by omega);have k3:=abG t (by omega) vW t.length 0 [] (aW t.length) (by omega) (by simp) (by omega);rw [bY,show ((0:Nat):Int)=0 from rfl] at k3;have hlen:=Xc t [] vW;have w:=dF (n:=(t.length:Int)) (by omega) (by omega);have ok:=Jv (aW t.length);have hb:2 * (aW t.length).length<=281474976710656/\(aW t.length).length<=281474976710656:=by omega
 have hbg:=SL (tZ t);have hpl:(eP (tZ t)).length<=281474976710656:=by
  rw [Zr];unfold tZ;rw [dX];omega
 have hk3:TT.lim 80 [.s [],.l (t.map row),.i .i64 t.length,.i .i64 0,.l (eP (aW t.length))]=some [.i .i64 0,.l (eP (tZ t))]:=k3;generalize eP (tZ t)=PG at *;generalize tZ t=P at *;generalize hVG:eP (aW t.length)=VG at *;have hvl:VG.length=(aW t.length).length:=by rw [<- hVG,Zr]
 rw [<- hvl] at hb;have hlm:(t.map row).length=t.length:=by simp
 generalize t.map row=L at *;refine aG rfl rfl ?_ rfl;simp [-List.all_eq_true,k1,hlm,w,k2,hVG,ok,hb,hk3,hbg,hpl]
theorem ao1 (L:List GV) (n:Int) (D:List bU) (N:Int) (k O V acc:List UInt8) (R:List GV) (h:0 < n) (hg:L[0]? = some (row (D,N))) (k1:TT.lim 151 [.l (D.map ent)]=some [.s k]) (k2:TT.lim 175 [.s [],.s k]=some [.s O])
 (k3:TT.lim 152 [.i .u64 N]=some [.s V]) (hb1:(acc.length:Int)+(O.length:Int)<=9223372036854775807) (hb2:(acc.length:Int)+(O.length:Int)+(V.length:Int)<=9223372036854775807)
 (ih:TT.lim 174 [.l L,.s (acc++(O++V)),.i .i64 n,.i .i64 1]=some R) :
 TT.lim 174 [.l L,.s acc,.i .i64 n,.i .i64 0]=some R:=by
 have w1:=wrap64 (n:=1) (by omega) (by omega);refine aB rfl rfl ?_;simp [h,hg,w1,k1,k2,k3,hb1,hb2,ih]
theorem ao0 (L:List GV) (n i:Int) (D E:List bU) (N M:Int) (k k' O V acc:List UInt8) (R:List GV) (j:Nat) (hi:i=(j:Int)+1) (h:i < n) (h0:(0:Int) < i) (hg:L[j+1]? = some (row (D,N))) (hg':L[j]? = some (row (E,M))) (hw:IntKind.i64.wrap (i+1)=i+1) (hw2:IntKind.i64.wrap (i - 1)=i - 1) (hn1:(i - 1).toNat=j) (hn2:i.toNat=j+1) (hn0:(0:Int)<=i - 1) (hn3:(1:Int)<=i) (hn4:(0:Int)<=i)
 (k1:TT.lim 151 [.l (D.map ent)]=some [.s k]) (k1':TT.lim 151 [.l (E.map ent)]=some [.s k']) (k2:TT.lim 175 [.s k',.s k]=some [.s O])
 (k3:TT.lim 152 [.i .u64 N]=some [.s V]) (hb1:(acc.length:Int)+(O.length:Int)<=9223372036854775807) (hb2:(acc.length:Int)+(O.length:Int)+(V.length:Int)<=9223372036854775807)
 (ih:TT.lim 174 [.l L,.s (acc++(O++V)),.i .i64 n,.i .i64 (i+1)]=some R) :
 TT.lim 174 [.l L,.s acc,.i .i64 n,.i .i64 i]=some R:=by
 clear hi;refine aB rfl rfl ?_;simp [h,h0,hg,hg',hw,hw2,hn0,hn1,hn2,hn3,hn4,k1,k1',k2,k3,hb1,hb2,ih]
theorem adP (l:List Row) (hl:l.length<=1000) (hf:∀r∈l,gZ r.1=true/\0<=r.2/\r.2 < 18446744073709551616):∀ (m i:Nat) (acc:List UInt8),i+m=l.length->acc.length<=10+40000 * i->
 TT.lim 174 [.l (l.map row),.s acc,.i .i64 l.length,.i .i64 i]=some [.i .i64 0,.s (acc++pq (if 0 < i then ((l[i - 1]?).map K).getD [] else []) (l.drop i))]
 | 0,i,acc,hi,hacc=>by
   have hd:l.drop i=[]:=dN (by omega);have h:¬ ((i:Int) < l.length):=by omega
   rw [hd];refine aB rfl rfl ?_;simp [h,pq]
 | m+1,i,acc,hi,hacc=>by
   have hlt:i < l.length:=by omega
   obtain ⟨h1,h2,h3⟩:=hf l[i] (fP hlt);have hk:=Ei h1;have k1:=Kq l[i].1 h1;have k3:=wE l[i].2.toNat (by omega);rw [show ((l[i].2.toNat:Nat):Int)=l[i].2 by omega] at k3;have hv:=iO (n:=l[i].2.toNat) (by omega);have he:∀a,acc++pq a (l.drop i)=acc++(rD a (eG l[i].1)++aW l[i].2.toNat)++pq (eG l[i].1) (l.drop (i+1)):=by
    intro a;rw [dZ hlt];simp [pq]
   have ih:=λa (ha:(rD a (eG l[i].1)).length<=20+(eG l[i].1).length)=>adP l hl hf m (i+1) (acc++(rD a (eG l[i].1)++aW l[i].2.toNat)) (by omega) (by simp only [dX];omega);have hpr:(if 0 < i+1 then ((l[i+1 - 1]?).map K).getD [] else [])=eG l[i].1:=by simp [hlt]
   rw [hpr,show ((i+1:Nat):Int)=(i:Int)+1 by omega] at ih;by_cases h0:i=0
   ·subst h0
    rw [ah (by omega),he];have k2:=adT [] (eG l[0].1) (by simp) (by omega);have ho:=PX [] (eG l[0].1) (by omega);exact ao1 _ _ l[0].1 l[0].2 _ _ _ acc _ (by omega) (by simp [hlt]) k1 k2 k3 (by omega) (by omega) (ih [] ho)
   ·obtain ⟨j,rfl⟩:∃j,i=j+1:=⟨i - 1,by omega⟩
    have hj:j < l.length:=by omega
    obtain ⟨g1,_,_⟩:=hf l[j] (fP hj);have k1':=Kq l[j].1 g1;have hkj:=Ei g1;rw [aj (by omega),show ((l[j+1 - 1]?).map K).getD []=eG l[j].1 by simp [hj],he];have k2:=adT (eG l[j].1) (eG l[j+1].1) (by omega) (by omega);have ho:=PX (eG l[j].1) (eG l[j+1].1) (by omega);exact ao0 _ _ _ l[j+1].1 l[j].1 l[j+1].2 l[j].2 _ _ _ _ acc _ j (by omega) (by omega) (by omega) (by simp [hlt]) (by simp [hj]) (wrap64 (by omega) (by omega)) (wrap64 (by omega) (by omega)) (by omega) (by omega) (by omega) (by omega) (by omega) k1 k1' k2 k3 (by omega) (by omega) (ih _ ho)
theorem aoZ (t:List Row) (ht:Rows t) (hf:oK t):TT.lim 156 [.l (t.map row)]=some [.s (CJ t).1,.i .i64 (CJ t).2]:=by
 have k1:=ZK t ht hf;unfold CJ;by_cases hc:sU t=0;rotate_left
 ·rw [aj hc]
  refine aG rfl rfl ?_ (by rfl);simp [k1,hc]
 rw [ah (λe=>e hc)];rw [hc] at k1;have h256:=((SY t).1 hc).1;have vW:∀r∈t,gZ r.1=true/\0<=r.2/\r.2 < 18446744073709551616:=λr hr=>⟨hf r hr,(ht.2 r hr).2.1,(ht.2 r hr).2.2⟩
 have k2:=wE t.length (by omega);have l2:=iO (n:=t.length) (by omega);have k3:=adP t (by omega) vW t.length 0 (aW t.length) (by omega) (by omega);rw [bY,ah (by omega),show ((0:Nat):Int)=0 from rfl] at k3;have hk3:TT.lim 174 [.l (t.map row),.s (aW t.length),.i .i64 t.length,.i .i64 0]=some [.i .i64 0,.s (tZ t)]:=k3;have w:=dF (n:=(t.length:Int)) (by omega) (by omega);have hlm:(t.map row).length=t.length:=by simp
 generalize tZ t=P at *;generalize aW t.length=V at *;generalize t.map row=L at *;have kt:TT.lim 173 [.l L]=some [.s P]:=by
  refine aG rfl rfl ?_ rfl;simp [hlm,w,k2,hk3]
 refine aG rfl rfl ?_ rfl;simp [k1,kt]
theorem aat {x:bU} (h:nI x=0):x.1.length<=64/\x.2.length<=256:=by
 have hu:∀ (s:List UInt8) (lo hi:Int),jK s lo hi=0->(s.length:Int)<=hi:=by
  intro s lo hi h;unfold jK at h;split at h
  ·cases h
  ·split at h
   ·cases h
   ·omega
 unfold nI at h;by_cases h1:jK x.1 1 64=0
 ·rw [ah (λe=>e h1)] at h
  have a:=hu _ _ _ h1;have b:=hu _ _ _ h;omega
 ·rw [aj h1] at h;exact absurd h h1
theorem aeH {s:List UInt8} (h:(bT s).2.2=0):aW (bT s).1.length++(bT s).1=s.take (bT s).2.1:=by
 unfold bT at h ⊢;by_cases h1:(ak s).2.2=0;rotate_left
 ·rw [aj h1] at h;exact absurd h h1
 rw [ah (λe=>e h1)] at h ⊢;obtain ⟨v1,v2,v3,v4,v5⟩:=iD h1;by_cases h2:s.length - (ak s).2.1 < (ak s).1
 ·rw [aj h2] at h;cases h
 rw [ah h2];simp only [jL,dh];rw [Dj (by omega),v5,zx]
theorem aiW {s:List UInt8} (h:(bK s).2.2=0):jv (bK s).1=s.take (bK s).2.1:=by
 obtain ⟨_,_,_,_,_,h1,h2,h3,h4⟩:=JO h;rw [h3,h4];unfold jv;simp only;have p1:=aeH h1;have p2:=aeH h2;rw [p1,List.append_assoc,p2,zx]
theorem aak:∀ (m:Nat) (p:Option bU) (s:List UInt8),(dV m p s).2.2=0->(dV m p s).1.flatMap jv=s.take (dV m p s).2.1/\kK (p.map (·.1)) (dV m p s).1=0
 | 0,p,s,_=>by simp [dV,kK]
 | m+1,p,s,h=>by
   rw [NS] at h ⊢;by_cases h1:(bK s).2.2=0;rotate_left
   ·rw [aj h1] at h;exact absurd h h1
   rw [ah (λe=>e h1)] at h ⊢;by_cases h2:sN p (bK s).1=0;rotate_left
   ·rw [aj h2] at h;exact absurd h h2
   rw [ah (λe=>e h2)] at h ⊢;by_cases h3:(dV m (some (bK s).1) (s.drop (bK s).2.1)).2.2=0;rotate_left
   ·rw [aj h3] at h;exact absurd h h3
   rw [ah (λe=>e h3)];obtain ⟨b1,b2⟩:=aak m (some (bK s).1) _ h3;obtain ⟨_,_,a3,_⟩:=JO h1;have p1:=aiW h1;refine ⟨by simp only [jk,b1,p1,zx], ?_⟩;unfold kK;rw [ah (λe=>e a3)];cases p with
   | none=>exact b2
   | some k=>
     have h2':oq k.1 (bK s).1.1=0:=h2;unfold oq at h2';simp only [gU];by_cases c1:(bK s).1.1=k.1
     ·rw [aj c1] at h2';exact absurd h2' (by decide)
     rw [ah c1] at h2' ⊢;by_cases c2:Op.bytesLess (bK s).1.1 k.1=true
     ·rw [aj c2] at h2';exact absurd h2' (by decide)
     rw [ah c2];exact b2
structure Yg (d:List bU) (key:List UInt8):Prop where
 chk:qV d=0
 few:gZ d=true
 ents:oJ d
 put:eG d=key
theorem aiP {s:List UInt8} (h:(jg s).2.2=0) (hs:s.length<=100000000):Yg (jg s).1 (s.take (jg s).2.1):=by
 obtain ⟨a1,a2,a3,a4,a5,a6,a7⟩:=aal h;obtain ⟨b1,b2,b3⟩:=Tz _ _ _ a4;obtain ⟨c1,c2⟩:=aak _ _ _ a4;obtain ⟨v1,v2,v3,v4,v5⟩:=iD a1;rw [a5,a6];refine ⟨?_, ?_,⟨by omega,λx hx=>?_⟩, ?_⟩
 ·unfold qV
  rw [ah (by omega),ah (by omega)];exact c2
 ·unfold gZ
  rw [aI,decide_eq_true_iff,List.all_eq_true];refine ⟨λx hx=>?_,by omega⟩;obtain ⟨e1,e2⟩:=aat (b3 x hx).1;unfold oU;rw [decide_eq_true_iff];omega
 ·obtain ⟨e1,e2⟩:=aat (b3 x hx).1
  omega
 ·unfold eG
  rw [b2,v5,c1,zx]
theorem aan {s:List UInt8} (h:(jo s).2=0) (hs:s.length<=100000000):Yg (jo s).1 s:=by
 unfold jo at h ⊢;by_cases h1:(jg s).2.2=0;rotate_left
 ·rw [aj h1] at h;exact absurd h h1
 rw [ah (λe=>e h1)] at h ⊢;by_cases h2:(jg s).2.1 < s.length
 ·rw [aj h2] at h;exact absurd h (by simp)
 rw [ah h2];have:=aiP h1 hs;rw [kU (by omega)] at this;exact this
theorem an0 {s a:List UInt8} {first:Bool} (h:(aX s a first).2.2=0) (hf:first=true->a=[]):rD a (aX s a first).1=s.take (aX s a first).2.1/\(first=false->a < (aX s a first).1):=by
 have ha:(if first=true then [] else a)=a:=by
  cases first with
  | true=>rw [aj rfl,hf rfl]
  | false=>rfl
 unfold aX at h ⊢;simp only [ha] at h ⊢;by_cases h1:(ak s).2.2=0;rotate_left
 ·rw [aj h1] at h;exact absurd h h1
 rw [ah (λe=>e h1)] at h ⊢;by_cases h2:a.length < (ak s).1
 ·rw [aj h2] at h;exact absurd h (by simp [ig])
 rw [ah h2] at h ⊢;by_cases h3:(ak (s.drop (ak s).2.1)).2.2=0;rotate_left
 ·rw [aj h3] at h;exact absurd h h3
 rw [ah (λe=>e h3)] at h ⊢;by_cases h4:s.length - ((ak s).2.1+(ak (s.drop (ak s).2.1)).2.1) < (ak (s.drop (ak s).2.1)).1
 ·rw [aj h4] at h;exact absurd h (by simp [ig])
 rw [ah h4] at h ⊢;obtain ⟨v1,v2,v3,v4,v5⟩:=iD h1;obtain ⟨u1,u2,u3,u4,u5⟩:=iD h3;have hx:((s.drop ((ak s).2.1+(ak (s.drop (ak s).2.1)).2.1)).take (ak (s.drop (ak s).2.1)).1).length=(ak (s.drop (ak s).2.1)).1:=by
  rw [jL,dh];omega
 generalize hX:(s.drop ((ak s).2.1+(ak (s.drop (ak s).2.1)).2.1)).take (ak (s.drop (ak s).2.1)).1=X at *;by_cases h5:first=false/\Op.bytesLess a (a.take (ak s).1++X)=false
 ·rw [aj h5] at h;exact absurd h (by simp [ig])
 rw [ah h5] at h ⊢;by_cases h6:(ak s).1 < common a (a.take (ak s).1++X)
 ·rw [aj h6] at h;exact absurd h (by simp [ig])
 rw [ah h6];have hge:=Ti (ak s).1 a X (by omega);have hc:common a (a.take (ak s).1++X)=(ak s).1:=by omega
 refine ⟨?_,λhf=>?_⟩
 ·unfold rD
  simp only [hc];have hl:(a.take (ak s).1++X).length - (ak s).1=(ak (s.drop (ak s).2.1)).1:=by
   rw [dX,jL,hx];omega
  have hd:(a.take (ak s).1++X).drop (ak s).1=X:=by
   rw [Ru (by rw [jL];omega)];rw [dN (by rw [jL];omega)];rfl
  rw [hl,hd,v5,u5,<- hX];rw [zx,zx,<- lu]
 ·simp only [hf,true_and] at h5
  rw [<- yI];simpa using h5
theorem ada:∀ (m:Nat) (a:List UInt8) (first:Bool) (s:List UInt8),(fC m a first s).2.2=0->(first=true->a=[])->a.length+s.length<=100000000->
 pq a (fC m a first s).1=s.take (fC m a first s).2.1/\Dl (fC m a first s).1/\(first=false->∀r∈(fC m a first s).1,a < K r)/\(∀r∈(fC m a first s).1,oH r=0/\gZ r.1=true/\oJ r.1/\0<=r.2/\r.2 < 18446744073709551616)
 | 0,a,first,s,_,_,_=>by simp [fC,pq,Dl]
 | m+1,a,first,s,h,hf,hl=>by
   rw [P8] at h ⊢;by_cases h1:(aX s a first).2.2=0;rotate_left
   ·rw [aj h1] at h;exact absurd h h1
   rw [ah (λe=>e h1)] at h ⊢;by_cases h2:(fD (aX s a first).1 (s.drop (aX s a first).2.1)).2.2=0;rotate_left
   ·rw [aj h2] at h;exact absurd h h2
   rw [ah (λe=>e h2)] at h ⊢;by_cases h3:(fC m (aX s a first).1 false (s.drop ((aX s a first).2.1+(fD (aX s a first).1 (s.drop (aX s a first).2.1)).2.1))).2.2=0;rotate_left
   ·rw [aj h3] at h;exact absurd h h3
   rw [ah (λe=>e h3)];obtain ⟨a1,a2,a3⟩:=P9 h1;obtain ⟨p1,p2⟩:=an0 h1 hf;obtain ⟨q1,q2,q3,q4,q5⟩:=WR h2;have hxl:(aX s a first).1.length<=a.length+(aX s a first).2.1:=by
    cases first<;>simp at a3<;>omega
   obtain ⟨v1,v2,v3,v4,v5⟩:=iD q2;have dk:=aan q1 (by omega);obtain ⟨b1,b2,b3,b4⟩:=ada m _ false _ h3 (λe=>by cases e) (by rw [dh];omega);have hK:K (fD (aX s a first).1 (s.drop (aX s a first).2.1)).1=(aX s a first).1:=by rw [q4];exact dk.put
   have hN:(fD (aX s a first).1 (s.drop (aX s a first).2.1)).1.2.toNat=(ak (s.drop (aX s a first).2.1)).1:=by rw [q4];simp
   simp only;refine ⟨?_, ?_,λvW r hr=>?_,λr hr=>?_⟩
   ·show rD a (K _)++(aW _++pq (K _) _)=_
    rw [hK,hN,b1,p1,v5,<- q5];rw [zx,zx,List.append_assoc]
   ·refine wS.2 ⟨λr hr=>?_,b2⟩
    rw [hK];exact b3 rfl r hr
   ·rcases dO.1 hr with rfl | hr
    ·rw [hK];exact p2 vW
    ·exact I7 (p2 vW) (b3 rfl r hr)
   ·rcases dO.1 hr with rfl | hr
    ·rw [q4]
     refine ⟨?_,dk.few,dk.ents,by simp only;omega,by simp only;omega⟩;rw [adU];exact ⟨dk.chk,by simp only;omega⟩
    ·exact b4 r hr
structure zD (t:List Row):Prop where
 ok:Ok t
 few:oK t
 rows:Rows t
theorem zD.tb {t:List Row} (h:zD t):sU t=0:=(SY t).2 h.ok
theorem alD {s:List UInt8} (h:(iY s).2.2=0) (hs:s.length<=100000000):tZ (iY s).1=s.take (iY s).2.1/\zD (iY s).1:=by
 obtain ⟨a1,a2,a3,a4,a5,a6⟩:=abB h;obtain ⟨v1,v2,v3,v4,v5⟩:=iD a1;obtain ⟨l1,l2⟩:=WI _ _ _ _ a3;obtain ⟨b1,b2,_,b4⟩:=ada _ _ _ _ a3 (λ_=>rfl) (by rw [dh];simp;omega);rw [a4,a5];refine ⟨?_,⟨by omega,b2,λr hr=>(b4 r hr).1⟩,λr hr=>(b4 r hr).2.1,by omega,λr hr=>(b4 r hr).2.2⟩;unfold tZ;rw [l2,v5,b1,zx]
theorem aeM:zD []:=⟨⟨by simp,List.Pairwise.nil,by simp⟩,λr hr=>by simp at hr,by simp,by simp⟩
theorem arX {s:List UInt8} (hs:s.length<=100000000):zD (lg s).1/\((lg s).2=0->tZ (lg s).1=s)/\((lg s).2≠0->(lg s).1=[]):=by
 unfold lg;by_cases h1:(iY s).2.2=0;rotate_left
 ·rw [aj h1]
  exact ⟨aeM,λh=>absurd h h1,λ_=>rfl⟩
 rw [ah (λe=>e h1)];by_cases h2:(iY s).2.1 < s.length
 ·rw [aj h2]
  exact ⟨aeM,λh=>absurd h (by decide),λ_=>rfl⟩
 rw [ah h2];obtain ⟨b1,b2⟩:=alD h1 hs;rw [kU (by omega)] at b1;exact ⟨b2,λ_=>b1,λh=>absurd rfl h⟩
theorem zD.len {t:List Row} (h:zD t):t.length<=256:=h.ok.1
theorem zD.good {t:List Row} (h:zD t):rX t:=⟨Nat.le_trans h.len (by decide),h.few,h.rows⟩
end V
end Go.Proofs.YtaggjpipnjmleaaGreatDoor
