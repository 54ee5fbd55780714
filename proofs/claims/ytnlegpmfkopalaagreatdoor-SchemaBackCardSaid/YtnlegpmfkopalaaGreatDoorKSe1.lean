/- What the trees compute: plain laws. -/
import Derived.Test.YtnlegpmfkopalaaGreatDoorKST
import Derived.Test.YtnlegpmfkopalaaGreatDoorAbsPl
import Derived.Test.YtnlegpmfkopalaaGreatDoorAbsGo
import Derived.Test.YtnlegpmfkopalaaGreatDoorAbsTold2
import Derived.Test.YtnlegpmfkopalaaGreatDoorAbsTold3
import Derived.Test.YtnlegpmfkopalaaGreatDoorAbsFields
import Derived.Test.YtnlegpmfkopalaaGreatDoorAbsSortF
import Derived.Lib.TrimUEq
import Derived.Lib.MapLaws
namespace Go.Proofs.YtnlegpmfkopalaaGreatDoor
open Go Go.aN
set_option linter.unusedSimpArgs false
set_option linter.unusedVariables false
set_option maxRecDepth 100000
namespace S
theorem Gv:∀a b:List UInt8,Op.bytesLess a b=decide (a < b)
 | _,[]=>by simp [Op.bytesLess]
 | [],_::_=>by simp [Op.bytesLess]
 | a::x,b::y=>by
   rw [Op.bytesLess,Gv x y,pJ];simp [ae6]
/-- An entry: key and value. A row: its entries and its number. -/
abbrev dH:=List UInt8×List UInt8
abbrev Row:=List dH×Int
def ent (x:dH):GV:=.g [.s x.1,.s x.2]
def row (r:Row):GV:=.g [.l (r.1.map ent),.i .u64 r.2]
@[simp] theorem asf (x:dH):(ent x).cells=[.s x.1,.s x.2]:=rfl
@[simp] theorem atP (r:Row):(row r).cells=[.l (r.1.map ent),.i .u64 r.2]:=rfl
@[simp] theorem asg (x:dH):(ent x).scalar=false:=rfl
@[simp] theorem atQ (r:Row):(row r).scalar=false:=rfl
/-- Texts and lists of no more than any machine bears. -/
def uK (d:List dH):Prop:=d.length<=140737488351232/\∀x∈d,x.1.length<=140737488351232/\x.2.length<=140737488351232
def Rows (l:List Row):Prop:=l.length<=140737488351232/\∀r∈l,uK r.1/\0<=r.2/\r.2 < 18446744073709551616
def qV (x:dH):Bool:=decide (x.1.length+x.2.length<=600)
theorem abR (d:List dH) (hd:uK d):∀m i:Nat,i+m=d.length->TT.lim 4 [.l (d.map ent),.i .i64 d.length,.i .i64 i]=some (if (d.drop i).all qV=true then [.i .i64 1] else [.i .i64 0])
 | 0,i,hi=>by
   have h0:d.drop i=[]:=gJ (by omega);refine aB rfl rfl ?_;have h:¬ ((i:Int) < d.length):=by omega
   simp [h,h0]
 | m+1,i,hi=>by
   have hlt:i < d.length:=by omega
   have ih:TT.lim 4 [.l (d.map ent),.i .i64 d.length,.i .i64 ((i:Int)+1)]=_:=abR d hd m (i+1) (by omega);refine aB rfl rfl ?_;have h:((i:Int) < d.length):=by omega
   have hw:=wrap64 (n:=(i:Int)+1) (by omega) (by have:=hd.1;omega);have hx:=hd.2 d[i] (jo hlt);have hw2:=wrap64 (n:=(d[i].1.length:Int)+(d[i].2.length:Int)) (by omega) (by omega);have hda:(d.drop i).all qV=(qV d[i]&&(d.drop (i+1)).all qV):=by rw [jc hlt,rF]
   by_cases hf:(600:Int) < (d[i].1.length:Int)+(d[i].2.length:Int)
   ·have:qV d[i]=false:=by unfold qV;simp;omega
    simp [h,hlt,hw2,hf,hda,this]
   ·have:qV d[i]=true:=by unfold qV;simp;omega
    rw [hda,this,Jh];simp [h,hlt,hw,hw2,hf,ih]
def iJ (d:List dH):Bool:=d.all qV&&decide (d.length<=40)
theorem aaw (d:List dH) (hd:uK d):TT.lim 3 [.l (d.map ent)]=some [.b (iJ d)]:=by
 refine aY rfl rfl ?_ rfl;have h5:TT.lim 4 [.l (d.map ent),.i .i64 d.length,.i .i64 0]=_:=abR d hd d.length 0 (by omega);rw [eP] at h5;cases hc:d.all qV with
 | false=>rw [hc] at h5;simp [h5,iJ,hc]
 | true=>
   rw [hc] at h5;simp only [if_true] at h5;have:(decide ((d.length:Int)<=40))=decide (d.length<=40):=by rw [pJ];simp;omega
   simp [h5,iJ,hc,this]
def aJ (n:Nat):List UInt8:=if n < 128 then [UInt8.ofNat n] else UInt8.ofNat (n % 128+128)::aJ (n / 128)
termination_by n
decreasing_by omega
theorem yV {n:Nat} (h:n < 128):aJ n=[UInt8.ofNat n]:=by rw [aJ,aj h]
theorem CX {n:Nat} (h:¬ n < 128):aJ n=UInt8.ofNat (n % 128+128)::aJ (n / 128):=by rw [aJ,ah h]
def bM (n:Nat):Nat:=(aJ n).length
theorem apg {n:Int} (h0:0<=n):n.fdiv (2 ^ (7:Nat))=n / 128:=by
 rw [AA _ (by decide)];rfl
theorem adY {n:Nat}:jI .shr .u64 (n:Int) 7=some (.i .u64 ((n / 128:Nat):Int)):=by
 have:((n:Int)).fdiv (2 ^ (7:Nat))=((n / 128:Nat):Int):=by rw [apg (by omega)];omega
 simp [jI,IntKind.bits];exact this
theorem vH (n:Nat):0 < bM n:=by unfold bM;rw [aJ];split<;>simp
theorem Au {n:Nat} (h:¬ n < 128):bM n=bM (n / 128)+1:=by unfold bM;rw [CX h];rfl
theorem wJ:∀ (k n:Nat),0 < k->n < 128 ^ k->bM n<=k
 | 0,_,h,_=>by omega
 | k+1,n,_,h=>by
   by_cases hn:n < 128
   ·unfold bM;rw [yV hn];simp
   ·rw [Au hn]
    cases k with
    | zero=>simp at h;omega
    | succ k=>
      have:n / 128 < 128 ^ (k+1):=by rw [Dn] at h;omega
      have:=wJ (k+1) (n / 128) (by omega) this;omega
theorem CY {n:Nat} (h:n < 18446744073709551616):bM n<=10:=wJ 10 n (by omega) (by omega)
theorem akY:∀ (n s:Nat),s+bM n<=1000->n < 18446744073709551616->TT.lim 10 [.i .u64 n,.i .i64 s]=some [.i .i64 0,.i .i64 ((s+bM n - 1:Nat):Int)]:=by
 intro n;induction n using Nat.strongRecOn with
 | _ n ih=>
   intro s hs hn;refine aB rfl rfl ?_;by_cases h:n < 128
   ·have h':¬ (128:Int)<=n:=by omega
    simp [h',bM,yV h]
   ·have h':(128:Int)<=n:=by omega
    have hv:=Au h;have hp:=vH (n / 128);have hw:=wrap64 (n:=(s:Int)+1) (by omega) (by omega);have ih':TT.lim 10 [.i .u64 ((n / 128:Nat):Int),.i .i64 ((s:Int)+1)]=_:=ih (n / 128) (by omega) (s+1) (by omega) (by omega);have hn':s+bM n - 1=s+1+bM (n / 128) - 1:=by omega
    rw [hn'];have h7:jI .shr .u64 (n:Int) 7=some (.i .u64 ((n / 128:Nat):Int)):=adY;generalize ((n / 128:Nat):Int)=q at h7 ih';simp [h',hw,h7,ih']
theorem IX (n:Nat) (hn:n < 18446744073709551616):TT.lim 9 [.i .u64 n]=some [.i .i64 (bM n)]:=by
 have hp:=vH n;have h9:TT.lim 10 [.i .u64 n,.i .i64 1]=_:=akY n 1 (by have:=CY hn;omega) hn;rw [show 1+bM n - 1=bM n by omega] at h9;refine aY rfl rfl ?_ rfl;simp [h9]
/-- The bytes of a number, each with its high bit set. -/
def jR:Nat->Nat->List Nat
 | 0,_=>[]
 | k+1,n=>(n % 128+128)::jR k (n / 128)
def iO (n:Nat):GV:=.i .u8 n
theorem afv (n:Nat) (hn:n < 18446744073709551616):bU .and .u64 (n:Int) 127=some (.i .u64 ((n % 128:Nat):Int)):=by
 have h1:((BitVec.ofInt 64 (n:Int) &&& BitVec.ofInt 64 127).toNat:Nat)=n % 128:=by
  rw [Rx,qH,qH];have e1:((n:Int) % ((2 ^ 64:Nat):Int)).toNat=n:=by omega
  have e2:((127:Int) % ((2 ^ 64:Nat):Int)).toNat=2 ^ 7 - 1:=by decide
  rw [e1,e2,Yy]
 show some (GV.i .u64 (IntKind.u64.wrap (((BitVec.ofInt 64 (n:Int) &&& BitVec.ofInt 64 127).toNat:Nat):Int)))=_
 rw [h1,jS (by omega) (by omega)]
theorem Nq (n:Nat) (hn:n < 256):bU .and .u8 (n:Int) 127=some (.i .u8 ((n % 128:Nat):Int)):=by
 have:∀x:Fin 256,IntKind.u8.wrap (((BitVec.ofInt IntKind.u8.bits ((x.val:Nat):Int) &&& BitVec.ofInt IntKind.u8.bits 127).toNat:Nat):Int)=((x.val % 128:Nat):Int):=by decide +kernel
 show some (GV.i .u8 _)=some (GV.i .u8 _)
 exact qR (λz=>some (GV.i .u8 z)) (this ⟨n,hn⟩)
theorem amg (n:Nat) (hn:n < 128):bU .or .u8 (n:Int) 128=some (.i .u8 ((n+128:Nat):Int)):=by
 have:∀x:Fin 128,IntKind.u8.wrap (((BitVec.ofInt IntKind.u8.bits ((x.val:Nat):Int) ||| BitVec.ofInt IntKind.u8.bits 128).toNat:Nat):Int)=((x.val+128:Nat):Int):=by decide +kernel
 show some (GV.i .u8 _)=some (GV.i .u8 _)
 exact qR (λz=>some (GV.i .u8 z)) (this ⟨n,hn⟩)
theorem aeY {n:Int} (h0:0<=n) (h1:n < 256):IntKind.u8.wrap n=n:=by
 have:IntKind.u8.wrap n=n % 256:=by simp [IntKind.wrap,IntKind.signed,IntKind.bits]
 rw [this];omega
@[simp] theorem ar1 (n:Nat):(iO n).cells=[iO n]:=rfl
@[simp] theorem ar4 (n:Nat):(iO n).scalar=true:=rfl
@[simp] theorem ar2 (n:Nat) (v:GV):(iO n).put 0 [v]=some v:=rfl
theorem Ze:∀l:List Nat,(∀x∈l,x < 256)->lH (l.map iO)=some (l.map UInt8.ofNat)
 | [],_=>rfl
 | a::l,h=>by
   have h1:=h a (by simp);have h2:=Ze l λx hx=>h x (by simp [hx]);simp only [jq,iO,lH] at h2 ⊢;rw [aj (by omega)];have:(λn:Nat=>GV.i .u8 (n:Int))=iO:=rfl;rw [h2];simp
theorem abK:∀ (m n:Nat) (done:List Nat),n < 18446744073709551616->done.length+m < 1000->
 TT.lim 11 [.i .u64 n,.l ((done++List.replicate m 0).map iO),.i .i64 ((done.length+m:Nat):Int),.i .i64 done.length]=some [.i .i64 0,.l ((done++jR m n).map iO)]
 | 0,n,done,hn,hd=>by
   refine aB rfl rfl ?_;simp [jR]
 | m+1,n,done,hn,hd=>by
   have hlt:(done.length:Int) < ((done.length+(m+1):Nat):Int):=by omega
   have hw:=wrap64 (n:=(done.length:Int)+1) (by omega) (by omega);have hw8:=aeY (n:=((n % 128:Nat):Int)) (by omega) (by omega);have h7:jI .shr .u64 (n:Int) 7=some (.i .u64 ((n / 128:Nat):Int)):=adY;have ha:=afv n hn;have ho:=amg (n % 128) (by omega);have ih:=abK m (n / 128) (done++[n % 128+128]) (by omega) (by simp;omega);have hlen:(done++[n % 128+128]).length+m=done.length+(m+1):=by simp;omega
   rw [hlen] at ih;have hl2:(((done++[n % 128+128]).length:Nat):Int)=(done.length:Int)+1:=by simp
   rw [hl2] at ih;have hset:((done++List.replicate (m+1) 0).map iO).set done.length (iO (n % 128+128))=(done++[n % 128+128]++List.replicate m 0).map iO:=by
    rw [Jq,<- List.map_set,List.set_append_right _ _ (dN _),xW];simp
   have hget:((done++List.replicate (m+1) 0).map iO)[done.length]? = some (iO 0):=by
    rw [jm,sO (dN _),xW,Jq];rfl
   have hll:((done++List.replicate (m+1) 0).map iO).length=done.length+(m+1):=by simp
   have hv:done++jR (m+1) n=done++[n % 128+128]++jR m (n / 128):=by simp [jR]
   rw [hv];generalize hL:(done++List.replicate (m+1) 0).map iO=L at *;refine aB rfl rfl ?_;have hix:(0:Int)<=(done.length:Int)/\(done.length:Int) < (L.length:Int):=by rw [hll];omega
   have hob:GV.i IntKind.u8 ((n % 128+128:Nat):Int)=iO (n % 128+128):=rfl;have UE:L.set done.length (GV.i IntKind.u8 ((n % 128+128:Nat):Int))=(done++[n % 128+128]++List.replicate m 0).map iO:=hset;generalize (done++[n % 128+128]++List.replicate m 0).map iO=L2 at ih UE;generalize (done++[n % 128+128]++jR m (n / 128)).map iO=L3 at ih ⊢;generalize ((n / 128:Nat):Int)=q at h7 ih;generalize ((n % 128+128:Nat):Int)=z at ho UE;generalize ((n % 128:Nat):Int)=rr at ha hw8 ho;generalize ((done.length+(m+1):Nat):Int)=N at hlt ih ⊢;simp [hlt,ha,hw8,ho,hix,hget,h7,hw,UE,ih]
theorem XO:∀m n,(jR m n).length=m
 | 0,_=>rfl
 | m+1,n=>by simp [jR,XO m]
theorem XP:∀m n,∀x∈jR m n,x < 256
 | 0,_,x,h=>by simp [jR] at h
 | m+1,n,x,h=>by
   simp only [jR,dh] at h;rcases h with rfl | h
   ·omega
   ·exact XP m _ x h
/-- The last byte without its high bit: as numbers are written. -/
theorem aeN:∀ (s n:Nat),bM n=s+1->∃x,(jR (s+1) n)[s]? = some x/\((jR (s+1) n).set s (x % 128)).map UInt8.ofNat=aJ n
 | 0,n,h=>by
   have hn:n < 128:=by
    by_cases hn:n < 128
    ·exact hn
    ·rw [Au hn] at h;have:=vH (n / 128);omega
   refine ⟨n % 128+128,by simp [jR], ?_⟩;rw [yV hn];simp [jR];rw [MG hn]
 | s+1,n,h=>by
   have hn:¬ n < 128:=by
    intro hn;unfold bM at h;rw [yV hn] at h;simp at h
   rw [Au hn] at h;obtain ⟨x,h1,h2⟩:=aeN s (n / 128) (by omega);refine ⟨x,by simp only [jR,pR] at h1 ⊢;exact h1, ?_⟩;rw [CX hn,<- h2];simp [jR]
theorem vk (n:Nat) (hn:n < 18446744073709551616):TT.lim 8 [.i .u64 n]=some [.s (aJ n)]:=by
 have h8:=IX n hn;have hp:=vH n;have hs:=CY hn;obtain ⟨s,hs1⟩:∃s,bM n=s+1:=⟨bM n - 1,by omega⟩
 obtain ⟨x,h1,h2⟩:=aeN s n hs1;rw [hs1] at h8;have h10:TT.lim 11 [.i .u64 n,.l ((List.replicate (s+1) 0).map iO),.i .i64 ((s+1:Nat):Int),.i .i64 0]=some [.i .i64 0,.l ((jR (s+1) n).map iO)]:=by
  have:=abK (s+1) n [] hn (by simp;omega);simpa using this
 have hr:(List.replicate (s+1) 0).map iO=List.replicate (s+1) (GV.i .u8 0):=by rw [List.map_replicate];rfl
 rw [hr] at h10;have hx:x < 256:=XP _ _ x (qK h1);have ha:=Nq x hx;have hget:((jR (s+1) n).map iO)[s]? = some (iO x):=by rw [jm,h1];rfl
 have hset:((jR (s+1) n).map iO).set s (GV.i .u8 ((x % 128:Nat):Int))=((jR (s+1) n).set s (x % 128)).map iO:=(List.map_set (f:=iO) (l:=jR (s+1) n) (i:=s) (a:=x % 128)).symm;have hb:=Ze ((jR (s+1) n).set s (x % 128)) (λy hy=>by
  rcases Yq hy with hy | rfl
  ·exact XP _ _ y hy
  ·omega)
 rw [h2] at hb;have hlen:(((jR (s+1) n).set s (x % 128)).map iO).length=s+1:=by simp [XO]
 have hlr:(List.replicate (s+1) (GV.i .u8 0)).length=s+1:=by simp
 have hl1:((jR (s+1) n).map iO).length=s+1:=by simp [XO]
 generalize ((jR (s+1) n).set s (x % 128)).map iO=L3 at hset hb hlen;generalize (jR (s+1) n).map iO=L2 at h10 hget hset hl1;generalize hrep:List.replicate (s+1) (GV.i .u8 0)=L1 at h10 hlr;refine aY rfl rfl ?_ rfl;have hw:=wrap64 (n:=(s:Int)) (by omega) (by omega);have hcast:((s+1:Nat):Int)=(s:Int)+1:=by omega
 rw [hcast] at h8 h10;have hc1:(0:Int)<=(s:Int)+1/\(s:Int)+1<=281474976710656/\(s:Int)+1<=1152921504606846976:=by omega
 have hc2:((s:Int)+1).toNat=s+1:=by omega
 have hlt:(s:Int) < (s:Int)+1:=by omega
 have hs2:(s:Int)+1 - 1=(s:Int):=by omega
 generalize hM:((x % 128:Nat):Int)=M at ha hset;have hxx:iO x=.i .u8 x:=rfl;have h48:s+1<=281474976710656:=by omega
 have hg2:L2[s]'(by omega)=iO x:=by have:=hget;rw [cO (by omega)] at this;exact Dq this
 simp [h8,hc1,hc2,hrep,hlr,h10,hl1,hs2,hw,hlt,hget,hg2,ha,hset,hxx,hlen,hb,h48,GV.fJ]
theorem NC (a b:List UInt8):bK (a++b)=bK a++bK b:=by simp [bK]
@[simp] theorem zB (a:List UInt8):(bK a).length=a.length:=by simp [bK]
theorem DJ (a:List UInt8):(bK a).all (GV.fJ 1)=true:=by
 rw [List.all_eq_true];intro x hx;obtain ⟨b,_,rfl⟩:=mF.1 hx;rfl
theorem JJ:∀a:List UInt8,lH (bK a)=some a
 | []=>rfl
 | x::a=>by
   have ih:=JJ a;simp only [bK,jq,lH] at ih ⊢;have:=x.toNat_lt;rw [aj (by omega),ih];simp
def iI (x:dH):List UInt8:=aJ x.1.length++x.1++aJ x.2.length++x.2
def iF (d:List dH):List UInt8:=aJ d.length++d.flatMap iI
theorem lD {n:Nat} (h:n < 18446744073709551616):(aJ n).length<=10:=CY h
theorem ah1 (x:dH) (h1:x.1.length<=140737488351232) (h2:x.2.length<=140737488351232):TT.lim 13 [ent x]=some [.s (iI x)]:=by
 have k1:=vk x.1.length (by omega);have k2:=vk x.2.length (by omega);have l1:=lD (n:=x.1.length) (by omega);have l2:=lD (n:=x.2.length) (by omega);have w1:=jS (n:=(x.1.length:Int)) (by omega) (by omega);have w2:=jS (n:=(x.2.length:Int)) (by omega) (by omega);refine aY rfl rfl ?_ rfl;have c1:((aJ x.1.length).length:Int)+(x.1.length:Int)<=9223372036854775807:=by omega
 have c2:((aJ x.1.length).length:Int)+((x.1.length:Int)+((aJ x.2.length).length:Int))<=9223372036854775807:=by omega
 have c3:((aJ x.1.length).length:Int)+((x.1.length:Int)+(((aJ x.2.length).length:Int)+(x.2.length:Int)))<=9223372036854775807:=by omega
 simp [w1,w2,k1,k2,c1,c2,c3,iI,Int.add_assoc]
theorem aag {x:dH} (h:qV x=true):(iI x).length<=620:=by
 unfold qV at h;simp only [decide_eq_true_iff] at h;have l1:=lD (n:=x.1.length) (by omega);have l2:=lD (n:=x.2.length) (by omega);simp only [iI,dS];omega
theorem TU:∀d:List dH,d.all qV=true->(d.flatMap iI).length<=620 * d.length
 | [],_=>by simp
 | x::d,h=>by
   rw [rF,aI] at h;have:=aag h.1;have:=TU d h.2;simp only [jl,dS,iT];omega
theorem abL (d:List dH) (hf:d.all qV=true) (hl:d.length<=40):∀ (m i:Nat) (acc:List UInt8),i+m=d.length->acc.length<=10+620 * i->
 TT.lim 12 [.l (d.map ent),.i .i64 d.length,.i .i64 i,.l (bK acc)]=some [.i .i64 0,.l (bK (acc++(d.drop i).flatMap iI))]
 | 0,i,acc,hi,ha=>by
   have h0:d.drop i=[]:=gJ (by omega);refine aB rfl rfl ?_;have h:¬ ((i:Int) < d.length):=by omega
   simp [h,h0]
 | m+1,i,acc,hi,ha=>by
   have hlt:i < d.length:=by omega
   have hx:=List.all_eq_true.1 hf d[i] (jo hlt);have hx1:=hx;unfold qV at hx1;simp only [decide_eq_true_iff] at hx1;have hp:=ah1 d[i] (by omega) (by omega);have hpl:=aag hx;have ih:TT.lim 12 [.l (d.map ent),.i .i64 d.length,.i .i64 ((i:Int)+1),.l (bK (acc++iI d[i]))]=_:=abL d hf hl m (i+1) (acc++iI d[i]) (by omega) (by simp;omega);rw [NC] at ih;have hd:(d.drop i).flatMap iI=iI d[i]++(d.drop (i+1)).flatMap iI:=by rw [jc hlt,jl]
   rw [hd,<- List.append_assoc];refine aB rfl rfl ?_;have h:((i:Int) < d.length):=by omega
   have hw:=wrap64 (n:=(i:Int)+1) (by omega) (by omega);have hok:=DJ (iI d[i]);have hb:2 * (acc.length+(iI d[i]).length)<=281474976710656/\acc.length+(iI d[i]).length<=281474976710656:=by omega
   have he:GV.g [GV.s d[i].1,GV.s d[i].2]=ent d[i]:=rfl;simp [-List.all_eq_true,h,hlt,he,hp,hok,hb,hw,ih]
theorem O5 (d:List dH) (hf:iJ d=true):TT.lim 7 [.l (d.map ent)]=some [.s (iF d)]:=by
 unfold iJ at hf;rw [aI,decide_eq_true_iff] at hf;have k:=vk d.length (by omega);have l1:=lD (n:=d.length) (by omega);have w1:=jS (n:=(d.length:Int)) (by omega) (by omega);have h11:TT.lim 12 [.l (d.map ent),.i .i64 d.length,.i .i64 0,.l (bK (aJ d.length))]=_:=abL d hf.1 hf.2 d.length 0 (aJ d.length) (by omega) (by omega);rw [eP] at h11;have hb:2 * (aJ d.length).length<=281474976710656/\(aJ d.length).length<=281474976710656:=by omega
 have hok:=DJ (aJ d.length);have hfl:=TU d hf.1;have hc:(aJ d.length).length+(List.flatMap iI d).length<=281474976710656:=by omega
 have hbg:=JJ (aJ d.length++d.flatMap iI);refine aY rfl rfl ?_ rfl;unfold iF;generalize d.flatMap iI=F at *;simp [-List.all_eq_true,w1,k,hb,hok,h11,hc,hbg]
def oK (s:List UInt8) (lo hi:Int):Int:=if (s.length:Int) < lo then 13 else if hi < (s.length:Int) then 13 else if Lib.validD s=true then 0 else 11
theorem ajh (s:List UInt8) (h:s.length<=140737488351232):TT.lim 42 [.s s]=some [.b (Lib.validD s)]:=by
 have h21:TT.lim 43 [.s s]=some [.b (Lib.validD s)]:=IG (Ds:=Ds) (k:=43) (f:=Jc) rfl (by simp only [Jc];rw [aj (by omega)]);refine aY rfl rfl ?_ rfl;simp [h21]
theorem Gz (s:List UInt8) (lo hi:Int) (h:s.length<=140737488351232):TT.lim 41 [.s s,.i .i64 lo,.i .i64 hi]=some [.i .i64 (oK s lo hi)]:=by
 have h20:=ajh s h;refine aY rfl rfl ?_ rfl;unfold oK;by_cases h1:(s.length:Int) < lo
 ·simp [h1]
 ·by_cases h2:hi < (s.length:Int)
  ·simp [h1,h2]
  ·cases hv:Lib.validD s<;>rw [hv] at h20<;>simp [h1,h2,h20,hv]
def oW (x:dH):Int:=if oK x.1 1 64≠0 then oK x.1 1 64 else oK x.2 0 256
theorem aah (x:dH) (h1:x.1.length<=140737488351232) (h2:x.2.length<=140737488351232):TT.lim 49 [ent x]=some [.i .i64 (oW x)]:=by
 have k1:=Gz x.1 1 64 h1;have k2:=Gz x.2 0 256 h2;refine aY rfl rfl ?_ rfl;unfold oW;by_cases h:oK x.1 1 64=0
 ·simp [k1,h,k2]
 ·simp [k1,h]
def oV:Option (List UInt8)->List dH->Int
 | _,[]=>0
 | p,x::xs=>if oW x≠0 then oW x else match p with
   | none=>oV (some x.1) xs
   | some k=>if x.1=k then 14 else if Op.bytesLess x.1 k=true then 7 else oV (some x.1) xs
def tagged (r:Int):List GV:=if r=0 then [.i .i64 1] else [.i .i64 0,.i .i64 r]
def prevK (d:List dH) (i:Nat):Option (List UInt8):=if i=0 then none else (d[i - 1]?).map (·.1)
theorem abM (d:List dH) (hd:uK d):∀m i:Nat,i+m=d.length->TT.lim 48 [.l (d.map ent),.i .i64 d.length,.i .i64 i]=some (tagged (oV (prevK d i) (d.drop i)))
 | 0,i,hi=>by
   have h0:d.drop i=[]:=gJ (by omega);refine aB rfl rfl ?_;have h:¬ ((i:Int) < d.length):=by omega
   simp [h,h0,oV,tagged]
 | m+1,i,hi=>by
   have hlt:i < d.length:=by omega
   have hx:=hd.2 d[i] (jo hlt);have hp:=aah d[i] hx.1 hx.2;have ih:TT.lim 48 [.l (d.map ent),.i .i64 d.length,.i .i64 ((i:Int)+1)]=_:=abM d hd m (i+1) (by omega);have hpk:prevK d (i+1)=some d[i].1:=by unfold prevK;rw [ah (by omega)];simp [hlt]
   rw [hpk] at ih;have hdr:d.drop i=d[i]::d.drop (i+1):=jc hlt;rw [hdr];refine aB rfl rfl ?_;have h:((i:Int) < d.length):=by omega
   have hw:=wrap64 (n:=(i:Int)+1) (by omega) (by have:=hd.1;omega);have he:GV.g [GV.s d[i].1,GV.s d[i].2]=ent d[i]:=rfl;by_cases h1:oW d[i]=0;rotate_left
   ·simp [h,hlt,he,hp,h1,oV,tagged]
   by_cases h0:i=0
   ·subst h0
    simp only [zf,Yd] at hw ih;simp [h,hlt,he,hp,h1,oV,prevK,hw];simpa using ih
   ·have hi1:i - 1 < d.length:=by omega
    have hpk2:prevK d i=some d[i - 1].1:=by unfold prevK;rw [ah h0];simp [hi1]
    have hw2:=wrap64 (n:=(i:Int) - 1) (by omega) (by have:=hd.1;omega);have hi0:¬ ((i:Int)=0):=by omega
    have hge:(0:Int)<=(i:Int) - 1:=by omega
    have ht:((i:Int) - 1).toNat=i - 1:=by omega
    have hnl:(1:Int)<=(i:Int):=by omega
    rw [hpk2];by_cases h2:d[i].1=d[i - 1].1
    ·have h2':(d[i].1=d[i - 1].1)=True:=eq_true h2
     clear h2;simp [h,hlt,he,hp,h1,hi0,h0,hw2,ht,hi1,h2',oV,tagged,hnl]
    ·cases h3:Op.bytesLess d[i].1 d[i - 1].1 with
     | true=>simp [h,hlt,he,hp,h1,hi0,h0,hw2,ht,hi1,h2,h3,oV,tagged,hnl]
     | false=>simp [h,hlt,he,hp,h1,hi0,h0,hw2,ht,hi1,h2,h3,oV,hw,ih,hnl]
def uU (d:List dH):Int:=if d.length=0 then 12 else if 16 < d.length then 13 else oV none d
theorem Zq (d:List dH) (hd:uK d):TT.lim 47 [.l (d.map ent)]=some [.i .i64 (uU d)]:=by
 have h17:TT.lim 48 [.l (d.map ent),.i .i64 d.length,.i .i64 0]=_:=abM d hd d.length 0 (by omega);have hpk:prevK d 0=none:=rfl;rw [hpk,eP] at h17;have w1:=jS (n:=(d.length:Int)) (by omega) (by have:=hd.1;omega);refine aY rfl rfl ?_ rfl;unfold uU;by_cases h0:d.length=0
 ·have h0':(d.length:Int)=0:=by omega
  have:d=[]:=jd h0;subst this;simp [IntKind.wrap,IntKind.signed]
 ·have h0':¬ (d.length:Int)=0:=by omega
  by_cases h1:16 < d.length
  ·have h1':(16:Int) < (d.length:Int):=by omega
   simp [w1,h0,h1,h0',h1']
  ·have h1':¬ (16:Int) < (d.length:Int):=by omega
   by_cases h2:oV none d=0
   ·simp only [tagged,h2,if_true] at h17
    simp [w1,h0,h1,h0',h1',h17,h2]
   ·simp only [tagged,h2,if_false] at h17
    simp [w1,h0,h1,h0',h1',h17]
def uD (r:Row):Int:=if uU r.1≠0 then uU r.1 else if r.2=0 then 18 else 0
theorem af5 (r:Row) (hd:uK r.1):TT.lim 53 [row r]=some [.i .i64 (uD r)]:=by
 have k:=Zq r.1 hd;refine aY rfl rfl ?_ rfl;unfold uD;by_cases h:uU r.1=0
 ·by_cases h2:r.2=0
  ·simp [k,h,h2]
  ·simp [k,h,h2]
 ·simp [k,h]
def pY (long:Bool) (r:Row):Bool:=decide (r.1.length<=18)&&iJ r.1&&(!long || decide ((iF r.1).length<=100))
theorem abO (l:List Row) (hl:Rows l):∀m i:Nat,i+m=l.length->TT.lim 6 [.l (l.map row),.i .i64 l.length,.i .i64 i]=some (if (l.drop i).all (pY (decide (40 < l.length)))=true then [.i .i64 1] else [.i .i64 0])
 | 0,i,hi=>by
   have h0:l.drop i=[]:=gJ (by omega);refine aB rfl rfl ?_;have h:¬ ((i:Int) < l.length):=by omega
   simp [h,h0]
 | m+1,i,hi=>by
   have hlt:i < l.length:=by omega
   have hr:=hl.2 l[i] (jo hlt);have ih:TT.lim 6 [.l (l.map row),.i .i64 l.length,.i .i64 ((i:Int)+1)]=_:=abO l hl m (i+1) (by omega);have hda:(l.drop i).all (pY (decide (40 < l.length)))=(pY (decide (40 < l.length)) l[i]&&(l.drop (i+1)).all (pY (decide (40 < l.length)))):=by rw [jc hlt,rF]
   rw [hda];refine aB rfl rfl ?_;have h:((i:Int) < l.length):=by omega
   have hw:=wrap64 (n:=(i:Int)+1) (by omega) (by have:=hl.1;omega);have h4:=aaw l[i].1 hr.1;by_cases h1:18 < l[i].1.length
   ·have h1':(18:Int) < (l[i].1.length:Int):=by omega
    have:pY (decide (40 < l.length)) l[i]=false:=by unfold pY;simp;omega
    rw [this];simp [h,hlt,h1']
   have h1':¬ (18:Int) < (l[i].1.length:Int):=by omega
   have h1d:l[i].1.length<=18:=by omega
   cases hf:iJ l[i].1 with
   | false=>
     rw [hf] at h4;have:pY (decide (40 < l.length)) l[i]=false:=by unfold pY;simp [hf]
     rw [this];simp [h,hlt,h1',h4]
   | true=>
     rw [hf] at h4;have k6:=O5 l[i].1 hf;by_cases h2:40 < l.length
     ·have h2':(40:Int) < (l.length:Int):=by omega
      by_cases h3:100 < (iF l[i].1).length
      ·have h3':(100:Int) < ((iF l[i].1).length:Int):=by omega
       have:pY (decide (40 < l.length)) l[i]=false:=by unfold pY;simp [h2];omega
       rw [this];simp [h,hlt,h1',h4,h2',k6,h3']
      ·have h3':¬ (100:Int) < ((iF l[i].1).length:Int):=by omega
       have:pY (decide (40 < l.length)) l[i]=true:=by unfold pY;simp [h2,hf,h1d];omega
       rw [this,Jh];simp [h,hlt,h1',h4,h2',k6,h3',hw,ih]
     ·have h2':¬ (40:Int) < (l.length:Int):=by omega
      have:pY (decide (40 < l.length)) l[i]=true:=by unfold pY;simp [h2,hf,h1d]
      rw [this,Jh];simp [h,hlt,h1',h4,h2',hw,ih]
def BG (l:List Row):Bool:=l.all (pY (decide (40 < l.length)))&&decide (l.length<=300)
theorem aiG (l:List Row) (hl:Rows l):TT.lim 5 [.l (l.map row)]=some [.b (BG l)]:=by
 refine aY rfl rfl ?_ rfl;have h3:TT.lim 6 [.l (l.map row),.i .i64 l.length,.i .i64 0]=_:=abO l hl l.length 0 (by omega);rw [eP] at h3;unfold BG;cases hc:l.all (pY (decide (40 < l.length))) with
 | false=>rw [hc] at h3;simp [h3]
 | true=>
   rw [hc] at h3;simp only [if_true] at h3;have:(decide ((l.length:Int)<=300))=decide (l.length<=300):=by rw [pJ];simp;omega
   simp [h3,this]
theorem aiE {l:List Row} (h:BG l=true):∀r∈l,iJ r.1=true:=by
 unfold BG at h;rw [aI] at h;intro r hr;have:=List.all_eq_true.1 h.1 r hr;unfold pY at this;simp only [aI] at this;exact this.1.2
theorem Zx (d:List dH) (h:d.length<=40):TT.lim 111 [.l (d.map ent)]=some [.l (d.map ent)]:=by
 refine IG (Ds:=Ds) (k:=111) (f:=GI 32 2) rfl ?_;have hall:(d.map ent).all (GV.fJ 2)=true:=by
  rw [List.all_eq_true];intro x hx;obtain ⟨r,_,rfl⟩:=mF.1 hx;rfl
 simp only [GI];rw [aj ⟨by rw [vO];omega,hall⟩]
abbrev K (r:Row):List UInt8:=iF r.1
/-- How many rows at the head have lesser keys. -/
def YO (k:List UInt8):List Row->Nat
 | []=>0
 | r::rs=>if Op.bytesLess (K r) k=true then YO k rs+1 else 0
def YZ:List Row->List Row->Bool
 | _,[]=>true
 | t,r::rs=>match t.drop (YO (K r) t) with
   | []=>false
   | s::t'=>decide (K s=K r)&&decide (r.2<=s.2)&&YZ (s::t') rs
theorem ah3 (x y:dH):kX [1,1] [.s x.1,.s x.2] [.s y.1,.s y.2]=some (decide (x=y)):=by
 simp only [kX,gI,LZ];congr 1;rw [pJ];simp [Prod.ext_iff]
theorem abP (d e:List dH) (hl:d.length=e.length) (hb:d.length<=140737488351232):∀m i:Nat,i+m=d.length->
 TT.lim 135 [.l (d.map ent),.l (e.map ent),.i .i64 d.length,.i .i64 i]=some (if d.drop i=e.drop i then [.i .i64 1] else [.i .i64 0])
 | 0,i,hi=>by
   have h0:d.drop i=[]:=gJ (by omega);have h1:e.drop i=[]:=gJ (by omega);refine aB rfl rfl ?_;have h:¬ ((i:Int) < d.length):=by omega
   simp [h,h0,h1]
 | m+1,i,hi=>by
   have hlt:i < d.length:=by omega
   have hlt2:i < e.length:=by omega
   have ih:TT.lim 135 [.l (d.map ent),.l (e.map ent),.i .i64 d.length,.i .i64 ((i:Int)+1)]=_:=abP d e hl hb m (i+1) (by omega);have hd:(d.drop i=e.drop i)↔(d[i]=e[i]/\d.drop (i+1)=e.drop (i+1)):=by
    rw [jc hlt,jc hlt2,FX]
   have hq:=ah3 d[i] e[i];refine aB rfl rfl ?_;have h:((i:Int) < d.length):=by omega
   have hw:=wrap64 (n:=(i:Int)+1) (by omega) (by omega);by_cases h1:d[i]=e[i]
   ·have h2:(d.drop i=e.drop i)↔(d.drop (i+1)=e.drop (i+1)):=by rw [hd];simp [h1]
    have hq':kX [1,1] [.s d[i].1,.s d[i].2] [.s e[i].1,.s e[i].2]=some true:=by rw [hq];simp [h1]
    simp only [h2];simp [h,hlt,hlt2,hq',hw,ih]
   ·have h2:¬ (d.drop i=e.drop i):=by rw [hd];simp [h1]
    have hq':kX [1,1] [.s d[i].1,.s d[i].2] [.s e[i].1,.s e[i].2]=some false:=by rw [hq];simp [h1]
    rw [ah h2];simp [h,hlt,hlt2,hq']
theorem aas (d e:List dH) (hb:d.length<=140737488351232) (hb2:e.length<=140737488351232):TT.lim 134 [.l (d.map ent),.l (e.map ent)]=some [.b (decide (d=e))]:=by
 refine aY rfl rfl ?_ rfl;by_cases hl:d.length=e.length
 ·have hl':(d.length:Int)=(e.length:Int):=by omega
  have h32:TT.lim 135 [.l (d.map ent),.l (e.map ent),.i .i64 d.length,.i .i64 0]=_:=abP d e hl hb d.length 0 (by omega);rw [eP,eP] at h32;by_cases h:d=e
  ·rw [aj h] at h32
   have h':(d=e)=True:=eq_true h;clear h;rw [hl'] at h32;simp [hl',h32,h']
  ·rw [ah h] at h32
   rw [hl'] at h32;simp [hl',h32,h]
 ·have hl':¬ (d.length:Int)=(e.length:Int):=by omega
  have h:¬ d=e:=λh=>hl (by rw [h]);simp [hl',hl,h]
theorem an2 (r s:Row) (hb:r.1.length<=140737488351232) (hb2:s.1.length<=140737488351232):TT.lim 139 [row r,row s]=some [.b (decide (r=s))]:=by
 have k:=aas r.1 s.1 hb hb2;refine aY rfl rfl ?_ rfl;by_cases h:r.2=s.2
 ·have:decide (r=s)=decide (r.1=s.1):=by rw [pJ];simp [Prod.ext_iff,h]
  rw [this];simp [h,k]
 ·have:decide (r=s)=false:=by rw [decide_eq_false_iff_not];intro e;exact h (by rw [e])
  rw [this];simp [h]
theorem abN (a b:List Row) (hl:a.length=b.length) (hb:a.length<=140737488351232) (h1:∀r∈a,r.1.length<=140737488351232) (h2:∀r∈b,r.1.length<=140737488351232):∀m i:Nat,i+m=a.length->
 TT.lim 138 [.l (b.map row),.l (a.map row),.i .i64 a.length,.i .i64 i]=some (if a.drop i=b.drop i then [.i .i64 1] else [.i .i64 0])
 | 0,i,hi=>by
   have h0:a.drop i=[]:=gJ (by omega);have h1:b.drop i=[]:=gJ (by omega);refine aB rfl rfl ?_;have h:¬ ((i:Int) < a.length):=by omega
   simp [h,h0,h1]
 | m+1,i,hi=>by
   have hlt:i < a.length:=by omega
   have hlt2:i < b.length:=by omega
   have ih:TT.lim 138 [.l (b.map row),.l (a.map row),.i .i64 a.length,.i .i64 ((i:Int)+1)]=_:=abN a b hl hb h1 h2 m (i+1) (by omega);have hd:(a.drop i=b.drop i)↔(a[i]=b[i]/\a.drop (i+1)=b.drop (i+1)):=by
    rw [jc hlt,jc hlt2,FX]
   have k:=an2 a[i] b[i] (h1 _ (jo hlt)) (h2 _ (jo hlt2));have r1:GV.g [.l (a[i].1.map ent),.i .u64 a[i].2]=row a[i]:=rfl;have r2:GV.g [.l (b[i].1.map ent),.i .u64 b[i].2]=row b[i]:=rfl;refine aB rfl rfl ?_;have h:((i:Int) < a.length):=by omega
   have hw:=wrap64 (n:=(i:Int)+1) (by omega) (by omega);by_cases h3:a[i]=b[i]
   ·have h4:(a.drop i=b.drop i)↔(a.drop (i+1)=b.drop (i+1)):=by rw [hd];simp [h3]
    simp only [h4];have k':TT.lim 139 [row a[i],row b[i]]=some [.b true]:=by rw [k];simp [h3]
    simp [h,hlt,hlt2,r1,r2,k',hw,ih]
   ·have h4:¬ (a.drop i=b.drop i):=by rw [hd];simp [h3]
    rw [ah h4];have k':TT.lim 139 [row a[i],row b[i]]=some [.b false]:=by rw [k];simp [h3]
    simp [h,hlt,hlt2,r1,r2,k']
theorem aoV (a b:List Row) (hb:a.length<=140737488351232) (hb2:b.length<=140737488351232) (h1:∀r∈a,r.1.length<=140737488351232) (h2:∀r∈b,r.1.length<=140737488351232):TT.lim 136 [.l (a.map row),.l (b.map row)]=some [.b (decide (a=b))]:=by
 have h28:TT.lim 137 [.l (a.map row),.l (b.map row)]=some [.b (decide (a=b))]:=by
  refine aY rfl rfl ?_ rfl;by_cases hl:a.length=b.length
  ·have hl':(a.length:Int)=(b.length:Int):=by omega
   have Hu:TT.lim 138 [.l (b.map row),.l (a.map row),.i .i64 a.length,.i .i64 0]=_:=abN a b hl hb h1 h2 a.length 0 (by omega);rw [eP,eP] at Hu;rw [hl'] at Hu;by_cases h:a=b
   ·rw [aj h] at Hu
    have h':(a=b)=True:=eq_true h;clear h;simp [hl',Hu,h']
   ·rw [ah h] at Hu
    simp [hl',Hu,h]
  ·have hl':¬ (a.length:Int)=(b.length:Int):=by omega
   have h:¬ a=b:=λh=>hl (by rw [h]);simp [hl',hl,h]
 refine aY rfl rfl ?_ rfl;simp [h28]
theorem Ny (a b:List UInt8):Op.bytesLess a b=true↔a < b:=by rw [Gv];simp
/-- Rows whose keys rise. -/
def AU (l:List Row):Prop:=l.Pairwise λa b=>K a < K b
theorem ah2 {cs:List GV} {r0:List GV} (h:bT.iw [.list true [.str,.str],.int .u64] cs):∃r:Row,(uK r.1/\0<=r.2/\r.2 < 18446744073709551616)/\GV.g cs=row r:=by
 obtain ⟨g,l,rfl,h1,h⟩:=iE h;obtain ⟨n,l,rfl,h2,h⟩:=iE h;obtain rfl:=Ku h;obtain ⟨n,rfl,n1,n2⟩:=oZ h2;obtain ⟨xs,rfl,h3,h4⟩:=OT h1;obtain ⟨d,hd,rfl⟩:∃d:List dH,(∀x∈d,x.1.length<=140737488351232/\x.2.length<=140737488351232)/\xs=d.map ent:=KL λx hx=>by
  obtain ⟨k1,k2⟩:=h4 x hx;cases x<;>simp [GV.scalar] at k2
  obtain ⟨a,l,e1,a1,k1⟩:=iE k1;obtain ⟨b,l,rfl,b1,k1⟩:=iE k1;obtain rfl:=Ku k1;obtain ⟨s,rfl,s1⟩:=BL a1;obtain ⟨u,rfl,u1⟩:=BL b1;simp only [SQ] at e1;subst e1;exact ⟨(s,u),⟨Nat.le_trans s1 (by decide),iV u1 (by decide)⟩,rfl⟩
 exact ⟨(d,n),⟨⟨by have:=iV h3 (by decide:reachBytes<=140737488351232);simpa using this,hd⟩,n1,n2⟩,rfl⟩
theorem an3 {g:GV} (h:(bT.list true [.list true [.str,.str],.int .u64]).has g):∃l:List Row,Rows l/\g=.l (l.map row):=by
 obtain ⟨xs,rfl,h1,h2⟩:=OT h;obtain ⟨l,hl,rfl⟩:∃l:List Row,(∀r∈l,uK r.1/\0<=r.2/\r.2 < 18446744073709551616)/\xs=l.map row:=KL λx hx=>by
  obtain ⟨k1,k2⟩:=h2 x hx;cases x<;>simp [GV.scalar] at k2
  obtain ⟨r,hr,e⟩:=ah2 (r0:=[]) k1;exact ⟨r,hr,e⟩
 exact ⟨l,⟨by have:=iV h1 (by decide:reachBytes<=140737488351232);simpa using this,hl⟩,rfl⟩
def qP:Option (List UInt8)->List Row->Int
 | _,[]=>0
 | p,r::rs=>if uD r≠0 then uD r else match p with
   | none=>qP (some (K r)) rs
   | some k=>if K r=k then 14 else if Op.bytesLess (K r) k=true then 7 else qP (some (K r)) rs
theorem abQ (t:List Row) (ht:Rows t) (hf:∀r∈t,iJ r.1=true):∀ (m i:Nat) (p:List UInt8),i+m=t.length->
 TT.lim 52 [.s p,.l (t.map row),.i .i64 t.length,.i .i64 i]=some (tagged (qP (if i=0 then none else some p) (t.drop i)))
 | 0,i,p,hi=>by
   have h0:t.drop i=[]:=gJ (by omega);refine aB rfl rfl ?_;have h:¬ ((i:Int) < t.length):=by omega
   simp [h,h0,qP,tagged]
 | m+1,i,p,hi=>by
   have hlt:i < t.length:=by omega
   have hr:=ht.2 t[i] (jo hlt);have k15:=af5 t[i] hr.1;have k6:=O5 t[i].1 (hf _ (jo hlt));have hrow:GV.g [.l (t[i].1.map ent),.i .u64 t[i].2]=row t[i]:=rfl;have ih:TT.lim 52 [.s (iF t[i].1),.l (t.map row),.i .i64 t.length,.i .i64 ((i:Int)+1)]=_:=abQ t ht hf m (i+1) (iF t[i].1) (by omega);rw [ah (by omega)] at ih;rw [jc hlt];refine aB rfl rfl ?_;have h:((i:Int) < t.length):=by omega
   have hw:=wrap64 (n:=(i:Int)+1) (by omega) (by have:=ht.1;omega);by_cases h1:uD t[i]=0;rotate_left
   ·simp [-List.getElem_cons_drop,h,hlt,hrow,k15,h1,qP,tagged]
   by_cases h0:i=0
   ·subst h0
    simp only [zf,Yd] at hw ih;simp [-List.getElem_cons_drop,h,hlt,hrow,k15,h1,k6,hw,qP];have hn:(0:Int) < (t.length:Int):=by omega
    simpa using ih
   ·have hi0:0 < i:=by omega
    by_cases h2:iF t[i].1=p
    ·have h2':(iF t[i].1=p)=True:=eq_true h2
     clear h2;simp [-List.getElem_cons_drop,h,hlt,hrow,k15,h1,k6,hi0,h0,h2',qP,tagged]
    ·cases h3:Op.bytesLess (iF t[i].1) p with
     | true=>simp [-List.getElem_cons_drop,h,hlt,hrow,k15,h1,k6,hi0,h0,h2,h3,qP,tagged]
     | false=>simp [-List.getElem_cons_drop,h,hlt,hrow,k15,h1,k6,hi0,h0,h2,h3,hw,ih,qP]
def vY (t:List Row):Int:=if 256 < t.length then 13 else qP none t
theorem Zr (t:List Row) (ht:Rows t) (hf:∀r∈t,iJ r.1=true):TT.lim 51 [.l (t.map row)]=some [.i .i64 (vY t)]:=by
 have h38:TT.lim 52 [.s [],.l (t.map row),.i .i64 t.length,.i .i64 0]=_:=abQ t ht hf t.length 0 [] (by omega);rw [aj rfl,eP] at h38;refine aY rfl rfl ?_ rfl;unfold vY;by_cases h1:256 < t.length
 ·have h1':(256:Int) < (t.length:Int):=by omega
  simp [h1,h1']
 ·have h1':¬ (256:Int) < (t.length:Int):=by omega
  by_cases h2:qP none t=0
  ·simp only [tagged,h2,if_true] at h38
   simp [h1,h1',h38,h2]
  ·simp only [tagged,h2,if_false] at h38
   simp [h1,h1',h38,h2]
theorem Zw:∀ {t:List Row} (p:Option (List UInt8)),AU t->(∀r∈t,uD r=0)->(∀k,p=some k->∀r∈t,k < K r)->qP p t=0
 | [],p,_,_,_=>by cases p<;>rfl
 | r::t,p,ht,hc,hp=>by
   have ht':=pV.1 ht;have ih:=Zw (t:=t) (some (K r)) ht'.2 (λx hx=>hc x (by simp [hx])) (λk hk x hx=>by cases hk;exact ht'.1 x hx);unfold qP;rw [ah (by simp [hc r (by simp)])];cases p with
   | none=>exact ih
   | some k=>
     have hk:=hp k rfl r (by simp);have h1:¬ K r=k:=λe=>by rw [e] at hk;exact RI _ hk
     have h2:¬ Op.bytesLess (K r) k=true:=λe=>RI _ (RJ hk ((Ny _ _).1 e));simp only;rw [ah h1,ah h2];exact ih
theorem Rows.perm {l m:List Row} (h:l.Perm m) (hl:Rows l):Rows m:=⟨by rw [<- h.length_eq];exact hl.1,λr hr=>hl.2 r (h.mem_iff.2 hr)⟩
def Pos (t:List Row):Prop:=∀r∈t,0 < r.2/\r.2 < 18446744073709551616
def PN:List Row->List Row->Option (List Row)
 | [],b=>some b
 | x::a,[]=>some (x::a)
 | x::a,y::b=>
   if K x < K y then (PN a (y::b)).map (x::·)
   else if K y < K x then (PN (x::a) b).map (y::·)
   else if x.2+y.2 < 18446744073709551616 then (PN a b).map ((x.1,x.2+y.2)::·) else none
termination_by a b=>a.length+b.length
theorem TQ {d:List dH} (h:iJ d=true):d.length<=40:=by
 unfold iJ at h;simp at h;omega
def FP (t:List Row):Prop:=∀r∈t,iJ r.1=true
def Ok (t:List Row):Prop:=t.length<=256/\AU t/\∀r∈t,uD r=0
theorem Zv:∀ {t:List Row} (p:Option (List UInt8)),qP p t=0->AU t/\(∀r∈t,uD r=0)/\∀k,p=some k->∀r∈t,k < K r
 | [],p,_=>⟨List.Pairwise.nil,by simp,by simp⟩
 | r::t,p,h=>by
   unfold qP at h;by_cases h1:uD r=0;rotate_left
   ·rw [aj h1] at h;exact absurd h h1
   rw [ah (by simp [h1])] at h;have main:∀ (h:qP (some (K r)) t=0),AU (r::t)/\∀x∈r::t,uD x=0:=by
    intro h;obtain ⟨i1,i2,i3⟩:=Zv (some (K r)) h;refine ⟨List.Pairwise.cons (i3 _ rfl) i1,λx hx=>?_⟩;rcases dh.1 hx with rfl | hx
    ·exact h1
    ·exact i2 x hx
   cases p with
   | none=>exact ⟨(main h).1,(main h).2,by simp⟩
   | some k=>
     simp only at h;split at h
     ·cases h
     next h2=>
     split at h
     ·cases h
     next h3=>
     refine ⟨(main h).1,(main h).2, ?_⟩;rintro _ ⟨⟩ x hx
     have hk:k < K r:=by
      rcases List.le_iff_lt_or_eq.1 (List.not_lt.1 λe=>h3 ((Ny _ _).2 e)) with e | e
      ·exact e
      ·exact absurd e.symm h2
     rcases dh.1 hx with rfl | hx
     ·exact hk
     ·exact RJ hk ((pV.1 (main h).1).1 x hx)
theorem SV (t:List Row):vY t=0↔Ok t:=by
 unfold vY Ok;constructor
 ·intro h
  split at h
  ·cases h
  ·obtain ⟨h1,h2,_⟩:=Zv none h
   exact ⟨by omega,h1,h2⟩
 ·rintro ⟨h1,h2,h3⟩
  rw [ah (by omega)];exact Zw none h2 h3 (by simp)
theorem WX (r:Row):uD r=0↔uU r.1=0/\r.2≠0:=by
 unfold uD;by_cases h:uU r.1=0
 ·simp [h]
 ·simp [h]
structure Tb (t:List Row):Prop where
 ok:Ok t
 rows:Rows t
 few:FP t
theorem Tb.pos {t:List Row} (h:Tb t):Pos t:=λr hr=>by
 have h1:=((WX r).1 (h.ok.2.2 r hr)).2;have h2:=(h.rows.2 r hr).2;omega
theorem Tb.rise {t:List Row} (h:Tb t):AU t:=h.ok.2.1
theorem aqi:Tb []:=⟨⟨by simp,List.Pairwise.nil,by simp⟩,⟨by simp,by simp⟩,λr hr=>by simp at hr⟩
def tog (a b:List Row):List Row×Int:=match PN a b with
 | none=>([],3)
 | some m=>if 256 < m.length then ([],13) else (m,0)
structure oh (t:List Row):Prop where
 len:t.length<=300
 few:FP t
 rows:Rows t
theorem Tb.good {t:List Row} (h:Tb t):oh t:=⟨Nat.le_trans h.ok.1 (by decide),h.few,h.rows⟩
abbrev Dl:=Int×Int×List Row
def Zu (d:Dl):Int:=if d.2.1<=d.1 then 20 else vY d.2.2
theorem oh.tb {t:List Row} (h:oh t) (ho:Ok t):Tb t:=⟨ho,h.rows,h.few⟩
theorem aji {l:List Row} (hl:Rows l) (h:BG l=true):oh l:=by
 refine ⟨?_,λr hr=>aiE h r hr,hl⟩;unfold BG at h;rw [aI,decide_eq_true_iff] at h;exact h.2
theorem aoZ (a b:List Row) (ha:oh a) (hb:oh b):TT.lim 136 [.l (a.map row),.l (b.map row)]=some [.b (decide (a=b))]:=
 aoV a b (by have:=ha.len;omega) (by have:=hb.len;omega) (λr hr=>(ha.rows.2 r hr).1.1) (λr hr=>(hb.rows.2 r hr).1.1)
abbrev Sn:=Int×List Row
def sn (s:Sn):GV:=.g [.i .u64 s.1,.l (s.2.map row)]
@[simp] theorem atZ (s:Sn):(sn s).cells=[.i .u64 s.1,.l (s.2.map row)]:=rfl
@[simp] theorem at1 (s:Sn):(sn s).scalar=false:=rfl
def zS:Sn:=(0,[])
def afz (s:Sn) (d:Dl):Sn×Int:=
 if vY s.2≠0 then (zS,vY s.2) else if Zu d≠0 then (zS,Zu d) else if s.1≠d.1 then (zS,19)
 else if (tog s.2 d.2.2).2≠0 then (zS,(tog s.2 d.2.2).2) else ((d.2.1,(tog s.2 d.2.2).1),0)
def vX (p x:List UInt8):Int:=if x=p then 14 else if Op.bytesLess x p=true then 7 else 0
theorem KG {d:List dH} (hf:iJ d=true):(iF d).length<=30000:=by
 unfold iJ at hf;rw [aI,decide_eq_true_iff] at hf;have l1:=lD (n:=d.length) (by omega);have:=TU d hf.1;unfold iF;simp only [dS];omega
def common:List UInt8->List UInt8->Nat
 | a::x,b::y=>if a=b then common x y+1 else 0
 | _,_=>0
theorem Tc (b:List UInt8):common [] b=0:=by unfold common;rfl
theorem agp (a:List UInt8):common a []=0:=by cases a<;>rfl
theorem NT:∀a b:List UInt8,common a b<=a.length/\common a b<=b.length
 | [],b=>by simp [common]
 | _::_,[]=>by simp [common]
 | a::x,b::y=>by
   unfold common;have:=NT x y;split
   ·simp only [iT];omega
   ·omega
theorem ZH:∀a b:List UInt8,a.take (common a b)=b.take (common a b)
 | [],b=>by simp [common]
 | _::_,[]=>by simp [common]
 | a::x,b::y=>by
   unfold common;split
   ·next e=>subst e;rw [wP,wP,ZH x y]
   ·simp
theorem ZF (a b:List UInt8) (ha:a.length<=140737488351232) (hb:b.length<=140737488351232):∀m i:Nat,i+m=a.length->TT.lim 81 [.s a,.s b,.i .i64 i]=some [.i .i64 0,.i .i64 ((i+common (a.drop i) (b.drop i):Nat):Int)]
 | 0,i,hi=>by
   have h0:a.drop i=[]:=gJ (by omega);have h:¬ ((i:Int) < a.length):=by omega
   refine aB rfl rfl ?_;simp [h,h0,Tc]
 | m+1,i,hi=>by
   have hlt:i < a.length:=by omega
   have h:((i:Int) < a.length):=by omega
   by_cases hlb:i < b.length;rotate_left
   ·have h0:b.drop i=[]:=gJ (by omega)
    have h1:¬ ((i:Int) < b.length):=by omega
    refine aB rfl rfl ?_;simp [h,h0,h1,agp]
   have hb1:((i:Int) < b.length):=by omega
   have ih:TT.lim 81 [.s a,.s b,.i .i64 ((i:Int)+1)]=_:=ZF a b ha hb m (i+1) (by omega);have hw:=wrap64 (n:=(i:Int)+1) (by omega) (by omega);rw [jc hlt,jc hlb];unfold common;by_cases e:a[i]=b[i]
   ·rw [aj e]
    have e':((a[i].toNat:Int)=(b[i].toNat:Int))=True:=eq_true (by rw [e]);have e2:((i+(common (a.drop (i+1)) (b.drop (i+1))+1):Nat):Int)=((i+1+common (a.drop (i+1)) (b.drop (i+1)):Nat):Int):=by omega
    rw [e2];refine aB rfl rfl ?_;simp [h,hlt,hlb,hb1,e',hw,ih]
   ·rw [ah e]
    have e':¬ (a[i].toNat:Int)=(b[i].toNat:Int):=λh=>e (YH.1 (by omega));refine aB rfl rfl ?_;simp [h,hlt,hlb,hb1,e']
theorem S9 (a b:List UInt8) (ha:a.length<=140737488351232) (hb:b.length<=140737488351232):TT.lim 80 [.s a,.s b]=some [.i .i64 (common a b)]:=by
 have k:TT.lim 81 [.s a,.s b,.i .i64 0]=_:=ZF a b ha hb a.length 0 (by omega);rw [eP,eP,jr] at k;refine aY rfl rfl ?_ rfl;simp [k]
/-- A text behind another one, as it is written. -/
def oJ (a s:List UInt8):List UInt8:=aJ (common a s)++aJ (s.length - common a s)++s.drop (common a s)
theorem amc (a s:List UInt8) (ha:a.length<=100000000) (hs:s.length<=100000000):TT.lim 79 [.s a,.s s]=some [.s (oJ a s)]:=by
 have k:=S9 a s (by omega) (by omega);have hl:=NT a s;have p1:=vk (common a s) (by omega);have p2:=vk (s.length - common a s) (by omega);have l1:=lD (n:=common a s) (by omega);have l2:=lD (n:=s.length - common a s) (by omega);have w1:=jS (n:=(common a s:Int)) (by omega) (by omega);have w2:=jS (n:=(s.length:Int) - (common a s:Int)) (by omega) (by omega);have w3:=wrap64 (n:=(s.length:Int) - (common a s:Int)) (by omega) (by omega);have e2:(s.length:Int) - (common a s:Int)=((s.length - common a s:Nat):Int):=by omega
 rw [e2] at w2 w3;refine aY rfl rfl ?_ rfl;unfold oJ;generalize common a s=c at *;have h1:((aJ c).length:Int)+((aJ (s.length - c)).length:Int)<=9223372036854775807:=by omega
 have h2:((aJ c).length:Int)+((aJ (s.length - c)).length:Int)+((s.length:Int) - (c:Int))<=9223372036854775807:=by omega
 have h3:(c:Int)<=s.length:=by omega
 have h4:((s.length - c:Nat):Int)=(s.length:Int) - c:=by omega
 have hd:(s.take s.length).drop c=s.drop c:=by rw [xU]
 rw [<- e2] at w2 w3;rw [<- e2] at p2;simp [k,p1,p2,w1,w2,w3,h1,h2,h3,h4,hd]
def kG:List UInt8->Nat
 | []=>0
 | b::r=>b.toNat % 128+128 * kG r
def lC:Nat->List UInt8->Option Nat
 | 0,_=>none
 | _+1,[]=>none
 | n+1,b::r=>if b.toNat < 128 then some 1 else (lC n r).map (· + 1)
def qG (k:Nat) (b:Nat):Int:=if k=10/\1 < b then 3 else if 1 < k/\b=0 then 2 else 0
/-- The number that a text begins with, in how many bytes, or why there is none. -/
def ak (s:List UInt8):Nat×Nat×Int:=match lC 10 s with
 | none=>(0,0,if 10<=s.length then 3 else 1)
 | some k=>if qG k (s.getD (k - 1) 0).toNat≠0 then (0,0,qG k (s.getD (k - 1) 0).toNat) else (kG (s.take k),k,0)
theorem Ri:∀ {n:Nat} {s:List UInt8} {k:Nat},lC n s=some k->1<=k/\k<=n/\k<=s.length/\(s.getD (k - 1) 0).toNat < 128
 | 0,s,k,h=>by simp [lC] at h
 | n+1,[],k,h=>by simp [lC] at h
 | n+1,b::r,k,h=>by
   unfold lC at h;split at h
   ·next hb=>cases h;simpa using hb
   ·obtain ⟨j,hj,rfl⟩:=aW.1 h
    obtain ⟨h1,h2,h3,h4⟩:=Ri hj;obtain ⟨i,rfl⟩:∃i,j=i+1:=⟨j - 1,by omega⟩
    refine ⟨by omega,by omega,by simp;omega, ?_⟩;simpa using h4
theorem aeQ:∀ (s:List UInt8),kG s < 128 ^ s.length
 | []=>by simp [kG]
 | b::r=>by
   have:=aeQ r;simp only [kG,iT,Dn];omega
theorem adV (b i:Nat) (hb:b < 128) (hi:i<=9) (h9:i=9->b<=1):jI .shl .u64 (b:Int) ((7 * i:Nat):Int)=some (.i .u64 ((b * 128 ^ i:Nat):Int)):=by
 have e:min ((7 * i:Nat):Int).toNat 64=7 * i:=by simp;omega
 have e2:(2:Int) ^ (7 * i)=((128 ^ i:Nat):Int):=by rw [Int.pow_mul];simp
 have hlt:b * 128 ^ i < 18446744073709551616:=by
  rcases wQ i 9 with h | h
  ·have:(128:Nat) ^ i<=128 ^ 8:=Jt (by omega) (by omega)
   have h2:b * 128 ^ i<=127 * 128 ^ 8:=Nat.mul_le_mul (by omega) this;omega
  ·have hi9:i=9:=by omega
   subst hi9;have:=h9 rfl;omega
 unfold jI;rw [ah (by omega)];show some (GV.i .u64 (IntKind.u64.wrap ((b:Int) * 2 ^ (min ((7 * i:Nat):Int).toNat 64))))=_
 rw [e,e2,<- Int.natCast_mul,jS (by omega) (by omega)]
theorem orI (a c i:Nat) (ha:a < 2 ^ i) (h:a+c * 2 ^ i < 18446744073709551616):bU .or .u64 (a:Int) ((c * 2 ^ i:Nat):Int)=some (.i .u64 ((a+c * 2 ^ i:Nat):Int)):=by
 have h1:((BitVec.ofInt 64 (a:Int) ||| BitVec.ofInt 64 ((c * 2 ^ i:Nat):Int)).toNat:Nat)=a+c * 2 ^ i:=by
  rw [Ry,qH,qH];generalize hC:c * 2 ^ i=C at *;have e1:((a:Int) % ((2 ^ 64:Nat):Int)).toNat=a:=by omega
  have e2:((C:Int) % ((2 ^ 64:Nat):Int)).toNat=C:=by omega
  rw [e1,e2,<- hC,Nat.or_comm,zh,F6];exact (afg ha c).symm
 show some (GV.i .u64 (IntKind.u64.wrap (((BitVec.ofInt 64 (a:Int) ||| BitVec.ofInt 64 ((c * 2 ^ i:Nat):Int)).toNat:Nat):Int)))=_
 rw [h1,jS (by omega) (by omega)]
theorem Iw (i:Nat):128 ^ i=2 ^ (7 * i):=by rw [Nat.pow_mul]
/-- Some number, whichever. -/
theorem adW (a b:Int) (hb:0<=b):∃r,jI .shl .u64 a b=some (.i .u64 r):=by
 unfold jI;rw [ah (by omega)];exact ⟨_,rfl⟩
theorem or_some (a b:Int):∃r,bU .or .u64 a b=some (.i .u64 r):=⟨_,rfl⟩
def zL (s:List UInt8) (acc:Int) (i:Nat):List GV:=match lC (10 - i) (s.drop i) with
 | none=>[.i .i64 1,.s s]
 | some k=>if qG (i+k) (s.getD (i+k - 1) 0).toNat≠0 then [.i .i64 0,.i .u64 0,.i .i64 0,.i .i64 (qG (i+k) (s.getD (i+k - 1) 0).toNat)]
   else [.i .i64 0,.i .u64 (acc+((128 ^ i * kG ((s.drop i).take k):Nat):Int)),.i .i64 ((i+k:Nat):Int),.i .i64 0]
theorem getLoop (s:List UInt8) (hs:s.length<=140737488351232):∀ (m i:Nat) (acc:Int),i+m=min s.length 10->(i<=9->0<=acc/\acc < ((128 ^ i:Nat):Int))->
 TT.lim 93 [.s s,.i .u64 acc,.i .i64 ((min s.length 10:Nat):Int),.i .i64 i]=some (zL s acc i)
 | 0,i,acc,hi,ha=>by
   have h:¬ ((i:Int) < ((min s.length 10:Nat):Int)):=by omega
   have hv:lC (10 - i) (s.drop i)=none:=by
    rcases wQ i 10 with h1 | h1
    ·have:s.drop i=[]:=gJ (by omega)
     rw [this];obtain ⟨j,hj⟩:∃j,10 - i=j+1:=⟨10 - i - 1,by omega⟩
     rw [hj];rfl
    ·have:10 - i=0:=by omega
     rw [this];unfold lC;rfl
   unfold zL;rw [hv];generalize ((min s.length 10:Nat):Int)=M at *;refine aB rfl rfl ?_;simp [h]
 | m+1,i,acc,hi,ha=>by
   have hlt:i < s.length:=by omega
   have h9:i<=9:=by omega
   have h:((i:Int) < ((min s.length 10:Nat):Int)):=by omega
   obtain ⟨a1,a2⟩:=ha h9;obtain ⟨n,rfl⟩:∃n:Nat,acc=n:=⟨acc.toNat,by omega⟩
   have hb:=(s[i]).toNat_lt;have k7:=Nq (s[i]).toNat (by omega);have w8:=jS (n:=(((s[i]).toNat % 128:Nat):Int)) (by omega) (by omega);have wi:=wrap64 (n:=7 * (i:Int)) (by omega) (by omega);have wj:=wrap64 (n:=(i:Int)+1) (by omega) (by omega);have hd:s.drop i=s[i]::s.drop (i+1):=jc hlt;obtain ⟨j,hj⟩:∃j,10 - i=j+1:=⟨10 - i - 1,by omega⟩
   have hj':10 - (i+1)=j:=by omega
   have e7:(7 * (i:Int))=((7 * i:Nat):Int):=by omega
   have hgd:s.getD i 0=s[i]:=by simp [List.getD,hlt]
   by_cases hc:128<=(s[i]).toNat
   ·-- another one follows
    have hc':((128:Int)<=((s[i]).toNat:Int)):=by omega
    have step:∃V:Int,(i+1<=9->0<=V/\V < ((128 ^ (i+1):Nat):Int)/\V=n+(((s[i]).toNat % 128 * 128 ^ i:Nat):Int))/\(∃S,jI .shl .u64 ((((s[i]).toNat % 128:Nat)):Int) (7 * (i:Int))=some (.i .u64 S)/\bU .or .u64 (n:Int) S=some (.i .u64 V)):=by
     rcases wQ i 9 with h1 | h1
     ·have k1:=adV ((s[i]).toNat % 128) i (by omega) (by omega) (by omega)
      have hp:(s[i]).toNat % 128 * 128 ^ i<=127 * 128 ^ i:=qL _ (by omega);have hpp:128 ^ (i+1)=128 * 128 ^ i:=by rw [Dn,zh]
      have hq:(128:Nat) ^ i<=128 ^ 8:=Jt (by omega) (by omega);have k2:=orI n ((s[i]).toNat % 128) (7 * i) (by rw [<- Iw];omega) (by rw [<- Iw];omega);rw [<- Iw] at k2;refine ⟨_,λ_=>⟨by omega, ?_,rfl⟩,_,by rw [e7];exact k1,by rw [k2];simp⟩;rw [hpp];omega
     ·obtain ⟨S,hS⟩:=adW ((((s[i]).toNat % 128:Nat)):Int) (7 * (i:Int)) (by omega)
      obtain ⟨V,hV⟩:=or_some (n:Int) S;exact ⟨V,λh=>by omega,S,hS,hV⟩
    obtain ⟨V,hV,S,hS,hO⟩:=step;have ih:TT.lim 93 [.s s,.i .u64 V,.i .i64 ((min s.length 10:Nat):Int),.i .i64 ((i:Int)+1)]=_:=getLoop s hs m (i+1) V (by omega) (λh=>⟨(hV h).1,(hV h).2.1⟩);have hout:zL s n i=zL s V (i+1):=by
     unfold zL;rw [hd,hj,hj'];have hv:lC (j+1) (s[i]::s.drop (i+1))=(lC j (s.drop (i+1))).map (· + 1):=by
      show (if (s[i]).toNat < 128 then _ else _)=_
      rw [ah (by omega)]
     rw [hv];cases hx:lC j (s.drop (i+1)) with
     | none=>rfl
     | some k=>
       obtain ⟨q1,q2,_,_⟩:=Ri hx;have hV':=hV (by omega);have e1:i+(k+1)=i+1+k:=by omega
       simp only [gI,e1];split
       ·rfl
       ·have e2:(n:Int)+((128 ^ i * kG ((s[i]::s.drop (i+1)).take (k+1)):Nat):Int)=V+((128 ^ (i+1) * kG ((s.drop (i+1)).take k):Nat):Int):=by
         rw [hV'.2.2,wP];have:128 ^ i * kG (s[i]::(s.drop (i+1)).take k)=(s[i]).toNat % 128 * 128 ^ i+128 ^ (i+1) * kG ((s.drop (i+1)).take k):=by
          show 128 ^ i * ((s[i]).toNat % 128+128 * kG _)=_
          rw [Nat.mul_add,Dn,RV,zh (128 ^ i) ((s[i]).toNat % 128)]
         rw [this];omega
        rw [e2]
    rw [hout];generalize zL s V (i+1)=O at *;generalize ((min s.length 10:Nat):Int)=M at *;have em:(((s[i]).toNat % 128:Nat):Int)=((s[i]).toNat:Int) % 128:=by omega
    rw [em] at k7 w8 hS;refine aB rfl rfl ?_;simp [h,hlt,hc',k7,w8,wi,wj,hS,hO,ih]
   ·-- the last one
    have hc':¬ ((128:Int)<=((s[i]).toNat:Int)):=by omega
    have hv:lC (j+1) (s[i]::s.drop (i+1))=some 1:=by
     show (if (s[i]).toNat < 128 then _ else _)=_
     rw [aj (by omega)]
    have hout:zL s n i=if qG (i+1) (s[i]).toNat≠0 then [.i .i64 0,.i .u64 0,.i .i64 0,.i .i64 (qG (i+1) (s[i]).toNat)] else [.i .i64 0,.i .u64 ((n+(s[i]).toNat * 128 ^ i:Nat):Int),.i .i64 ((i:Int)+1),.i .i64 0]:=by
     unfold zL;rw [hd,hj,hv];have e1:i+1 - 1=i:=by omega
     have e2:128 ^ i * kG ((s[i]::s.drop (i+1)).take 1)=(s[i]).toNat * 128 ^ i:=by
      simp only [wP,F5,kG];rw [MG (by omega),zh];simp
     simp only [e1,hgd,e2];congr 1
    rw [hout];have step:∃S V,jI .shl .u64 ((((s[i]).toNat % 128:Nat)):Int) (7 * (i:Int))=some (.i .u64 S)/\bU .or .u64 (n:Int) S=some (.i .u64 V)/\(qG (i+1) (s[i]).toNat=0->V=((n+(s[i]).toNat * 128 ^ i:Nat):Int)):=by
     by_cases hbad:i=9/\1 < (s[i]).toNat
     ·obtain ⟨S,hS⟩:=adW ((((s[i]).toNat % 128:Nat)):Int) (7 * (i:Int)) (by omega)
      obtain ⟨V,hV⟩:=or_some (n:Int) S;refine ⟨S,V,hS,hV,λh=>?_⟩;unfold qG at h;rw [aj (by omega)] at h;cases h
     ·have k1:=adV ((s[i]).toNat % 128) i (by omega) (by omega) (by omega)
      have em:(s[i]).toNat % 128=(s[i]).toNat:=MG (by omega);rw [em] at k1;have hp:(s[i]).toNat * 128 ^ i<=127 * 128 ^ i:=qL _ (by omega);have hb64:n+(s[i]).toNat * 128 ^ i < 18446744073709551616:=by
       rcases wQ i 9 with h1 | h1
       ·have hq:(128:Nat) ^ i<=128 ^ 8:=Jt (by omega) (by omega)
        omega
       ·have hi9:i=9:=by omega
        have h1:(s[i]).toNat<=1:=by omega
        have hq:(128:Nat) ^ i=128 ^ 9:=by rw [hi9]
        have hp2:(s[i]).toNat * 128 ^ i<=1 * 128 ^ i:=qL _ h1;omega
      have k2:=orI n (s[i]).toNat (7 * i) (by rw [<- Iw];omega) (by rw [<- Iw];omega);rw [<- Iw] at k2;exact ⟨_,_,by rw [e7,em];exact k1,k2,λ_=>rfl⟩
    obtain ⟨S,V,hS,hO,hV⟩:=step;generalize ((n+(s[i]).toNat * 128 ^ i:Nat):Int)=R at *;generalize ((min s.length 10:Nat):Int)=M at *;have bd:qG (i+1) (s[i]).toNat=if (i:Int)=9/\(1:Int) < ((s[i]).toNat:Int) then 3 else if (0:Int) < (i:Int)/\((s[i]).toNat:Int)=0 then 2 else 0:=by
     unfold qG;congr 1
     ·apply propext;omega
     ·congr 1
      apply propext;omega
    rw [bd] at hV ⊢;have em:(((s[i]).toNat % 128:Nat):Int)=((s[i]).toNat:Int) % 128:=by omega
    rw [em] at k7 w8 hS;refine aB rfl rfl ?_
    rcases (RD ((i:Int)=9)).imp eq_true eq_false with q1 | q1<;>rcases (RD ((1:Int) < ((s[i]).toNat:Int))).imp eq_true eq_false with q2 | q2<;>
     rcases (RD ((0:Int) < (i:Int))).imp eq_true eq_false with q3 | q3<;>rcases (RD (((s[i]).toNat:Int)=0)).imp eq_true eq_false with q4 | q4
    all_goals
     have q3n:(0 < i)=((0:Int) < (i:Int)):=propext (by omega);have q4n:((s[i]).toNat=0)=(((s[i]).toNat:Int)=0):=propext (by omega);rw [q3] at q3n;rw [q4] at q4n;simp only [q1,q2,q3,q4,and_self,and_true,and_false,false_and,true_and,if_true,if_false] at hV ⊢;first
     | (have hV:=hV trivial;subst hV)
     | skip
     simp [h,hlt,hc',k7,w8,wi,wj,hS,hO,q1,q2,q3,q4,q3n,q4n]
theorem qW (s:List UInt8) (hs:s.length<=140737488351232):TT.lim 92 [.s s]=some [.i .u64 ((ak s).1:Nat),.i .i64 ((ak s).2.1:Nat),.i .i64 (ak s).2.2]:=by
 have k:TT.lim 93 [.s s,.i .u64 0,.i .i64 ((min s.length 10:Nat):Int),.i .i64 0]=_:=getLoop s hs (min s.length 10) 0 0 (by omega) (by simp);have hm:(if (10:Int) < (s.length:Int) then (10:Int) else (s.length:Int))=((min s.length 10:Nat):Int):=by split<;>omega
 unfold zL at k;rw [eP,Dp] at k;unfold ak;generalize ((min s.length 10:Nat):Int)=M at *;refine aY rfl rfl ?_ rfl;cases hv:lC 10 s with
 | none=>
   rw [hv] at k;by_cases h10:10<=s.length
   ·have h1:(10:Int)<=s.length:=by omega
    simp [hm,k,h10,h1]
   ·have h1:¬ (10:Int)<=s.length:=by omega
    simp [hm,k,h10,h1]
 | some j=>
   rw [hv] at k;simp only [jr,Nat.pow_zero,Dk,Yd] at k;by_cases hb:qG j (s.getD (j - 1) 0).toNat=0
   ·simp only [hb,ne_eq,not_true_eq_false,if_false] at k ⊢
    simp [hm,k]
   ·simp only [hb,ne_eq,not_false_eq_true,if_true] at k ⊢
    simp [hm,k]
theorem wI {n:Nat} (h:n < 256):(UInt8.ofNat n).toNat=n:=UInt8.toNat_ofNat_of_lt' h
def uI (n:Nat):Nat:=if n < 128 then n else uI (n / 128)
termination_by n
theorem aeP {n:Nat} (h:n < 128):uI n=n:=by rw [uI,aj h]
theorem aeO {n:Nat} (h:¬ n < 128):uI n=uI (n / 128):=by rw [uI,ah h]
theorem Jd {n:Nat} (h:n < 128):bM n=1:=by unfold bM;rw [yV h];rfl
theorem aqS:∀n:Nat,uI n < 128/\(0 < n->0 < uI n)/\uI n * 128 ^ (bM n - 1)<=n:=by
 intro n;induction n using Nat.strongRecOn with
 | _ n ih=>
   by_cases h:n < 128
   ·rw [aeP h,Jd h];simp;omega
   ·obtain ⟨h1,h2,h3⟩:=ih (n / 128) (by omega)
    rw [aeO h,Au h];refine ⟨h1,λ_=>h2 (by omega), ?_⟩;have hp:=vH (n / 128);obtain ⟨j,hj⟩:∃j,bM (n / 128)=j+1:=⟨bM (n / 128) - 1,by omega⟩
    rw [hj] at h3 ⊢;simp only [Nat.add_sub_cancel] at h3 ⊢;have:uI (n / 128) * 128 ^ (j+1)=uI (n / 128) * 128 ^ j * 128:=by rw [Dn,RV]
    rw [this];omega
theorem aqQ:∀ (n:Nat) (x:List UInt8),(aJ n++x).getD (bM n - 1) 0=UInt8.ofNat (uI n):=by
 intro n;induction n using Nat.strongRecOn with
 | _ n ih=>
   intro x;by_cases h:n < 128
   ·rw [aeP h,Jd h,yV h];rfl
   ·have hp:=vH (n / 128)
    obtain ⟨j,hj⟩:∃j,bM (n / 128)=j+1:=⟨bM (n / 128) - 1,by omega⟩
    have:=ih (n / 128) (by omega) x;rw [aeO h,Au h,CX h,<- this,hj];simp
theorem aqP:∀ (n k:Nat) (x:List UInt8),bM n<=k->lC k (aJ n++x)=some (bM n):=by
 intro n;induction n using Nat.strongRecOn with
 | _ n ih=>
   intro k x hk;have hp:=vH n;obtain ⟨j,rfl⟩:∃j,k=j+1:=⟨k - 1,by omega⟩
   by_cases h:n < 128
   ·rw [Jd h,yV h]
    show (if (UInt8.ofNat n).toNat < 128 then _ else _)=_
    rw [aj (by rw [wI (by omega)];exact h)]
   ·rw [Au h] at hk ⊢
    rw [CX h];show (if (UInt8.ofNat (n % 128+128)).toNat < 128 then _ else (lC j (aJ (n / 128)++x)).map (· + 1))=_
    rw [ah (by rw [wI (by omega)];omega),ih (n / 128) (by omega) j x (by omega)];rfl
theorem aqT:∀n:Nat,kG (aJ n)=n:=by
 intro n;induction n using Nat.strongRecOn with
 | _ n ih=>
   by_cases h:n < 128
   ·rw [yV h]
    simp only [kG];rw [wI (by omega)];omega
   ·rw [CX h]
    simp only [kG];rw [ih (n / 128) (by omega),wI (by omega)];omega
theorem Ar (n:Nat) (x:List UInt8) (hn:n < 18446744073709551616):ak (aJ n++x)=(n,(aJ n).length,0):=by
 have h1:=aqP n 10 x (CY hn);obtain ⟨f1,f2,f3⟩:=aqS n;have hg:=aqQ n x;have hb:qG (bM n) (UInt8.ofNat (uI n)).toNat=0:=by
  rw [wI (by omega)];unfold qG;rw [ah,ah]
  ·rintro ⟨h2,h3⟩
   by_cases h:n < 128
   ·rw [Jd h] at h2;omega
   ·have:=f2 (by omega);omega
  ·rintro ⟨h2,h3⟩
   rw [h2] at f3;have:2 * 128 ^ 9<=uI n * 128 ^ 9:=qL _ h3;simp only [show 10 - 1=9 from rfl] at f3;omega
 unfold ak;rw [h1];simp only [hg,hb,ne_eq,not_true_eq_false,if_false];have:(aJ n++x).take (bM n)=aJ n:=by
  unfold bM;simp
 rw [this,aqT];rfl
theorem aqU (a:List UInt8) (b:UInt8):kG (a++[b])=kG a+128 ^ a.length * (b.toNat % 128):=by
 induction a with
 | nil=>simp [kG]
 | cons c a ih=>
   simp only [eG,kG,ih,iT,Dn,Nat.mul_add,iM];rw [zh (128 ^ a.length) 128,RV]
/-- Bytes that are a number's writing. -/
theorem ady:∀ (j k:Nat) (s:List UInt8),lC j s=some k->(1 < k->(s.getD (k - 1) 0)≠0)->aJ (kG (s.take k))=s.take k/\(1 < k\/s.getD (k - 1) 0≠0->kG (s.take k)≠0)
 | 0,k,s,h,_=>by simp [lC] at h
 | j+1,k,[],h,_=>by simp [lC] at h
 | j+1,k,b::r,h,hz=>by
   unfold lC at h;split at h
   ·next hb=>
    cases h;simp only [wP,F5,kG,Nat.mul_zero,lG];rw [MG hb];refine ⟨by rw [yV hb];simp,λhh=>?_⟩;rcases hh with hh | hh
    ·omega
    ·intro e
     apply hh;simp only [xW,List.getD_cons_zero];exact YH.1 (by simpa using e)
   ·next hb=>
    obtain ⟨i,hi,rfl⟩:=aW.1 h;obtain ⟨q1,q2,q3,q4⟩:=Ri hi;obtain ⟨l,rfl⟩:∃l,i=l+1:=⟨i - 1,by omega⟩
    have hz':r.getD l 0≠0:=by have:=hz (by omega);simpa using this
    obtain ⟨e1,e2⟩:=ady j (l+1) r hi (λ_=>by simpa using hz');have e2:=e2 (.inr (by simpa using hz'));have hb8:=b.toNat_lt;rw [wP];simp only [kG];refine ⟨?_,λ_=>by omega⟩;rw [CX (by omega)];have a1:(b.toNat % 128+128 * kG (r.take (l+1))) % 128+128=b.toNat:=by omega
    have a2:(b.toNat % 128+128 * kG (r.take (l+1))) / 128=kG (r.take (l+1)):=by omega
    rw [a1,a2,e1];simp
structure VOk (s:List UInt8) (n k:Nat):Prop where
 pos:1<=k
 ten:k<=10
 len:k<=s.length
 lt:n < 18446744073709551616
 put:aJ n=s.take k
theorem ji {s:List UInt8} (h:(ak s).2.2=0):VOk s (ak s).1 (ak s).2.1:=by
 unfold ak at h ⊢;cases hv:lC 10 s with
 | none=>
   rw [hv] at h;simp only at h;split at h<;>cases h
 | some k=>
   rw [hv] at h;simp only at h ⊢;obtain ⟨v1,v2,v3,v4⟩:=Ri hv;by_cases hb:qG k (s.getD (k - 1) 0).toNat=0
   ·simp only [hb,ne_eq,not_true_eq_false,if_false]
    have hz:1 < k->s.getD (k - 1) 0≠0:=by
     intro h1 h2;unfold qG at hb;rw [h2] at hb;split at hb
     ·cases hb
     ·rw [aj ⟨h1,rfl⟩] at hb;cases hb
    refine ⟨v1,v2,v3, ?_,(ady 10 k s hv hz).1⟩;have e:s.take k=s.take (k - 1)++[s.getD (k - 1) 0]:=by
     obtain ⟨j,rfl⟩:∃j,k=j+1:=⟨k - 1,by omega⟩
     have:j < s.length:=by omega
     simp [List.getD,this]
    have h2:=aeQ (s.take (k - 1));rw [e,aqU,jP,F8 (by omega)];rw [jP,F8 (by omega)] at h2;rcases wQ k 10 with h3 | h3
    ·have hq:(128:Nat) ^ (k - 1)<=128 ^ 8:=Jt (by omega) (by omega)
     have hq2:128 ^ (k - 1) * ((s.getD (k - 1) 0).toNat % 128)<=128 ^ (k - 1) * 127:=RX _ (by omega);omega
    ·have hK10:k=10:=by omega
     have hb1:(s.getD (k - 1) 0).toNat<=1:=by
      unfold qG at hb;split at hb
      ·cases hb
      ·next h=>omega
     have hq:(128:Nat) ^ (k - 1)=128 ^ 9:=by rw [hK10]
     have hq2:128 ^ (k - 1) * ((s.getD (k - 1) 0).toNat % 128)<=128 ^ (k - 1) * 1:=RX _ (by omega);omega
   ·simp only [hb,ne_eq,not_false_eq_true,if_true] at h
theorem FH {s:List UInt8} (h:(ak s).2.2≠0):(ak s).1=0/\(ak s).2.1=0:=by
 unfold ak at h ⊢;cases hv:lC 10 s with
 | none=>exact ⟨rfl,rfl⟩
 | some k=>
   rw [hv] at h;simp only at h ⊢;by_cases hb:qG k (s.getD (k - 1) 0).toNat=0
   ·simp only [hb,ne_eq,not_true_eq_false,if_false] at h
   ·simp only [hb,ne_eq,not_false_eq_true,if_true]
    exact ⟨trivial,trivial⟩
/-- Taken of a cursor. -/
theorem yU (t:List UInt8) (at':Nat) (h:at'<=t.length) (ht:t.length<=140737488351232) :
 TT.lim 98 [.s t,.i .i64 at']=some [.i .i64 0,.i .u64 ((ak (t.drop at')).1:Nat),.i .i64 (ak (t.drop at')).2.2,.s t,.i .i64 ((at'+(ak (t.drop at')).2.1:Nat):Int)]:=by
 have k:=qW (t.drop at') (by rw [dW];omega);have hd:(t.take t.length).drop at'=t.drop at':=by rw [xU]
 have h1:(at':Int)<=t.length:=by omega
 refine aB rfl rfl ?_;by_cases he:(ak (t.drop at')).2.2=0
 ·have hv:=ji he
  have hl:=hv.len;have h10:=hv.ten;rw [dW] at hl;generalize (ak (t.drop at')).1=n at *;generalize (ak (t.drop at')).2.1=j at *;generalize (ak (t.drop at')).2.2=e at *;have w1:=jS (n:=(j:Int)) (by omega) (by omega);have w2:=wrap64 (n:=(t.length:Int) - (at':Int)) (by omega) (by omega);have w3:=jS (n:=(t.length:Int) - (at':Int)) (by omega) (by omega);have w4:=wrap64 (n:=(j:Int)) (by omega) (by omega);have w5:=wrap64 (n:=(at':Int)+(j:Int)) (by omega) (by omega);have c1:¬ ((t.length:Int) - (at':Int) < (j:Int)):=by omega
  have c2:(at':Int)<=(at':Int)+(j:Int)/\(at':Int)+(j:Int)<=t.length:=by omega
  subst he;simp [hd,h1,k,w1,w2,w3,w4,w5,c1,c2]
 ·obtain ⟨e1,e2⟩:=FH he
  rw [e1,e2] at k ⊢;generalize (ak (t.drop at')).2.2=e at *;simp [hd,h1,k,he]
def kR (e:Int):List UInt8×Nat×Int:=([],0,e)
/-- The text that stands next, how many bytes it took, and the code. -/
def bD (s a0:List UInt8) (first:Bool):List UInt8×Nat×Int:=
 let a:=if first=true then [] else a0
 let v:=ak s
 if v.2.2≠0 then kR v.2.2 else
 if a.length < v.1 then kR 23 else
 let v2:=ak (s.drop v.2.1)
 if v2.2.2≠0 then kR v2.2.2 else
 if s.length - (v.2.1+v2.2.1) < v2.1 then kR 1 else
 let t:=a.take v.1++(s.drop (v.2.1+v2.2.1)).take v2.1
 if first=false/\Op.bytesLess a t=false then kR 7 else
 if v.1 < common a t then kR 23 else (t,v.2.1+v2.2.1+v2.1,0)
theorem akL (a t:List UInt8):(Op.bytesLess t a || t==a) = !(Op.bytesLess a t):=by
 rw [Gv,Gv,pJ];simp only [lS,decide_eq_true_iff,beq_iff_eq,uJ,decide_eq_false_iff_not];constructor
 ·rintro (h | h) h2
  ·exact RI _ (RJ h h2)
  ·subst h;exact RI _ h2
 ·intro h
  by_cases h1:t < a
  ·exact .inl h1
  ·exact .inr (List.le_antisymm (List.not_lt.1 h) (List.not_lt.1 h1))
theorem ZG:∀ (k:Nat) (a x:List UInt8),k<=a.length->k<=common a (a.take k++x)
 | 0,a,x,h=>by omega
 | k+1,[],x,h=>by simp at h
 | k+1,b::a,x,h=>by
   rw [wP,eG];unfold common;rw [aj rfl];have:=ZG k a x (by simpa using h);omega
theorem amY (t a:List UInt8) (first:Bool) (at':Nat) (h:at'<=t.length) (ht:t.length<=100000000) (ha:a.length<=100000000) :
 ∃at2:Nat,TT.lim 123 [.s t,.i .i64 at',.s a,.b first]=some [.i .i64 0,.s (bD (t.drop at') a first).1,.i .i64 (bD (t.drop at') a first).2.2,.s t,.i .i64 at2]/\
  ((bD (t.drop at') a first).2.2=0->at2=at'+(bD (t.drop at') a first).2.1):=by
 have k1:=yU t at' h (by omega);by_cases he:(ak (t.drop at')).2.2=0;rotate_left
 ·obtain ⟨e1,e2⟩:=FH he
  have hp:bD (t.drop at') a first=kR (ak (t.drop at')).2.2:=by unfold bD;simp only;rw [aj he]
  rw [e1,e2] at k1;rw [hp];clear e1 e2 hp;generalize (ak (t.drop at')).2.2=e at *;refine ⟨at',aB rfl rfl ?_,λh=>absurd h he⟩;cases first<;>simp [k1,he,kR]
 have hv:=ji he;have hl:=hv.len;have h64:=hv.lt;have h10:=hv.ten;rw [dW] at hl
 have hpn:∀a':List UInt8,a'=(if first=true then [] else a)->bD (t.drop at') a first=(if a'.length < (ak (t.drop at')).1 then kR 23 else
  if (ak (t.drop (at'+(ak (t.drop at')).2.1))).2.2≠0 then kR (ak (t.drop (at'+(ak (t.drop at')).2.1))).2.2 else
  if (t.length - at') - ((ak (t.drop at')).2.1+(ak (t.drop (at'+(ak (t.drop at')).2.1))).2.1) < (ak (t.drop (at'+(ak (t.drop at')).2.1))).1 then kR 1 else
  if first=false/\Op.bytesLess a' (a'.take (ak (t.drop at')).1++(t.drop (at'+((ak (t.drop at')).2.1+(ak (t.drop (at'+(ak (t.drop at')).2.1))).2.1))).take (ak (t.drop (at'+(ak (t.drop at')).2.1))).1)=false then kR 7 else
  if (ak (t.drop at')).1 < common a' (a'.take (ak (t.drop at')).1++(t.drop (at'+((ak (t.drop at')).2.1+(ak (t.drop (at'+(ak (t.drop at')).2.1))).2.1))).take (ak (t.drop (at'+(ak (t.drop at')).2.1))).1) then kR 23 else
  (a'.take (ak (t.drop at')).1++(t.drop (at'+((ak (t.drop at')).2.1+(ak (t.drop (at'+(ak (t.drop at')).2.1))).2.1))).take (ak (t.drop (at'+(ak (t.drop at')).2.1))).1,(ak (t.drop at')).2.1+(ak (t.drop (at'+(ak (t.drop at')).2.1))).2.1+(ak (t.drop (at'+(ak (t.drop at')).2.1))).1,0)):=by
  intro a' ha';unfold bD;simp only [oq,dW,<- ha',he,ne_eq,not_true_eq_false,if_false]
 rw [he] at k1;have k2:=yU t (at'+(ak (t.drop at')).2.1) (by omega) (by omega);have hv2:=λh=>ji (s:=t.drop (at'+(ak (t.drop at')).2.1)) h;have hv3:=λh=>FH (s:=t.drop (at'+(ak (t.drop at')).2.1)) h;generalize hv0:ak (t.drop at')=v at *;obtain ⟨n,i,e⟩:=v;simp only at *;generalize hv1:ak (t.drop (at'+i))=v2 at *;obtain ⟨m,j,e2⟩:=v2;simp only at *;clear hv0 hv1 hv;subst he;simp only [AB] at k1 k2
 -- whichever is ahead
 cases first with
 | true=>
   have hp:=hpn [] rfl;rw [hp];clear hp hpn;by_cases c1:0 < n
   ·have c1':(0:Int) < n:=by omega
    rw [aj (by simpa using c1)];refine ⟨at'+i,aB rfl rfl ?_,λh=>by cases h⟩;simp [k1,c1,c1',kR]
   have c1':¬ (0:Int) < n:=by omega
   rw [ah (by simpa using c1)];by_cases c2:e2=0;rotate_left
   ·obtain ⟨q1,q2⟩:=hv3 c2
    subst q1;subst q2;rw [aj c2];refine ⟨at'+i,aB rfl rfl ?_,λh=>absurd h c2⟩;simp [k1,k2,c1,c1',c2,kR]
   subst c2;obtain ⟨q1,q2,q3,q4,_⟩:=hv2 rfl;rw [dW] at q3;rw [ah (by simp)];have w2:=wrap64 (n:=(t.length:Int) - ((at':Int)+(i:Int)+(j:Int))) (by omega) (by omega);have w3:=jS (n:=(t.length:Int) - ((at':Int)+(i:Int)+(j:Int))) (by omega) (by omega);by_cases c3:t.length - at' - (i+j) < m
   ·have c3':(t.length:Int) - ((at':Int)+(i:Int)+(j:Int)) < (m:Int):=by omega
    rw [aj c3];refine ⟨at'+i+j,aB rfl rfl ?_,λh=>by cases h⟩;simp [k1,k2,c1,c1',w2,w3,c3',kR]
   have c3':¬ (t.length:Int) - ((at':Int)+(i:Int)+(j:Int)) < (m:Int):=by omega
   rw [ah c3,ah (by simp)];have n0:n=0:=by omega
   subst n0;have hc:common [] ([]++(t.drop (at'+(i+j))).take m)=0:=Tc _;have w4:=wrap64 (n:=(m:Int)) (by omega) (by omega);have w5:=wrap64 (n:=(at':Int)+(i:Int)+(j:Int)+(m:Int)) (by omega) (by omega);have w0:=wrap64 (n:=(0:Int)) (by omega) (by omega);have ts:((t.take (at'+i+j+m)).drop (at'+i+j))=(t.drop (at'+(i+j))).take m:=by
    rw [<- iM,Df];congr 1;omega
   have kc:=S9 [] ((t.drop (at'+(i+j))).take m) (by simp) (by simp;omega);rw [Tc] at kc;have c4:(at':Int)+(i:Int)+(j:Int)<=(at':Int)+(i:Int)+(j:Int)+(m:Int)/\(at':Int)+(i:Int)+(j:Int)+(m:Int)<=t.length:=by omega
   have c5:(0:Int)<=(at':Int)+(i:Int)+(j:Int):=by omega
   have t1:((at':Int)+(i:Int)+(j:Int)+(m:Int)).toNat=at'+i+j+m:=by omega
   have t2:((at':Int)+(i:Int)+(j:Int)).toNat=at'+i+j:=by omega
   rw [List.take_nil,ah (by rw [hc];omega)];have hl0:(((t.drop (at'+(i+j))).take m).length:Int)<=9223372036854775807:=by
    have:((t.drop (at'+(i+j))).take m).length<=t.length:=by rw [jP,dW];omega
    omega
   refine ⟨at'+i+j+m,aB rfl rfl ?_,λ_=>by simp only;omega⟩;rw [dA];generalize (t.drop (at'+(i+j))).take m=X at *;simp [k1,k2,w0,w2,w3,w4,w5,c3',c4,c5,t1,t2,ts,kc,hl0]
 | false=>
   have hp:=hpn a rfl;rw [hp];clear hp hpn;have wa:=jS (n:=(a.length:Int)) (by omega) (by omega);by_cases c1:a.length < n
   ·have c1':(a.length:Int) < n:=by omega
    rw [aj c1];refine ⟨at'+i,aB rfl rfl ?_,λh=>by cases h⟩;simp [k1,c1,c1',wa,kR]
   have c1':¬ (a.length:Int) < n:=by omega
   rw [ah c1];by_cases c2:e2=0;rotate_left
   ·obtain ⟨q1,q2⟩:=hv3 c2
    subst q1;subst q2;rw [aj c2];refine ⟨at'+i,aB rfl rfl ?_,λh=>absurd h c2⟩;simp [k1,k2,c1,c1',c2,wa,kR]
   subst c2;obtain ⟨q1,q2,q3,q4,_⟩:=hv2 rfl;rw [dW] at q3;rw [ah (by simp)];have w2:=wrap64 (n:=(t.length:Int) - ((at':Int)+(i:Int)+(j:Int))) (by omega) (by omega);have w3:=jS (n:=(t.length:Int) - ((at':Int)+(i:Int)+(j:Int))) (by omega) (by omega);by_cases c3:t.length - at' - (i+j) < m
   ·have c3':(t.length:Int) - ((at':Int)+(i:Int)+(j:Int)) < (m:Int):=by omega
    rw [aj c3];refine ⟨at'+i+j,aB rfl rfl ?_,λh=>by cases h⟩;simp [k1,k2,c1,c1',w2,w3,c3',wa,kR]
   have c3':¬ (t.length:Int) - ((at':Int)+(i:Int)+(j:Int)) < (m:Int):=by omega
   rw [ah c3];have w4:=wrap64 (n:=(m:Int)) (by omega) (by omega);have w5:=wrap64 (n:=(at':Int)+(i:Int)+(j:Int)+(m:Int)) (by omega) (by omega);have wn:=wrap64 (n:=(n:Int)) (by omega) (by omega);have ts:((t.take (at'+i+j+m)).drop (at'+i+j))=(t.drop (at'+(i+j))).take m:=by
    rw [<- iM,Df];congr 1;omega
   have hlx:((t.drop (at'+(i+j))).take m).length<=t.length:=by rw [jP,dW];omega
   have kc:=S9 a (a.take n++(t.drop (at'+(i+j))).take m) (by omega) (by rw [dS,jP];omega);have c4:(at':Int)+(i:Int)+(j:Int)<=(at':Int)+(i:Int)+(j:Int)+(m:Int)/\(at':Int)+(i:Int)+(j:Int)+(m:Int)<=t.length:=by omega
   have c5:(0:Int)<=(at':Int)+(i:Int)+(j:Int):=by omega
   have c6:(n:Int)<=a.length:=by omega
   have t1:((at':Int)+(i:Int)+(j:Int)+(m:Int)).toNat=at'+i+j+m:=by omega
   have t2:((at':Int)+(i:Int)+(j:Int)).toNat=at'+i+j:=by omega
   have hlm:(min n a.length:Nat)=n:=by omega
   have hl0:(n:Int)+(((t.drop (at'+(i+j))).take m).length:Int)<=9223372036854775807:=by omega
   have hle:=akL a (a.take n++(t.drop (at'+(i+j))).take m);generalize (t.drop (at'+(i+j))).take m=X at *;by_cases c7:Op.bytesLess a (a.take n++X)=false
   ·rw [aj ⟨rfl,c7⟩]
    rw [c7] at hle;refine ⟨at'+i+j+m,aB rfl rfl ?_,λh=>by cases h⟩;have hle':(Op.bytesLess (a.take n++X) a=true\/a.take n++X=a)=True:=eq_true (by simpa using hle);simp [k1,k2,wa,wn,w2,w3,w4,w5,c1',c3',c4,c5,c6,t1,t2,ts,hl0,hlm,hle',kR]
   ·rw [ah (λh=>c7 h.2)]
    have c7:Op.bytesLess a (a.take n++X)=true:=by simpa using c7
    rw [c7] at hle;have hle':(Op.bytesLess (a.take n++X) a=true\/a.take n++X=a)=False:=eq_false (by simpa using hle);by_cases c8:n < common a (a.take n++X)
    ·have DK:(n:Int) < (common a (a.take n++X):Int):=by omega
     rw [aj c8];refine ⟨at'+i+j+m,aB rfl rfl ?_,λh=>by cases h⟩;simp [k1,k2,wa,wn,w2,w3,w4,w5,c1',c3',c4,c5,c6,t1,t2,ts,hl0,hlm,hle',kc,DK,kR]
    ·have DK:¬ (n:Int) < (common a (a.take n++X):Int):=by omega
     rw [ah c8];refine ⟨at'+i+j+m,aB rfl rfl ?_,λ_=>by simp only;omega⟩;simp [k1,k2,wa,wn,w2,w3,w4,w5,c1',c3',c4,c5,c6,t1,t2,ts,hl0,hlm,hle',kc,DK]
theorem WC {s a:List UInt8} {first:Bool} (h:(bD s a first).2.2=0):2<=(bD s a first).2.1/\(bD s a first).2.1<=s.length/\(bD s a first).1.length<=(if first=true then 0 else a.length)+(bD s a first).2.1:=by
 have hA:(if first=true then 0 else a.length)=(if first=true then [] else a).length:=by cases first<;>rfl
 rw [hA];clear hA;unfold bD at h ⊢;simp only at h ⊢;generalize (if first=true then [] else a)=a' at h ⊢;split at h
 ·next c=>exact absurd h c
 next c0=>
 rw [ah c0];split at h
 ·cases h
 next c1=>
 rw [ah c1];split at h
 ·next c=>exact absurd h c
 next c2=>
 rw [ah c2];split at h
 ·cases h
 next c3=>
 rw [ah c3];split at h
 ·cases h
 next c4=>
 rw [ah c4];split at h
 ·cases h
 next c5=>
 rw [ah c5];have v1:=ji (s:=s) (by simpa using c0);have v2:=ji (s:=s.drop (ak s).2.1) (by simpa using c2);have p1:=v1.pos;have p2:=v2.pos;have l1:=v1.len;have l2:=v2.len;rw [dW] at l2;refine ⟨by simp only;omega,by simp only;omega, ?_⟩;simp only [dS,jP,dW];omega
theorem acF (a s:List UInt8) (hs:s.length<=100000000):(oJ a s).length<=20+s.length:=by
 have hl:=NT a s;have l1:=lD (n:=common a s) (by omega);have l2:=lD (n:=s.length - common a s) (by omega);unfold oJ;simp only [dS,dW];omega
/-- A text that stands next: the text, how many bytes it took, the code. -/
def dR (s:List UInt8):List UInt8×Nat×Int:=
 if (ak s).2.2≠0 then ([],0,(ak s).2.2) else
 if s.length - (ak s).2.1 < (ak s).1 then ([],0,1) else
 ((s.drop (ak s).2.1).take (ak s).1,(ak s).2.1+(ak s).1,0)
theorem QZ {s:List UInt8} (h:(dR s).2.2=0):1<=(dR s).2.1/\(dR s).2.1<=s.length/\(dR s).1.length<=s.length:=by
 unfold dR at h ⊢;by_cases h1:(ak s).2.2=0;rotate_left
 ·rw [aj h1] at h
  exact absurd h h1
 rw [ah (λe=>e h1)] at h ⊢;obtain ⟨v1,v2,v3,v4,v5⟩:=ji h1;by_cases h2:s.length - (ak s).2.1 < (ak s).1
 ·rw [aj h2] at h;cases h
 rw [ah h2];simp only [jP,dW];omega
theorem aeo (t:List UInt8) (at':Nat) (h:at'<=t.length) (ht:t.length<=100000000) :
 ∃at2:Nat,TT.lim 119 [.s t,.i .i64 at']=some [.i .i64 0,.s (dR (t.drop at')).1,.i .i64 (dR (t.drop at')).2.2,.s t,.i .i64 at2]/\((dR (t.drop at')).2.2=0->at2=at'+(dR (t.drop at')).2.1):=by
 have k1:=yU t at' h (by omega);unfold dR;by_cases he:(ak (t.drop at')).2.2=0;rotate_left
 ·obtain ⟨e1,e2⟩:=FH he
  rw [e1,e2] at k1;rw [aj he];generalize (ak (t.drop at')).2.2=e at *;refine ⟨at',aB rfl rfl ?_,λh=>absurd h he⟩;simp [k1,he]
 obtain ⟨v1,v2,v3,v4,_⟩:=ji he;rw [ah (λe=>e he)];rw [he] at k1;rw [dW] at v3 ⊢;rw [oq];generalize (ak (t.drop at')).1=n at *;generalize (ak (t.drop at')).2.1=i at *;have w1:=wrap64 (n:=(t.length:Int) - ((at':Int)+(i:Int))) (by omega) (by omega);have w2:=jS (n:=(t.length:Int) - ((at':Int)+(i:Int))) (by omega) (by omega);simp only [AB] at k1;by_cases c1:t.length - at' - i < n
 ·have c1':(t.length:Int) - ((at':Int)+(i:Int)) < (n:Int):=by omega
  rw [aj c1];refine ⟨at'+i,aB rfl rfl ?_,λh=>by cases h⟩;simp [k1,w1,w2,c1']
 ·have c1':¬ (t.length:Int) - ((at':Int)+(i:Int)) < (n:Int):=by omega
  rw [ah c1];have w3:=wrap64 (n:=(n:Int)) (by omega) (by omega);have w4:=wrap64 (n:=(at':Int)+(i:Int)+(n:Int)) (by omega) (by omega);have ts:((t.take (at'+i+n)).drop (at'+i))=(t.drop (at'+i)).take n:=by
   rw [Df];congr 1;omega
  have c2:(at':Int)+(i:Int)<=(at':Int)+(i:Int)+(n:Int)/\(at':Int)+(i:Int)+(n:Int)<=t.length:=by omega
  have c3:(0:Int)<=(at':Int)+(i:Int):=by omega
  have t1:((at':Int)+(i:Int)+(n:Int)).toNat=at'+i+n:=by omega
  have t2:((at':Int)+(i:Int)).toNat=at'+i:=by omega
  generalize (t.drop (at'+i)).take n=X at *;refine ⟨at'+i+n,aB rfl rfl ?_,λ_=>by simp only;omega⟩;simp [k1,w1,w2,w3,w4,c1',c2,c3,t1,t2,ts]
/-- An entry that stands next. -/
def dD (s:List UInt8):dH×Nat×Int:=
 if (dR s).2.2≠0 then (([],[]),0,(dR s).2.2) else
 if (dR (s.drop (dR s).2.1)).2.2≠0 then (([],[]),0,(dR (s.drop (dR s).2.1)).2.2) else
 if oW ((dR s).1,(dR (s.drop (dR s).2.1)).1)≠0 then (([],[]),0,oW ((dR s).1,(dR (s.drop (dR s).2.1)).1)) else
 (((dR s).1,(dR (s.drop (dR s).2.1)).1),(dR s).2.1+(dR (s.drop (dR s).2.1)).2.1,0)
theorem N8 {s:List UInt8} (h:(dD s).2.2=0):2<=(dD s).2.1/\(dD s).2.1<=s.length/\oW (dD s).1=0/\(dD s).1.1.length<=s.length/\(dD s).1.2.length<=s.length/\
 (dR s).2.2=0/\(dR (s.drop (dR s).2.1)).2.2=0/\(dD s).1=((dR s).1,(dR (s.drop (dR s).2.1)).1)/\(dD s).2.1=(dR s).2.1+(dR (s.drop (dR s).2.1)).2.1:=by
 unfold dD at h ⊢;by_cases h1:(dR s).2.2=0;rotate_left
 ·rw [aj h1] at h;exact absurd h h1
 rw [ah (λe=>e h1)] at h ⊢;by_cases h2:(dR (s.drop (dR s).2.1)).2.2=0;rotate_left
 ·rw [aj h2] at h;exact absurd h h2
 rw [ah (λe=>e h2)] at h ⊢;by_cases h3:oW ((dR s).1,(dR (s.drop (dR s).2.1)).1)=0;rotate_left
 ·rw [aj h3] at h;exact absurd h h3
 rw [ah (λe=>e h3)];obtain ⟨a1,a2,a3⟩:=QZ h1;obtain ⟨b1,b2,b3⟩:=QZ h2;rw [dW] at b2 b3;exact ⟨by simp only;omega,by simp only;omega,h3,a3,by simp only;omega,h1,h2,rfl,rfl⟩
theorem ahZ (t:List UInt8) (at':Nat) (h:at'<=t.length) (ht:t.length<=100000000) :
 ∃at2:Nat,TT.lim 118 [.s t,.i .i64 at']=some [.i .i64 0,.s (dD (t.drop at')).1.1,.s (dD (t.drop at')).1.2,.i .i64 (dD (t.drop at')).2.2,.s t,.i .i64 at2]/\((dD (t.drop at')).2.2=0->at2=at'+(dD (t.drop at')).2.1):=by
 obtain ⟨p,k1,e1⟩:=aeo t at' h ht;unfold dD;by_cases h1:(dR (t.drop at')).2.2=0;rotate_left
 ·rw [aj h1]
  generalize dR (t.drop at')=A at *;refine ⟨p,aB rfl rfl ?_,λh=>absurd h h1⟩;simp [k1,h1]
 have e1:=e1 h1;obtain ⟨a1,a2,a3⟩:=QZ h1;rw [dW] at a2 a3;have hdd:(t.drop at').drop (dR (t.drop at')).2.1=t.drop p:=by rw [oq,e1]
 obtain ⟨q,k2,e2⟩:=aeo t p (by omega) ht;rw [ah (λe=>e h1),hdd];rw [h1] at k1;by_cases h2:(dR (t.drop p)).2.2=0;rotate_left
 ·rw [aj h2]
  generalize dR (t.drop at')=A at *;generalize dR (t.drop p)=B at *;refine ⟨q,aB rfl rfl ?_,λh=>absurd h h2⟩;simp [k1,k2,h2]
 have e2:=e2 h2;obtain ⟨b1,b2,b3⟩:=QZ h2;rw [dW] at b2 b3;rw [ah (λe=>e h2)];rw [h2] at k2;have kc:=aah ((dR (t.drop at')).1,(dR (t.drop p)).1) (by simp only;omega) (by simp only;omega);have UW:TT.lim 49 [.g [.s (dR (t.drop at')).1,.s (dR (t.drop p)).1]]=_:=kc;generalize dR (t.drop at')=A at *;generalize dR (t.drop p)=B at *;by_cases h3:oW (A.1,B.1)=0;rotate_left
 ·rw [aj h3]
  refine ⟨q,aB rfl rfl ?_,λh=>absurd h h3⟩;generalize oW (A.1,B.1)=E at *;simp [k1,k2,UW,h3]
 ·rw [ah (λe=>e h3)]
  rw [h3] at UW;refine ⟨q,aB rfl rfl ?_,λ_=>by simp only;omega⟩;simp [k1,k2,UW]
def wX (p:Option dH) (x:dH):Int:=match p with
 | none=>0
 | some k=>vX k.1 x.1
/-- Entries by rising keys: what is read, how many bytes it took, the code. -/
def fB:Nat->Option dH->List UInt8->List dH×Nat×Int
 | 0,_,_=>([],0,0)
 | m+1,p,s=>if (dD s).2.2≠0 then ([],0,(dD s).2.2) else
   if wX p (dD s).1≠0 then ([],0,wX p (dD s).1) else
   if (fB m (some (dD s).1) (s.drop (dD s).2.1)).2.2≠0 then ([],0,(fB m (some (dD s).1) (s.drop (dD s).2.1)).2.2) else
   ((dD s).1::(fB m (some (dD s).1) (s.drop (dD s).2.1)).1,(dD s).2.1+(fB m (some (dD s).1) (s.drop (dD s).2.1)).2.1,0)
theorem NW (m:Nat) (p:Option dH) (s:List UInt8):fB (m+1) p s=if (dD s).2.2≠0 then ([],0,(dD s).2.2) else
 if wX p (dD s).1≠0 then ([],0,wX p (dD s).1) else
 if (fB m (some (dD s).1) (s.drop (dD s).2.1)).2.2≠0 then ([],0,(fB m (some (dD s).1) (s.drop (dD s).2.1)).2.2) else
 ((dD s).1::(fB m (some (dD s).1) (s.drop (dD s).2.1)).1,(dD s).2.1+(fB m (some (dD s).1) (s.drop (dD s).2.1)).2.1,0):=rfl
def yI (acc:List dH) (t:List UInt8) (at2:Nat) (r:List dH×Nat×Int):List GV:=if r.2.2≠0 then [.i .i64 0,.i .i64 r.2.2,.s t,.i .i64 at2] else [.i .i64 1,.l ((acc++r.1).map ent),.s t,.i .i64 at2]
theorem ahS (L:List GV) (n i at' at2:Int) (t:List UInt8) (x:dH) (e:Int) (h:i < n) (he:¬ e=0)
 (k:TT.lim 118 [.s t,.i .i64 at']=some [.i .i64 0,.s x.1,.s x.2,.i .i64 e,.s t,.i .i64 at2]) :
 TT.lim 117 [.l L,.i .i64 n,.i .i64 i,.s t,.i .i64 at']=some [.i .i64 0,.i .i64 e,.s t,.i .i64 at2]:=by
 refine aB rfl rfl ?_;simp [h,k,he]
theorem ahQ (L:List GV) (n at' at2:Int) (t:List UInt8) (x:dH) (R:List GV) (h:0 < n) (hb:2 * (L.length+1) * 32<=281474976710656/\L.length+1<=281474976710656)
 (k:TT.lim 118 [.s t,.i .i64 at']=some [.i .i64 0,.s x.1,.s x.2,.i .i64 0,.s t,.i .i64 at2])
 (ih:TT.lim 117 [.l (L++[ent x]),.i .i64 n,.i .i64 1,.s t,.i .i64 at2]=some R) :
 TT.lim 117 [.l L,.i .i64 n,.i .i64 0,.s t,.i .i64 at']=some R:=by
 have he:GV.g [.s x.1,.s x.2]=ent x:=rfl;have w1:=wrap64 (n:=1) (by omega) (by omega);refine aB rfl rfl ?_;simp [h,k,he,GV.fJ,hb,w1,ih]
theorem ahR (L:List GV) (n:Int) (i:Nat) (at' at2:Int) (t:List UInt8) (p x:dH) (h:(i:Int)+1 < n) (hi:i+1<=100000000) (hl:L.length=i+1) (hg:L[i]? = some (ent p)) (hb:¬ vX p.1 x.1=0)
 (k:TT.lim 118 [.s t,.i .i64 at']=some [.i .i64 0,.s x.1,.s x.2,.i .i64 0,.s t,.i .i64 at2]) :
 TT.lim 117 [.l L,.i .i64 n,.i .i64 ((i:Int)+1),.s t,.i .i64 at']=some [.i .i64 0,.i .i64 (vX p.1 x.1),.s t,.i .i64 at2]:=by
 have h0:(0:Int) < (i:Int)+1:=by omega
 have hii:(i:Int) < (i:Int)+1:=by omega
 have w:=wrap64 (n:=(i:Int)) (by omega) (by omega);have hgi:L[i]'(by omega)=ent p:=by have:=hg;rw [cO (by omega)] at this;exact Dq this
 unfold vX at hb ⊢;by_cases e1:x.1=p.1
 ·have e1':(x.1=p.1)=True:=eq_true e1
  clear e1;refine aB rfl rfl ?_;simp [h,k,h0,hii,w,hl,hg,hgi,e1']
 ·by_cases e2:Op.bytesLess x.1 p.1=true
  ·refine aB rfl rfl ?_
   simp [h,k,h0,hii,w,hl,hg,hgi,e1,e2]
  ·simp [e1,e2] at hb
theorem ahT (L:List GV) (n:Int) (i:Nat) (at' at2:Int) (t:List UInt8) (p x:dH) (R:List GV) (h:(i:Int)+1 < n) (hi:i+1<=100000000) (hl:(i:Int) < L.length) (hl2:L.length<=100000000) (hg:L[i]? = some (ent p)) (hb:vX p.1 x.1=0)
 (k:TT.lim 118 [.s t,.i .i64 at']=some [.i .i64 0,.s x.1,.s x.2,.i .i64 0,.s t,.i .i64 at2])
 (ih:TT.lim 117 [.l (L++[ent x]),.i .i64 n,.i .i64 ((i:Int)+1+1),.s t,.i .i64 at2]=some R) :
 TT.lim 117 [.l L,.i .i64 n,.i .i64 ((i:Int)+1),.s t,.i .i64 at']=some R:=by
 have h0:(0:Int) < (i:Int)+1:=by omega
 have hii:(i:Int) < (i:Int)+1:=by omega
 have w:=wrap64 (n:=(i:Int)) (by omega) (by omega);have w2:=wrap64 (n:=(i:Int)+1+1) (by omega) (by omega);have hl3:i < L.length:=by omega
 have hgi:L[i]=ent p:=by have:=hg;rw [cO hl3] at this;exact Dq this
 have he:GV.g [.s x.1,.s x.2]=ent x:=rfl;have hbb:2 * (L.length+1) * 32<=281474976710656/\L.length+1<=281474976710656:=by omega
 unfold vX at hb;have e1:¬ x.1=p.1:=by intro e;rw [aj e] at hb;exact absurd hb (by decide)
 rw [ah e1] at hb;have e2:¬ Op.bytesLess x.1 p.1=true:=by intro e;rw [aj e] at hb;exact absurd hb (by decide)
 have e2:Op.bytesLess x.1 p.1=false:=by simpa using e2
 refine aB rfl rfl ?_;simp [h,k,h0,hii,w,w2,hl,hl3,hg,hgi,e1,e2,he,GV.fJ,hbb,ih]
/-- What is ahead. -/
def akF (acc:List dH) (p:Option dH):Prop:=(acc=[]/\p=none)\/∃a x,acc=a++[x]/\p=some x
theorem ZY (t:List UInt8) (ht:t.length<=100000000) (n:Nat) (hn:n<=1000):∀ (m:Nat) (acc:List dH) (p:Option dH) (at':Nat),acc.length+m=n->akF acc p->at'<=t.length->
 ∃at2:Nat,TT.lim 117 [.l (acc.map ent),.i .i64 n,.i .i64 acc.length,.s t,.i .i64 at']=some (yI acc t at2 (fB m p (t.drop at')))/\((fB m p (t.drop at')).2.2=0->at2=at'+(fB m p (t.drop at')).2.1)
 | 0,acc,p,at',hi,hp,h=>by
   have hlt:¬ ((acc.length:Int) < (n:Int)):=by omega
   refine ⟨at', ?_,λ_=>by simp [fB]⟩;have hl:(acc.map ent).length=acc.length:=by simp
   unfold fB yI;simp only [ne_eq,not_true_eq_false,if_false,mD];generalize acc.map ent=L at *;refine aB rfl rfl ?_;simp [hlt]
 | m+1,acc,p,at',hi,hp,h=>by
   obtain ⟨at2,k,e2⟩:=ahZ t at' h ht;rw [NW];by_cases h1:(dD (t.drop at')).2.2=0;rotate_left
   ·rw [aj h1]
    refine ⟨at2, ?_,λh=>absurd h h1⟩;have:yI acc t at2 ([],0,(dD (t.drop at')).2.2)=[.i .i64 0,.i .i64 (dD (t.drop at')).2.2,.s t,.i .i64 at2]:=by unfold yI;rw [aj h1]
    rw [this];exact ahS _ _ _ _ _ _ _ _ (by omega) h1 k
   rw [ah (λe=>e h1)];rw [h1] at k;have e2:=e2 h1;obtain ⟨a1,a2,_⟩:=N8 h1;rw [dW] at a2;have hdd:(t.drop at').drop (dD (t.drop at')).2.1=t.drop at2:=by rw [oq,e2]
   rw [hdd];have hat:at2<=t.length:=by omega
   generalize hX:(dD (t.drop at')).1=x at *;obtain ⟨at3,ih,e3⟩:=ZY t ht n hn m (acc++[x]) (some x) at2 (by rw [dS,AO];omega) (.inr ⟨acc,x,rfl,rfl⟩) hat;have hout:yI acc t at3 (if (fB m (some x) (t.drop at2)).2.2≠0 then ([],0,(fB m (some x) (t.drop at2)).2.2) else (x::(fB m (some x) (t.drop at2)).1,(dD (t.drop at')).2.1+(fB m (some x) (t.drop at2)).2.1,0))=yI (acc++[x]) t at3 (fB m (some x) (t.drop at2)):=by
    unfold yI;by_cases hq:(fB m (some x) (t.drop at2)).2.2=0
    ·simp [hq]
    ·simp [hq]
   have hfin:((if (fB m (some x) (t.drop at2)).2.2≠0 then (([]:List dH),0,(fB m (some x) (t.drop at2)).2.2) else (x::(fB m (some x) (t.drop at2)).1,(dD (t.drop at')).2.1+(fB m (some x) (t.drop at2)).2.1,0)).2.2=0->at3=at'+(if (fB m (some x) (t.drop at2)).2.2≠0 then (([]:List dH),0,(fB m (some x) (t.drop at2)).2.2) else (x::(fB m (some x) (t.drop at2)).1,(dD (t.drop at')).2.1+(fB m (some x) (t.drop at2)).2.1,0)).2.1):=by
    by_cases hq:(fB m (some x) (t.drop at2)).2.2=0
    ·rw [ah (λe=>e hq)]
     intro _;have:=e3 hq;simp only;omega
    ·rw [aj hq]
     intro h;exact absurd h hq
   rw [xP] at ih;rcases hp with ⟨rfl,rfl⟩ | ⟨a,y,rfl,rfl⟩
   ·have hb0:wX none x=0:=rfl
    rw [hb0,ah (by simp)];refine ⟨at3, ?_,hfin⟩;rw [hout];exact ahQ [] n at' at2 t x _ (by simp at hi;omega) (by simp) k ih
   ·by_cases hb:vX y.1 x.1=0
    rotate_left
    ·have hb':wX (some y) x≠0:=hb
     rw [aj hb'];refine ⟨at2, ?_,λh=>absurd h hb⟩;have:yI (a++[y]) t at2 ([],0,wX (some y) x)=[.i .i64 0,.i .i64 (vX y.1 x.1),.s t,.i .i64 at2]:=by unfold yI;rw [aj hb'];rfl
     rw [this];have hl:((a++[y]).length:Int)=(a.length:Int)+1:=by simp
     rw [hl];rw [dS,AO] at hi;exact ahR _ n a.length at' at2 t y x (by omega) (by omega) (by simp) (by simp) hb k
    ·have hb':¬ wX (some y) x≠0:=λe=>e hb
     rw [ah hb'];refine ⟨at3, ?_,hfin⟩;rw [hout];have hl:((a++[y]).length:Int)=(a.length:Int)+1:=by simp
     have hl2:((a++[y]++[x]).length:Int)=(a.length:Int)+1+1:=by simp;omega
     rw [hl];rw [hl2] at ih;rw [dS,AO] at hi;exact ahT _ n a.length at' at2 t y x _ (by omega) (by omega) (by simp;omega) (by simp;omega) (by simp) hb k ih
def yx (e:Int):List dH×Nat×Int:=([],0,e)
/-- A descriptor that stands next. -/
def kW (s:List UInt8):List dH×Nat×Int:=
 if (ak s).2.2≠0 then yx (ak s).2.2 else
 if (ak s).1=0 then yx 12 else
 if 16 < (ak s).1 then yx 13 else
 if (fB (ak s).1 none (s.drop (ak s).2.1)).2.2≠0 then yx (fB (ak s).1 none (s.drop (ak s).2.1)).2.2 else
 ((fB (ak s).1 none (s.drop (ak s).2.1)).1,(ak s).2.1+(fB (ak s).1 none (s.drop (ak s).2.1)).2.1,0)
theorem ahM (t:List UInt8) (at':Nat) (h:at'<=t.length) (ht:t.length<=100000000) :
 ∃at2:Nat,TT.lim 116 [.s t,.i .i64 at']=some [.i .i64 0,.l ((kW (t.drop at')).1.map ent),.i .i64 (kW (t.drop at')).2.2,.s t,.i .i64 at2]/\((kW (t.drop at')).2.2=0->at2=at'+(kW (t.drop at')).2.1):=by
 have k1:=yU t at' h (by omega);unfold kW;by_cases he:(ak (t.drop at')).2.2=0;rotate_left
 ·obtain ⟨e1,e2⟩:=FH he
  rw [e1,e2] at k1;rw [aj he];generalize (ak (t.drop at')).2.2=e at *;refine ⟨at',aB rfl rfl ?_,λh=>absurd h he⟩;simp [k1,he,yx]
 obtain ⟨v1,v2,v3,v4,_⟩:=ji he;rw [ah (λe=>e he)];rw [he] at k1;rw [dW] at v3;rw [oq];by_cases h16:16 < (ak (t.drop at')).1
 ·have h0:¬ (ak (t.drop at')).1=0:=by omega
  have zN:(16:Int) < ((ak (t.drop at')).1:Nat):=by omega
  rw [ah h0,aj h16];generalize (ak (t.drop at')).1=n at *;generalize (ak (t.drop at')).2.1=i at *;refine ⟨at'+i,aB rfl rfl ?_,λh=>by cases h⟩;simp only [AB] at k1;simp [k1,h0,h16,zN,yx]
 obtain ⟨at2,k2,e2⟩:=ZY t ht (ak (t.drop at')).1 (by omega) (ak (t.drop at')).1 [] none (at'+(ak (t.drop at')).2.1) (by simp) (.inl ⟨rfl,rfl⟩) (by omega);generalize (ak (t.drop at')).1=n at *;generalize (ak (t.drop at')).2.1=i at *;by_cases h0:n=0
 ·rw [aj h0]
  have h0':((n:Int)=0)=True:=eq_true (by omega);refine ⟨at'+i,aB rfl rfl ?_,λh=>by cases h⟩;simp only [AB] at k1;simp [k1,h0,h0',yx]
 rw [ah h0,ah h16];have zN:¬ (16:Int) < (n:Int):=by omega
 have w:=wrap64 (n:=(n:Int)) (by omega) (by omega);have hc:(0:Int)<=(n:Int)/\32 * (n:Int)<=281474976710656/\(n:Int)<=1152921504606846976:=by omega
 have k2':TT.lim 117 [.l [],.i .i64 n,.i .i64 0,.s t,.i .i64 ((at':Int)+(i:Int))]=_:=k2;generalize hdl:fB n none (t.drop (at'+i))=r at *;refine ⟨at2,aB rfl rfl ?_,λh=>?_⟩
 ·simp only [AB] at k1
  unfold yI at k2';by_cases hq:r.2.2=0
  ·simp only [hq,ne_eq,not_true_eq_false,if_false,dA] at k2' ⊢
   simp [k1,h0,h16,zN,w,hc,k2',GV.fJ]
  ·simp only [hq,ne_eq,not_false_eq_true,if_true] at k2' ⊢
   simp [k1,h0,h16,zN,w,hc,k2',GV.fJ,yx]
 ·by_cases hq:r.2.2=0
  ·rw [ah (λe=>e hq)]
   have:=e2 hq;simp only;omega
  ·rw [aj hq] at h
   exact absurd h hq
/-- A whole text, as a descriptor. -/
def nJ (s:List UInt8):List dH×Int:=
 if (kW s).2.2≠0 then ([],(kW s).2.2) else if (kW s).2.1 < s.length then ([],10) else ((kW s).1,0)
theorem Tn:∀ (m:Nat) (p:Option dH) (s:List UInt8),(fB m p s).2.2=0->(fB m p s).2.1<=s.length/\(fB m p s).1.length=m/\∀x∈(fB m p s).1,oW x=0/\x.1.length<=s.length/\x.2.length<=s.length
 | 0,p,s,_=>by simp [fB]
 | m+1,p,s,h=>by
   rw [NW] at h ⊢;by_cases h1:(dD s).2.2=0;rotate_left
   ·rw [aj h1] at h;exact absurd h h1
   rw [ah (λe=>e h1)] at h ⊢;by_cases h2:wX p (dD s).1=0;rotate_left
   ·rw [aj h2] at h;exact absurd h h2
   rw [ah (λe=>e h2)] at h ⊢;by_cases h3:(fB m (some (dD s).1) (s.drop (dD s).2.1)).2.2=0;rotate_left
   ·rw [aj h3] at h;exact absurd h h3
   rw [ah (λe=>e h3)];obtain ⟨a1,a2,a3,a4,a5,_⟩:=N8 h1;obtain ⟨b1,b2,b3⟩:=Tn m (some (dD s).1) _ h3;rw [dW] at b1;refine ⟨by simp only;omega,by simp [b2],λx hx=>?_⟩;rcases dh.1 hx with rfl | hx
   ·exact ⟨a3,a4,a5⟩
   ·obtain ⟨c1,c2,c3⟩:=b3 x hx
    rw [dW] at c2 c3;exact ⟨c1,by omega,by omega⟩
theorem Z7 {s:List UInt8} (h:(kW s).2.2=0):(ak s).2.2=0/\0 < (ak s).1/\(ak s).1<=16/\(fB (ak s).1 none (s.drop (ak s).2.1)).2.2=0/\(kW s).1=(fB (ak s).1 none (s.drop (ak s).2.1)).1/\
 (kW s).2.1=(ak s).2.1+(fB (ak s).1 none (s.drop (ak s).2.1)).2.1/\(kW s).2.1<=s.length:=by
 unfold kW at h ⊢;by_cases h1:(ak s).2.2=0;rotate_left
 ·rw [aj h1] at h;exact absurd h h1
 rw [ah (λe=>e h1)] at h ⊢;by_cases h2:(ak s).1=0
 ·rw [aj h2] at h;exact absurd h (by simp [yx])
 rw [ah h2] at h ⊢;by_cases h3:16 < (ak s).1
 ·rw [aj h3] at h;exact absurd h (by simp [yx])
 rw [ah h3] at h ⊢;by_cases h4:(fB (ak s).1 none (s.drop (ak s).2.1)).2.2=0;rotate_left
 ·rw [aj h4] at h;exact absurd h h4
 rw [ah (λe=>e h4)];obtain ⟨v1,v2,v3,_,_⟩:=ji h1;obtain ⟨d1,_,_⟩:=Tn _ _ _ h4;rw [dW] at d1;exact ⟨h1,by omega,by omega,h4,rfl,rfl,by simp only;omega⟩
theorem Z8 (s:List UInt8) (hs:s.length<=100000000):TT.lim 115 [.s s]=some [.l ((nJ s).1.map ent),.i .i64 (nJ s).2]:=by
 obtain ⟨at2,k,e2⟩:=ahM s 0 (by omega) hs;rw [eP,show ((0:Nat):Int)=0 from rfl] at k;rw [eP] at e2;unfold nJ;by_cases h1:(kW s).2.2=0;rotate_left
 ·rw [aj h1]
  generalize kW s=r at *;refine aY rfl rfl ?_ (by rfl);simp [k,h1]
 have e2:=e2 h1;obtain ⟨_,_,_,_,_,_,a7⟩:=Z7 h1;rw [ah (λe=>e h1)];rw [h1] at k;rw [jr] at e2;have w:=wrap64 (n:=(s.length:Int) - (at2:Int)) (by omega) (by omega);rw [<- e2] at a7 ⊢;generalize kW s=r at *;by_cases h2:at2 < s.length
 ·rw [aj h2]
  refine aY rfl rfl ?_ rfl;simp [k,w,h2]
 ·rw [ah h2]
  refine aY rfl rfl ?_ rfl;simp [k,w,h2]
def E8 (e:Int):Row×Nat×Int:=(([],0),0,e)
/-- The row of a key, whose number stands next. -/
def fO (key s:List UInt8):Row×Nat×Int:=
 if (nJ key).2≠0 then E8 (nJ key).2 else
 if (ak s).2.2≠0 then E8 (ak s).2.2 else
 if (ak s).1=0 then E8 17 else (((nJ key).1,((ak s).1:Nat)),(ak s).2.1,0)
theorem WM {key s:List UInt8} (h:(fO key s).2.2=0):(nJ key).2=0/\(ak s).2.2=0/\(ak s).1≠0/\(fO key s).1=((nJ key).1,(((ak s).1:Nat):Int))/\(fO key s).2.1=(ak s).2.1:=by
 unfold fO at h ⊢;by_cases h1:(nJ key).2=0;rotate_left
 ·rw [aj h1] at h;exact absurd h h1
 rw [ah (λe=>e h1)] at h ⊢;by_cases h2:(ak s).2.2=0;rotate_left
 ·rw [aj h2] at h;exact absurd h h2
 rw [ah (λe=>e h2)] at h ⊢;by_cases h3:(ak s).1=0
 ·rw [aj h3] at h;exact absurd h (by simp [E8])
 rw [ah h3];exact ⟨h1,h2,h3,rfl,rfl⟩
theorem rowP (key t:List UInt8) (at':Nat) (h:at'<=t.length) (ht:t.length<=100000000) (hk:key.length<=100000000) :
 ∃at2:Nat,TT.lim 124 [.s key,.s t,.i .i64 at']=some [.i .i64 0,.l ((fO key (t.drop at')).1.1.map ent),.i .u64 (fO key (t.drop at')).1.2,.i .i64 (fO key (t.drop at')).2.2,.s t,.i .i64 at2]/\
  ((fO key (t.drop at')).2.2=0->at2=at'+(fO key (t.drop at')).2.1):=by
 have k1:=Z8 key hk;have k2:=yU t at' h (by omega);unfold fO;generalize nJ key=D at *;by_cases h1:D.2=0;rotate_left
 ·rw [aj h1]
  refine ⟨at',aB rfl rfl ?_,λh=>absurd h h1⟩;simp [k1,h1,E8]
 rw [ah (λe=>e h1)];by_cases h2:(ak (t.drop at')).2.2=0;rotate_left
 ·obtain ⟨e1,e2⟩:=FH h2
  rw [e1,e2] at k2;rw [aj h2];generalize ak (t.drop at')=V at *;refine ⟨at',aB rfl rfl ?_,λh=>absurd h h2⟩;simp [k1,k2,h1,h2,E8]
 rw [ah (λe=>e h2)];rw [h2] at k2;simp only [AB] at k2;generalize ak (t.drop at')=V at *;by_cases h3:V.1=0
 ·rw [aj h3]
  rw [h3] at k2;refine ⟨at'+V.2.1,aB rfl rfl ?_,λh=>by cases h⟩;simp [k1,k2,h1,E8]
 ·rw [ah h3]
  refine ⟨at'+V.2.1,aB rfl rfl ?_,λ_=>rfl⟩;simp [k1,k2,h1,h3]
/-- Rows, one behind the other. -/
def fQ:Nat->List UInt8->Bool->List UInt8->List Row×Nat×Int
 | 0,_,_,_=>([],0,0)
 | m+1,a,first,s=>if (bD s a first).2.2≠0 then ([],0,(bD s a first).2.2) else
   if (fO (bD s a first).1 (s.drop (bD s a first).2.1)).2.2≠0 then ([],0,(fO (bD s a first).1 (s.drop (bD s a first).2.1)).2.2) else
   if (fQ m (bD s a first).1 false (s.drop ((bD s a first).2.1+(fO (bD s a first).1 (s.drop (bD s a first).2.1)).2.1))).2.2≠0 then ([],0,(fQ m (bD s a first).1 false (s.drop ((bD s a first).2.1+(fO (bD s a first).1 (s.drop (bD s a first).2.1)).2.1))).2.2) else
   ((fO (bD s a first).1 (s.drop (bD s a first).2.1)).1::(fQ m (bD s a first).1 false (s.drop ((bD s a first).2.1+(fO (bD s a first).1 (s.drop (bD s a first).2.1)).2.1))).1,
    (bD s a first).2.1+(fO (bD s a first).1 (s.drop (bD s a first).2.1)).2.1+(fQ m (bD s a first).1 false (s.drop ((bD s a first).2.1+(fO (bD s a first).1 (s.drop (bD s a first).2.1)).2.1))).2.1,0)
theorem Qb (m:Nat) (a:List UInt8) (first:Bool) (s:List UInt8):fQ (m+1) a first s=if (bD s a first).2.2≠0 then ([],0,(bD s a first).2.2) else
 if (fO (bD s a first).1 (s.drop (bD s a first).2.1)).2.2≠0 then ([],0,(fO (bD s a first).1 (s.drop (bD s a first).2.1)).2.2) else
 if (fQ m (bD s a first).1 false (s.drop ((bD s a first).2.1+(fO (bD s a first).1 (s.drop (bD s a first).2.1)).2.1))).2.2≠0 then ([],0,(fQ m (bD s a first).1 false (s.drop ((bD s a first).2.1+(fO (bD s a first).1 (s.drop (bD s a first).2.1)).2.1))).2.2) else
 ((fO (bD s a first).1 (s.drop (bD s a first).2.1)).1::(fQ m (bD s a first).1 false (s.drop ((bD s a first).2.1+(fO (bD s a first).1 (s.drop (bD s a first).2.1)).2.1))).1,
  (bD s a first).2.1+(fO (bD s a first).1 (s.drop (bD s a first).2.1)).2.1+(fQ m (bD s a first).1 false (s.drop ((bD s a first).2.1+(fO (bD s a first).1 (s.drop (bD s a first).2.1)).2.1))).2.1,0):=rfl
def yK (acc:List Row) (t:List UInt8) (at2:Nat) (r:List Row×Nat×Int):List GV:=if r.2.2≠0 then [.i .i64 0,.i .i64 r.2.2,.s t,.i .i64 at2] else [.i .i64 1,.l ((acc++r.1).map row),.s t,.i .i64 at2]
theorem am3 (L:List GV) (a t X:List UInt8) (n i at' at2:Int) (first:Bool) (e:Int) (h:i < n) (hf:decide (i=0)=first) (he:¬ e=0)
 (k:TT.lim 123 [.s t,.i .i64 at',.s a,.b first]=some [.i .i64 0,.s X,.i .i64 e,.s t,.i .i64 at2]) :
 TT.lim 122 [.l L,.s a,.i .i64 n,.i .i64 i,.s t,.i .i64 at']=some [.i .i64 0,.i .i64 e,.s t,.i .i64 at2]:=by
 refine aB rfl rfl ?_;simp [h,hf,k,he]
theorem am5 (L:List GV) (a t X:List UInt8) (D:List GV) (N:Int) (n i at' at2 at3:Int) (first:Bool) (e:Int) (h:i < n) (hf:decide (i=0)=first) (he:¬ e=0)
 (k:TT.lim 123 [.s t,.i .i64 at',.s a,.b first]=some [.i .i64 0,.s X,.i .i64 0,.s t,.i .i64 at2])
 (k2:TT.lim 124 [.s X,.s t,.i .i64 at2]=some [.i .i64 0,.l D,.i .u64 N,.i .i64 e,.s t,.i .i64 at3]) :
 TT.lim 122 [.l L,.s a,.i .i64 n,.i .i64 i,.s t,.i .i64 at']=some [.i .i64 0,.i .i64 e,.s t,.i .i64 at3]:=by
 refine aB rfl rfl ?_;simp [h,hf,k,k2,he]
theorem am4 (L:List GV) (a t X:List UInt8) (D:List GV) (N:Int) (n i at' at2 at3:Int) (first:Bool) (R:List GV) (h:i < n) (hf:decide (i=0)=first) (hw:IntKind.i64.wrap (i+1)=i+1) (hb:L.length<=100000000)
 (k:TT.lim 123 [.s t,.i .i64 at',.s a,.b first]=some [.i .i64 0,.s X,.i .i64 0,.s t,.i .i64 at2])
 (k2:TT.lim 124 [.s X,.s t,.i .i64 at2]=some [.i .i64 0,.l D,.i .u64 N,.i .i64 0,.s t,.i .i64 at3])
 (ih:TT.lim 122 [.l (L++[.g [.l D,.i .u64 N]]),.s X,.i .i64 n,.i .i64 (i+1),.s t,.i .i64 at3]=some R) :
 TT.lim 122 [.l L,.s a,.i .i64 n,.i .i64 i,.s t,.i .i64 at']=some R:=by
 have hbb:2 * (L.length+1) * 32<=281474976710656/\L.length+1<=281474976710656:=by omega
 refine aB rfl rfl ?_;simp [h,hf,k,k2,hw,GV.fJ,hbb,ih]
theorem adh (t:List UInt8) (ht:t.length<=100000000) (n:Nat) (hn:n<=1000):∀ (m:Nat) (acc:List Row) (a:List UInt8) (at':Nat),acc.length+m=n->at'<=t.length->a.length<=at'->
 ∃at2:Nat,TT.lim 122 [.l (acc.map row),.s a,.i .i64 n,.i .i64 acc.length,.s t,.i .i64 at']=some (yK acc t at2 (fQ m a (decide ((acc.length:Int)=0)) (t.drop at')))/\
  ((fQ m a (decide ((acc.length:Int)=0)) (t.drop at')).2.2=0->at2=at'+(fQ m a (decide ((acc.length:Int)=0)) (t.drop at')).2.1)
 | 0,acc,a,at',hi,h,ha=>by
   have hlt:¬ ((acc.length:Int) < (n:Int)):=by omega
   refine ⟨at', ?_,λ_=>by simp [fQ]⟩;unfold fQ yK;simp only [ne_eq,not_true_eq_false,if_false,mD];generalize acc.map row=L at *;refine aB rfl rfl ?_;simp [hlt]
 | m+1,acc,a,at',hi,h,ha=>by
   obtain ⟨at2,k,e2⟩:=amY t a (decide ((acc.length:Int)=0)) at' h ht (by omega);rw [Qb];generalize hf:decide ((acc.length:Int)=0)=first at *
   by_cases h1:(bD (t.drop at') a first).2.2=0;rotate_left
   ·rw [aj h1]
    refine ⟨at2, ?_,λh=>absurd h h1⟩;have:yK acc t at2 ([],0,(bD (t.drop at') a first).2.2)=[.i .i64 0,.i .i64 (bD (t.drop at') a first).2.2,.s t,.i .i64 at2]:=by unfold yK;rw [aj h1]
    rw [this];exact am3 _ _ _ _ _ _ _ _ _ _ (by omega) hf h1 k
   rw [ah (λe=>e h1)];rw [h1] at k;have e2:=e2 h1;obtain ⟨a1,a2,a3⟩:=WC h1;rw [dW] at a2;have hdd:∀j,(t.drop at').drop ((bD (t.drop at') a first).2.1+j)=t.drop (at2+j):=by intro j;rw [oq,e2,iM]
   have ajy:(t.drop at').drop (bD (t.drop at') a first).2.1=t.drop at2:=by rw [oq,e2]
   have hal:(bD (t.drop at') a first).1.length<=at2:=by split at a3<;>omega
   rw [hdd,ajy];generalize (bD (t.drop at') a first).1=X at *;generalize (bD (t.drop at') a first).2.1=j1 at *;obtain ⟨at3,k2,e3⟩:=rowP X t at2 (by omega) ht (by omega);by_cases h2:(fO X (t.drop at2)).2.2=0;rotate_left
   ·rw [aj h2]
    refine ⟨at3, ?_,λh=>absurd h h2⟩;have:yK acc t at3 ([],0,(fO X (t.drop at2)).2.2)=[.i .i64 0,.i .i64 (fO X (t.drop at2)).2.2,.s t,.i .i64 at3]:=by unfold yK;rw [aj h2]
    rw [this];exact am5 _ _ _ _ _ _ _ _ _ _ _ _ _ (by omega) hf h2 k k2
   rw [ah (λe=>e h2)];rw [h2] at k2;have e3:=e3 h2;obtain ⟨_,q2,_,_,q5⟩:=WM h2;obtain ⟨v1,v2,v3,_,_⟩:=ji q2;rw [dW] at v3;have e3':at2+(fO X (t.drop at2)).2.1=at3:=e3.symm;rw [e3'];have hrow:GV.g [.l ((fO X (t.drop at2)).1.1.map ent),.i .u64 (fO X (t.drop at2)).1.2]=row (fO X (t.drop at2)).1:=rfl;obtain ⟨at4,ih,e4⟩:=adh t ht n hn m (acc++[(fO X (t.drop at2)).1]) X at3 (by rw [dS,AO];omega) (by omega) (by omega);have hfalse:decide (((acc++[(fO X (t.drop at2)).1]).length:Int)=0)=false:=by simp;omega
   have hl:((acc++[(fO X (t.drop at2)).1]).length:Int)=(acc.length:Int)+1:=by simp
   rw [hfalse] at ih e4;rw [hl,xP] at ih;generalize (fO X (t.drop at2)).1=Q at *;generalize (fO X (t.drop at2)).2.1=j2 at *;have hout:yK acc t at4 (if (fQ m X false (t.drop at3)).2.2≠0 then ([],0,(fQ m X false (t.drop at3)).2.2) else (Q::(fQ m X false (t.drop at3)).1,j1+j2+(fQ m X false (t.drop at3)).2.1,0))=yK (acc++[Q]) t at4 (fQ m X false (t.drop at3)):=by
    unfold yK;by_cases hq:(fQ m X false (t.drop at3)).2.2=0
    ·simp [hq]
    ·simp [hq]
   refine ⟨at4, ?_, ?_⟩
   ·rw [hout]
    exact am4 _ _ _ _ _ _ _ _ _ _ _ _ _ (by omega) hf (wrap64 (by omega) (by omega)) (by simp;omega) k k2 (by rw [hrow];exact ih)
   ·by_cases hq:(fQ m X false (t.drop at3)).2.2=0
    ·rw [ah (λe=>e hq)]
     intro _;have:=e4 hq;simp only;omega
    ·rw [aj hq]
     intro h;exact absurd h hq
def Ei (e:Int):List Row×Nat×Int:=([],0,e)
/-- A table that stands next. -/
def kN (s:List UInt8):List Row×Nat×Int:=
 if (ak s).2.2≠0 then Ei (ak s).2.2 else
 if 256 < (ak s).1 then Ei 13 else
 if (fQ (ak s).1 [] true (s.drop (ak s).2.1)).2.2≠0 then Ei (fQ (ak s).1 [] true (s.drop (ak s).2.1)).2.2 else
 ((fQ (ak s).1 [] true (s.drop (ak s).2.1)).1,(ak s).2.1+(fQ (ak s).1 [] true (s.drop (ak s).2.1)).2.1,0)
theorem akv (t:List UInt8) (at':Nat) (h:at'<=t.length) (ht:t.length<=100000000) :
 ∃at2:Nat,TT.lim 121 [.s t,.i .i64 at']=some [.i .i64 0,.l ((kN (t.drop at')).1.map row),.i .i64 (kN (t.drop at')).2.2,.s t,.i .i64 at2]/\((kN (t.drop at')).2.2=0->at2=at'+(kN (t.drop at')).2.1):=by
 have k1:=yU t at' h (by omega);unfold kN;by_cases he:(ak (t.drop at')).2.2=0;rotate_left
 ·obtain ⟨e1,e2⟩:=FH he
  rw [e1,e2] at k1;rw [aj he];generalize (ak (t.drop at')).2.2=e at *;refine ⟨at',aB rfl rfl ?_,λh=>absurd h he⟩;simp [k1,he,Ei]
 obtain ⟨v1,v2,v3,v4,_⟩:=ji he;rw [ah (λe=>e he)];rw [he] at k1;rw [dW] at v3;rw [oq];by_cases h16:256 < (ak (t.drop at')).1
 ·have zN:(256:Int) < ((ak (t.drop at')).1:Nat):=by omega
  rw [aj h16];generalize (ak (t.drop at')).1=n at *;generalize (ak (t.drop at')).2.1=i at *;refine ⟨at'+i,aB rfl rfl ?_,λh=>by cases h⟩;simp only [AB] at k1;simp [k1,h16,zN,Ei]
 obtain ⟨at2,k2,e2⟩:=adh t ht (ak (t.drop at')).1 (by omega) (ak (t.drop at')).1 [] [] (at'+(ak (t.drop at')).2.1) (by simp) (by omega) (by simp);generalize (ak (t.drop at')).1=n at *;generalize (ak (t.drop at')).2.1=i at *;rw [ah h16];have zN:¬ (256:Int) < (n:Int):=by omega
 have w:=wrap64 (n:=(n:Int)) (by omega) (by omega);have hc:(0:Int)<=(n:Int)/\32 * (n:Int)<=281474976710656/\(n:Int)<=1152921504606846976:=by omega
 rw [show decide ((([]:List Row).length:Int)=0)=true from rfl] at k2 e2;have k2':TT.lim 122 [.l [],.s [],.i .i64 n,.i .i64 0,.s t,.i .i64 ((at':Int)+(i:Int))]=_:=k2;generalize fQ n [] true (t.drop (at'+i))=r at *;refine ⟨at2,aB rfl rfl ?_,λh=>?_⟩
 ·simp only [AB] at k1
  unfold yK at k2';by_cases hq:r.2.2=0
  ·simp only [hq,ne_eq,not_true_eq_false,if_false,dA] at k2' ⊢
   simp [k1,h16,zN,w,hc,k2',GV.fJ]
  ·simp only [hq,ne_eq,not_false_eq_true,if_true] at k2' ⊢
   simp [k1,h16,zN,w,hc,k2',GV.fJ,Ei]
 ·by_cases hq:r.2.2=0
  ·rw [ah (λe=>e hq)]
   have:=e2 hq;simp only;omega
  ·rw [aj hq] at h
   exact absurd h hq
/-- A whole text, as a table. -/
def lZ (s:List UInt8):List Row×Int:=
 if (kN s).2.2≠0 then ([],(kN s).2.2) else if (kN s).2.1 < s.length then ([],10) else ((kN s).1,0)
theorem WB:∀ (m:Nat) (a:List UInt8) (first:Bool) (s:List UInt8),(fQ m a first s).2.2=0->(fQ m a first s).2.1<=s.length/\(fQ m a first s).1.length=m
 | 0,a,first,s,_=>by simp [fQ]
 | m+1,a,first,s,h=>by
   rw [Qb] at h ⊢;by_cases h1:(bD s a first).2.2=0;rotate_left
   ·rw [aj h1] at h;exact absurd h h1
   rw [ah (λe=>e h1)] at h ⊢;by_cases h2:(fO (bD s a first).1 (s.drop (bD s a first).2.1)).2.2=0;rotate_left
   ·rw [aj h2] at h;exact absurd h h2
   rw [ah (λe=>e h2)] at h ⊢;by_cases h3:(fQ m (bD s a first).1 false (s.drop ((bD s a first).2.1+(fO (bD s a first).1 (s.drop (bD s a first).2.1)).2.1))).2.2=0;rotate_left
   ·rw [aj h3] at h;exact absurd h h3
   rw [ah (λe=>e h3)];obtain ⟨a1,a2,_⟩:=WC h1;obtain ⟨_,q2,_,_,q5⟩:=WM h2;obtain ⟨v1,v2,v3,_,_⟩:=ji q2;rw [dW] at v3;obtain ⟨b1,b2⟩:=WB m _ _ _ h3;rw [dW] at b1;exact ⟨by simp only;omega,by simp [b2]⟩
theorem abq {s:List UInt8} (h:(kN s).2.2=0):(ak s).2.2=0/\(ak s).1<=256/\(fQ (ak s).1 [] true (s.drop (ak s).2.1)).2.2=0/\(kN s).1=(fQ (ak s).1 [] true (s.drop (ak s).2.1)).1/\
 (kN s).2.1=(ak s).2.1+(fQ (ak s).1 [] true (s.drop (ak s).2.1)).2.1/\(kN s).2.1<=s.length:=by
 unfold kN at h ⊢;by_cases h1:(ak s).2.2=0;rotate_left
 ·rw [aj h1] at h;exact absurd h h1
 rw [ah (λe=>e h1)] at h ⊢;by_cases h3:256 < (ak s).1
 ·rw [aj h3] at h;exact absurd h (by simp [Ei])
 rw [ah h3] at h ⊢;by_cases h4:(fQ (ak s).1 [] true (s.drop (ak s).2.1)).2.2=0;rotate_left
 ·rw [aj h4] at h;exact absurd h h4
 rw [ah (λe=>e h4)];obtain ⟨v1,v2,v3,_,_⟩:=ji h1;obtain ⟨d1,_⟩:=WB _ _ _ _ h4;rw [dW] at d1;exact ⟨h1,by omega,h4,rfl,rfl,by simp only;omega⟩
theorem aqn (s:List UInt8) (hs:s.length<=100000000):TT.lim 120 [.s s]=some [.l ((lZ s).1.map row),.i .i64 (lZ s).2]:=by
 obtain ⟨at2,k,e2⟩:=akv s 0 (by omega) hs;rw [eP,show ((0:Nat):Int)=0 from rfl] at k;rw [eP] at e2;unfold lZ;by_cases h1:(kN s).2.2=0;rotate_left
 ·rw [aj h1]
  generalize kN s=r at *;refine aY rfl rfl ?_ (by rfl);simp [k,h1]
 have e2:=e2 h1;obtain ⟨_,_,_,_,_,a7⟩:=abq h1;rw [ah (λe=>e h1)];rw [h1] at k;rw [jr] at e2;have w:=wrap64 (n:=(s.length:Int) - (at2:Int)) (by omega) (by omega);rw [<- e2] at a7 ⊢;generalize kN s=r at *;by_cases h2:at2 < s.length
 ·rw [aj h2]
  refine aY rfl rfl ?_ rfl;simp [k,w,h2]
 ·rw [ah h2]
  refine aY rfl rfl ?_ rfl;simp [k,w,h2]
def kF:List UInt8->List Row->List UInt8
 | _,[]=>[]
 | a,r::t=>oJ a (iF r.1)++(aJ r.2.toNat++kF (iF r.1) t)
/-- A table, as it is written. -/
def lY (t:List Row):List UInt8:=aJ t.length++kF [] t
def yM (t:List Row):List UInt8×Int:=if vY t≠0 then ([],vY t) else (lY t,0)
theorem WY:∀ (t:List Row) (a:List UInt8),(∀r∈t,iJ r.1=true/\0<=r.2/\r.2 < 18446744073709551616)->(kF a t).length<=40000 * t.length
 | [],a,_=>by simp [kF]
 | r::t,a,h=>by
   obtain ⟨h1,h2,h3⟩:=h r (by simp);have hk:=KG h1;have ho:=acF a (iF r.1) (by omega);have hv:=lD (n:=r.2.toNat) (by omega);have ih:=WY t (iF r.1) λq hq=>h q (by simp [hq]);simp only [kF,dS,iT];omega
theorem akC (L:List GV) (n i:Int) (D:List dH) (N:Int) (a k O V acc:List UInt8) (R:List GV) (j:Nat) (hi:i=j) (h:i < n) (hg:L[j]? = some (row (D,N))) (hw:IntKind.i64.wrap (i+1)=i+1) (k1:TT.lim 7 [.l (D.map ent)]=some [.s k]) (k2:TT.lim 79 [.s a,.s k]=some [.s O])
 (k3:TT.lim 8 [.i .u64 N]=some [.s V]) (hb1:2 * (acc.length+O.length)<=281474976710656/\acc.length+O.length<=281474976710656) (hb2:2 * (acc.length+(O.length+V.length))<=281474976710656/\acc.length+(O.length+V.length)<=281474976710656)
 (ih:TT.lim 78 [.s k,.l L,.i .i64 n,.i .i64 (i+1),.l (bK acc++(bK O++bK V))]=some R) :
 TT.lim 78 [.s a,.l L,.i .i64 n,.i .i64 i,.l (bK acc)]=some R:=by
 subst hi;have ok1:=DJ O;have ok2:=DJ V;refine aB rfl rfl ?_;simp [-List.all_eq_true,h,hg,hw,k1,k2,k3,ok1,ok2,hb1,hb2,iM,ih]
theorem abz (l:List Row) (hl:l.length<=1000) (hf:∀r∈l,iJ r.1=true/\0<=r.2/\r.2 < 18446744073709551616):∀ (m i:Nat) (a acc:List UInt8),i+m=l.length->a.length<=100000->acc.length<=10+40000 * i->
 TT.lim 78 [.s a,.l (l.map row),.i .i64 l.length,.i .i64 i,.l (bK acc)]=some [.i .i64 0,.l (bK (acc++kF a (l.drop i)))]
 | 0,i,a,acc,hi,ha,hacc=>by
   have hd:l.drop i=[]:=gJ (by omega);have h:¬ ((i:Int) < l.length):=by omega
   rw [hd];refine aB rfl rfl ?_;simp [h,kF]
 | m+1,i,a,acc,hi,ha,hacc=>by
   have hlt:i < l.length:=by omega
   obtain ⟨h1,h2,h3⟩:=hf l[i] (jo hlt);have hk:=KG h1;have k1:=O5 l[i].1 h1;have k2:=amc a (iF l[i].1) (by omega) (by omega);have ho:=acF a (iF l[i].1) (by omega);have k3:=vk l[i].2.toNat (by omega);rw [show ((l[i].2.toNat:Nat):Int)=l[i].2 by omega] at k3;have hv:=lD (n:=l[i].2.toNat) (by omega);have ih:=abz l hl hf m (i+1) (iF l[i].1) (acc++(oJ a (iF l[i].1)++aJ l[i].2.toNat)) (by omega) (by omega) (by simp only [dS];omega);have he:acc++kF a (l.drop i)=acc++(oJ a (iF l[i].1)++aJ l[i].2.toNat)++kF (iF l[i].1) (l.drop (i+1)):=by
    rw [jc hlt];simp [kF]
   rw [he];rw [NC acc,NC] at ih;rw [show ((i+1:Nat):Int)=(i:Int)+1 by omega] at ih;exact akC _ _ _ l[i].1 l[i].2 a _ _ _ acc _ i rfl (by omega) (by simp [hlt]) (wrap64 (by omega) (by omega)) k1 k2 k3 (by omega) (by omega) ih
theorem akB (t:List Row) (ht:Rows t) (hf:FP t):TT.lim 77 [.l (t.map row)]=some [.s (yM t).1,.i .i64 (yM t).2]:=by
 have k1:=Zr t ht hf;unfold yM;by_cases hc:vY t=0;rotate_left
 ·rw [aj hc]
  refine aY rfl rfl ?_ (by rfl);simp [k1,hc]
 rw [ah (λe=>e hc)];rw [hc] at k1;have h256:=((SV t).1 hc).1;have Kw:∀r∈t,iJ r.1=true/\0<=r.2/\r.2 < 18446744073709551616:=λr hr=>⟨hf r hr,(ht.2 r hr).2.1,(ht.2 r hr).2.2⟩
 have k2:=vk t.length (by omega);have l2:=lD (n:=t.length) (by omega);have k3:=abz t (by omega) Kw t.length 0 [] (aJ t.length) (by omega) (by simp) (by omega);rw [eP,show ((0:Nat):Int)=0 from rfl] at k3;have hlen:=WY t [] Kw;have w:=jS (n:=(t.length:Int)) (by omega) (by omega);have ok:=DJ (aJ t.length);have hb:2 * (aJ t.length).length<=281474976710656/\(aJ t.length).length<=281474976710656:=by omega
 have hbg:=JJ (lY t);have hpl:(bK (lY t)).length<=281474976710656:=by
  rw [zB];unfold lY;rw [dS];omega
 have hk3:TT.lim 78 [.s [],.l (t.map row),.i .i64 t.length,.i .i64 0,.l (bK (aJ t.length))]=some [.i .i64 0,.l (bK (lY t))]:=k3;generalize bK (lY t)=PG at *;generalize lY t=P at *;generalize hVG:bK (aJ t.length)=VG at *;have hvl:VG.length=(aJ t.length).length:=by rw [<- hVG,zB]
 rw [<- hvl] at hb;have hlm:(t.map row).length=t.length:=by simp
 generalize t.map row=L at *;refine aY rfl rfl ?_ rfl;simp [-List.all_eq_true,k1,hlm,w,k2,hVG,ok,hb,hk3,hbg,hpl]
theorem Tt {x:dH} (h:oW x=0):x.1.length<=64/\x.2.length<=256:=by
 have hu:∀ (s:List UInt8) (lo hi:Int),oK s lo hi=0->(s.length:Int)<=hi:=by
  intro s lo hi h;unfold oK at h;split at h
  ·cases h
  ·split at h
   ·cases h
   ·omega
 unfold oW at h;by_cases h1:oK x.1 1 64=0
 ·rw [ah (λe=>e h1)] at h
  have a:=hu _ _ _ h1;have b:=hu _ _ _ h;omega
 ·rw [aj h1] at h;exact absurd h h1
theorem aer {s:List UInt8} (h:(dR s).2.2=0):aJ (dR s).1.length++(dR s).1=s.take (dR s).2.1:=by
 unfold dR at h ⊢;by_cases h1:(ak s).2.2=0;rotate_left
 ·rw [aj h1] at h;exact absurd h h1
 rw [ah (λe=>e h1)] at h ⊢;obtain ⟨v1,v2,v3,v4,v5⟩:=ji h1;by_cases h2:s.length - (ak s).2.1 < (ak s).1
 ·rw [aj h2] at h;cases h
 rw [ah h2];simp only [jP,dW];rw [F8 (by omega),v5,sQ]
theorem ahY {s:List UInt8} (h:(dD s).2.2=0):iI (dD s).1=s.take (dD s).2.1:=by
 obtain ⟨_,_,_,_,_,h1,h2,h3,h4⟩:=N8 h;rw [h3,h4];unfold iI;simp only;have p1:=aer h1;have p2:=aer h2;rw [p1,List.append_assoc,p2,sQ]
theorem Z5:∀ (m:Nat) (p:Option dH) (s:List UInt8),(fB m p s).2.2=0->(fB m p s).1.flatMap iI=s.take (fB m p s).2.1/\oV (p.map (·.1)) (fB m p s).1=0
 | 0,p,s,_=>by simp [fB,oV]
 | m+1,p,s,h=>by
   rw [NW] at h ⊢;by_cases h1:(dD s).2.2=0;rotate_left
   ·rw [aj h1] at h;exact absurd h h1
   rw [ah (λe=>e h1)] at h ⊢;by_cases h2:wX p (dD s).1=0;rotate_left
   ·rw [aj h2] at h;exact absurd h h2
   rw [ah (λe=>e h2)] at h ⊢;by_cases h3:(fB m (some (dD s).1) (s.drop (dD s).2.1)).2.2=0;rotate_left
   ·rw [aj h3] at h;exact absurd h h3
   rw [ah (λe=>e h3)];obtain ⟨b1,b2⟩:=Z5 m (some (dD s).1) _ h3;obtain ⟨_,_,a3,_⟩:=N8 h1;have p1:=ahY h1;refine ⟨by simp only [jl,b1,p1,sQ], ?_⟩;unfold oV;rw [ah (λe=>e a3)];cases p with
   | none=>exact b2
   | some k=>
     have h2':vX k.1 (dD s).1.1=0:=h2;unfold vX at h2';simp only [gI];by_cases c1:(dD s).1.1=k.1
     ·rw [aj c1] at h2';exact absurd h2' (by decide)
     rw [ah c1] at h2' ⊢;by_cases c2:Op.bytesLess (dD s).1.1 k.1=true
     ·rw [aj c2] at h2';exact absurd h2' (by decide)
     rw [ah c2];exact b2
structure X5 (d:List dH) (key:List UInt8):Prop where
 chk:uU d=0
 few:iJ d=true
 ents:uK d
 put:iF d=key
theorem ahO {s:List UInt8} (h:(kW s).2.2=0) (hs:s.length<=100000000):X5 (kW s).1 (s.take (kW s).2.1):=by
 obtain ⟨a1,a2,a3,a4,a5,a6,a7⟩:=Z7 h;obtain ⟨b1,b2,b3⟩:=Tn _ _ _ a4;obtain ⟨c1,c2⟩:=Z5 _ _ _ a4;obtain ⟨v1,v2,v3,v4,v5⟩:=ji a1;rw [a5,a6];refine ⟨?_, ?_,⟨by omega,λx hx=>?_⟩, ?_⟩
 ·unfold uU
  rw [ah (by omega),ah (by omega)];exact c2
 ·unfold iJ
  rw [aI,decide_eq_true_iff,List.all_eq_true];refine ⟨λx hx=>?_,by omega⟩;obtain ⟨e1,e2⟩:=Tt (b3 x hx).1;unfold qV;rw [decide_eq_true_iff];omega
 ·obtain ⟨e1,e2⟩:=Tt (b3 x hx).1
  omega
 ·unfold iF
  rw [b2,v5,c1,sQ]
theorem Tq {s:List UInt8} (h:(nJ s).2=0) (hs:s.length<=100000000):X5 (nJ s).1 s:=by
 unfold nJ at h ⊢;by_cases h1:(kW s).2.2=0;rotate_left
 ·rw [aj h1] at h;exact absurd h h1
 rw [ah (λe=>e h1)] at h ⊢;by_cases h2:(kW s).2.1 < s.length
 ·rw [aj h2] at h;exact absurd h (by simp)
 rw [ah h2];have:=ahO h1 hs;rw [jJ (by omega)] at this;exact this
theorem am0 {s a:List UInt8} {first:Bool} (h:(bD s a first).2.2=0) (hf:first=true->a=[]):oJ a (bD s a first).1=s.take (bD s a first).2.1/\(first=false->a < (bD s a first).1):=by
 have ha:(if first=true then [] else a)=a:=by
  cases first with
  | true=>rw [aj rfl,hf rfl]
  | false=>rfl
 unfold bD at h ⊢;simp only [ha] at h ⊢;by_cases h1:(ak s).2.2=0;rotate_left
 ·rw [aj h1] at h;exact absurd h h1
 rw [ah (λe=>e h1)] at h ⊢;by_cases h2:a.length < (ak s).1
 ·rw [aj h2] at h;exact absurd h (by simp [kR])
 rw [ah h2] at h ⊢;by_cases h3:(ak (s.drop (ak s).2.1)).2.2=0;rotate_left
 ·rw [aj h3] at h;exact absurd h h3
 rw [ah (λe=>e h3)] at h ⊢;by_cases h4:s.length - ((ak s).2.1+(ak (s.drop (ak s).2.1)).2.1) < (ak (s.drop (ak s).2.1)).1
 ·rw [aj h4] at h;exact absurd h (by simp [kR])
 rw [ah h4] at h ⊢;obtain ⟨v1,v2,v3,v4,v5⟩:=ji h1;obtain ⟨u1,u2,u3,u4,u5⟩:=ji h3;have hx:((s.drop ((ak s).2.1+(ak (s.drop (ak s).2.1)).2.1)).take (ak (s.drop (ak s).2.1)).1).length=(ak (s.drop (ak s).2.1)).1:=by
  rw [jP,dW];omega
 generalize hX:(s.drop ((ak s).2.1+(ak (s.drop (ak s).2.1)).2.1)).take (ak (s.drop (ak s).2.1)).1=X at *;by_cases h5:first=false/\Op.bytesLess a (a.take (ak s).1++X)=false
 ·rw [aj h5] at h;exact absurd h (by simp [kR])
 rw [ah h5] at h ⊢;by_cases h6:(ak s).1 < common a (a.take (ak s).1++X)
 ·rw [aj h6] at h;exact absurd h (by simp [kR])
 rw [ah h6];have hge:=ZG (ak s).1 a X (by omega);have hc:common a (a.take (ak s).1++X)=(ak s).1:=by omega
 refine ⟨?_,λhf=>?_⟩
 ·unfold oJ
  simp only [hc];have hl:(a.take (ak s).1++X).length - (ak s).1=(ak (s.drop (ak s).2.1)).1:=by
   rw [dS,jP,hx];omega
  have hd:(a.take (ak s).1++X).drop (ak s).1=X:=by
   rw [RF (by rw [jP];omega)];rw [gJ (by rw [jP];omega)];rfl
  rw [hl,hd,v5,u5,<- hX];rw [sQ,sQ,<- oq]
 ·simp only [hf,true_and] at h5
  rw [<- Ny];simpa using h5
theorem adk:∀ (m:Nat) (a:List UInt8) (first:Bool) (s:List UInt8),(fQ m a first s).2.2=0->(first=true->a=[])->a.length+s.length<=100000000->
 kF a (fQ m a first s).1=s.take (fQ m a first s).2.1/\AU (fQ m a first s).1/\(first=false->∀r∈(fQ m a first s).1,a < K r)/\(∀r∈(fQ m a first s).1,uD r=0/\iJ r.1=true/\uK r.1/\0<=r.2/\r.2 < 18446744073709551616)
 | 0,a,first,s,_,_,_=>by simp [fQ,kF,AU]
 | m+1,a,first,s,h,hf,hl=>by
   rw [Qb] at h ⊢;by_cases h1:(bD s a first).2.2=0;rotate_left
   ·rw [aj h1] at h;exact absurd h h1
   rw [ah (λe=>e h1)] at h ⊢;by_cases h2:(fO (bD s a first).1 (s.drop (bD s a first).2.1)).2.2=0;rotate_left
   ·rw [aj h2] at h;exact absurd h h2
   rw [ah (λe=>e h2)] at h ⊢;by_cases h3:(fQ m (bD s a first).1 false (s.drop ((bD s a first).2.1+(fO (bD s a first).1 (s.drop (bD s a first).2.1)).2.1))).2.2=0;rotate_left
   ·rw [aj h3] at h;exact absurd h h3
   rw [ah (λe=>e h3)];obtain ⟨a1,a2,a3⟩:=WC h1;obtain ⟨p1,p2⟩:=am0 h1 hf;obtain ⟨q1,q2,q3,q4,q5⟩:=WM h2;have hxl:(bD s a first).1.length<=a.length+(bD s a first).2.1:=by
    cases first<;>simp at a3<;>omega
   obtain ⟨v1,v2,v3,v4,v5⟩:=ji q2;have dk:=Tq q1 (by omega);obtain ⟨b1,b2,b3,b4⟩:=adk m _ false _ h3 (λe=>by cases e) (by rw [dW];omega);have hK:K (fO (bD s a first).1 (s.drop (bD s a first).2.1)).1=(bD s a first).1:=by rw [q4];exact dk.put
   have hN:(fO (bD s a first).1 (s.drop (bD s a first).2.1)).1.2.toNat=(ak (s.drop (bD s a first).2.1)).1:=by rw [q4];simp
   simp only;refine ⟨?_, ?_,λKw r hr=>?_,λr hr=>?_⟩
   ·show oJ a (K _)++(aJ _++kF (K _) _)=_
    rw [hK,hN,b1,p1,v5,<- q5];rw [sQ,sQ,List.append_assoc]
   ·refine pV.2 ⟨λr hr=>?_,b2⟩
    rw [hK];exact b3 rfl r hr
   ·rcases dh.1 hr with rfl | hr
    ·rw [hK];exact p2 Kw
    ·exact RJ (p2 Kw) (b3 rfl r hr)
   ·rcases dh.1 hr with rfl | hr
    ·rw [q4]
     refine ⟨?_,dk.few,dk.ents,by simp only;omega,by simp only;omega⟩;rw [WX];exact ⟨dk.chk,by simp only;omega⟩
    ·exact b4 r hr
structure wR (t:List Row):Prop where
 ok:Ok t
 few:FP t
 rows:Rows t
theorem wR.tb {t:List Row} (h:wR t):vY t=0:=(SV t).2 h.ok
theorem akx {s:List UInt8} (h:(kN s).2.2=0) (hs:s.length<=100000000):lY (kN s).1=s.take (kN s).2.1/\wR (kN s).1:=by
 obtain ⟨a1,a2,a3,a4,a5,a6⟩:=abq h;obtain ⟨v1,v2,v3,v4,v5⟩:=ji a1;obtain ⟨l1,l2⟩:=WB _ _ _ _ a3;obtain ⟨b1,b2,_,b4⟩:=adk _ _ _ _ a3 (λ_=>rfl) (by rw [dW];simp;omega);rw [a4,a5];refine ⟨?_,⟨by omega,b2,λr hr=>(b4 r hr).1⟩,λr hr=>(b4 r hr).2.1,by omega,λr hr=>(b4 r hr).2.2⟩;unfold lY;rw [l2,v5,b1,sQ]
theorem aew:wR []:=⟨⟨by simp,List.Pairwise.nil,by simp⟩,λr hr=>by simp at hr,by simp,by simp⟩
theorem aex {s:List UInt8} (hs:s.length<=100000000):wR (lZ s).1/\((lZ s).2=0->lY (lZ s).1=s)/\((lZ s).2≠0->(lZ s).1=[]):=by
 unfold lZ;by_cases h1:(kN s).2.2=0;rotate_left
 ·rw [aj h1]
  exact ⟨aew,λh=>absurd h h1,λ_=>rfl⟩
 rw [ah (λe=>e h1)];by_cases h2:(kN s).2.1 < s.length
 ·rw [aj h2]
  exact ⟨aew,λh=>absurd h (by decide),λ_=>rfl⟩
 rw [ah h2];obtain ⟨b1,b2⟩:=akx h1 hs;rw [jJ (by omega)] at b1;exact ⟨b2,λ_=>b1,λh=>absurd rfl h⟩
theorem wR.len {t:List Row} (h:wR t):t.length<=256:=h.ok.1
theorem wR.good {t:List Row} (h:wR t):oh t:=⟨Nat.le_trans h.len (by decide),h.few,h.rows⟩
theorem aep (a x:List UInt8) (ha:a.length<=100000000):dR (aJ a.length++(a++x))=(a,(aJ a.length).length+a.length,0):=by
 have h:=Ar a.length (a++x) (by omega);unfold dR;rw [h];simp only [ne_eq,not_true_eq_false,if_false];have hl:(aJ a.length++(a++x)).length=(aJ a.length).length+(a.length+x.length):=by simp
 rw [hl,ah (by omega),oM,MC]
theorem ahX (e:dH) (y:List UInt8) (h:oW e=0):dD (iI e++y)=(e,(iI e).length,0):=by
 obtain ⟨l1,l2⟩:=Tt h;have e1:iI e++y=aJ e.1.length++(e.1++(aJ e.2.length++(e.2++y))):=by unfold iI;simp
 have h1:=aep e.1 (aJ e.2.length++(e.2++y)) (by omega);have h2:=aep e.2 y (by omega);have hd:(aJ e.1.length++(e.1++(aJ e.2.length++(e.2++y)))).drop ((aJ e.1.length).length+e.1.length)=aJ e.2.length++(e.2++y):=by
  rw [<- List.append_assoc,<- dS,oM]
 have hl:(iI e).length=(aJ e.1.length).length+e.1.length+((aJ e.2.length).length+e.2.length):=by unfold iI;simp;omega
 unfold dD;rw [e1,h1];simp only [ne_eq,not_true_eq_false,if_false,hd,h2];have he:oW (e.1,e.2)=0:=h;rw [he,hl];simp
theorem aga {p:Option (List UInt8)} {x:dH} {xs:List dH} (h:oV p (x::xs)=0):oW x=0/\(∀k,p=some k->vX k x.1=0)/\oV (some x.1) xs=0:=by
 unfold oV at h;by_cases h1:oW x=0;rotate_left
 ·rw [aj h1] at h;exact absurd h h1
 rw [ah (λe=>e h1)] at h;cases p with
 | none=>exact ⟨h1,(λk hk=>by cases hk),h⟩
 | some k=>
   simp only at h;by_cases c1:x.1=k
   ·rw [aj c1] at h;exact absurd h (by decide)
   rw [ah c1] at h;by_cases c2:Op.bytesLess x.1 k=true
   ·rw [aj c2] at h;exact absurd h (by decide)
   rw [ah c2] at h;refine ⟨h1,λk' hk=>?_,h⟩;cases hk;unfold vX;rw [ah c1,ah c2]
theorem Z4:∀ (d:List dH) (p:Option dH) (y:List UInt8),oV (p.map (·.1)) d=0->fB d.length p (d.flatMap iI++y)=(d,(d.flatMap iI).length,0)
 | [],p,y,_=>by simp [fB]
 | x::d,p,y,h=>by
   obtain ⟨h1,h2,h3⟩:=aga h;have he:=ahX x (d.flatMap iI++y) h1;have hs:(x::d).flatMap iI++y=iI x++(d.flatMap iI++y):=by simp
   have ih:=Z4 d (some x) y h3;have hb:wX p x=0:=by
    cases p with
    | none=>rfl
    | some k=>exact h2 k.1 rfl
   rw [iT,NW,hs,he];simp only [ne_eq,not_true_eq_false,if_false,oM,hb,ih];simp
theorem ahN (d:List dH) (y:List UInt8) (h:uU d=0):kW (iF d++y)=(d,(iF d).length,0):=by
 unfold uU at h;by_cases h1:d.length=0
 ·rw [aj h1] at h;exact absurd h (by decide)
 rw [ah h1] at h;by_cases h2:16 < d.length
 ·rw [aj h2] at h;exact absurd h (by decide)
 rw [ah h2] at h;have hv:=Ar d.length (d.flatMap iI++y) (by omega);have hk:iF d++y=aJ d.length++(d.flatMap iI++y):=by unfold iF;simp
 have hl:=Z4 d none y h;unfold kW;rw [hk,hv];simp only [ne_eq,not_true_eq_false,if_false,h1,h2,oM,hl];unfold iF;simp
theorem Z9 (d:List dH) (h:uU d=0):nJ (iF d)=(d,0):=by
 have:=ahN d [] h;rw [mD] at this;unfold nJ;rw [this];simp
theorem agn (a s:List UInt8):a.take (common a s)++s.drop (common a s)=s:=by
 rw [ZH,xR]
theorem amZ (a t y:List UInt8) (first:Bool) (hf:first=true->a=[]) (hn:first=false->a < t) (ht:t.length<=100000000):bD (oJ a t++y) a first=(t,(oJ a t).length,0):=by
 have ha:(if first=true then [] else a)=a:=by
  cases first with
  | true=>rw [aj rfl,hf rfl]
  | false=>rfl
 obtain ⟨c1,c2⟩:=NT a t;have e1:oJ a t++y=aJ (common a t)++(aJ (t.length - common a t)++(t.drop (common a t)++y)):=by unfold oJ;simp
 have v1:=Ar (common a t) (aJ (t.length - common a t)++(t.drop (common a t)++y)) (by omega);have v2:=Ar (t.length - common a t) (t.drop (common a t)++y) (by omega);have hl:(oJ a t).length=(aJ (common a t)).length+(aJ (t.length - common a t)).length+(t.length - common a t):=by unfold oJ;simp;omega
 have hd:(aJ (common a t)++(aJ (t.length - common a t)++(t.drop (common a t)++y))).drop ((aJ (common a t)).length+(aJ (t.length - common a t)).length)=t.drop (common a t)++y:=by
  rw [<- List.append_assoc,<- dS,oM]
 have hx:(t.drop (common a t)++y).take (t.length - common a t)=t.drop (common a t):=by
  rw [<- dW,MC]
 have hb:¬ (first=false/\Op.bytesLess a t=false):=by
  rintro ⟨h1,h2⟩
  have:=(Ny a t).2 (hn h1);rw [h2] at this;cases this
 unfold bD;simp only [ha];rw [e1,v1];simp only [ne_eq,not_true_eq_false,if_false,oM,v2,hd,hx,agn];rw [ah (by omega),ah (by simp;omega),ah hb,ah (by omega),hl]
theorem adi:∀ (l:List Row) (a:List UInt8) (first:Bool) (y:List UInt8),(first=true->a=[])->(first=false->∀r∈l,a < K r)->AU l->(∀r∈l,uD r=0/\iJ r.1=true/\0<=r.2/\r.2 < 18446744073709551616)->
 fQ l.length a first (kF a l++y)=(l,(kF a l).length,0)
 | [],a,first,y,_,_,_,_=>by simp [fQ,kF]
 | r::l,a,first,y,hf,hn,hr,hc=>by
   obtain ⟨h1,h2⟩:=pV.1 hr;obtain ⟨q1,q2,q3,q4⟩:=hc r (by simp);have hk:(K r).length<=30000:=KG q2;rw [WX] at q1;have hs:kF a (r::l)++y=oJ a (K r)++(aJ r.2.toNat++(kF (K r) l++y)):=by simp [kF]
   have hp:=amZ a (K r) (aJ r.2.toNat++(kF (K r) l++y)) first hf (λe=>hn e r (by simp)) (by omega)
   have hv:=Ar r.2.toNat (kF (K r) l++y) (by omega);have hd:=Z9 r.1 q1.1;have ih:=adi l (K r) false y (λe=>by cases e) (λ_=>h1) h2 λq hq=>hc q (by simp [hq]);have hdd:(oJ a (K r)++(aJ r.2.toNat++(kF (K r) l++y))).drop ((oJ a (K r)).length+(aJ r.2.toNat).length)=kF (K r) l++y:=by
    rw [<- List.append_assoc,<- dS,oM]
   have hq:fO (K r) (aJ r.2.toNat++(kF (K r) l++y))=(r,(aJ r.2.toNat).length,0):=by
    unfold fO;rw [hv,hd];simp only [ne_eq,not_true_eq_false,if_false];rw [ah (by omega)];have:((r.2.toNat:Nat):Int)=r.2:=by omega
    rw [this]
   rw [iT,Qb,hs,hp];simp only [ne_eq,not_true_eq_false,if_false,oM,hq,hdd,ih];simp [kF,iM]
theorem akw (t:List Row) (y:List UInt8) (h:wR t):kN (lY t++y)=(t,(lY t).length,0):=by
 have hl:=h.len;have hv:=Ar t.length (kF [] t++y) (by omega);have hk:lY t++y=aJ t.length++(kF [] t++y):=by unfold lY;simp
 have hp:=adi t [] true y (λ_=>rfl) (λe=>by cases e) h.ok.2.1 λr hr=>⟨h.ok.2.2 r hr,h.few r hr,(h.rows.2 r hr).2.1,(h.rows.2 r hr).2.2⟩
 unfold kN;rw [hk,hv];simp only [ne_eq,not_true_eq_false,if_false,oM,hp];rw [ah (by omega)];unfold lY;simp
theorem aqo (t:List Row) (h:wR t):lZ (lY t)=(t,0):=by
 have:=akw t [] h;rw [mD] at this;unfold lZ;rw [this];simp
end S
end Go.Proofs.YtnlegpmfkopalaaGreatDoor
