/- What the trees compute: plain laws. -/
import Derived.Test.YtjglbndncdkhhaaGreatDoorKUT
import Derived.Test.YtjglbndncdkhhaaGreatDoorAbsPl
import Derived.Test.YtjglbndncdkhhaaGreatDoorAbsGo
import Derived.Test.YtjglbndncdkhhaaGreatDoorAbsTold2
import Derived.Test.YtjglbndncdkhhaaGreatDoorAbsTold3
import Derived.Test.YtjglbndncdkhhaaGreatDoorAbsFields
import Derived.Test.YtjglbndncdkhhaaGreatDoorAbsSortF
import Derived.Lib.TrimUEq
import Derived.Lib.MapLaws
namespace Go.Proofs.YtjglbndncdkhhaaGreatDoor
open Go Go.aN
set_option linter.unusedSimpArgs false
set_option linter.unusedVariables false
set_option maxRecDepth 100000
namespace U
theorem FQ:∀a b:List UInt8,Op.bytesLess a b=decide (a < b)
 | _,[]=>by simp [Op.bytesLess]
 | [],_::_=>by simp [Op.bytesLess]
 | a::x,b::y=>by
   rw [Op.bytesLess,FQ x y,oU];simp [ae6]
/-- An entry: key and value. A row: its entries and its number. -/
abbrev dw:=List UInt8×List UInt8
abbrev Row:=List dw×Int
def ent (x:dw):GV:=.g [.s x.1,.s x.2]
def row (r:Row):GV:=.g [.l (r.1.map ent),.i .u64 r.2]
@[simp] theorem aq0 (x:dw):(ent x).cells=[.s x.1,.s x.2]:=rfl
@[simp] theorem asD (r:Row):(row r).cells=[.l (r.1.map ent),.i .u64 r.2]:=rfl
@[simp] theorem aq1 (x:dw):(ent x).scalar=false:=rfl
@[simp] theorem asE (r:Row):(row r).scalar=false:=rfl
/-- Texts and lists of no more than any machine bears. -/
def rZ (d:List dw):Prop:=d.length<=140737488351232/\∀x∈d,x.1.length<=140737488351232/\x.2.length<=140737488351232
def Rows (l:List Row):Prop:=l.length<=140737488351232/\∀r∈l,rZ r.1/\0<=r.2/\r.2 < 18446744073709551616
def qF (x:dw):Bool:=decide (x.1.length+x.2.length<=600)
theorem ab8 (d:List dw) (hd:rZ d):∀m i:Nat,i+m=d.length->TT.lim 5 [.l (d.map ent),.i .i64 d.length,.i .i64 i]=some (if (d.drop i).all qF=true then [.i .i64 1] else [.i .i64 0])
 | 0,i,hi=>by
   have h0:d.drop i=[]:=gY (by omega);refine aG rfl rfl ?_;have h:¬ ((i:Int) < d.length):=by omega
   simp [h,h0]
 | m+1,i,hi=>by
   have hlt:i < d.length:=by omega
   have ih:TT.lim 5 [.l (d.map ent),.i .i64 d.length,.i .i64 ((i:Int)+1)]=_:=ab8 d hd m (i+1) (by omega);refine aG rfl rfl ?_;have h:((i:Int) < d.length):=by omega
   have hw:=wrap64 (n:=(i:Int)+1) (by omega) (by have:=hd.1;omega);have hx:=hd.2 d[i] (je hlt);have hw2:=wrap64 (n:=(d[i].1.length:Int)+(d[i].2.length:Int)) (by omega) (by omega);have hda:(d.drop i).all qF=(qF d[i]&&(d.drop (i+1)).all qF):=by rw [jw hlt,qP]
   by_cases hf:(600:Int) < (d[i].1.length:Int)+(d[i].2.length:Int)
   ·have:qF d[i]=false:=by unfold qF;simp;omega
    simp [h,hlt,hw2,hf,hda,this]
   ·have:qF d[i]=true:=by unfold qF;simp;omega
    rw [hda,this,Ip];simp [h,hlt,hw,hw2,hf,ih]
def gV (d:List dw):Bool:=d.all qF&&decide (d.length<=40)
theorem aaL (d:List dw) (hd:rZ d):TT.lim 4 [.l (d.map ent)]=some [.b (gV d)]:=by
 refine bD rfl rfl ?_ rfl;have h5:TT.lim 5 [.l (d.map ent),.i .i64 d.length,.i .i64 0]=_:=ab8 d hd d.length 0 (by omega);rw [eH] at h5;cases hc:d.all qF with
 | false=>rw [hc] at h5;simp [h5,gV,hc]
 | true=>
   rw [hc] at h5;simp only [if_true] at h5;have:(decide ((d.length:Int)<=40))=decide (d.length<=40):=by rw [oU];simp;omega
   simp [h5,gV,hc,this]
def aS (n:Nat):List UInt8:=if n < 128 then [UInt8.ofNat n] else UInt8.ofNat (n % 128+128)::aS (n / 128)
termination_by n
decreasing_by omega
theorem Au {n:Nat} (h:n < 128):aS n=[UInt8.ofNat n]:=by rw [aS,aj h]
theorem Ij {n:Nat} (h:¬ n < 128):aS n=UInt8.ofNat (n % 128+128)::aS (n / 128):=by rw [aS,ah h]
def gy (n:Nat):Nat:=(aS n).length
theorem aoz {n:Int} (h0:0<=n):n.fdiv (2 ^ (7:Nat))=n / 128:=by
 rw [L8 _ (by decide)];rfl
theorem adY {n:Nat}:mM .shr .u64 (n:Int) 7=some (.i .u64 ((n / 128:Nat):Int)):=by
 have:((n:Int)).fdiv (2 ^ (7:Nat))=((n / 128:Nat):Int):=by rw [aoz (by omega)];omega
 simp [mM,IntKind.bits];exact this
theorem yV (n:Nat):0 < gy n:=by unfold gy;rw [aS];split<;>simp
theorem ET {n:Nat} (h:¬ n < 128):gy n=gy (n / 128)+1:=by unfold gy;rw [Ij h];rfl
theorem aeP:∀ (k n:Nat),0 < k->n < 128 ^ k->gy n<=k
 | 0,_,h,_=>by omega
 | k+1,n,_,h=>by
   by_cases hn:n < 128
   ·unfold gy;rw [Au hn];simp
   ·rw [ET hn]
    cases k with
    | zero=>simp at h;omega
    | succ k=>
      have:n / 128 < 128 ^ (k+1):=by rw [Fj] at h;omega
      have:=aeP (k+1) (n / 128) (by omega) this;omega
theorem CP {n:Nat} (h:n < 18446744073709551616):gy n<=10:=aeP 10 n (by omega) (by omega)
theorem aku:∀ (n s:Nat),s+gy n<=1000->n < 18446744073709551616->TT.lim 11 [.i .u64 n,.i .i64 s]=some [.i .i64 0,.i .i64 ((s+gy n - 1:Nat):Int)]:=by
 intro n;induction n using Nat.strongRecOn with
 | _ n ih=>
   intro s hs hn;refine aG rfl rfl ?_;by_cases h:n < 128
   ·have h':¬ (128:Int)<=n:=by omega
    simp [h',gy,Au h]
   ·have h':(128:Int)<=n:=by omega
    have hv:=ET h;have hp:=yV (n / 128);have hw:=wrap64 (n:=(s:Int)+1) (by omega) (by omega);have ih':TT.lim 11 [.i .u64 ((n / 128:Nat):Int),.i .i64 ((s:Int)+1)]=_:=ih (n / 128) (by omega) (s+1) (by omega) (by omega);have hn':s+gy n - 1=s+1+gy (n / 128) - 1:=by omega
    rw [hn'];have h7:mM .shr .u64 (n:Int) 7=some (.i .u64 ((n / 128:Nat):Int)):=adY;generalize ((n / 128:Nat):Int)=q at h7 ih';simp [h',hw,h7,ih']
theorem Ld (n:Nat) (hn:n < 18446744073709551616):TT.lim 10 [.i .u64 n]=some [.i .i64 (gy n)]:=by
 have hp:=yV n;have h9:TT.lim 11 [.i .u64 n,.i .i64 1]=_:=aku n 1 (by have:=CP hn;omega) hn;rw [show 1+gy n - 1=gy n by omega] at h9;refine bD rfl rfl ?_ rfl;simp [h9]
/-- The bytes of a number, each with its high bit set. -/
def jH:Nat->Nat->List Nat
 | 0,_=>[]
 | k+1,n=>(n % 128+128)::jH k (n / 128)
def iT (n:Nat):GV:=.i .u8 n
theorem afu (n:Nat) (hn:n < 18446744073709551616):fG .and .u64 (n:Int) 127=some (.i .u64 ((n % 128:Nat):Int)):=by
 have h1:((BitVec.ofInt 64 (n:Int) &&& BitVec.ofInt 64 127).toNat:Nat)=n % 128:=by
  rw [Ym,wG,wG];have e1:((n:Int) % ((2 ^ 64:Nat):Int)).toNat=n:=by omega
  have e2:((127:Int) % ((2 ^ 64:Nat):Int)).toNat=2 ^ 7 - 1:=by decide
  rw [e1,e2,afe]
 show some (GV.i .u64 (IntKind.u64.wrap (((BitVec.ofInt 64 (n:Int) &&& BitVec.ofInt 64 127).toNat:Nat):Int)))=_
 rw [h1,kE (by omega) (by omega)]
theorem Y5 (n:Nat) (hn:n < 256):fG .and .u8 (n:Int) 127=some (.i .u8 ((n % 128:Nat):Int)):=by
 have:∀x:Fin 256,IntKind.u8.wrap (((BitVec.ofInt IntKind.u8.bits ((x.val:Nat):Int) &&& BitVec.ofInt IntKind.u8.bits 127).toNat:Nat):Int)=((x.val % 128:Nat):Int):=by decide +kernel
 show some (GV.i .u8 _)=some (GV.i .u8 _)
 exact rC (λz=>some (GV.i .u8 z)) (this ⟨n,hn⟩)
theorem alh (n:Nat) (hn:n < 128):fG .or .u8 (n:Int) 128=some (.i .u8 ((n+128:Nat):Int)):=by
 have:∀x:Fin 128,IntKind.u8.wrap (((BitVec.ofInt IntKind.u8.bits ((x.val:Nat):Int) ||| BitVec.ofInt IntKind.u8.bits 128).toNat:Nat):Int)=((x.val+128:Nat):Int):=by decide +kernel
 show some (GV.i .u8 _)=some (GV.i .u8 _)
 exact rC (λz=>some (GV.i .u8 z)) (this ⟨n,hn⟩)
theorem aeY {n:Int} (h0:0<=n) (h1:n < 256):IntKind.u8.wrap n=n:=by
 have:IntKind.u8.wrap n=n % 256:=by simp [IntKind.wrap,IntKind.signed,IntKind.bits]
 rw [this];omega
@[simp] theorem aqO (n:Nat):(iT n).cells=[iT n]:=rfl
@[simp] theorem aqQ (n:Nat):(iT n).scalar=true:=rfl
@[simp] theorem aqP (n:Nat) (v:GV):(iT n).put 0 [v]=some v:=rfl
theorem Zt:∀l:List Nat,(∀x∈l,x < 256)->mY (l.map iT)=some (l.map UInt8.ofNat)
 | [],_=>rfl
 | a::l,h=>by
   have h1:=h a (by simp);have h2:=Zt l λx hx=>h x (by simp [hx]);simp only [iQ,iT,mY] at h2 ⊢;rw [aj (by omega)];have:(λn:Nat=>GV.i .u8 (n:Int))=iT:=rfl;rw [h2];simp
theorem ab3:∀ (m n:Nat) (done:List Nat),n < 18446744073709551616->done.length+m < 1000->
 TT.lim 12 [.i .u64 n,.l ((done++List.replicate m 0).map iT),.i .i64 ((done.length+m:Nat):Int),.i .i64 done.length]=some [.i .i64 0,.l ((done++jH m n).map iT)]
 | 0,n,done,hn,hd=>by
   refine aG rfl rfl ?_;simp [jH]
 | m+1,n,done,hn,hd=>by
   have hlt:(done.length:Int) < ((done.length+(m+1):Nat):Int):=by omega
   have hw:=wrap64 (n:=(done.length:Int)+1) (by omega) (by omega);have hw8:=aeY (n:=((n % 128:Nat):Int)) (by omega) (by omega);have h7:mM .shr .u64 (n:Int) 7=some (.i .u64 ((n / 128:Nat):Int)):=adY;have ha:=afu n hn;have ho:=alh (n % 128) (by omega);have ih:=ab3 m (n / 128) (done++[n % 128+128]) (by omega) (by simp;omega);have hlen:(done++[n % 128+128]).length+m=done.length+(m+1):=by simp;omega
   rw [hlen] at ih;have hl2:(((done++[n % 128+128]).length:Nat):Int)=(done.length:Int)+1:=by simp
   rw [hl2] at ih;have hset:((done++List.replicate (m+1) 0).map iT).set done.length (iT (n % 128+128))=(done++[n % 128+128]++List.replicate m 0).map iT:=by
    rw [IC,<- List.map_set,List.set_append_right _ _ (dD _),xQ];simp
   have hget:((done++List.replicate (m+1) 0).map iT)[done.length]? = some (iT 0):=by
    rw [iq,su (dD _),xQ,IC];rfl
   have hll:((done++List.replicate (m+1) 0).map iT).length=done.length+(m+1):=by simp
   have hv:done++jH (m+1) n=done++[n % 128+128]++jH m (n / 128):=by simp [jH]
   rw [hv];generalize hL:(done++List.replicate (m+1) 0).map iT=L at *;refine aG rfl rfl ?_;have hix:(0:Int)<=(done.length:Int)/\(done.length:Int) < (L.length:Int):=by rw [hll];omega
   have hob:GV.i IntKind.u8 ((n % 128+128:Nat):Int)=iT (n % 128+128):=rfl;have UM:L.set done.length (GV.i IntKind.u8 ((n % 128+128:Nat):Int))=(done++[n % 128+128]++List.replicate m 0).map iT:=hset;generalize (done++[n % 128+128]++List.replicate m 0).map iT=L2 at ih UM;generalize (done++[n % 128+128]++jH m (n / 128)).map iT=L3 at ih ⊢;generalize ((n / 128:Nat):Int)=q at h7 ih;generalize ((n % 128+128:Nat):Int)=z at ho UM;generalize ((n % 128:Nat):Int)=rr at ha hw8 ho;generalize ((done.length+(m+1):Nat):Int)=N at hlt ih ⊢;simp [hlt,ha,hw8,ho,hix,hget,h7,hw,UM,ih]
theorem Yc:∀m n,(jH m n).length=m
 | 0,_=>rfl
 | m+1,n=>by simp [jH,Yc m]
theorem Yd:∀m n,∀x∈jH m n,x < 256
 | 0,_,x,h=>by simp [jH] at h
 | m+1,n,x,h=>by
   simp only [jH,bU] at h;rcases h with rfl | h
   ·omega
   ·exact Yd m _ x h
/-- The last byte without its high bit: as numbers are written. -/
theorem aeO:∀ (s n:Nat),gy n=s+1->∃x,(jH (s+1) n)[s]? = some x/\((jH (s+1) n).set s (x % 128)).map UInt8.ofNat=aS n
 | 0,n,h=>by
   have hn:n < 128:=by
    by_cases hn:n < 128
    ·exact hn
    ·rw [ET hn] at h;have:=yV (n / 128);omega
   refine ⟨n % 128+128,by simp [jH], ?_⟩;rw [Au hn];simp [jH];rw [MJ hn]
 | s+1,n,h=>by
   have hn:¬ n < 128:=by
    intro hn;unfold gy at h;rw [Au hn] at h;simp at h
   rw [ET hn] at h;obtain ⟨x,h1,h2⟩:=aeO s (n / 128) (by omega);refine ⟨x,by simp only [jH,pq] at h1 ⊢;exact h1, ?_⟩;rw [Ij hn,<- h2];simp [jH]
theorem vW (n:Nat) (hn:n < 18446744073709551616):TT.lim 9 [.i .u64 n]=some [.s (aS n)]:=by
 have h8:=Ld n hn;have hp:=yV n;have hs:=CP hn;obtain ⟨s,hs1⟩:∃s,gy n=s+1:=⟨gy n - 1,by omega⟩
 obtain ⟨x,h1,h2⟩:=aeO s n hs1;rw [hs1] at h8;have h10:TT.lim 12 [.i .u64 n,.l ((List.replicate (s+1) 0).map iT),.i .i64 ((s+1:Nat):Int),.i .i64 0]=some [.i .i64 0,.l ((jH (s+1) n).map iT)]:=by
  have:=ab3 (s+1) n [] hn (by simp;omega);simpa using this
 have hr:(List.replicate (s+1) 0).map iT=List.replicate (s+1) (GV.i .u8 0):=by rw [List.map_replicate];rfl
 rw [hr] at h10;have hx:x < 256:=Yd _ _ x (qw h1);have ha:=Y5 x hx;have hget:((jH (s+1) n).map iT)[s]? = some (iT x):=by rw [iq,h1];rfl
 have hset:((jH (s+1) n).map iT).set s (GV.i .u8 ((x % 128:Nat):Int))=((jH (s+1) n).set s (x % 128)).map iT:=(List.map_set (f:=iT) (l:=jH (s+1) n) (i:=s) (a:=x % 128)).symm;have hb:=Zt ((jH (s+1) n).set s (x % 128)) (λy hy=>by
  rcases YG hy with hy | rfl
  ·exact Yd _ _ y hy
  ·omega)
 rw [h2] at hb;have hlen:(((jH (s+1) n).set s (x % 128)).map iT).length=s+1:=by simp [Yc]
 have hlr:(List.replicate (s+1) (GV.i .u8 0)).length=s+1:=by simp
 have hl1:((jH (s+1) n).map iT).length=s+1:=by simp [Yc]
 generalize ((jH (s+1) n).set s (x % 128)).map iT=L3 at hset hb hlen;generalize (jH (s+1) n).map iT=L2 at h10 hget hset hl1;generalize hrep:List.replicate (s+1) (GV.i .u8 0)=L1 at h10 hlr;refine bD rfl rfl ?_ rfl;have hw:=wrap64 (n:=(s:Int)) (by omega) (by omega);have hcast:((s+1:Nat):Int)=(s:Int)+1:=by omega
 rw [hcast] at h8 h10;have hc1:(0:Int)<=(s:Int)+1/\(s:Int)+1<=281474976710656/\(s:Int)+1<=1152921504606846976:=by omega
 have hc2:((s:Int)+1).toNat=s+1:=by omega
 have hlt:(s:Int) < (s:Int)+1:=by omega
 have hs2:(s:Int)+1 - 1=(s:Int):=by omega
 generalize hM:((x % 128:Nat):Int)=M at ha hset;have hxx:iT x=.i .u8 x:=rfl;have h48:s+1<=281474976710656:=by omega
 have hg2:L2[s]'(by omega)=iT x:=by have:=hget;rw [bP (by omega)] at this;exact C9 this
 simp [h8,hc1,hc2,hrep,hlr,h10,hl1,hs2,hw,hlt,hget,hg2,ha,hset,hxx,hlen,hb,h48,GV.fO]
theorem SN (a b:List UInt8):dZ (a++b)=dZ a++dZ b:=by simp [dZ]
@[simp] theorem Zq (a:List UInt8):(dZ a).length=a.length:=by simp [dZ]
theorem Jb (a:List UInt8):(dZ a).all (GV.fO 1)=true:=by
 rw [List.all_eq_true];intro x hx;obtain ⟨b,_,rfl⟩:=kX.1 hx;rfl
theorem SS:∀a:List UInt8,mY (dZ a)=some a
 | []=>rfl
 | x::a=>by
   have ih:=SS a;simp only [dZ,iQ,mY] at ih ⊢;have:=x.toNat_lt;rw [aj (by omega),ih];simp
def iO (x:dw):List UInt8:=aS x.1.length++x.1++aS x.2.length++x.2
def iC (d:List dw):List UInt8:=aS d.length++d.flatMap iO
theorem lI {n:Nat} (h:n < 18446744073709551616):(aS n).length<=10:=CP h
theorem ahF (x:dw) (h1:x.1.length<=140737488351232) (h2:x.2.length<=140737488351232):TT.lim 14 [ent x]=some [.s (iO x)]:=by
 have k1:=vW x.1.length (by omega);have k2:=vW x.2.length (by omega);have l1:=lI (n:=x.1.length) (by omega);have l2:=lI (n:=x.2.length) (by omega);have w1:=kE (n:=(x.1.length:Int)) (by omega) (by omega);have w2:=kE (n:=(x.2.length:Int)) (by omega) (by omega);refine bD rfl rfl ?_ rfl;have c1:((aS x.1.length).length:Int)+(x.1.length:Int)<=9223372036854775807:=by omega
 have c2:((aS x.1.length).length:Int)+((x.1.length:Int)+((aS x.2.length).length:Int))<=9223372036854775807:=by omega
 have c3:((aS x.1.length).length:Int)+((x.1.length:Int)+(((aS x.2.length).length:Int)+(x.2.length:Int)))<=9223372036854775807:=by omega
 simp [w1,w2,k1,k2,c1,c2,c3,iO,Int.add_assoc]
theorem aav {x:dw} (h:qF x=true):(iO x).length<=620:=by
 unfold qF at h;simp only [decide_eq_true_iff] at h;have l1:=lI (n:=x.1.length) (by omega);have l2:=lI (n:=x.2.length) (by omega);simp only [iO,dH];omega
theorem Ue:∀d:List dw,d.all qF=true->(d.flatMap iO).length<=620 * d.length
 | [],_=>by simp
 | x::d,h=>by
   rw [qP,aI] at h;have:=aav h.1;have:=Ue d h.2;simp only [ji,dH,iY];omega
theorem ab4 (d:List dw) (hf:d.all qF=true) (hl:d.length<=40):∀ (m i:Nat) (acc:List UInt8),i+m=d.length->acc.length<=10+620 * i->
 TT.lim 13 [.l (d.map ent),.i .i64 d.length,.i .i64 i,.l (dZ acc)]=some [.i .i64 0,.l (dZ (acc++(d.drop i).flatMap iO))]
 | 0,i,acc,hi,ha=>by
   have h0:d.drop i=[]:=gY (by omega);refine aG rfl rfl ?_;have h:¬ ((i:Int) < d.length):=by omega
   simp [h,h0]
 | m+1,i,acc,hi,ha=>by
   have hlt:i < d.length:=by omega
   have hx:=List.all_eq_true.1 hf d[i] (je hlt);have hx1:=hx;unfold qF at hx1;simp only [decide_eq_true_iff] at hx1;have hp:=ahF d[i] (by omega) (by omega);have hpl:=aav hx;have ih:TT.lim 13 [.l (d.map ent),.i .i64 d.length,.i .i64 ((i:Int)+1),.l (dZ (acc++iO d[i]))]=_:=ab4 d hf hl m (i+1) (acc++iO d[i]) (by omega) (by simp;omega);rw [SN] at ih;have hd:(d.drop i).flatMap iO=iO d[i]++(d.drop (i+1)).flatMap iO:=by rw [jw hlt,ji]
   rw [hd,<- List.append_assoc];refine aG rfl rfl ?_;have h:((i:Int) < d.length):=by omega
   have hw:=wrap64 (n:=(i:Int)+1) (by omega) (by omega);have hok:=Jb (iO d[i]);have hb:2 * (acc.length+(iO d[i]).length)<=281474976710656/\acc.length+(iO d[i]).length<=281474976710656:=by omega
   have he:GV.g [GV.s d[i].1,GV.s d[i].2]=ent d[i]:=rfl;simp [-List.all_eq_true,h,hlt,he,hp,hok,hb,hw,ih]
theorem O7 (d:List dw) (hf:gV d=true):TT.lim 8 [.l (d.map ent)]=some [.s (iC d)]:=by
 unfold gV at hf;rw [aI,decide_eq_true_iff] at hf;have k:=vW d.length (by omega);have l1:=lI (n:=d.length) (by omega);have w1:=kE (n:=(d.length:Int)) (by omega) (by omega);have h11:TT.lim 13 [.l (d.map ent),.i .i64 d.length,.i .i64 0,.l (dZ (aS d.length))]=_:=ab4 d hf.1 hf.2 d.length 0 (aS d.length) (by omega) (by omega);rw [eH] at h11;have hb:2 * (aS d.length).length<=281474976710656/\(aS d.length).length<=281474976710656:=by omega
 have hok:=Jb (aS d.length);have hfl:=Ue d hf.1;have hc:(aS d.length).length+(List.flatMap iO d).length<=281474976710656:=by omega
 have hbg:=SS (aS d.length++d.flatMap iO);refine bD rfl rfl ?_ rfl;unfold iC;generalize d.flatMap iO=F at *;simp [-List.all_eq_true,w1,k,hb,hok,h11,hc,hbg]
def ql (s:List UInt8) (lo hi:Int):Int:=if (s.length:Int) < lo then 13 else if hi < (s.length:Int) then 13 else if Lib.validD s=true then 0 else 11
theorem aiO (s:List UInt8) (h:s.length<=140737488351232):TT.lim 24 [.s s]=some [.b (Lib.validD s)]:=by
 have h21:TT.lim 25 [.s s]=some [.b (Lib.validD s)]:=KW (Ds:=Ds) (k:=25) (f:=Ih) rfl (by simp only [Ih];rw [aj (by omega)]);refine bD rfl rfl ?_ rfl;simp [h21]
theorem FU (s:List UInt8) (lo hi:Int) (h:s.length<=140737488351232):TT.lim 23 [.s s,.i .i64 lo,.i .i64 hi]=some [.i .i64 (ql s lo hi)]:=by
 have h20:=aiO s h;refine bD rfl rfl ?_ rfl;unfold ql;by_cases h1:(s.length:Int) < lo
 ·simp [h1]
 ·by_cases h2:hi < (s.length:Int)
  ·simp [h1,h2]
  ·cases hv:Lib.validD s<;>rw [hv] at h20<;>simp [h1,h2,h20,hv]
def oI (x:dw):Int:=if ql x.1 1 64≠0 then ql x.1 1 64 else ql x.2 0 256
theorem aaw (x:dw) (h1:x.1.length<=140737488351232) (h2:x.2.length<=140737488351232):TT.lim 22 [ent x]=some [.i .i64 (oI x)]:=by
 have k1:=FU x.1 1 64 h1;have k2:=FU x.2 0 256 h2;refine bD rfl rfl ?_ rfl;unfold oI;by_cases h:ql x.1 1 64=0
 ·simp [k1,h,k2]
 ·simp [k1,h]
def oG:Option (List UInt8)->List dw->Int
 | _,[]=>0
 | p,x::xs=>if oI x≠0 then oI x else match p with
   | none=>oG (some x.1) xs
   | some k=>if x.1=k then 14 else if Op.bytesLess x.1 k=true then 7 else oG (some x.1) xs
def tagged (r:Int):List GV:=if r=0 then [.i .i64 1] else [.i .i64 0,.i .i64 r]
def prevK (d:List dw) (i:Nat):Option (List UInt8):=if i=0 then none else (d[i - 1]?).map (·.1)
theorem ab5 (d:List dw) (hd:rZ d):∀m i:Nat,i+m=d.length->TT.lim 21 [.l (d.map ent),.i .i64 d.length,.i .i64 i]=some (tagged (oG (prevK d i) (d.drop i)))
 | 0,i,hi=>by
   have h0:d.drop i=[]:=gY (by omega);refine aG rfl rfl ?_;have h:¬ ((i:Int) < d.length):=by omega
   simp [h,h0,oG,tagged]
 | m+1,i,hi=>by
   have hlt:i < d.length:=by omega
   have hx:=hd.2 d[i] (je hlt);have hp:=aaw d[i] hx.1 hx.2;have ih:TT.lim 21 [.l (d.map ent),.i .i64 d.length,.i .i64 ((i:Int)+1)]=_:=ab5 d hd m (i+1) (by omega);have hpk:prevK d (i+1)=some d[i].1:=by unfold prevK;rw [ah (by omega)];simp [hlt]
   rw [hpk] at ih;have hdr:d.drop i=d[i]::d.drop (i+1):=jw hlt;rw [hdr];refine aG rfl rfl ?_;have h:((i:Int) < d.length):=by omega
   have hw:=wrap64 (n:=(i:Int)+1) (by omega) (by have:=hd.1;omega);have he:GV.g [GV.s d[i].1,GV.s d[i].2]=ent d[i]:=rfl;by_cases h1:oI d[i]=0;rotate_left
   ·simp [h,hlt,he,hp,h1,oG,tagged]
   by_cases h0:i=0
   ·subst h0
    simp only [qO,Yw] at hw ih;simp [h,hlt,he,hp,h1,oG,prevK,hw];simpa using ih
   ·have hi1:i - 1 < d.length:=by omega
    have hpk2:prevK d i=some d[i - 1].1:=by unfold prevK;rw [ah h0];simp [hi1]
    have hw2:=wrap64 (n:=(i:Int) - 1) (by omega) (by have:=hd.1;omega);have hi0:¬ ((i:Int)=0):=by omega
    have hge:(0:Int)<=(i:Int) - 1:=by omega
    have ht:((i:Int) - 1).toNat=i - 1:=by omega
    have hnl:(1:Int)<=(i:Int):=by omega
    rw [hpk2];by_cases h2:d[i].1=d[i - 1].1
    ·have h2':(d[i].1=d[i - 1].1)=True:=eq_true h2
     clear h2;simp [h,hlt,he,hp,h1,hi0,h0,hw2,ht,hi1,h2',oG,tagged,hnl]
    ·cases h3:Op.bytesLess d[i].1 d[i - 1].1 with
     | true=>simp [h,hlt,he,hp,h1,hi0,h0,hw2,ht,hi1,h2,h3,oG,tagged,hnl]
     | false=>simp [h,hlt,he,hp,h1,hi0,h0,hw2,ht,hi1,h2,h3,oG,hw,ih,hnl]
def uP (d:List dw):Int:=if d.length=0 then 12 else if 16 < d.length then 13 else oG none d
theorem ZH (d:List dw) (hd:rZ d):TT.lim 20 [.l (d.map ent)]=some [.i .i64 (uP d)]:=by
 have h17:TT.lim 21 [.l (d.map ent),.i .i64 d.length,.i .i64 0]=_:=ab5 d hd d.length 0 (by omega);have hpk:prevK d 0=none:=rfl;rw [hpk,eH] at h17;have w1:=kE (n:=(d.length:Int)) (by omega) (by have:=hd.1;omega);refine bD rfl rfl ?_ rfl;unfold uP;by_cases h0:d.length=0
 ·have h0':(d.length:Int)=0:=by omega
  have:d=[]:=jh h0;subst this;simp [IntKind.wrap,IntKind.signed]
 ·have h0':¬ (d.length:Int)=0:=by omega
  by_cases h1:16 < d.length
  ·have h1':(16:Int) < (d.length:Int):=by omega
   simp [w1,h0,h1,h0',h1']
  ·have h1':¬ (16:Int) < (d.length:Int):=by omega
   by_cases h2:oG none d=0
   ·simp only [tagged,h2,if_true] at h17
    simp [w1,h0,h1,h0',h1',h17,h2]
   ·simp only [tagged,h2,if_false] at h17
    simp [w1,h0,h1,h0',h1',h17]
def uh (r:Row):Int:=if uP r.1≠0 then uP r.1 else if r.2=0 then 18 else 0
theorem af2 (r:Row) (hd:rZ r.1):TT.lim 19 [row r]=some [.i .i64 (uh r)]:=by
 have k:=ZH r.1 hd;refine bD rfl rfl ?_ rfl;unfold uh;by_cases h:uP r.1=0
 ·by_cases h2:r.2=0
  ·simp [k,h,h2]
  ·simp [k,h,h2]
 ·simp [k,h]
def pJ (long:Bool) (r:Row):Bool:=decide (r.1.length<=18)&&gV r.1&&(!long || decide ((iC r.1).length<=100))
theorem ab6 (l:List Row) (hl:Rows l):∀m i:Nat,i+m=l.length->TT.lim 7 [.l (l.map row),.i .i64 l.length,.i .i64 i]=some (if (l.drop i).all (pJ (decide (40 < l.length)))=true then [.i .i64 1] else [.i .i64 0])
 | 0,i,hi=>by
   have h0:l.drop i=[]:=gY (by omega);refine aG rfl rfl ?_;have h:¬ ((i:Int) < l.length):=by omega
   simp [h,h0]
 | m+1,i,hi=>by
   have hlt:i < l.length:=by omega
   have hr:=hl.2 l[i] (je hlt);have ih:TT.lim 7 [.l (l.map row),.i .i64 l.length,.i .i64 ((i:Int)+1)]=_:=ab6 l hl m (i+1) (by omega);have hda:(l.drop i).all (pJ (decide (40 < l.length)))=(pJ (decide (40 < l.length)) l[i]&&(l.drop (i+1)).all (pJ (decide (40 < l.length)))):=by rw [jw hlt,qP]
   rw [hda];refine aG rfl rfl ?_;have h:((i:Int) < l.length):=by omega
   have hw:=wrap64 (n:=(i:Int)+1) (by omega) (by have:=hl.1;omega);have h4:=aaL l[i].1 hr.1;by_cases h1:18 < l[i].1.length
   ·have h1':(18:Int) < (l[i].1.length:Int):=by omega
    have:pJ (decide (40 < l.length)) l[i]=false:=by unfold pJ;simp;omega
    rw [this];simp [h,hlt,h1']
   have h1':¬ (18:Int) < (l[i].1.length:Int):=by omega
   have h1d:l[i].1.length<=18:=by omega
   cases hf:gV l[i].1 with
   | false=>
     rw [hf] at h4;have:pJ (decide (40 < l.length)) l[i]=false:=by unfold pJ;simp [hf]
     rw [this];simp [h,hlt,h1',h4]
   | true=>
     rw [hf] at h4;have k6:=O7 l[i].1 hf;by_cases h2:40 < l.length
     ·have h2':(40:Int) < (l.length:Int):=by omega
      by_cases h3:100 < (iC l[i].1).length
      ·have h3':(100:Int) < ((iC l[i].1).length:Int):=by omega
       have:pJ (decide (40 < l.length)) l[i]=false:=by unfold pJ;simp [h2];omega
       rw [this];simp [h,hlt,h1',h4,h2',k6,h3']
      ·have h3':¬ (100:Int) < ((iC l[i].1).length:Int):=by omega
       have:pJ (decide (40 < l.length)) l[i]=true:=by unfold pJ;simp [h2,hf,h1d];omega
       rw [this,Ip];simp [h,hlt,h1',h4,h2',k6,h3',hw,ih]
     ·have h2':¬ (40:Int) < (l.length:Int):=by omega
      have:pJ (decide (40 < l.length)) l[i]=true:=by unfold pJ;simp [h2,hf,h1d]
      rw [this,Ip];simp [h,hlt,h1',h4,h2',hw,ih]
def BD (l:List Row):Bool:=l.all (pJ (decide (40 < l.length)))&&decide (l.length<=300)
theorem aie (l:List Row) (hl:Rows l):TT.lim 6 [.l (l.map row)]=some [.b (BD l)]:=by
 refine bD rfl rfl ?_ rfl;have h3:TT.lim 7 [.l (l.map row),.i .i64 l.length,.i .i64 0]=_:=ab6 l hl l.length 0 (by omega);rw [eH] at h3;unfold BD;cases hc:l.all (pJ (decide (40 < l.length))) with
 | false=>rw [hc] at h3;simp [h3]
 | true=>
   rw [hc] at h3;simp only [if_true] at h3;have:(decide ((l.length:Int)<=300))=decide (l.length<=300):=by rw [oU];simp;omega
   simp [h3,this]
theorem aic {l:List Row} (h:BD l=true):∀r∈l,gV r.1=true:=by
 unfold BD at h;rw [aI] at h;intro r hr;have:=List.all_eq_true.1 h.1 r hr;unfold pJ at this;simp only [aI] at this;exact this.1.2
theorem ZO (d:List dw) (h:d.length<=40):TT.lim 113 [.l (d.map ent)]=some [.l (d.map ent)]:=by
 refine KW (Ds:=Ds) (k:=113) (f:=FW 32 2) rfl ?_;have hall:(d.map ent).all (GV.fO 2)=true:=by
  rw [List.all_eq_true];intro x hx;obtain ⟨r,_,rfl⟩:=kX.1 hx;rfl
 simp only [FW];rw [aj ⟨by rw [kM];omega,hall⟩]
abbrev K (r:Row):List UInt8:=iC r.1
/-- How many rows at the head have lesser keys. -/
def Y2 (k:List UInt8):List Row->Nat
 | []=>0
 | r::rs=>if Op.bytesLess (K r) k=true then Y2 k rs+1 else 0
def Zc:List Row->List Row->Bool
 | _,[]=>true
 | t,r::rs=>match t.drop (Y2 (K r) t) with
   | []=>false
   | s::t'=>decide (K s=K r)&&decide (r.2<=s.2)&&Zc (s::t') rs
theorem ND (a b:List UInt8):Op.bytesLess a b=true↔a < b:=by rw [FQ];simp
/-- Rows whose keys rise. -/
def AP (l:List Row):Prop:=l.Pairwise λa b=>K a < K b
theorem ahG {cs:List GV} {r0:List GV} (h:bG.iw [.list true [.str,.str],.int .u64] cs):∃r:Row,(rZ r.1/\0<=r.2/\r.2 < 18446744073709551616)/\GV.g cs=row r:=by
 obtain ⟨g,l,rfl,h1,h⟩:=iy h;obtain ⟨n,l,rfl,h2,h⟩:=iy h;obtain rfl:=Gv h;obtain ⟨n,rfl,n1,n2⟩:=oJ h2;obtain ⟨xs,rfl,h3,h4⟩:=JG h1;obtain ⟨d,hd,rfl⟩:∃d:List dw,(∀x∈d,x.1.length<=140737488351232/\x.2.length<=140737488351232)/\xs=d.map ent:=GN λx hx=>by
  obtain ⟨k1,k2⟩:=h4 x hx;cases x<;>simp [GV.scalar] at k2
  obtain ⟨a,l,e1,a1,k1⟩:=iy k1;obtain ⟨b,l,rfl,b1,k1⟩:=iy k1;obtain rfl:=Gv k1;obtain ⟨s,rfl,s1⟩:=zN a1;obtain ⟨u,rfl,u1⟩:=zN b1;simp only [S9] at e1;subst e1;exact ⟨(s,u),⟨Nat.le_trans s1 (by decide),iF u1 (by decide)⟩,rfl⟩
 exact ⟨(d,n),⟨⟨by have:=iF h3 (by decide:reachBytes<=140737488351232);simpa using this,hd⟩,n1,n2⟩,rfl⟩
theorem anl {g:GV} (h:(bG.list true [.list true [.str,.str],.int .u64]).has g):∃l:List Row,Rows l/\g=.l (l.map row):=by
 obtain ⟨xs,rfl,h1,h2⟩:=JG h;obtain ⟨l,hl,rfl⟩:∃l:List Row,(∀r∈l,rZ r.1/\0<=r.2/\r.2 < 18446744073709551616)/\xs=l.map row:=GN λx hx=>by
  obtain ⟨k1,k2⟩:=h2 x hx;cases x<;>simp [GV.scalar] at k2
  obtain ⟨r,hr,e⟩:=ahG (r0:=[]) k1;exact ⟨r,hr,e⟩
 exact ⟨l,⟨by have:=iF h1 (by decide:reachBytes<=140737488351232);simpa using this,hl⟩,rfl⟩
def qB:Option (List UInt8)->List Row->Int
 | _,[]=>0
 | p,r::rs=>if uh r≠0 then uh r else match p with
   | none=>qB (some (K r)) rs
   | some k=>if K r=k then 14 else if Op.bytesLess (K r) k=true then 7 else qB (some (K r)) rs
theorem ab7 (t:List Row) (ht:Rows t) (hf:∀r∈t,gV r.1=true):∀ (m i:Nat) (p:List UInt8),i+m=t.length->
 TT.lim 18 [.s p,.l (t.map row),.i .i64 t.length,.i .i64 i]=some (tagged (qB (if i=0 then none else some p) (t.drop i)))
 | 0,i,p,hi=>by
   have h0:t.drop i=[]:=gY (by omega);refine aG rfl rfl ?_;have h:¬ ((i:Int) < t.length):=by omega
   simp [h,h0,qB,tagged]
 | m+1,i,p,hi=>by
   have hlt:i < t.length:=by omega
   have hr:=ht.2 t[i] (je hlt);have k15:=af2 t[i] hr.1;have k6:=O7 t[i].1 (hf _ (je hlt));have hrow:GV.g [.l (t[i].1.map ent),.i .u64 t[i].2]=row t[i]:=rfl;have ih:TT.lim 18 [.s (iC t[i].1),.l (t.map row),.i .i64 t.length,.i .i64 ((i:Int)+1)]=_:=ab7 t ht hf m (i+1) (iC t[i].1) (by omega);rw [ah (by omega)] at ih;rw [jw hlt];refine aG rfl rfl ?_;have h:((i:Int) < t.length):=by omega
   have hw:=wrap64 (n:=(i:Int)+1) (by omega) (by have:=ht.1;omega);by_cases h1:uh t[i]=0;rotate_left
   ·simp [-List.getElem_cons_drop,h,hlt,hrow,k15,h1,qB,tagged]
   by_cases h0:i=0
   ·subst h0
    simp only [qO,Yw] at hw ih;simp [-List.getElem_cons_drop,h,hlt,hrow,k15,h1,k6,hw,qB];have hn:(0:Int) < (t.length:Int):=by omega
    simpa using ih
   ·have hi0:0 < i:=by omega
    by_cases h2:iC t[i].1=p
    ·have h2':(iC t[i].1=p)=True:=eq_true h2
     clear h2;simp [-List.getElem_cons_drop,h,hlt,hrow,k15,h1,k6,hi0,h0,h2',qB,tagged]
    ·cases h3:Op.bytesLess (iC t[i].1) p with
     | true=>simp [-List.getElem_cons_drop,h,hlt,hrow,k15,h1,k6,hi0,h0,h2,h3,qB,tagged]
     | false=>simp [-List.getElem_cons_drop,h,hlt,hrow,k15,h1,k6,hi0,h0,h2,h3,hw,ih,qB]
def sU (t:List Row):Int:=if 256 < t.length then 13 else qB none t
theorem Td (t:List Row) (ht:Rows t) (hf:∀r∈t,gV r.1=true):TT.lim 17 [.l (t.map row)]=some [.i .i64 (sU t)]:=by
 have h38:TT.lim 18 [.s [],.l (t.map row),.i .i64 t.length,.i .i64 0]=_:=ab7 t ht hf t.length 0 [] (by omega);rw [aj rfl,eH] at h38;refine bD rfl rfl ?_ rfl;unfold sU;by_cases h1:256 < t.length
 ·have h1':(256:Int) < (t.length:Int):=by omega
  simp [h1,h1']
 ·have h1':¬ (256:Int) < (t.length:Int):=by omega
  by_cases h2:qB none t=0
  ·simp only [tagged,h2,if_true] at h38
   simp [h1,h1',h38,h2]
  ·simp only [tagged,h2,if_false] at h38
   simp [h1,h1',h38,h2]
theorem ZN:∀ {t:List Row} (p:Option (List UInt8)),AP t->(∀r∈t,uh r=0)->(∀k,p=some k->∀r∈t,k < K r)->qB p t=0
 | [],p,_,_,_=>by cases p<;>rfl
 | r::t,p,ht,hc,hp=>by
   have ht':=qR.1 ht;have ih:=ZN (t:=t) (some (K r)) ht'.2 (λx hx=>hc x (by simp [hx])) (λk hk x hx=>by cases hk;exact ht'.1 x hx);unfold qB;rw [ah (by simp [hc r (by simp)])];cases p with
   | none=>exact ih
   | some k=>
     have hk:=hp k rfl r (by simp);have h1:¬ K r=k:=λe=>by rw [e] at hk;exact RF _ hk
     have h2:¬ Op.bytesLess (K r) k=true:=λe=>RF _ (RG hk ((ND _ _).1 e));simp only;rw [ah h1,ah h2];exact ih
theorem Rows.perm {l m:List Row} (h:l.Perm m) (hl:Rows l):Rows m:=⟨by rw [<- h.length_eq];exact hl.1,λr hr=>hl.2 r (h.mem_iff.2 hr)⟩
def Pos (t:List Row):Prop:=∀r∈t,0 < r.2/\r.2 < 18446744073709551616
def PS:List Row->List Row->Option (List Row)
 | [],b=>some b
 | x::a,[]=>some (x::a)
 | x::a,y::b=>
   if K x < K y then (PS a (y::b)).map (x::·)
   else if K y < K x then (PS (x::a) b).map (y::·)
   else if x.2+y.2 < 18446744073709551616 then (PS a b).map ((x.1,x.2+y.2)::·) else none
termination_by a b=>a.length+b.length
theorem Uc {d:List dw} (h:gV d=true):d.length<=40:=by
 unfold gV at h;simp at h;omega
def zf (t:List Row):Prop:=∀r∈t,gV r.1=true
def Ok (t:List Row):Prop:=t.length<=256/\AP t/\∀r∈t,uh r=0
theorem ZM:∀ {t:List Row} (p:Option (List UInt8)),qB p t=0->AP t/\(∀r∈t,uh r=0)/\∀k,p=some k->∀r∈t,k < K r
 | [],p,_=>⟨List.Pairwise.nil,by simp,by simp⟩
 | r::t,p,h=>by
   unfold qB at h;by_cases h1:uh r=0;rotate_left
   ·rw [aj h1] at h;exact absurd h h1
   rw [ah (by simp [h1])] at h;have main:∀ (h:qB (some (K r)) t=0),AP (r::t)/\∀x∈r::t,uh x=0:=by
    intro h;obtain ⟨i1,i2,i3⟩:=ZM (some (K r)) h;refine ⟨List.Pairwise.cons (i3 _ rfl) i1,λx hx=>?_⟩;rcases bU.1 hx with rfl | hx
    ·exact h1
    ·exact i2 x hx
   cases p with
   | none=>exact ⟨(main h).1,(main h).2,by simp⟩
   | some k=>
     simp only at h;split at h
     ·cases h
     next h2=>
     split at h
     ·cases h
     next h3=>
     refine ⟨(main h).1,(main h).2, ?_⟩;rintro _ ⟨⟩ x hx
     have hk:k < K r:=by
      rcases List.le_iff_lt_or_eq.1 (List.not_lt.1 λe=>h3 ((ND _ _).2 e)) with e | e
      ·exact e
      ·exact absurd e.symm h2
     rcases bU.1 hx with rfl | hx
     ·exact hk
     ·exact RG hk ((qR.1 (main h).1).1 x hx)
theorem Tf (t:List Row):sU t=0↔Ok t:=by
 unfold sU Ok;constructor
 ·intro h
  split at h
  ·cases h
  ·obtain ⟨h1,h2,_⟩:=ZM none h
   exact ⟨by omega,h1,h2⟩
 ·rintro ⟨h1,h2,h3⟩
  rw [ah (by omega)];exact ZN none h2 h3 (by simp)
theorem Xn (r:Row):uh r=0↔uP r.1=0/\r.2≠0:=by
 unfold uh;by_cases h:uP r.1=0
 ·simp [h]
 ·simp [h]
structure Tb (t:List Row):Prop where
 ok:Ok t
 rows:Rows t
 few:zf t
theorem Tb.pos {t:List Row} (h:Tb t):Pos t:=λr hr=>by
 have h1:=((Xn r).1 (h.ok.2.2 r hr)).2;have h2:=(h.rows.2 r hr).2;omega
theorem Tb.rise {t:List Row} (h:Tb t):AP t:=h.ok.2.1
theorem apf:Tb []:=⟨⟨by simp,List.Pairwise.nil,by simp⟩,⟨by simp,by simp⟩,λr hr=>by simp at hr⟩
def tog (a b:List Row):List Row×Int:=match PS a b with
 | none=>([],3)
 | some m=>if 256 < m.length then ([],13) else (m,0)
structure vw (t:List Row):Prop where
 len:t.length<=300
 few:zf t
 rows:Rows t
theorem Tb.good {t:List Row} (h:Tb t):vw t:=⟨Nat.le_trans h.ok.1 (by decide),h.few,h.rows⟩
abbrev Dl:=Int×Int×List Row
def ZL (d:Dl):Int:=if d.2.1<=d.1 then 20 else sU d.2.2
theorem vw.tb {t:List Row} (h:vw t) (ho:Ok t):Tb t:=⟨ho,h.rows,h.few⟩
theorem aiP {l:List Row} (hl:Rows l) (h:BD l=true):vw l:=by
 refine ⟨?_,λr hr=>aic h r hr,hl⟩;unfold BD at h;rw [aI,decide_eq_true_iff] at h;exact h.2
abbrev Sn:=Int×List Row
def sn (s:Sn):GV:=.g [.i .u64 s.1,.l (s.2.map row)]
@[simp] theorem asM (s:Sn):(sn s).cells=[.i .u64 s.1,.l (s.2.map row)]:=rfl
@[simp] theorem asN (s:Sn):(sn s).scalar=false:=rfl
def zS:Sn:=(0,[])
def afx (s:Sn) (d:Dl):Sn×Int:=
 if sU s.2≠0 then (zS,sU s.2) else if ZL d≠0 then (zS,ZL d) else if s.1≠d.1 then (zS,19)
 else if (tog s.2 d.2.2).2≠0 then (zS,(tog s.2 d.2.2).2) else ((d.2.1,(tog s.2 d.2.2).1),0)
def vO (p x:List UInt8):Int:=if x=p then 14 else if Op.bytesLess x p=true then 7 else 0
theorem JV {d:List dw} (hf:gV d=true):(iC d).length<=30000:=by
 unfold gV at hf;rw [aI,decide_eq_true_iff] at hf;have l1:=lI (n:=d.length) (by omega);have:=Ue d hf.1;unfold iC;simp only [dH];omega
def common:List UInt8->List UInt8->Nat
 | a::x,b::y=>if a=b then common x y+1 else 0
 | _,_=>0
theorem Tt (b:List UInt8):common [] b=0:=by unfold common;rfl
theorem ags (a:List UInt8):common a []=0:=by cases a<;>rfl
theorem NV:∀a b:List UInt8,common a b<=a.length/\common a b<=b.length
 | [],b=>by simp [common]
 | _::_,[]=>by simp [common]
 | a::x,b::y=>by
   unfold common;have:=NV x y;split
   ·simp only [iY];omega
   ·omega
theorem Z5:∀a b:List UInt8,a.take (common a b)=b.take (common a b)
 | [],b=>by simp [common]
 | _::_,[]=>by simp [common]
 | a::x,b::y=>by
   unfold common;split
   ·next e=>subst e;rw [wK,wK,Z5 x y]
   ·simp
theorem ZY (a b:List UInt8) (ha:a.length<=140737488351232) (hb:b.length<=140737488351232):∀m i:Nat,i+m=a.length->TT.lim 82 [.s a,.s b,.i .i64 i]=some [.i .i64 0,.i .i64 ((i+common (a.drop i) (b.drop i):Nat):Int)]
 | 0,i,hi=>by
   have h0:a.drop i=[]:=gY (by omega);have h:¬ ((i:Int) < a.length):=by omega
   refine aG rfl rfl ?_;simp [h,h0,Tt]
 | m+1,i,hi=>by
   have hlt:i < a.length:=by omega
   have h:((i:Int) < a.length):=by omega
   by_cases hlb:i < b.length;rotate_left
   ·have h0:b.drop i=[]:=gY (by omega)
    have h1:¬ ((i:Int) < b.length):=by omega
    refine aG rfl rfl ?_;simp [h,h0,h1,ags]
   have hb1:((i:Int) < b.length):=by omega
   have ih:TT.lim 82 [.s a,.s b,.i .i64 ((i:Int)+1)]=_:=ZY a b ha hb m (i+1) (by omega);have hw:=wrap64 (n:=(i:Int)+1) (by omega) (by omega);rw [jw hlt,jw hlb];unfold common;by_cases e:a[i]=b[i]
   ·rw [aj e]
    have e':((a[i].toNat:Int)=(b[i].toNat:Int))=True:=eq_true (by rw [e]);have e2:((i+(common (a.drop (i+1)) (b.drop (i+1))+1):Nat):Int)=((i+1+common (a.drop (i+1)) (b.drop (i+1)):Nat):Int):=by omega
    rw [e2];refine aG rfl rfl ?_;simp [h,hlt,hlb,hb1,e',hw,ih]
   ·rw [ah e]
    have e':¬ (a[i].toNat:Int)=(b[i].toNat:Int):=λh=>e (YU.1 (by omega));refine aG rfl rfl ?_;simp [h,hlt,hlb,hb1,e']
theorem Tq (a b:List UInt8) (ha:a.length<=140737488351232) (hb:b.length<=140737488351232):TT.lim 81 [.s a,.s b]=some [.i .i64 (common a b)]:=by
 have k:TT.lim 82 [.s a,.s b,.i .i64 0]=_:=ZY a b ha hb a.length 0 (by omega);rw [eH,eH,jk] at k;refine bD rfl rfl ?_ rfl;simp [k]
/-- A text behind another one, as it is written. -/
def og (a s:List UInt8):List UInt8:=aS (common a s)++aS (s.length - common a s)++s.drop (common a s)
theorem ald (a s:List UInt8) (ha:a.length<=100000000) (hs:s.length<=100000000):TT.lim 80 [.s a,.s s]=some [.s (og a s)]:=by
 have k:=Tq a s (by omega) (by omega);have hl:=NV a s;have p1:=vW (common a s) (by omega);have p2:=vW (s.length - common a s) (by omega);have l1:=lI (n:=common a s) (by omega);have l2:=lI (n:=s.length - common a s) (by omega);have w1:=kE (n:=(common a s:Int)) (by omega) (by omega);have w2:=kE (n:=(s.length:Int) - (common a s:Int)) (by omega) (by omega);have w3:=wrap64 (n:=(s.length:Int) - (common a s:Int)) (by omega) (by omega);have e2:(s.length:Int) - (common a s:Int)=((s.length - common a s:Nat):Int):=by omega
 rw [e2] at w2 w3;refine bD rfl rfl ?_ rfl;unfold og;generalize common a s=c at *;have h1:((aS c).length:Int)+((aS (s.length - c)).length:Int)<=9223372036854775807:=by omega
 have h2:((aS c).length:Int)+((aS (s.length - c)).length:Int)+((s.length:Int) - (c:Int))<=9223372036854775807:=by omega
 have h3:(c:Int)<=s.length:=by omega
 have h4:((s.length - c:Nat):Int)=(s.length:Int) - c:=by omega
 have hd:(s.take s.length).drop c=s.drop c:=by rw [xO]
 rw [<- e2] at w2 w3;rw [<- e2] at p2;simp [k,p1,p2,w1,w2,w3,h1,h2,h3,h4,hd]
def jS:List UInt8->Nat
 | []=>0
 | b::r=>b.toNat % 128+128 * jS r
def lU:Nat->List UInt8->Option Nat
 | 0,_=>none
 | _+1,[]=>none
 | n+1,b::r=>if b.toNat < 128 then some 1 else (lU n r).map (· + 1)
def qp (k:Nat) (b:Nat):Int:=if k=10/\1 < b then 3 else if 1 < k/\b=0 then 2 else 0
/-- The number that a text begins with, in how many bytes, or why there is none. -/
def au (s:List UInt8):Nat×Nat×Int:=match lU 10 s with
 | none=>(0,0,if 10<=s.length then 3 else 1)
 | some k=>if qp k (s.getD (k - 1) 0).toNat≠0 then (0,0,qp k (s.getD (k - 1) 0).toNat) else (jS (s.take k),k,0)
theorem Rf:∀ {n:Nat} {s:List UInt8} {k:Nat},lU n s=some k->1<=k/\k<=n/\k<=s.length/\(s.getD (k - 1) 0).toNat < 128
 | 0,s,k,h=>by simp [lU] at h
 | n+1,[],k,h=>by simp [lU] at h
 | n+1,b::r,k,h=>by
   unfold lU at h;split at h
   ·next hb=>cases h;simpa using hb
   ·obtain ⟨j,hj,rfl⟩:=aW.1 h
    obtain ⟨h1,h2,h3,h4⟩:=Rf hj;obtain ⟨i,rfl⟩:∃i,j=i+1:=⟨j - 1,by omega⟩
    refine ⟨by omega,by omega,by simp;omega, ?_⟩;simpa using h4
theorem aeS:∀ (s:List UInt8),jS s < 128 ^ s.length
 | []=>by simp [jS]
 | b::r=>by
   have:=aeS r;simp only [jS,iY,Fj];omega
theorem adW (b i:Nat) (hb:b < 128) (hi:i<=9) (h9:i=9->b<=1):mM .shl .u64 (b:Int) ((7 * i:Nat):Int)=some (.i .u64 ((b * 128 ^ i:Nat):Int)):=by
 have e:min ((7 * i:Nat):Int).toNat 64=7 * i:=by simp;omega
 have e2:(2:Int) ^ (7 * i)=((128 ^ i:Nat):Int):=by rw [Int.pow_mul];simp
 have hlt:b * 128 ^ i < 18446744073709551616:=by
  rcases xP i 9 with h | h
  ·have:(128:Nat) ^ i<=128 ^ 8:=ML (by omega) (by omega)
   have h2:b * 128 ^ i<=127 * 128 ^ 8:=Nat.mul_le_mul (by omega) this;omega
  ·have hi9:i=9:=by omega
   subst hi9;have:=h9 rfl;omega
 unfold mM;rw [ah (by omega)];show some (GV.i .u64 (IntKind.u64.wrap ((b:Int) * 2 ^ (min ((7 * i:Nat):Int).toNat 64))))=_
 rw [e,e2,<- Int.natCast_mul,kE (by omega) (by omega)]
theorem orI (a c i:Nat) (ha:a < 2 ^ i) (h:a+c * 2 ^ i < 18446744073709551616):fG .or .u64 (a:Int) ((c * 2 ^ i:Nat):Int)=some (.i .u64 ((a+c * 2 ^ i:Nat):Int)):=by
 have h1:((BitVec.ofInt 64 (a:Int) ||| BitVec.ofInt 64 ((c * 2 ^ i:Nat):Int)).toNat:Nat)=a+c * 2 ^ i:=by
  rw [BitVec.toNat_or,wG,wG];generalize hC:c * 2 ^ i=C at *;have e1:((a:Int) % ((2 ^ 64:Nat):Int)).toNat=a:=by omega
  have e2:((C:Int) % ((2 ^ 64:Nat):Int)).toNat=C:=by omega
  rw [e1,e2,<- hC,Nat.or_comm,CX,IE];exact (afg ha c).symm
 show some (GV.i .u64 (IntKind.u64.wrap (((BitVec.ofInt 64 (a:Int) ||| BitVec.ofInt 64 ((c * 2 ^ i:Nat):Int)).toNat:Nat):Int)))=_
 rw [h1,kE (by omega) (by omega)]
theorem Hl (i:Nat):128 ^ i=2 ^ (7 * i):=by rw [Nat.pow_mul]
/-- Some number, whichever. -/
theorem adX (a b:Int) (hb:0<=b):∃r,mM .shl .u64 a b=some (.i .u64 r):=by
 unfold mM;rw [ah (by omega)];exact ⟨_,rfl⟩
theorem or_some (a b:Int):∃r,fG .or .u64 a b=some (.i .u64 r):=⟨_,rfl⟩
def zK (s:List UInt8) (acc:Int) (i:Nat):List GV:=match lU (10 - i) (s.drop i) with
 | none=>[.i .i64 1,.s s]
 | some k=>if qp (i+k) (s.getD (i+k - 1) 0).toNat≠0 then [.i .i64 0,.i .u64 0,.i .i64 0,.i .i64 (qp (i+k) (s.getD (i+k - 1) 0).toNat)]
   else [.i .i64 0,.i .u64 (acc+((128 ^ i * jS ((s.drop i).take k):Nat):Int)),.i .i64 ((i+k:Nat):Int),.i .i64 0]
theorem getLoop (s:List UInt8) (hs:s.length<=140737488351232):∀ (m i:Nat) (acc:Int),i+m=min s.length 10->(i<=9->0<=acc/\acc < ((128 ^ i:Nat):Int))->
 TT.lim 95 [.s s,.i .u64 acc,.i .i64 ((min s.length 10:Nat):Int),.i .i64 i]=some (zK s acc i)
 | 0,i,acc,hi,ha=>by
   have h:¬ ((i:Int) < ((min s.length 10:Nat):Int)):=by omega
   have hv:lU (10 - i) (s.drop i)=none:=by
    rcases xP i 10 with h1 | h1
    ·have:s.drop i=[]:=gY (by omega)
     rw [this];obtain ⟨j,hj⟩:∃j,10 - i=j+1:=⟨10 - i - 1,by omega⟩
     rw [hj];rfl
    ·have:10 - i=0:=by omega
     rw [this];unfold lU;rfl
   unfold zK;rw [hv];generalize ((min s.length 10:Nat):Int)=M at *;refine aG rfl rfl ?_;simp [h]
 | m+1,i,acc,hi,ha=>by
   have hlt:i < s.length:=by omega
   have h9:i<=9:=by omega
   have h:((i:Int) < ((min s.length 10:Nat):Int)):=by omega
   obtain ⟨a1,a2⟩:=ha h9;obtain ⟨n,rfl⟩:∃n:Nat,acc=n:=⟨acc.toNat,by omega⟩
   have hb:=(s[i]).toNat_lt;have k7:=Y5 (s[i]).toNat (by omega);have w8:=kE (n:=(((s[i]).toNat % 128:Nat):Int)) (by omega) (by omega);have wi:=wrap64 (n:=7 * (i:Int)) (by omega) (by omega);have wj:=wrap64 (n:=(i:Int)+1) (by omega) (by omega);have hd:s.drop i=s[i]::s.drop (i+1):=jw hlt;obtain ⟨j,hj⟩:∃j,10 - i=j+1:=⟨10 - i - 1,by omega⟩
   have hj':10 - (i+1)=j:=by omega
   have e7:(7 * (i:Int))=((7 * i:Nat):Int):=by omega
   have hgd:s.getD i 0=s[i]:=by simp [List.getD,hlt]
   by_cases hc:128<=(s[i]).toNat
   ·-- another one follows
    have hc':((128:Int)<=((s[i]).toNat:Int)):=by omega
    have step:∃V:Int,(i+1<=9->0<=V/\V < ((128 ^ (i+1):Nat):Int)/\V=n+(((s[i]).toNat % 128 * 128 ^ i:Nat):Int))/\(∃S,mM .shl .u64 ((((s[i]).toNat % 128:Nat)):Int) (7 * (i:Int))=some (.i .u64 S)/\fG .or .u64 (n:Int) S=some (.i .u64 V)):=by
     rcases xP i 9 with h1 | h1
     ·have k1:=adW ((s[i]).toNat % 128) i (by omega) (by omega) (by omega)
      have hp:(s[i]).toNat % 128 * 128 ^ i<=127 * 128 ^ i:=qV _ (by omega);have hpp:128 ^ (i+1)=128 * 128 ^ i:=by rw [Fj,CX]
      have hq:(128:Nat) ^ i<=128 ^ 8:=ML (by omega) (by omega);have k2:=orI n ((s[i]).toNat % 128) (7 * i) (by rw [<- Hl];omega) (by rw [<- Hl];omega);rw [<- Hl] at k2;refine ⟨_,λ_=>⟨by omega, ?_,rfl⟩,_,by rw [e7];exact k1,by rw [k2];simp⟩;rw [hpp];omega
     ·obtain ⟨S,hS⟩:=adX ((((s[i]).toNat % 128:Nat)):Int) (7 * (i:Int)) (by omega)
      obtain ⟨V,hV⟩:=or_some (n:Int) S;exact ⟨V,λh=>by omega,S,hS,hV⟩
    obtain ⟨V,hV,S,hS,hO⟩:=step;have ih:TT.lim 95 [.s s,.i .u64 V,.i .i64 ((min s.length 10:Nat):Int),.i .i64 ((i:Int)+1)]=_:=getLoop s hs m (i+1) V (by omega) (λh=>⟨(hV h).1,(hV h).2.1⟩);have hout:zK s n i=zK s V (i+1):=by
     unfold zK;rw [hd,hj,hj'];have hv:lU (j+1) (s[i]::s.drop (i+1))=(lU j (s.drop (i+1))).map (· + 1):=by
      show (if (s[i]).toNat < 128 then _ else _)=_
      rw [ah (by omega)]
     rw [hv];cases hx:lU j (s.drop (i+1)) with
     | none=>rfl
     | some k=>
       obtain ⟨q1,q2,_,_⟩:=Rf hx;have hV':=hV (by omega);have e1:i+(k+1)=i+1+k:=by omega
       simp only [gG,e1];split
       ·rfl
       ·have e2:(n:Int)+((128 ^ i * jS ((s[i]::s.drop (i+1)).take (k+1)):Nat):Int)=V+((128 ^ (i+1) * jS ((s.drop (i+1)).take k):Nat):Int):=by
         rw [hV'.2.2,wK];have:128 ^ i * jS (s[i]::(s.drop (i+1)).take k)=(s[i]).toNat % 128 * 128 ^ i+128 ^ (i+1) * jS ((s.drop (i+1)).take k):=by
          show 128 ^ i * ((s[i]).toNat % 128+128 * jS _)=_
          rw [Nat.mul_add,Fj,YN,CX (128 ^ i) ((s[i]).toNat % 128)]
         rw [this];omega
        rw [e2]
    rw [hout];generalize zK s V (i+1)=O at *;generalize ((min s.length 10:Nat):Int)=M at *;have em:(((s[i]).toNat % 128:Nat):Int)=((s[i]).toNat:Int) % 128:=by omega
    rw [em] at k7 w8 hS;refine aG rfl rfl ?_;simp [h,hlt,hc',k7,w8,wi,wj,hS,hO,ih]
   ·-- the last one
    have hc':¬ ((128:Int)<=((s[i]).toNat:Int)):=by omega
    have hv:lU (j+1) (s[i]::s.drop (i+1))=some 1:=by
     show (if (s[i]).toNat < 128 then _ else _)=_
     rw [aj (by omega)]
    have hout:zK s n i=if qp (i+1) (s[i]).toNat≠0 then [.i .i64 0,.i .u64 0,.i .i64 0,.i .i64 (qp (i+1) (s[i]).toNat)] else [.i .i64 0,.i .u64 ((n+(s[i]).toNat * 128 ^ i:Nat):Int),.i .i64 ((i:Int)+1),.i .i64 0]:=by
     unfold zK;rw [hd,hj,hv];have e1:i+1 - 1=i:=by omega
     have e2:128 ^ i * jS ((s[i]::s.drop (i+1)).take 1)=(s[i]).toNat * 128 ^ i:=by
      simp only [wK,RN,jS];rw [MJ (by omega),CX];simp
     simp only [e1,hgd,e2];congr 1
    rw [hout];have step:∃S V,mM .shl .u64 ((((s[i]).toNat % 128:Nat)):Int) (7 * (i:Int))=some (.i .u64 S)/\fG .or .u64 (n:Int) S=some (.i .u64 V)/\(qp (i+1) (s[i]).toNat=0->V=((n+(s[i]).toNat * 128 ^ i:Nat):Int)):=by
     by_cases hbad:i=9/\1 < (s[i]).toNat
     ·obtain ⟨S,hS⟩:=adX ((((s[i]).toNat % 128:Nat)):Int) (7 * (i:Int)) (by omega)
      obtain ⟨V,hV⟩:=or_some (n:Int) S;refine ⟨S,V,hS,hV,λh=>?_⟩;unfold qp at h;rw [aj (by omega)] at h;cases h
     ·have k1:=adW ((s[i]).toNat % 128) i (by omega) (by omega) (by omega)
      have em:(s[i]).toNat % 128=(s[i]).toNat:=MJ (by omega);rw [em] at k1;have hp:(s[i]).toNat * 128 ^ i<=127 * 128 ^ i:=qV _ (by omega);have hb64:n+(s[i]).toNat * 128 ^ i < 18446744073709551616:=by
       rcases xP i 9 with h1 | h1
       ·have hq:(128:Nat) ^ i<=128 ^ 8:=ML (by omega) (by omega)
        omega
       ·have hi9:i=9:=by omega
        have h1:(s[i]).toNat<=1:=by omega
        have hq:(128:Nat) ^ i=128 ^ 9:=by rw [hi9]
        have hp2:(s[i]).toNat * 128 ^ i<=1 * 128 ^ i:=qV _ h1;omega
      have k2:=orI n (s[i]).toNat (7 * i) (by rw [<- Hl];omega) (by rw [<- Hl];omega);rw [<- Hl] at k2;exact ⟨_,_,by rw [e7,em];exact k1,k2,λ_=>rfl⟩
    obtain ⟨S,V,hS,hO,hV⟩:=step;generalize ((n+(s[i]).toNat * 128 ^ i:Nat):Int)=R at *;generalize ((min s.length 10:Nat):Int)=M at *;have bd:qp (i+1) (s[i]).toNat=if (i:Int)=9/\(1:Int) < ((s[i]).toNat:Int) then 3 else if (0:Int) < (i:Int)/\((s[i]).toNat:Int)=0 then 2 else 0:=by
     unfold qp;congr 1
     ·apply propext;omega
     ·congr 1
      apply propext;omega
    rw [bd] at hV ⊢;have em:(((s[i]).toNat % 128:Nat):Int)=((s[i]).toNat:Int) % 128:=by omega
    rw [em] at k7 w8 hS;refine aG rfl rfl ?_
    rcases (Rw ((i:Int)=9)).imp eq_true eq_false with q1 | q1<;>rcases (Rw ((1:Int) < ((s[i]).toNat:Int))).imp eq_true eq_false with q2 | q2<;>
     rcases (Rw ((0:Int) < (i:Int))).imp eq_true eq_false with q3 | q3<;>rcases (Rw (((s[i]).toNat:Int)=0)).imp eq_true eq_false with q4 | q4
    all_goals
     have q3n:(0 < i)=((0:Int) < (i:Int)):=propext (by omega);have q4n:((s[i]).toNat=0)=(((s[i]).toNat:Int)=0):=propext (by omega);rw [q3] at q3n;rw [q4] at q4n;simp only [q1,q2,q3,q4,and_self,and_true,and_false,false_and,true_and,if_true,if_false] at hV ⊢;first
     | (have hV:=hV trivial;subst hV)
     | skip
     simp [h,hlt,hc',k7,w8,wi,wj,hS,hO,q1,q2,q3,q4,q3n,q4n]
theorem tC (s:List UInt8) (hs:s.length<=140737488351232):TT.lim 94 [.s s]=some [.i .u64 ((au s).1:Nat),.i .i64 ((au s).2.1:Nat),.i .i64 (au s).2.2]:=by
 have k:TT.lim 95 [.s s,.i .u64 0,.i .i64 ((min s.length 10:Nat):Int),.i .i64 0]=_:=getLoop s hs (min s.length 10) 0 0 (by omega) (by simp);have hm:(if (10:Int) < (s.length:Int) then (10:Int) else (s.length:Int))=((min s.length 10:Nat):Int):=by split<;>omega
 unfold zK at k;rw [eH,CZ] at k;unfold au;generalize ((min s.length 10:Nat):Int)=M at *;refine bD rfl rfl ?_ rfl;cases hv:lU 10 s with
 | none=>
   rw [hv] at k;by_cases h10:10<=s.length
   ·have h1:(10:Int)<=s.length:=by omega
    simp [hm,k,h10,h1]
   ·have h1:¬ (10:Int)<=s.length:=by omega
    simp [hm,k,h10,h1]
 | some j=>
   rw [hv] at k;simp only [jk,Nat.pow_zero,CY,Yw] at k;by_cases hb:qp j (s.getD (j - 1) 0).toNat=0
   ·simp only [hb,ne_eq,not_true_eq_false,if_false] at k ⊢
    simp [hm,k]
   ·simp only [hb,ne_eq,not_false_eq_true,if_true] at k ⊢
    simp [hm,k]
theorem LC {n:Nat} (h:n < 256):(UInt8.ofNat n).toNat=n:=UInt8.toNat_ofNat_of_lt' h
def uw (n:Nat):Nat:=if n < 128 then n else uw (n / 128)
termination_by n
theorem aeR {n:Nat} (h:n < 128):uw n=n:=by rw [uw,aj h]
theorem aeQ {n:Nat} (h:¬ n < 128):uw n=uw (n / 128):=by rw [uw,ah h]
theorem Rh {n:Nat} (h:n < 128):gy n=1:=by unfold gy;rw [Au h];rfl
theorem apO:∀n:Nat,uw n < 128/\(0 < n->0 < uw n)/\uw n * 128 ^ (gy n - 1)<=n:=by
 intro n;induction n using Nat.strongRecOn with
 | _ n ih=>
   by_cases h:n < 128
   ·rw [aeR h,Rh h];simp;omega
   ·obtain ⟨h1,h2,h3⟩:=ih (n / 128) (by omega)
    rw [aeQ h,ET h];refine ⟨h1,λ_=>h2 (by omega), ?_⟩;have hp:=yV (n / 128);obtain ⟨j,hj⟩:∃j,gy (n / 128)=j+1:=⟨gy (n / 128) - 1,by omega⟩
    rw [hj] at h3 ⊢;simp only [Nat.add_sub_cancel] at h3 ⊢;have:uw (n / 128) * 128 ^ (j+1)=uw (n / 128) * 128 ^ j * 128:=by rw [Fj,YN]
    rw [this];omega
theorem apM:∀ (n:Nat) (x:List UInt8),(aS n++x).getD (gy n - 1) 0=UInt8.ofNat (uw n):=by
 intro n;induction n using Nat.strongRecOn with
 | _ n ih=>
   intro x;by_cases h:n < 128
   ·rw [aeR h,Rh h,Au h];rfl
   ·have hp:=yV (n / 128)
    obtain ⟨j,hj⟩:∃j,gy (n / 128)=j+1:=⟨gy (n / 128) - 1,by omega⟩
    have:=ih (n / 128) (by omega) x;rw [aeQ h,ET h,Ij h,<- this,hj];simp
theorem apL:∀ (n k:Nat) (x:List UInt8),gy n<=k->lU k (aS n++x)=some (gy n):=by
 intro n;induction n using Nat.strongRecOn with
 | _ n ih=>
   intro k x hk;have hp:=yV n;obtain ⟨j,rfl⟩:∃j,k=j+1:=⟨k - 1,by omega⟩
   by_cases h:n < 128
   ·rw [Rh h,Au h]
    show (if (UInt8.ofNat n).toNat < 128 then _ else _)=_
    rw [aj (by rw [LC (by omega)];exact h)]
   ·rw [ET h] at hk ⊢
    rw [Ij h];show (if (UInt8.ofNat (n % 128+128)).toNat < 128 then _ else (lU j (aS (n / 128)++x)).map (· + 1))=_
    rw [ah (by rw [LC (by omega)];omega),ih (n / 128) (by omega) j x (by omega)];rfl
theorem apP:∀n:Nat,jS (aS n)=n:=by
 intro n;induction n using Nat.strongRecOn with
 | _ n ih=>
   by_cases h:n < 128
   ·rw [Au h]
    simp only [jS];rw [LC (by omega)];omega
   ·rw [Ij h]
    simp only [jS];rw [ih (n / 128) (by omega),LC (by omega)];omega
theorem ES (n:Nat) (x:List UInt8) (hn:n < 18446744073709551616):au (aS n++x)=(n,(aS n).length,0):=by
 have h1:=apL n 10 x (CP hn);obtain ⟨f1,f2,f3⟩:=apO n;have hg:=apM n x;have hb:qp (gy n) (UInt8.ofNat (uw n)).toNat=0:=by
  rw [LC (by omega)];unfold qp;rw [ah,ah]
  ·rintro ⟨h2,h3⟩
   by_cases h:n < 128
   ·rw [Rh h] at h2;omega
   ·have:=f2 (by omega);omega
  ·rintro ⟨h2,h3⟩
   rw [h2] at f3;have:2 * 128 ^ 9<=uw n * 128 ^ 9:=qV _ h3;simp only [show 10 - 1=9 from rfl] at f3;omega
 unfold au;rw [h1];simp only [hg,hb,ne_eq,not_true_eq_false,if_false];have:(aS n++x).take (gy n)=aS n:=by
  unfold gy;simp
 rw [this,apP];rfl
theorem apQ (a:List UInt8) (b:UInt8):jS (a++[b])=jS a+128 ^ a.length * (b.toNat % 128):=by
 induction a with
 | nil=>simp [jS]
 | cons c a ih=>
   simp only [dV,jS,ih,iY,Fj,Nat.mul_add,iR];rw [CX (128 ^ a.length) 128,YN]
/-- Bytes that are a number's writing. -/
theorem adw:∀ (j k:Nat) (s:List UInt8),lU j s=some k->(1 < k->(s.getD (k - 1) 0)≠0)->aS (jS (s.take k))=s.take k/\(1 < k\/s.getD (k - 1) 0≠0->jS (s.take k)≠0)
 | 0,k,s,h,_=>by simp [lU] at h
 | j+1,k,[],h,_=>by simp [lU] at h
 | j+1,k,b::r,h,hz=>by
   unfold lU at h;split at h
   ·next hb=>
    cases h;simp only [wK,RN,jS,Nat.mul_zero,kY];rw [MJ hb];refine ⟨by rw [Au hb];simp,λhh=>?_⟩;rcases hh with hh | hh
    ·omega
    ·intro e
     apply hh;simp only [xQ,List.getD_cons_zero];exact YU.1 (by simpa using e)
   ·next hb=>
    obtain ⟨i,hi,rfl⟩:=aW.1 h;obtain ⟨q1,q2,q3,q4⟩:=Rf hi;obtain ⟨l,rfl⟩:∃l,i=l+1:=⟨i - 1,by omega⟩
    have hz':r.getD l 0≠0:=by have:=hz (by omega);simpa using this
    obtain ⟨e1,e2⟩:=adw j (l+1) r hi (λ_=>by simpa using hz');have e2:=e2 (.inr (by simpa using hz'));have hb8:=b.toNat_lt;rw [wK];simp only [jS];refine ⟨?_,λ_=>by omega⟩;rw [Ij (by omega)];have a1:(b.toNat % 128+128 * jS (r.take (l+1))) % 128+128=b.toNat:=by omega
    have a2:(b.toNat % 128+128 * jS (r.take (l+1))) / 128=jS (r.take (l+1)):=by omega
    rw [a1,a2,e1];simp
structure VOk (s:List UInt8) (n k:Nat):Prop where
 pos:1<=k
 ten:k<=10
 len:k<=s.length
 lt:n < 18446744073709551616
 put:aS n=s.take k
theorem jD {s:List UInt8} (h:(au s).2.2=0):VOk s (au s).1 (au s).2.1:=by
 unfold au at h ⊢;cases hv:lU 10 s with
 | none=>
   rw [hv] at h;simp only at h;split at h<;>cases h
 | some k=>
   rw [hv] at h;simp only at h ⊢;obtain ⟨v1,v2,v3,v4⟩:=Rf hv;by_cases hb:qp k (s.getD (k - 1) 0).toNat=0
   ·simp only [hb,ne_eq,not_true_eq_false,if_false]
    have hz:1 < k->s.getD (k - 1) 0≠0:=by
     intro h1 h2;unfold qp at hb;rw [h2] at hb;split at hb
     ·cases hb
     ·rw [aj ⟨h1,rfl⟩] at hb;cases hb
    refine ⟨v1,v2,v3, ?_,(adw 10 k s hv hz).1⟩;have e:s.take k=s.take (k - 1)++[s.getD (k - 1) 0]:=by
     obtain ⟨j,rfl⟩:∃j,k=j+1:=⟨k - 1,by omega⟩
     have:j < s.length:=by omega
     simp [List.getD,this]
    have h2:=aeS (s.take (k - 1));rw [e,apQ,lX,IJ (by omega)];rw [lX,IJ (by omega)] at h2;rcases xP k 10 with h3 | h3
    ·have hq:(128:Nat) ^ (k - 1)<=128 ^ 8:=ML (by omega) (by omega)
     have hq2:128 ^ (k - 1) * ((s.getD (k - 1) 0).toNat % 128)<=128 ^ (k - 1) * 127:=MK _ (by omega);omega
    ·have hK10:k=10:=by omega
     have hb1:(s.getD (k - 1) 0).toNat<=1:=by
      unfold qp at hb;split at hb
      ·cases hb
      ·next h=>omega
     have hq:(128:Nat) ^ (k - 1)=128 ^ 9:=by rw [hK10]
     have hq2:128 ^ (k - 1) * ((s.getD (k - 1) 0).toNat % 128)<=128 ^ (k - 1) * 1:=MK _ (by omega);omega
   ·simp only [hb,ne_eq,not_false_eq_true,if_true] at h
theorem EP {s:List UInt8} (h:(au s).2.2≠0):(au s).1=0/\(au s).2.1=0:=by
 unfold au at h ⊢;cases hv:lU 10 s with
 | none=>exact ⟨rfl,rfl⟩
 | some k=>
   rw [hv] at h;simp only at h ⊢;by_cases hb:qp k (s.getD (k - 1) 0).toNat=0
   ·simp only [hb,ne_eq,not_true_eq_false,if_false] at h
   ·simp only [hb,ne_eq,not_false_eq_true,if_true]
    exact ⟨trivial,trivial⟩
/-- Taken of a cursor. -/
theorem yU (t:List UInt8) (at':Nat) (h:at'<=t.length) (ht:t.length<=140737488351232) :
 TT.lim 100 [.s t,.i .i64 at']=some [.i .i64 0,.i .u64 ((au (t.drop at')).1:Nat),.i .i64 (au (t.drop at')).2.2,.s t,.i .i64 ((at'+(au (t.drop at')).2.1:Nat):Int)]:=by
 have k:=tC (t.drop at') (by rw [dX];omega);have hd:(t.take t.length).drop at'=t.drop at':=by rw [xO]
 have h1:(at':Int)<=t.length:=by omega
 refine aG rfl rfl ?_;by_cases he:(au (t.drop at')).2.2=0
 ·have hv:=jD he
  have hl:=hv.len;have h10:=hv.ten;rw [dX] at hl;generalize (au (t.drop at')).1=n at *;generalize (au (t.drop at')).2.1=j at *;generalize (au (t.drop at')).2.2=e at *;have w1:=kE (n:=(j:Int)) (by omega) (by omega);have w2:=wrap64 (n:=(t.length:Int) - (at':Int)) (by omega) (by omega);have w3:=kE (n:=(t.length:Int) - (at':Int)) (by omega) (by omega);have w4:=wrap64 (n:=(j:Int)) (by omega) (by omega);have w5:=wrap64 (n:=(at':Int)+(j:Int)) (by omega) (by omega);have c1:¬ ((t.length:Int) - (at':Int) < (j:Int)):=by omega
  have c2:(at':Int)<=(at':Int)+(j:Int)/\(at':Int)+(j:Int)<=t.length:=by omega
  subst he;simp [hd,h1,k,w1,w2,w3,w4,w5,c1,c2]
 ·obtain ⟨e1,e2⟩:=EP he
  rw [e1,e2] at k ⊢;generalize (au (t.drop at')).2.2=e at *;simp [hd,h1,k,he]
def kJ (e:Int):List UInt8×Nat×Int:=([],0,e)
/-- The text that stands next, how many bytes it took, and the code. -/
def bf (s a0:List UInt8) (first:Bool):List UInt8×Nat×Int:=
 let a:=if first=true then [] else a0
 let v:=au s
 if v.2.2≠0 then kJ v.2.2 else
 if a.length < v.1 then kJ 23 else
 let v2:=au (s.drop v.2.1)
 if v2.2.2≠0 then kJ v2.2.2 else
 if s.length - (v.2.1+v2.2.1) < v2.1 then kJ 1 else
 let t:=a.take v.1++(s.drop (v.2.1+v2.2.1)).take v2.1
 if first=false/\Op.bytesLess a t=false then kJ 7 else
 if v.1 < common a t then kJ 23 else (t,v.2.1+v2.2.1+v2.1,0)
theorem akh (a t:List UInt8):(Op.bytesLess t a || t==a) = !(Op.bytesLess a t):=by
 rw [FQ,FQ,oU];simp only [lJ,decide_eq_true_iff,beq_iff_eq,uz,decide_eq_false_iff_not];constructor
 ·rintro (h | h) h2
  ·exact RF _ (RG h h2)
  ·subst h;exact RF _ h2
 ·intro h
  by_cases h1:t < a
  ·exact .inl h1
  ·exact .inr (List.le_antisymm (List.not_lt.1 h) (List.not_lt.1 h1))
theorem Z4:∀ (k:Nat) (a x:List UInt8),k<=a.length->k<=common a (a.take k++x)
 | 0,a,x,h=>by omega
 | k+1,[],x,h=>by simp at h
 | k+1,b::a,x,h=>by
   rw [wK,dV];unfold common;rw [aj rfl];have:=Z4 k a x (by simpa using h);omega
theorem amg (t a:List UInt8) (first:Bool) (at':Nat) (h:at'<=t.length) (ht:t.length<=100000000) (ha:a.length<=100000000) :
 ∃at2:Nat,TT.lim 125 [.s t,.i .i64 at',.s a,.b first]=some [.i .i64 0,.s (bf (t.drop at') a first).1,.i .i64 (bf (t.drop at') a first).2.2,.s t,.i .i64 at2]/\
  ((bf (t.drop at') a first).2.2=0->at2=at'+(bf (t.drop at') a first).2.1):=by
 have k1:=yU t at' h (by omega);by_cases he:(au (t.drop at')).2.2=0;rotate_left
 ·obtain ⟨e1,e2⟩:=EP he
  have hp:bf (t.drop at') a first=kJ (au (t.drop at')).2.2:=by unfold bf;simp only;rw [aj he]
  rw [e1,e2] at k1;rw [hp];clear e1 e2 hp;generalize (au (t.drop at')).2.2=e at *;refine ⟨at',aG rfl rfl ?_,λh=>absurd h he⟩;cases first<;>simp [k1,he,kJ]
 have hv:=jD he;have hl:=hv.len;have h64:=hv.lt;have h10:=hv.ten;rw [dX] at hl
 have hpn:∀a':List UInt8,a'=(if first=true then [] else a)->bf (t.drop at') a first=(if a'.length < (au (t.drop at')).1 then kJ 23 else
  if (au (t.drop (at'+(au (t.drop at')).2.1))).2.2≠0 then kJ (au (t.drop (at'+(au (t.drop at')).2.1))).2.2 else
  if (t.length - at') - ((au (t.drop at')).2.1+(au (t.drop (at'+(au (t.drop at')).2.1))).2.1) < (au (t.drop (at'+(au (t.drop at')).2.1))).1 then kJ 1 else
  if first=false/\Op.bytesLess a' (a'.take (au (t.drop at')).1++(t.drop (at'+((au (t.drop at')).2.1+(au (t.drop (at'+(au (t.drop at')).2.1))).2.1))).take (au (t.drop (at'+(au (t.drop at')).2.1))).1)=false then kJ 7 else
  if (au (t.drop at')).1 < common a' (a'.take (au (t.drop at')).1++(t.drop (at'+((au (t.drop at')).2.1+(au (t.drop (at'+(au (t.drop at')).2.1))).2.1))).take (au (t.drop (at'+(au (t.drop at')).2.1))).1) then kJ 23 else
  (a'.take (au (t.drop at')).1++(t.drop (at'+((au (t.drop at')).2.1+(au (t.drop (at'+(au (t.drop at')).2.1))).2.1))).take (au (t.drop (at'+(au (t.drop at')).2.1))).1,(au (t.drop at')).2.1+(au (t.drop (at'+(au (t.drop at')).2.1))).2.1+(au (t.drop (at'+(au (t.drop at')).2.1))).1,0)):=by
  intro a' ha';unfold bf;simp only [nS,dX,<- ha',he,ne_eq,not_true_eq_false,if_false]
 rw [he] at k1;have k2:=yU t (at'+(au (t.drop at')).2.1) (by omega) (by omega);have hv2:=λh=>jD (s:=t.drop (at'+(au (t.drop at')).2.1)) h;have hv3:=λh=>EP (s:=t.drop (at'+(au (t.drop at')).2.1)) h;generalize hv0:au (t.drop at')=v at *;obtain ⟨n,i,e⟩:=v;simp only at *;generalize hv1:au (t.drop (at'+i))=v2 at *;obtain ⟨m,j,e2⟩:=v2;simp only at *;clear hv0 hv1 hv;subst he;simp only [AA] at k1 k2
 -- whichever is ahead
 cases first with
 | true=>
   have hp:=hpn [] rfl;rw [hp];clear hp hpn;by_cases c1:0 < n
   ·have c1':(0:Int) < n:=by omega
    rw [aj (by simpa using c1)];refine ⟨at'+i,aG rfl rfl ?_,λh=>by cases h⟩;simp [k1,c1,c1',kJ]
   have c1':¬ (0:Int) < n:=by omega
   rw [ah (by simpa using c1)];by_cases c2:e2=0;rotate_left
   ·obtain ⟨q1,q2⟩:=hv3 c2
    subst q1;subst q2;rw [aj c2];refine ⟨at'+i,aG rfl rfl ?_,λh=>absurd h c2⟩;simp [k1,k2,c1,c1',c2,kJ]
   subst c2;obtain ⟨q1,q2,q3,q4,_⟩:=hv2 rfl;rw [dX] at q3;rw [ah (by simp)];have w2:=wrap64 (n:=(t.length:Int) - ((at':Int)+(i:Int)+(j:Int))) (by omega) (by omega);have w3:=kE (n:=(t.length:Int) - ((at':Int)+(i:Int)+(j:Int))) (by omega) (by omega);by_cases c3:t.length - at' - (i+j) < m
   ·have c3':(t.length:Int) - ((at':Int)+(i:Int)+(j:Int)) < (m:Int):=by omega
    rw [aj c3];refine ⟨at'+i+j,aG rfl rfl ?_,λh=>by cases h⟩;simp [k1,k2,c1,c1',w2,w3,c3',kJ]
   have c3':¬ (t.length:Int) - ((at':Int)+(i:Int)+(j:Int)) < (m:Int):=by omega
   rw [ah c3,ah (by simp)];have n0:n=0:=by omega
   subst n0;have hc:common [] ([]++(t.drop (at'+(i+j))).take m)=0:=Tt _;have w4:=wrap64 (n:=(m:Int)) (by omega) (by omega);have w5:=wrap64 (n:=(at':Int)+(i:Int)+(j:Int)+(m:Int)) (by omega) (by omega);have w0:=wrap64 (n:=(0:Int)) (by omega) (by omega);have ts:((t.take (at'+i+j+m)).drop (at'+i+j))=(t.drop (at'+(i+j))).take m:=by
    rw [<- iR,Fa];congr 1;omega
   have kc:=Tq [] ((t.drop (at'+(i+j))).take m) (by simp) (by simp;omega);rw [Tt] at kc;have c4:(at':Int)+(i:Int)+(j:Int)<=(at':Int)+(i:Int)+(j:Int)+(m:Int)/\(at':Int)+(i:Int)+(j:Int)+(m:Int)<=t.length:=by omega
   have c5:(0:Int)<=(at':Int)+(i:Int)+(j:Int):=by omega
   have t1:((at':Int)+(i:Int)+(j:Int)+(m:Int)).toNat=at'+i+j+m:=by omega
   have t2:((at':Int)+(i:Int)+(j:Int)).toNat=at'+i+j:=by omega
   rw [List.take_nil,ah (by rw [hc];omega)];have hl0:(((t.drop (at'+(i+j))).take m).length:Int)<=9223372036854775807:=by
    have:((t.drop (at'+(i+j))).take m).length<=t.length:=by rw [lX,dX];omega
    omega
   refine ⟨at'+i+j+m,aG rfl rfl ?_,λ_=>by simp only;omega⟩;rw [bV];generalize (t.drop (at'+(i+j))).take m=X at *;simp [k1,k2,w0,w2,w3,w4,w5,c3',c4,c5,t1,t2,ts,kc,hl0]
 | false=>
   have hp:=hpn a rfl;rw [hp];clear hp hpn;have wa:=kE (n:=(a.length:Int)) (by omega) (by omega);by_cases c1:a.length < n
   ·have c1':(a.length:Int) < n:=by omega
    rw [aj c1];refine ⟨at'+i,aG rfl rfl ?_,λh=>by cases h⟩;simp [k1,c1,c1',wa,kJ]
   have c1':¬ (a.length:Int) < n:=by omega
   rw [ah c1];by_cases c2:e2=0;rotate_left
   ·obtain ⟨q1,q2⟩:=hv3 c2
    subst q1;subst q2;rw [aj c2];refine ⟨at'+i,aG rfl rfl ?_,λh=>absurd h c2⟩;simp [k1,k2,c1,c1',c2,wa,kJ]
   subst c2;obtain ⟨q1,q2,q3,q4,_⟩:=hv2 rfl;rw [dX] at q3;rw [ah (by simp)];have w2:=wrap64 (n:=(t.length:Int) - ((at':Int)+(i:Int)+(j:Int))) (by omega) (by omega);have w3:=kE (n:=(t.length:Int) - ((at':Int)+(i:Int)+(j:Int))) (by omega) (by omega);by_cases c3:t.length - at' - (i+j) < m
   ·have c3':(t.length:Int) - ((at':Int)+(i:Int)+(j:Int)) < (m:Int):=by omega
    rw [aj c3];refine ⟨at'+i+j,aG rfl rfl ?_,λh=>by cases h⟩;simp [k1,k2,c1,c1',w2,w3,c3',wa,kJ]
   have c3':¬ (t.length:Int) - ((at':Int)+(i:Int)+(j:Int)) < (m:Int):=by omega
   rw [ah c3];have w4:=wrap64 (n:=(m:Int)) (by omega) (by omega);have w5:=wrap64 (n:=(at':Int)+(i:Int)+(j:Int)+(m:Int)) (by omega) (by omega);have wn:=wrap64 (n:=(n:Int)) (by omega) (by omega);have ts:((t.take (at'+i+j+m)).drop (at'+i+j))=(t.drop (at'+(i+j))).take m:=by
    rw [<- iR,Fa];congr 1;omega
   have hlx:((t.drop (at'+(i+j))).take m).length<=t.length:=by rw [lX,dX];omega
   have kc:=Tq a (a.take n++(t.drop (at'+(i+j))).take m) (by omega) (by rw [dH,lX];omega);have c4:(at':Int)+(i:Int)+(j:Int)<=(at':Int)+(i:Int)+(j:Int)+(m:Int)/\(at':Int)+(i:Int)+(j:Int)+(m:Int)<=t.length:=by omega
   have c5:(0:Int)<=(at':Int)+(i:Int)+(j:Int):=by omega
   have c6:(n:Int)<=a.length:=by omega
   have t1:((at':Int)+(i:Int)+(j:Int)+(m:Int)).toNat=at'+i+j+m:=by omega
   have t2:((at':Int)+(i:Int)+(j:Int)).toNat=at'+i+j:=by omega
   have hlm:(min n a.length:Nat)=n:=by omega
   have hl0:(n:Int)+(((t.drop (at'+(i+j))).take m).length:Int)<=9223372036854775807:=by omega
   have hle:=akh a (a.take n++(t.drop (at'+(i+j))).take m);generalize (t.drop (at'+(i+j))).take m=X at *;by_cases c7:Op.bytesLess a (a.take n++X)=false
   ·rw [aj ⟨rfl,c7⟩]
    rw [c7] at hle;refine ⟨at'+i+j+m,aG rfl rfl ?_,λh=>by cases h⟩;have hle':(Op.bytesLess (a.take n++X) a=true\/a.take n++X=a)=True:=eq_true (by simpa using hle);simp [k1,k2,wa,wn,w2,w3,w4,w5,c1',c3',c4,c5,c6,t1,t2,ts,hl0,hlm,hle',kJ]
   ·rw [ah (λh=>c7 h.2)]
    have c7:Op.bytesLess a (a.take n++X)=true:=by simpa using c7
    rw [c7] at hle;have hle':(Op.bytesLess (a.take n++X) a=true\/a.take n++X=a)=False:=eq_false (by simpa using hle);by_cases c8:n < common a (a.take n++X)
    ·have Du:(n:Int) < (common a (a.take n++X):Int):=by omega
     rw [aj c8];refine ⟨at'+i+j+m,aG rfl rfl ?_,λh=>by cases h⟩;simp [k1,k2,wa,wn,w2,w3,w4,w5,c1',c3',c4,c5,c6,t1,t2,ts,hl0,hlm,hle',kc,Du,kJ]
    ·have Du:¬ (n:Int) < (common a (a.take n++X):Int):=by omega
     rw [ah c8];refine ⟨at'+i+j+m,aG rfl rfl ?_,λ_=>by simp only;omega⟩;simp [k1,k2,wa,wn,w2,w3,w4,w5,c1',c3',c4,c5,c6,t1,t2,ts,hl0,hlm,hle',kc,Du]
theorem WZ {s a:List UInt8} {first:Bool} (h:(bf s a first).2.2=0):2<=(bf s a first).2.1/\(bf s a first).2.1<=s.length/\(bf s a first).1.length<=(if first=true then 0 else a.length)+(bf s a first).2.1:=by
 have hA:(if first=true then 0 else a.length)=(if first=true then [] else a).length:=by cases first<;>rfl
 rw [hA];clear hA;unfold bf at h ⊢;simp only at h ⊢;generalize (if first=true then [] else a)=a' at h ⊢;split at h
 ·next c=>exact absurd h c
 next c0=>
 rw [ah c0];split at h
 ·cases h
 next c1=>
 rw [ah c1];split at h
 ·next c=>exact absurd h c
 next c2=>
 rw [ah c2];split at h
 ·cases h
 next c3=>
 rw [ah c3];split at h
 ·cases h
 next c4=>
 rw [ah c4];split at h
 ·cases h
 next c5=>
 rw [ah c5];have v1:=jD (s:=s) (by simpa using c0);have v2:=jD (s:=s.drop (au s).2.1) (by simpa using c2);have p1:=v1.pos;have p2:=v2.pos;have l1:=v1.len;have l2:=v2.len;rw [dX] at l2;refine ⟨by simp only;omega,by simp only;omega, ?_⟩;simp only [dH,lX,dX];omega
def strs (l:List (List UInt8)):GV:=.l (l.map GV.s)
def Sm (n:Nat) (l:List (List UInt8)):Prop:=∀s∈l,s.length<=n
theorem acW (a s:List UInt8) (hs:s.length<=100000000):(og a s).length<=20+s.length:=by
 have hl:=NV a s;have l1:=lI (n:=common a s) (by omega);have l2:=lI (n:=s.length - common a s) (by omega);unfold og;simp only [dH,dX];omega
theorem aiW {g:GV} (h:(bG.list false [.str]).has g):∃l:List (List UInt8),g=strs l/\l.length<=140737488351232/\Sm 140737488351232 l:=by
 obtain ⟨xs,rfl,hl,hx⟩:=JG h;obtain ⟨rs,h1,rfl⟩:=GN (f:=GV.s) (p:=λs=>s.length<=140737488351232) (xs:=xs) λx hx'=>by
  obtain ⟨h1,h2⟩:=hx x hx';obtain ⟨g,r,e,h3,h4⟩:=iy h1;obtain ⟨s,rfl,hs⟩:=zN h3;have:=Gv h4;subst this;have hs':s.length<=140737488351232:=hs;cases x<;>simp [GV.cells] at e<;>simp at h2
  ·cases e;exact ⟨s,hs',rfl⟩
 exact ⟨rs,rfl,by rw [kM] at hl;exact hl,h1⟩
end U
end Go.Proofs.YtjglbndncdkhhaaGreatDoor
