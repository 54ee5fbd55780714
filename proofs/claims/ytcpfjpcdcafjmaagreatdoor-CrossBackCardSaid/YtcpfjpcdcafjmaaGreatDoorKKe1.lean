/- What the trees compute: plain laws. -/
import Derived.Test.YtcpfjpcdcafjmaaGreatDoorKKT
import Derived.Test.YtcpfjpcdcafjmaaGreatDoorAbsPl
import Derived.Test.YtcpfjpcdcafjmaaGreatDoorAbsGo
import Derived.Test.YtcpfjpcdcafjmaaGreatDoorAbsTold2
import Derived.Test.YtcpfjpcdcafjmaaGreatDoorAbsTold3
import Derived.Test.YtcpfjpcdcafjmaaGreatDoorAbsFields
import Derived.Test.YtcpfjpcdcafjmaaGreatDoorAbsSortF
import Derived.Lib.TrimUEq
import Derived.Lib.MapLaws
namespace Go.Proofs.YtcpfjpcdcafjmaaGreatDoor
open Go Go.aO
set_option linter.unusedSimpArgs false
set_option linter.unusedVariables false
set_option maxRecDepth 100000
namespace K
theorem Ho:∀a b:List UInt8,Op.bytesLess a b=decide (a < b)
 | _,[]=>by simp [Op.bytesLess]
 | [],_::_=>by simp [Op.bytesLess]
 | a::x,b::y=>by
   rw [Op.bytesLess,Ho x y,pI];simp [afA]
/-- An entry: key and value. A row: its entries and its number. -/
abbrev dA:=List UInt8×List UInt8
abbrev Row:=List dA×Int
def ent (x:dA):GV:=.g [.s x.1,.s x.2]
def row (r:Row):GV:=.g [.l (r.1.map ent),.i .u64 r.2]
@[simp] theorem aub (x:dA):(ent x).cells=[.s x.1,.s x.2]:=rfl
@[simp] theorem avD (r:Row):(row r).cells=[.l (r.1.map ent),.i .u64 r.2]:=rfl
@[simp] theorem auc (x:dA):(ent x).scalar=false:=rfl
@[simp] theorem avE (r:Row):(row r).scalar=false:=rfl
/-- Texts and lists of no more than any machine bears. -/
def uz (d:List dA):Prop:=d.length<=140737488351232/\∀x∈d,x.1.length<=140737488351232/\x.2.length<=140737488351232
def Rows (l:List Row):Prop:=l.length<=140737488351232/\∀r∈l,uz r.1/\0<=r.2/\r.2 < 18446744073709551616
def su (x:dA):Bool:=decide (x.1.length+x.2.length<=600)
theorem acP (d:List dA) (hd:uz d):∀m i:Nat,i+m=d.length->TT.lim 4 [.l (d.map ent),.i .i64 d.length,.i .i64 i]=some (if (d.drop i).all su=true then [.i .i64 1] else [.i .i64 0])
 | 0,i,hi=>by
   have h0:d.drop i=[]:=gG (by omega);refine ay rfl rfl ?_;have h:¬ ((i:Int) < d.length):=by omega
   simp [h,h0]
 | m+1,i,hi=>by
   have hlt:i < d.length:=by omega
   have ih:TT.lim 4 [.l (d.map ent),.i .i64 d.length,.i .i64 ((i:Int)+1)]=_:=acP d hd m (i+1) (by omega);refine ay rfl rfl ?_;have h:((i:Int) < d.length):=by omega
   have hw:=wrap64 (n:=(i:Int)+1) (by omega) (by have:=hd.1;omega);have hx:=hd.2 d[i] (jf hlt);have hw2:=wrap64 (n:=(d[i].1.length:Int)+(d[i].2.length:Int)) (by omega) (by omega);have hda:(d.drop i).all su=(su d[i]&&(d.drop (i+1)).all su):=by rw [iQ hlt,sQ]
   by_cases hf:(600:Int) < (d[i].1.length:Int)+(d[i].2.length:Int)
   ·have:su d[i]=false:=by unfold su;simp;omega
    simp [h,hlt,hw2,hf,hda,this]
   ·have:su d[i]=true:=by unfold su;simp;omega
    rw [hda,this,Jw];simp [h,hlt,hw,hw2,hf,ih]
def iq (d:List dA):Bool:=d.all su&&decide (d.length<=40)
theorem abn (d:List dA) (hd:uz d):TT.lim 3 [.l (d.map ent)]=some [.b (iq d)]:=by
 refine aW rfl rfl ?_ rfl;have h5:TT.lim 4 [.l (d.map ent),.i .i64 d.length,.i .i64 0]=_:=acP d hd d.length 0 (by omega);rw [dY] at h5;cases hc:d.all su with
 | false=>rw [hc] at h5;simp [h5,iq,hc]
 | true=>
   rw [hc] at h5;simp only [if_true] at h5;have:(decide ((d.length:Int)<=40))=decide (d.length<=40):=by rw [pI];simp;omega
   simp [h5,iq,hc,this]
def aT (n:Nat):List UInt8:=if n < 128 then [UInt8.ofNat n] else UInt8.ofNat (n % 128+128)::aT (n / 128)
termination_by n
decreasing_by omega
theorem BM {n:Nat} (h:n < 128):aT n=[UInt8.ofNat n]:=by rw [aT,aj h]
theorem Jr {n:Nat} (h:¬ n < 128):aT n=UInt8.ofNat (n % 128+128)::aT (n / 128):=by rw [aT,ah h]
def gU (n:Nat):Nat:=(aT n).length
theorem apZ {n:Int} (h0:0<=n):n.fdiv (2 ^ (7:Nat))=n / 128:=by
 rw [Nk _ (by decide)];rfl
theorem aey {n:Nat}:oz .shr .u64 (n:Int) 7=some (.i .u64 ((n / 128:Nat):Int)):=by
 have:((n:Int)).fdiv (2 ^ (7:Nat))=((n / 128:Nat):Int):=by rw [apZ (by omega)];omega
 simp [oz,IntKind.bits];exact this
theorem zO (n:Nat):0 < gU n:=by unfold gU;rw [aT];split<;>simp
theorem Gq {n:Nat} (h:¬ n < 128):gU n=gU (n / 128)+1:=by unfold gU;rw [Jr h];rfl
theorem afj:∀ (k n:Nat),0 < k->n < 128 ^ k->gU n<=k
 | 0,_,h,_=>by omega
 | k+1,n,_,h=>by
   by_cases hn:n < 128
   ·unfold gU;rw [BM hn];simp
   ·rw [Gq hn]
    cases k with
    | zero=>simp at h;omega
    | succ k=>
      have:n / 128 < 128 ^ (k+1):=by rw [GU] at h;omega
      have:=afj (k+1) (n / 128) (by omega) this;omega
theorem Ej {n:Nat} (h:n < 18446744073709551616):gU n<=10:=afj 10 n (by omega) (by omega)
theorem alb:∀ (n s:Nat),s+gU n<=1000->n < 18446744073709551616->TT.lim 10 [.i .u64 n,.i .i64 s]=some [.i .i64 0,.i .i64 ((s+gU n - 1:Nat):Int)]:=by
 intro n;induction n using Nat.strongRecOn with
 | _ n ih=>
   intro s hs hn;refine ay rfl rfl ?_;by_cases h:n < 128
   ·have h':¬ (128:Int)<=n:=by omega
    simp [h',gU,BM h]
   ·have h':(128:Int)<=n:=by omega
    have hv:=Gq h;have hp:=zO (n / 128);have hw:=wrap64 (n:=(s:Int)+1) (by omega) (by omega);have ih':TT.lim 10 [.i .u64 ((n / 128:Nat):Int),.i .i64 ((s:Int)+1)]=_:=ih (n / 128) (by omega) (s+1) (by omega) (by omega);have hn':s+gU n - 1=s+1+gU (n / 128) - 1:=by omega
    rw [hn'];have h7:oz .shr .u64 (n:Int) 7=some (.i .u64 ((n / 128:Nat):Int)):=aey;generalize ((n / 128:Nat):Int)=q at h7 ih';simp [h',hw,h7,ih']
theorem Mc (n:Nat) (hn:n < 18446744073709551616):TT.lim 9 [.i .u64 n]=some [.i .i64 (gU n)]:=by
 have hp:=zO n;have h9:TT.lim 10 [.i .u64 n,.i .i64 1]=_:=alb n 1 (by have:=Ej hn;omega) hn;rw [show 1+gU n - 1=gU n by omega] at h9;refine aW rfl rfl ?_ rfl;simp [h9]
/-- The bytes of a number, each with its high bit set. -/
def jQ:Nat->Nat->List Nat
 | 0,_=>[]
 | k+1,n=>(n % 128+128)::jQ k (n / 128)
def jc (n:Nat):GV:=.i .u8 n
theorem afV (n:Nat) (hn:n < 18446744073709551616):fJ .and .u64 (n:Int) 127=some (.i .u64 ((n % 128:Nat):Int)):=by
 have h1:((BitVec.ofInt 64 (n:Int) &&& BitVec.ofInt 64 127).toNat:Nat)=n % 128:=by
  rw [Yy,xM,xM];have e1:((n:Int) % ((2 ^ 64:Nat):Int)).toNat=n:=by omega
  have e2:((127:Int) % ((2 ^ 64:Nat):Int)).toNat=2 ^ 7 - 1:=by decide
  rw [e1,e2,afH]
 show some (GV.i .u64 (IntKind.u64.wrap (((BitVec.ofInt 64 (n:Int) &&& BitVec.ofInt 64 127).toNat:Nat):Int)))=_
 rw [h1,kK (by omega) (by omega)]
theorem Zi (n:Nat) (hn:n < 256):fJ .and .u8 (n:Int) 127=some (.i .u8 ((n % 128:Nat):Int)):=by
 have:∀x:Fin 256,IntKind.u8.wrap (((BitVec.ofInt IntKind.u8.bits ((x.val:Nat):Int) &&& BitVec.ofInt IntKind.u8.bits 127).toNat:Nat):Int)=((x.val % 128:Nat):Int):=by decide +kernel
 show some (GV.i .u8 _)=some (GV.i .u8 _)
 exact tH (λz=>some (GV.i .u8 z)) (this ⟨n,hn⟩)
theorem amI (n:Nat) (hn:n < 128):fJ .or .u8 (n:Int) 128=some (.i .u8 ((n+128:Nat):Int)):=by
 have:∀x:Fin 128,IntKind.u8.wrap (((BitVec.ofInt IntKind.u8.bits ((x.val:Nat):Int) ||| BitVec.ofInt IntKind.u8.bits 128).toNat:Nat):Int)=((x.val+128:Nat):Int):=by decide +kernel
 show some (GV.i .u8 _)=some (GV.i .u8 _)
 exact tH (λz=>some (GV.i .u8 z)) (this ⟨n,hn⟩)
theorem afs {n:Int} (h0:0<=n) (h1:n < 256):IntKind.u8.wrap n=n:=by
 have:IntKind.u8.wrap n=n % 256:=by simp [IntKind.wrap,IntKind.signed,IntKind.bits]
 rw [this];omega
@[simp] theorem atS (n:Nat):(jc n).cells=[jc n]:=rfl
@[simp] theorem atU (n:Nat):(jc n).scalar=true:=rfl
@[simp] theorem atT (n:Nat) (v:GV):(jc n).put 0 [v]=some v:=rfl
theorem ZH:∀l:List Nat,(∀x∈l,x < 256)->oK (l.map jc)=some (l.map UInt8.ofNat)
 | [],_=>rfl
 | a::l,h=>by
   have h1:=h a (by simp);have h2:=ZH l λx hx=>h x (by simp [hx]);simp only [iY,jc,oK] at h2 ⊢;rw [aj (by omega)];have:(λn:Nat=>GV.i .u8 (n:Int))=jc:=rfl;rw [h2];simp
theorem acI:∀ (m n:Nat) (done:List Nat),n < 18446744073709551616->done.length+m < 1000->
 TT.lim 11 [.i .u64 n,.l ((done++List.replicate m 0).map jc),.i .i64 ((done.length+m:Nat):Int),.i .i64 done.length]=some [.i .i64 0,.l ((done++jQ m n).map jc)]
 | 0,n,done,hn,hd=>by
   refine ay rfl rfl ?_;simp [jQ]
 | m+1,n,done,hn,hd=>by
   have hlt:(done.length:Int) < ((done.length+(m+1):Nat):Int):=by omega
   have hw:=wrap64 (n:=(done.length:Int)+1) (by omega) (by omega);have hw8:=afs (n:=((n % 128:Nat):Int)) (by omega) (by omega);have h7:oz .shr .u64 (n:Int) 7=some (.i .u64 ((n / 128:Nat):Int)):=aey;have ha:=afV n hn;have ho:=amI (n % 128) (by omega);have ih:=acI m (n / 128) (done++[n % 128+128]) (by omega) (by simp;omega);have hlen:(done++[n % 128+128]).length+m=done.length+(m+1):=by simp;omega
   rw [hlen] at ih;have hl2:(((done++[n % 128+128]).length:Nat):Int)=(done.length:Int)+1:=by simp
   rw [hl2] at ih;have hset:((done++List.replicate (m+1) 0).map jc).set done.length (jc (n % 128+128))=(done++[n % 128+128]++List.replicate m 0).map jc:=by
    rw [JD,<- List.map_set,List.set_append_right _ _ (dJ _),yQ];simp
   have hget:((done++List.replicate (m+1) 0).map jc)[done.length]? = some (jc 0):=by
    rw [iL,uD (dJ _),yQ,JD];rfl
   have hll:((done++List.replicate (m+1) 0).map jc).length=done.length+(m+1):=by simp
   have hv:done++jQ (m+1) n=done++[n % 128+128]++jQ m (n / 128):=by simp [jQ]
   rw [hv];generalize hL:(done++List.replicate (m+1) 0).map jc=L at *;refine ay rfl rfl ?_;have hix:(0:Int)<=(done.length:Int)/\(done.length:Int) < (L.length:Int):=by rw [hll];omega
   have hob:GV.i IntKind.u8 ((n % 128+128:Nat):Int)=jc (n % 128+128):=rfl;have U8:L.set done.length (GV.i IntKind.u8 ((n % 128+128:Nat):Int))=(done++[n % 128+128]++List.replicate m 0).map jc:=hset;generalize (done++[n % 128+128]++List.replicate m 0).map jc=L2 at ih U8;generalize (done++[n % 128+128]++jQ m (n / 128)).map jc=L3 at ih ⊢;generalize ((n / 128:Nat):Int)=q at h7 ih;generalize ((n % 128+128:Nat):Int)=z at ho U8;generalize ((n % 128:Nat):Int)=rr at ha hw8 ho;generalize ((done.length+(m+1):Nat):Int)=N at hlt ih ⊢;simp [hlt,ha,hw8,ho,hix,hget,h7,hw,U8,ih]
theorem Ym:∀m n,(jQ m n).length=m
 | 0,_=>rfl
 | m+1,n=>by simp [jQ,Ym m]
theorem Yn:∀m n,∀x∈jQ m n,x < 256
 | 0,_,x,h=>by simp [jQ] at h
 | m+1,n,x,h=>by
   simp only [jQ,cO] at h;rcases h with rfl | h
   ·omega
   ·exact Yn m _ x h
/-- The last byte without its high bit: as numbers are written. -/
theorem afi:∀ (s n:Nat),gU n=s+1->∃x,(jQ (s+1) n)[s]? = some x/\((jQ (s+1) n).set s (x % 128)).map UInt8.ofNat=aT n
 | 0,n,h=>by
   have hn:n < 128:=by
    by_cases hn:n < 128
    ·exact hn
    ·rw [Gq hn] at h;have:=zO (n / 128);omega
   refine ⟨n % 128+128,by simp [jQ], ?_⟩;rw [BM hn];simp [jQ];rw [Nv hn]
 | s+1,n,h=>by
   have hn:¬ n < 128:=by
    intro hn;unfold gU at h;rw [BM hn] at h;simp at h
   rw [Gq hn] at h;obtain ⟨x,h1,h2⟩:=afi s (n / 128) (by omega);refine ⟨x,by simp only [jQ,qN] at h1 ⊢;exact h1, ?_⟩;rw [Jr hn,<- h2];simp [jQ]
theorem xF (n:Nat) (hn:n < 18446744073709551616):TT.lim 8 [.i .u64 n]=some [.s (aT n)]:=by
 have h8:=Mc n hn;have hp:=zO n;have hs:=Ej hn;obtain ⟨s,hs1⟩:∃s,gU n=s+1:=⟨gU n - 1,by omega⟩
 obtain ⟨x,h1,h2⟩:=afi s n hs1;rw [hs1] at h8;have h10:TT.lim 11 [.i .u64 n,.l ((List.replicate (s+1) 0).map jc),.i .i64 ((s+1:Nat):Int),.i .i64 0]=some [.i .i64 0,.l ((jQ (s+1) n).map jc)]:=by
  have:=acI (s+1) n [] hn (by simp;omega);simpa using this
 have hr:(List.replicate (s+1) 0).map jc=List.replicate (s+1) (GV.i .u8 0):=by rw [List.map_replicate];rfl
 rw [hr] at h10;have hx:x < 256:=Yn _ _ x (rQ h1);have ha:=Zi x hx;have hget:((jQ (s+1) n).map jc)[s]? = some (jc x):=by rw [iL,h1];rfl
 have hset:((jQ (s+1) n).map jc).set s (GV.i .u8 ((x % 128:Nat):Int))=((jQ (s+1) n).set s (x % 128)).map jc:=(List.map_set (f:=jc) (l:=jQ (s+1) n) (i:=s) (a:=x % 128)).symm;have hb:=ZH ((jQ (s+1) n).set s (x % 128)) (λy hy=>by
  rcases YS hy with hy | rfl
  ·exact Yn _ _ y hy
  ·omega)
 rw [h2] at hb;have hlen:(((jQ (s+1) n).set s (x % 128)).map jc).length=s+1:=by simp [Ym]
 have hlr:(List.replicate (s+1) (GV.i .u8 0)).length=s+1:=by simp
 have hl1:((jQ (s+1) n).map jc).length=s+1:=by simp [Ym]
 generalize ((jQ (s+1) n).set s (x % 128)).map jc=L3 at hset hb hlen;generalize (jQ (s+1) n).map jc=L2 at h10 hget hset hl1;generalize hrep:List.replicate (s+1) (GV.i .u8 0)=L1 at h10 hlr;refine aW rfl rfl ?_ rfl;have hw:=wrap64 (n:=(s:Int)) (by omega) (by omega);have hcast:((s+1:Nat):Int)=(s:Int)+1:=by omega
 rw [hcast] at h8 h10;have hc1:(0:Int)<=(s:Int)+1/\(s:Int)+1<=281474976710656/\(s:Int)+1<=1152921504606846976:=by omega
 have hc2:((s:Int)+1).toNat=s+1:=by omega
 have hlt:(s:Int) < (s:Int)+1:=by omega
 have hs2:(s:Int)+1 - 1=(s:Int):=by omega
 generalize hM:((x % 128:Nat):Int)=M at ha hset;have hxx:jc x=.i .u8 x:=rfl;have h48:s+1<=281474976710656:=by omega
 have hg2:L2[s]'(by omega)=jc x:=by have:=hget;rw [bT (by omega)] at this;exact Ew this
 simp [h8,hc1,hc2,hrep,hlr,h10,hl1,hs2,hw,hlt,hget,hg2,ha,hset,hxx,hlen,hb,h48,GV.fU]
theorem TA (a b:List UInt8):eG (a++b)=eG a++eG b:=by simp [eG]
@[simp] theorem ZF (a:List UInt8):(eG a).length=a.length:=by simp [eG]
theorem J3 (a:List UInt8):(eG a).all (GV.fU 1)=true:=by
 rw [List.all_eq_true];intro x hx;obtain ⟨b,_,rfl⟩:=nD.1 hx;rfl
theorem TD:∀a:List UInt8,oK (eG a)=some a
 | []=>rfl
 | x::a=>by
   have ih:=TD a;simp only [eG,iY,oK] at ih ⊢;have:=x.toNat_lt;rw [aj (by omega),ih];simp
def iU (x:dA):List UInt8:=aT x.1.length++x.1++aT x.2.length++x.2
def iJ (d:List dA):List UInt8:=aT d.length++d.flatMap iU
theorem ng {n:Nat} (h:n < 18446744073709551616):(aT n).length<=10:=Ej h
theorem ah4 (x:dA) (h1:x.1.length<=140737488351232) (h2:x.2.length<=140737488351232):TT.lim 13 [ent x]=some [.s (iU x)]:=by
 have k1:=xF x.1.length (by omega);have k2:=xF x.2.length (by omega);have l1:=ng (n:=x.1.length) (by omega);have l2:=ng (n:=x.2.length) (by omega);have w1:=kK (n:=(x.1.length:Int)) (by omega) (by omega);have w2:=kK (n:=(x.2.length:Int)) (by omega) (by omega);refine aW rfl rfl ?_ rfl;have c1:((aT x.1.length).length:Int)+(x.1.length:Int)<=9223372036854775807:=by omega
 have c2:((aT x.1.length).length:Int)+((x.1.length:Int)+((aT x.2.length).length:Int))<=9223372036854775807:=by omega
 have c3:((aT x.1.length).length:Int)+((x.1.length:Int)+(((aT x.2.length).length:Int)+(x.2.length:Int)))<=9223372036854775807:=by omega
 simp [w1,w2,k1,k2,c1,c2,c3,iU,Int.add_assoc]
theorem aa3 {x:dA} (h:su x=true):(iU x).length<=620:=by
 unfold su at h;simp only [decide_eq_true_iff] at h;have l1:=ng (n:=x.1.length) (by omega);have l2:=ng (n:=x.2.length) (by omega);simp only [iU,dQ];omega
theorem Ux:∀d:List dA,d.all su=true->(d.flatMap iU).length<=620 * d.length
 | [],_=>by simp
 | x::d,h=>by
   rw [sQ,aJ] at h;have:=aa3 h.1;have:=Ux d h.2;simp only [jv,dQ,jg];omega
theorem acJ (d:List dA) (hf:d.all su=true) (hl:d.length<=40):∀ (m i:Nat) (acc:List UInt8),i+m=d.length->acc.length<=10+620 * i->
 TT.lim 12 [.l (d.map ent),.i .i64 d.length,.i .i64 i,.l (eG acc)]=some [.i .i64 0,.l (eG (acc++(d.drop i).flatMap iU))]
 | 0,i,acc,hi,ha=>by
   have h0:d.drop i=[]:=gG (by omega);refine ay rfl rfl ?_;have h:¬ ((i:Int) < d.length):=by omega
   simp [h,h0]
 | m+1,i,acc,hi,ha=>by
   have hlt:i < d.length:=by omega
   have hx:=List.all_eq_true.1 hf d[i] (jf hlt);have hx1:=hx;unfold su at hx1;simp only [decide_eq_true_iff] at hx1;have hp:=ah4 d[i] (by omega) (by omega);have hpl:=aa3 hx;have ih:TT.lim 12 [.l (d.map ent),.i .i64 d.length,.i .i64 ((i:Int)+1),.l (eG (acc++iU d[i]))]=_:=acJ d hf hl m (i+1) (acc++iU d[i]) (by omega) (by simp;omega);rw [TA] at ih;have hd:(d.drop i).flatMap iU=iU d[i]++(d.drop (i+1)).flatMap iU:=by rw [iQ hlt,jv]
   rw [hd,<- List.append_assoc];refine ay rfl rfl ?_;have h:((i:Int) < d.length):=by omega
   have hw:=wrap64 (n:=(i:Int)+1) (by omega) (by omega);have hok:=J3 (iU d[i]);have hb:2 * (acc.length+(iU d[i]).length)<=281474976710656/\acc.length+(iU d[i]).length<=281474976710656:=by omega
   have he:GV.g [GV.s d[i].1,GV.s d[i].2]=ent d[i]:=rfl;simp [-List.all_eq_true,h,hlt,he,hp,hok,hb,hw,ih]
theorem PV (d:List dA) (hf:iq d=true):TT.lim 7 [.l (d.map ent)]=some [.s (iJ d)]:=by
 unfold iq at hf;rw [aJ,decide_eq_true_iff] at hf;have k:=xF d.length (by omega);have l1:=ng (n:=d.length) (by omega);have w1:=kK (n:=(d.length:Int)) (by omega) (by omega);have h11:TT.lim 12 [.l (d.map ent),.i .i64 d.length,.i .i64 0,.l (eG (aT d.length))]=_:=acJ d hf.1 hf.2 d.length 0 (aT d.length) (by omega) (by omega);rw [dY] at h11;have hb:2 * (aT d.length).length<=281474976710656/\(aT d.length).length<=281474976710656:=by omega
 have hok:=J3 (aT d.length);have hfl:=Ux d hf.1;have hc:(aT d.length).length+(List.flatMap iU d).length<=281474976710656:=by omega
 have hbg:=TD (aT d.length++d.flatMap iU);refine aW rfl rfl ?_ rfl;unfold iJ;generalize d.flatMap iU=F at *;simp [-List.all_eq_true,w1,k,hb,hok,h11,hc,hbg]
def jI (s:List UInt8) (lo hi:Int):Int:=if (s.length:Int) < lo then 13 else if hi < (s.length:Int) then 13 else if Lib.validD s=true then 0 else 11
theorem ajf (s:List UInt8) (h:s.length<=140737488351232):TT.lim 23 [.s s]=some [.b (Lib.validD s)]:=by
 have h21:TT.lim 24 [.s s]=some [.b (Lib.validD s)]:=LX (Ds:=Ds) (k:=24) (f:=Jq) rfl (by simp only [Jq];rw [aj (by omega)]);refine aW rfl rfl ?_ rfl;simp [h21]
theorem CS (s:List UInt8) (lo hi:Int) (h:s.length<=140737488351232):TT.lim 22 [.s s,.i .i64 lo,.i .i64 hi]=some [.i .i64 (jI s lo hi)]:=by
 have h20:=ajf s h;refine aW rfl rfl ?_ rfl;unfold jI;by_cases h1:(s.length:Int) < lo
 ·simp [h1]
 ·by_cases h2:hi < (s.length:Int)
  ·simp [h1,h2]
  ·cases hv:Lib.validD s<;>rw [hv] at h20<;>simp [h1,h2,h20,hv]
def qC (x:dA):Int:=if jI x.1 1 64≠0 then jI x.1 1 64 else jI x.2 0 256
theorem aa4 (x:dA) (h1:x.1.length<=140737488351232) (h2:x.2.length<=140737488351232):TT.lim 21 [ent x]=some [.i .i64 (qC x)]:=by
 have k1:=CS x.1 1 64 h1;have k2:=CS x.2 0 256 h2;refine aW rfl rfl ?_ rfl;unfold qC;by_cases h:jI x.1 1 64=0
 ·simp [k1,h,k2]
 ·simp [k1,h]
def qB:Option (List UInt8)->List dA->Int
 | _,[]=>0
 | p,x::xs=>if qC x≠0 then qC x else match p with
   | none=>qB (some x.1) xs
   | some k=>if x.1=k then 14 else if Op.bytesLess x.1 k=true then 7 else qB (some x.1) xs
def tagged (r:Int):List GV:=if r=0 then [.i .i64 1] else [.i .i64 0,.i .i64 r]
def prevK (d:List dA) (i:Nat):Option (List UInt8):=if i=0 then none else (d[i - 1]?).map (·.1)
theorem acK (d:List dA) (hd:uz d):∀m i:Nat,i+m=d.length->TT.lim 20 [.l (d.map ent),.i .i64 d.length,.i .i64 i]=some (tagged (qB (prevK d i) (d.drop i)))
 | 0,i,hi=>by
   have h0:d.drop i=[]:=gG (by omega);refine ay rfl rfl ?_;have h:¬ ((i:Int) < d.length):=by omega
   simp [h,h0,qB,tagged]
 | m+1,i,hi=>by
   have hlt:i < d.length:=by omega
   have hx:=hd.2 d[i] (jf hlt);have hp:=aa4 d[i] hx.1 hx.2;have ih:TT.lim 20 [.l (d.map ent),.i .i64 d.length,.i .i64 ((i:Int)+1)]=_:=acK d hd m (i+1) (by omega);have hpk:prevK d (i+1)=some d[i].1:=by unfold prevK;rw [ah (by omega)];simp [hlt]
   rw [hpk] at ih;have hdr:d.drop i=d[i]::d.drop (i+1):=iQ hlt;rw [hdr];refine ay rfl rfl ?_;have h:((i:Int) < d.length):=by omega
   have hw:=wrap64 (n:=(i:Int)+1) (by omega) (by have:=hd.1;omega);have he:GV.g [GV.s d[i].1,GV.s d[i].2]=ent d[i]:=rfl;by_cases h1:qC d[i]=0;rotate_left
   ·simp [h,hlt,he,hp,h1,qB,tagged]
   by_cases h0:i=0
   ·subst h0
    simp only [vP,YG] at hw ih;simp [h,hlt,he,hp,h1,qB,prevK,hw];simpa using ih
   ·have hi1:i - 1 < d.length:=by omega
    have hpk2:prevK d i=some d[i - 1].1:=by unfold prevK;rw [ah h0];simp [hi1]
    have hw2:=wrap64 (n:=(i:Int) - 1) (by omega) (by have:=hd.1;omega);have hi0:¬ ((i:Int)=0):=by omega
    have hge:(0:Int)<=(i:Int) - 1:=by omega
    have ht:((i:Int) - 1).toNat=i - 1:=by omega
    have hnl:(1:Int)<=(i:Int):=by omega
    rw [hpk2];by_cases h2:d[i].1=d[i - 1].1
    ·have h2':(d[i].1=d[i - 1].1)=True:=eq_true h2
     clear h2;simp [h,hlt,he,hp,h1,hi0,h0,hw2,ht,hi1,h2',qB,tagged,hnl]
    ·cases h3:Op.bytesLess d[i].1 d[i - 1].1 with
     | true=>simp [h,hlt,he,hp,h1,hi0,h0,hw2,ht,hi1,h2,h3,qB,tagged,hnl]
     | false=>simp [h,hlt,he,hp,h1,hi0,h0,hw2,ht,hi1,h2,h3,qB,hw,ih,hnl]
def rY (d:List dA):Int:=if d.length=0 then 12 else if 16 < d.length then 13 else qB none d
theorem ZV (d:List dA) (hd:uz d):TT.lim 19 [.l (d.map ent)]=some [.i .i64 (rY d)]:=by
 have h17:TT.lim 20 [.l (d.map ent),.i .i64 d.length,.i .i64 0]=_:=acK d hd d.length 0 (by omega);have hpk:prevK d 0=none:=rfl;rw [hpk,dY] at h17;have w1:=kK (n:=(d.length:Int)) (by omega) (by have:=hd.1;omega);refine aW rfl rfl ?_ rfl;unfold rY;by_cases h0:d.length=0
 ·have h0':(d.length:Int)=0:=by omega
  have:d=[]:=jr h0;subst this;simp [IntKind.wrap,IntKind.signed]
 ·have h0':¬ (d.length:Int)=0:=by omega
  by_cases h1:16 < d.length
  ·have h1':(16:Int) < (d.length:Int):=by omega
   simp [w1,h0,h1,h0',h1']
  ·have h1':¬ (16:Int) < (d.length:Int):=by omega
   by_cases h2:qB none d=0
   ·simp only [tagged,h2,if_true] at h17
    simp [w1,h0,h1,h0',h1',h17,h2]
   ·simp only [tagged,h2,if_false] at h17
    simp [w1,h0,h1,h0',h1',h17]
def vI (r:Row):Int:=if rY r.1≠0 then rY r.1 else if r.2=0 then 18 else 0
theorem agu (r:Row) (hd:uz r.1):TT.lim 18 [row r]=some [.i .i64 (vI r)]:=by
 have k:=ZV r.1 hd;refine aW rfl rfl ?_ rfl;unfold vI;by_cases h:rY r.1=0
 ·by_cases h2:r.2=0
  ·simp [k,h,h2]
  ·simp [k,h,h2]
 ·simp [k,h]
def qV (long:Bool) (r:Row):Bool:=decide (r.1.length<=18)&&iq r.1&&(!long || decide ((iJ r.1).length<=100))
theorem acM (l:List Row) (hl:Rows l):∀m i:Nat,i+m=l.length->TT.lim 6 [.l (l.map row),.i .i64 l.length,.i .i64 i]=some (if (l.drop i).all (qV (decide (40 < l.length)))=true then [.i .i64 1] else [.i .i64 0])
 | 0,i,hi=>by
   have h0:l.drop i=[]:=gG (by omega);refine ay rfl rfl ?_;have h:¬ ((i:Int) < l.length):=by omega
   simp [h,h0]
 | m+1,i,hi=>by
   have hlt:i < l.length:=by omega
   have hr:=hl.2 l[i] (jf hlt);have ih:TT.lim 6 [.l (l.map row),.i .i64 l.length,.i .i64 ((i:Int)+1)]=_:=acM l hl m (i+1) (by omega);have hda:(l.drop i).all (qV (decide (40 < l.length)))=(qV (decide (40 < l.length)) l[i]&&(l.drop (i+1)).all (qV (decide (40 < l.length)))):=by rw [iQ hlt,sQ]
   rw [hda];refine ay rfl rfl ?_;have h:((i:Int) < l.length):=by omega
   have hw:=wrap64 (n:=(i:Int)+1) (by omega) (by have:=hl.1;omega);have h4:=abn l[i].1 hr.1;by_cases h1:18 < l[i].1.length
   ·have h1':(18:Int) < (l[i].1.length:Int):=by omega
    have:qV (decide (40 < l.length)) l[i]=false:=by unfold qV;simp;omega
    rw [this];simp [h,hlt,h1']
   have h1':¬ (18:Int) < (l[i].1.length:Int):=by omega
   have h1d:l[i].1.length<=18:=by omega
   cases hf:iq l[i].1 with
   | false=>
     rw [hf] at h4;have:qV (decide (40 < l.length)) l[i]=false:=by unfold qV;simp [hf]
     rw [this];simp [h,hlt,h1',h4]
   | true=>
     rw [hf] at h4;have k6:=PV l[i].1 hf;by_cases h2:40 < l.length
     ·have h2':(40:Int) < (l.length:Int):=by omega
      by_cases h3:100 < (iJ l[i].1).length
      ·have h3':(100:Int) < ((iJ l[i].1).length:Int):=by omega
       have:qV (decide (40 < l.length)) l[i]=false:=by unfold qV;simp [h2];omega
       rw [this];simp [h,hlt,h1',h4,h2',k6,h3']
      ·have h3':¬ (100:Int) < ((iJ l[i].1).length:Int):=by omega
       have:qV (decide (40 < l.length)) l[i]=true:=by unfold qV;simp [h2,hf,h1d];omega
       rw [this,Jw];simp [h,hlt,h1',h4,h2',k6,h3',hw,ih]
     ·have h2':¬ (40:Int) < (l.length:Int):=by omega
      have:qV (decide (40 < l.length)) l[i]=true:=by unfold qV;simp [h2,hf,h1d]
      rw [this,Jw];simp [h,hlt,h1',h4,h2',hw,ih]
def Df (l:List Row):Bool:=l.all (qV (decide (40 < l.length)))&&decide (l.length<=300)
theorem aiH (l:List Row) (hl:Rows l):TT.lim 5 [.l (l.map row)]=some [.b (Df l)]:=by
 refine aW rfl rfl ?_ rfl;have h3:TT.lim 6 [.l (l.map row),.i .i64 l.length,.i .i64 0]=_:=acM l hl l.length 0 (by omega);rw [dY] at h3;unfold Df;cases hc:l.all (qV (decide (40 < l.length))) with
 | false=>rw [hc] at h3;simp [h3]
 | true=>
   rw [hc] at h3;simp only [if_true] at h3;have:(decide ((l.length:Int)<=300))=decide (l.length<=300):=by rw [pI];simp;omega
   simp [h3,this]
theorem aiG {l:List Row} (h:Df l=true):∀r∈l,iq r.1=true:=by
 unfold Df at h;rw [aJ] at h;intro r hr;have:=List.all_eq_true.1 h.1 r hr;unfold qV at this;simp only [aJ] at this;exact this.1.2
theorem Z5 (d:List dA) (h:d.length<=40):TT.lim 114 [.l (d.map ent)]=some [.l (d.map ent)]:=by
 refine LX (Ds:=Ds) (k:=114) (f:=Ht 32 2) rfl ?_;have hall:(d.map ent).all (GV.fU 2)=true:=by
  rw [List.all_eq_true];intro x hx;obtain ⟨r,_,rfl⟩:=nD.1 hx;rfl
 simp only [Ht];rw [aj ⟨by rw [nV];omega,hall⟩]
abbrev K (r:Row):List UInt8:=iJ r.1
/-- How many rows at the head have lesser keys. -/
def Zf (k:List UInt8):List Row->Nat
 | []=>0
 | r::rs=>if Op.bytesLess (K r) k=true then Zf k rs+1 else 0
def Zp:List Row->List Row->Bool
 | _,[]=>true
 | t,r::rs=>match t.drop (Zf (K r) t) with
   | []=>false
   | s::t'=>decide (K s=K r)&&decide (r.2<=s.2)&&Zp (s::t') rs
theorem ah6 (x y:dA):kF [1,1] [.s x.1,.s x.2] [.s y.1,.s y.2]=some (decide (x=y)):=by
 simp only [kF,gI,Jv];congr 1;rw [pI];simp [Prod.ext_iff]
theorem acN (d e:List dA) (hl:d.length=e.length) (hb:d.length<=140737488351232):∀m i:Nat,i+m=d.length->
 TT.lim 133 [.l (d.map ent),.l (e.map ent),.i .i64 d.length,.i .i64 i]=some (if d.drop i=e.drop i then [.i .i64 1] else [.i .i64 0])
 | 0,i,hi=>by
   have h0:d.drop i=[]:=gG (by omega);have h1:e.drop i=[]:=gG (by omega);refine ay rfl rfl ?_;have h:¬ ((i:Int) < d.length):=by omega
   simp [h,h0,h1]
 | m+1,i,hi=>by
   have hlt:i < d.length:=by omega
   have hlt2:i < e.length:=by omega
   have ih:TT.lim 133 [.l (d.map ent),.l (e.map ent),.i .i64 d.length,.i .i64 ((i:Int)+1)]=_:=acN d e hl hb m (i+1) (by omega);have hd:(d.drop i=e.drop i)↔(d[i]=e[i]/\d.drop (i+1)=e.drop (i+1)):=by
    rw [iQ hlt,iQ hlt2,Gz]
   have hq:=ah6 d[i] e[i];refine ay rfl rfl ?_;have h:((i:Int) < d.length):=by omega
   have hw:=wrap64 (n:=(i:Int)+1) (by omega) (by omega);by_cases h1:d[i]=e[i]
   ·have h2:(d.drop i=e.drop i)↔(d.drop (i+1)=e.drop (i+1)):=by rw [hd];simp [h1]
    have hq':kF [1,1] [.s d[i].1,.s d[i].2] [.s e[i].1,.s e[i].2]=some true:=by rw [hq];simp [h1]
    simp only [h2];simp [h,hlt,hlt2,hq',hw,ih]
   ·have h2:¬ (d.drop i=e.drop i):=by rw [hd];simp [h1]
    have hq':kF [1,1] [.s d[i].1,.s d[i].2] [.s e[i].1,.s e[i].2]=some false:=by rw [hq];simp [h1]
    rw [ah h2];simp [h,hlt,hlt2,hq']
theorem abh (d e:List dA) (hb:d.length<=140737488351232) (hb2:e.length<=140737488351232):TT.lim 132 [.l (d.map ent),.l (e.map ent)]=some [.b (decide (d=e))]:=by
 refine aW rfl rfl ?_ rfl;by_cases hl:d.length=e.length
 ·have hl':(d.length:Int)=(e.length:Int):=by omega
  have h32:TT.lim 133 [.l (d.map ent),.l (e.map ent),.i .i64 d.length,.i .i64 0]=_:=acN d e hl hb d.length 0 (by omega);rw [dY,dY] at h32;by_cases h:d=e
  ·rw [aj h] at h32
   have h':(d=e)=True:=eq_true h;clear h;rw [hl'] at h32;simp [hl',h32,h']
  ·rw [ah h] at h32
   rw [hl'] at h32;simp [hl',h32,h]
 ·have hl':¬ (d.length:Int)=(e.length:Int):=by omega
  have h:¬ d=e:=λh=>hl (by rw [h]);simp [hl',hl,h]
theorem aop (r s:Row) (hb:r.1.length<=140737488351232) (hb2:s.1.length<=140737488351232):TT.lim 137 [row r,row s]=some [.b (decide (r=s))]:=by
 have k:=abh r.1 s.1 hb hb2;refine aW rfl rfl ?_ rfl;by_cases h:r.2=s.2
 ·have:decide (r=s)=decide (r.1=s.1):=by rw [pI];simp [Prod.ext_iff,h]
  rw [this];simp [h,k]
 ·have:decide (r=s)=false:=by rw [decide_eq_false_iff_not];intro e;exact h (by rw [e])
  rw [this];simp [h]
theorem acL (a b:List Row) (hl:a.length=b.length) (hb:a.length<=140737488351232) (h1:∀r∈a,r.1.length<=140737488351232) (h2:∀r∈b,r.1.length<=140737488351232):∀m i:Nat,i+m=a.length->
 TT.lim 136 [.l (b.map row),.l (a.map row),.i .i64 a.length,.i .i64 i]=some (if a.drop i=b.drop i then [.i .i64 1] else [.i .i64 0])
 | 0,i,hi=>by
   have h0:a.drop i=[]:=gG (by omega);have h1:b.drop i=[]:=gG (by omega);refine ay rfl rfl ?_;have h:¬ ((i:Int) < a.length):=by omega
   simp [h,h0,h1]
 | m+1,i,hi=>by
   have hlt:i < a.length:=by omega
   have hlt2:i < b.length:=by omega
   have ih:TT.lim 136 [.l (b.map row),.l (a.map row),.i .i64 a.length,.i .i64 ((i:Int)+1)]=_:=acL a b hl hb h1 h2 m (i+1) (by omega);have hd:(a.drop i=b.drop i)↔(a[i]=b[i]/\a.drop (i+1)=b.drop (i+1)):=by
    rw [iQ hlt,iQ hlt2,Gz]
   have k:=aop a[i] b[i] (h1 _ (jf hlt)) (h2 _ (jf hlt2));have r1:GV.g [.l (a[i].1.map ent),.i .u64 a[i].2]=row a[i]:=rfl;have r2:GV.g [.l (b[i].1.map ent),.i .u64 b[i].2]=row b[i]:=rfl;refine ay rfl rfl ?_;have h:((i:Int) < a.length):=by omega
   have hw:=wrap64 (n:=(i:Int)+1) (by omega) (by omega);by_cases h3:a[i]=b[i]
   ·have h4:(a.drop i=b.drop i)↔(a.drop (i+1)=b.drop (i+1)):=by rw [hd];simp [h3]
    simp only [h4];have k':TT.lim 137 [row a[i],row b[i]]=some [.b true]:=by rw [k];simp [h3]
    simp [h,hlt,hlt2,r1,r2,k',hw,ih]
   ·have h4:¬ (a.drop i=b.drop i):=by rw [hd];simp [h3]
    rw [ah h4];have k':TT.lim 137 [row a[i],row b[i]]=some [.b false]:=by rw [k];simp [h3]
    simp [h,hlt,hlt2,r1,r2,k']
theorem apl (a b:List Row) (hb:a.length<=140737488351232) (hb2:b.length<=140737488351232) (h1:∀r∈a,r.1.length<=140737488351232) (h2:∀r∈b,r.1.length<=140737488351232):TT.lim 134 [.l (a.map row),.l (b.map row)]=some [.b (decide (a=b))]:=by
 have h28:TT.lim 135 [.l (a.map row),.l (b.map row)]=some [.b (decide (a=b))]:=by
  refine aW rfl rfl ?_ rfl;by_cases hl:a.length=b.length
  ·have hl':(a.length:Int)=(b.length:Int):=by omega
   have Il:TT.lim 136 [.l (b.map row),.l (a.map row),.i .i64 a.length,.i .i64 0]=_:=acL a b hl hb h1 h2 a.length 0 (by omega);rw [dY,dY] at Il;rw [hl'] at Il;by_cases h:a=b
   ·rw [aj h] at Il
    have h':(a=b)=True:=eq_true h;clear h;simp [hl',Il,h']
   ·rw [ah h] at Il
    simp [hl',Il,h]
  ·have hl':¬ (a.length:Int)=(b.length:Int):=by omega
   have h:¬ a=b:=λh=>hl (by rw [h]);simp [hl',hl,h]
 refine aW rfl rfl ?_ rfl;simp [h28]
theorem Oh (a b:List UInt8):Op.bytesLess a b=true↔a < b:=by rw [Ho];simp
/-- Rows whose keys rise. -/
def BZ (l:List Row):Prop:=l.Pairwise λa b=>K a < K b
theorem ah5 {cs:List GV} {r0:List GV} (h:bJ.iH [.list true [.str,.str],.int .u64] cs):∃r:Row,(uz r.1/\0<=r.2/\r.2 < 18446744073709551616)/\GV.g cs=row r:=by
 obtain ⟨g,l,rfl,h1,h⟩:=iI h;obtain ⟨n,l,rfl,h2,h⟩:=iI h;obtain rfl:=Iq h;obtain ⟨n,rfl,n1,n2⟩:=qE h2;obtain ⟨xs,rfl,h3,h4⟩:=KU h1;obtain ⟨d,hd,rfl⟩:∃d:List dA,(∀x∈d,x.1.length<=140737488351232/\x.2.length<=140737488351232)/\xs=d.map ent:=IJ λx hx=>by
  obtain ⟨k1,k2⟩:=h4 x hx;cases x<;>simp [GV.scalar] at k2
  obtain ⟨a,l,e1,a1,k1⟩:=iI k1;obtain ⟨b,l,rfl,b1,k1⟩:=iI k1;obtain rfl:=Iq k1;obtain ⟨s,rfl,s1⟩:=AO a1;obtain ⟨u,rfl,u1⟩:=AO b1;simp only [TL] at e1;subst e1;exact ⟨(s,u),⟨Nat.le_trans s1 (by decide),iD u1 (by decide)⟩,rfl⟩
 exact ⟨(d,n),⟨⟨by have:=iD h3 (by decide:reachBytes<=140737488351232);simpa using this,hd⟩,n1,n2⟩,rfl⟩
theorem aoq {g:GV} (h:(bJ.list true [.list true [.str,.str],.int .u64]).has g):∃l:List Row,Rows l/\g=.l (l.map row):=by
 obtain ⟨xs,rfl,h1,h2⟩:=KU h;obtain ⟨l,hl,rfl⟩:∃l:List Row,(∀r∈l,uz r.1/\0<=r.2/\r.2 < 18446744073709551616)/\xs=l.map row:=IJ λx hx=>by
  obtain ⟨k1,k2⟩:=h2 x hx;cases x<;>simp [GV.scalar] at k2
  obtain ⟨r,hr,e⟩:=ah5 (r0:=[]) k1;exact ⟨r,hr,e⟩
 exact ⟨l,⟨by have:=iD h1 (by decide:reachBytes<=140737488351232);simpa using this,hl⟩,rfl⟩
def rW:Option (List UInt8)->List Row->Int
 | _,[]=>0
 | p,r::rs=>if vI r≠0 then vI r else match p with
   | none=>rW (some (K r)) rs
   | some k=>if K r=k then 14 else if Op.bytesLess (K r) k=true then 7 else rW (some (K r)) rs
theorem acO (t:List Row) (ht:Rows t) (hf:∀r∈t,iq r.1=true):∀ (m i:Nat) (p:List UInt8),i+m=t.length->
 TT.lim 17 [.s p,.l (t.map row),.i .i64 t.length,.i .i64 i]=some (tagged (rW (if i=0 then none else some p) (t.drop i)))
 | 0,i,p,hi=>by
   have h0:t.drop i=[]:=gG (by omega);refine ay rfl rfl ?_;have h:¬ ((i:Int) < t.length):=by omega
   simp [h,h0,rW,tagged]
 | m+1,i,p,hi=>by
   have hlt:i < t.length:=by omega
   have hr:=ht.2 t[i] (jf hlt);have k15:=agu t[i] hr.1;have k6:=PV t[i].1 (hf _ (jf hlt));have hrow:GV.g [.l (t[i].1.map ent),.i .u64 t[i].2]=row t[i]:=rfl;have ih:TT.lim 17 [.s (iJ t[i].1),.l (t.map row),.i .i64 t.length,.i .i64 ((i:Int)+1)]=_:=acO t ht hf m (i+1) (iJ t[i].1) (by omega);rw [ah (by omega)] at ih;rw [iQ hlt];refine ay rfl rfl ?_;have h:((i:Int) < t.length):=by omega
   have hw:=wrap64 (n:=(i:Int)+1) (by omega) (by have:=ht.1;omega);by_cases h1:vI t[i]=0;rotate_left
   ·simp [-List.getElem_cons_drop,h,hlt,hrow,k15,h1,rW,tagged]
   by_cases h0:i=0
   ·subst h0
    simp only [vP,YG] at hw ih;simp [-List.getElem_cons_drop,h,hlt,hrow,k15,h1,k6,hw,rW];have hn:(0:Int) < (t.length:Int):=by omega
    simpa using ih
   ·have hi0:0 < i:=by omega
    by_cases h2:iJ t[i].1=p
    ·have h2':(iJ t[i].1=p)=True:=eq_true h2
     clear h2;simp [-List.getElem_cons_drop,h,hlt,hrow,k15,h1,k6,hi0,h0,h2',rW,tagged]
    ·cases h3:Op.bytesLess (iJ t[i].1) p with
     | true=>simp [-List.getElem_cons_drop,h,hlt,hrow,k15,h1,k6,hi0,h0,h2,h3,rW,tagged]
     | false=>simp [-List.getElem_cons_drop,h,hlt,hrow,k15,h1,k6,hi0,h0,h2,h3,hw,ih,rW]
def uS (t:List Row):Int:=if 256 < t.length then 13 else rW none t
theorem TN (t:List Row) (ht:Rows t) (hf:∀r∈t,iq r.1=true):TT.lim 16 [.l (t.map row)]=some [.i .i64 (uS t)]:=by
 have h38:TT.lim 17 [.s [],.l (t.map row),.i .i64 t.length,.i .i64 0]=_:=acO t ht hf t.length 0 [] (by omega);rw [aj rfl,dY] at h38;refine aW rfl rfl ?_ rfl;unfold uS;by_cases h1:256 < t.length
 ·have h1':(256:Int) < (t.length:Int):=by omega
  simp [h1,h1']
 ·have h1':¬ (256:Int) < (t.length:Int):=by omega
  by_cases h2:rW none t=0
  ·simp only [tagged,h2,if_true] at h38
   simp [h1,h1',h38,h2]
  ·simp only [tagged,h2,if_false] at h38
   simp [h1,h1',h38,h2]
theorem Z4:∀ {t:List Row} (p:Option (List UInt8)),BZ t->(∀r∈t,vI r=0)->(∀k,p=some k->∀r∈t,k < K r)->rW p t=0
 | [],p,_,_,_=>by cases p<;>rfl
 | r::t,p,ht,hc,hp=>by
   have ht':=wV.1 ht;have ih:=Z4 (t:=t) (some (K r)) ht'.2 (λx hx=>hc x (by simp [hx])) (λk hk x hx=>by cases hk;exact ht'.1 x hx);unfold rW;rw [ah (by simp [hc r (by simp)])];cases p with
   | none=>exact ih
   | some k=>
     have hk:=hp k rfl r (by simp);have h1:¬ K r=k:=λe=>by rw [e] at hk;exact SA _ hk
     have h2:¬ Op.bytesLess (K r) k=true:=λe=>SA _ (SB hk ((Oh _ _).1 e));simp only;rw [ah h1,ah h2];exact ih
theorem Rows.perm {l m:List Row} (h:l.Perm m) (hl:Rows l):Rows m:=⟨by rw [<- h.length_eq];exact hl.1,λr hr=>hl.2 r (h.mem_iff.2 hr)⟩
def Pos (t:List Row):Prop:=∀r∈t,0 < r.2/\r.2 < 18446744073709551616
theorem KC {d:List dA} (h:iq d=true):d.length<=40:=by
 unfold iq at h;simp at h;omega
def zY (t:List Row):Prop:=∀r∈t,iq r.1=true
def Ok (t:List Row):Prop:=t.length<=256/\BZ t/\∀r∈t,vI r=0
theorem ZY:∀ {t:List Row} (p:Option (List UInt8)),rW p t=0->BZ t/\(∀r∈t,vI r=0)/\∀k,p=some k->∀r∈t,k < K r
 | [],p,_=>⟨List.Pairwise.nil,by simp,by simp⟩
 | r::t,p,h=>by
   unfold rW at h;by_cases h1:vI r=0;rotate_left
   ·rw [aj h1] at h;exact absurd h h1
   rw [ah (by simp [h1])] at h;have main:∀ (h:rW (some (K r)) t=0),BZ (r::t)/\∀x∈r::t,vI x=0:=by
    intro h;obtain ⟨i1,i2,i3⟩:=ZY (some (K r)) h;refine ⟨List.Pairwise.cons (i3 _ rfl) i1,λx hx=>?_⟩;rcases cO.1 hx with rfl | hx
    ·exact h1
    ·exact i2 x hx
   cases p with
   | none=>exact ⟨(main h).1,(main h).2,by simp⟩
   | some k=>
     simp only at h;split at h
     ·cases h
     next h2=>
     split at h
     ·cases h
     next h3=>
     refine ⟨(main h).1,(main h).2, ?_⟩;rintro _ ⟨⟩ x hx
     have hk:k < K r:=by
      rcases List.le_iff_lt_or_eq.1 (List.not_lt.1 λe=>h3 ((Oh _ _).2 e)) with e | e
      ·exact e
      ·exact absurd e.symm h2
     rcases cO.1 hx with rfl | hx
     ·exact hk
     ·exact SB hk ((wV.1 (main h).1).1 x hx)
theorem TP (t:List Row):uS t=0↔Ok t:=by
 unfold uS Ok;constructor
 ·intro h
  split at h
  ·cases h
  ·obtain ⟨h1,h2,_⟩:=ZY none h
   exact ⟨by omega,h1,h2⟩
 ·rintro ⟨h1,h2,h3⟩
  rw [ah (by omega)];exact Z4 none h2 h3 (by simp)
theorem XB (r:Row):vI r=0↔rY r.1=0/\r.2≠0:=by
 unfold vI;by_cases h:rY r.1=0
 ·simp [h]
 ·simp [h]
structure Tb (t:List Row):Prop where
 ok:Ok t
 rows:Rows t
 few:zY t
theorem Tb.pos {t:List Row} (h:Tb t):Pos t:=λr hr=>by
 have h1:=((XB r).1 (h.ok.2.2 r hr)).2;have h2:=(h.rows.2 r hr).2;omega
theorem Tb.rise {t:List Row} (h:Tb t):BZ t:=h.ok.2.1
structure oD (t:List Row):Prop where
 len:t.length<=300
 few:zY t
 rows:Rows t
theorem Tb.good {t:List Row} (h:Tb t):oD t:=⟨Nat.le_trans h.ok.1 (by decide),h.few,h.rows⟩
theorem oD.tb {t:List Row} (h:oD t) (ho:Ok t):Tb t:=⟨ho,h.rows,h.few⟩
theorem ajg {l:List Row} (hl:Rows l) (h:Df l=true):oD l:=by
 refine ⟨?_,λr hr=>aiG h r hr,hl⟩;unfold Df at h;rw [aJ,decide_eq_true_iff] at h;exact h.2
theorem apq (a b:List Row) (ha:oD a) (hb:oD b):TT.lim 134 [.l (a.map row),.l (b.map row)]=some [.b (decide (a=b))]:=
 apl a b (by have:=ha.len;omega) (by have:=hb.len;omega) (λr hr=>(ha.rows.2 r hr).1.1) (λr hr=>(hb.rows.2 r hr).1.1)
abbrev Sn:=Int×List Row
def xu (p x:List UInt8):Int:=if x=p then 14 else if Op.bytesLess x p=true then 7 else 0
theorem Lh {d:List dA} (hf:iq d=true):(iJ d).length<=30000:=by
 unfold iq at hf;rw [aJ,decide_eq_true_iff] at hf;have l1:=ng (n:=d.length) (by omega);have:=Ux d hf.1;unfold iJ;simp only [dQ];omega
def common:List UInt8->List UInt8->Nat
 | a::x,b::y=>if a=b then common x y+1 else 0
 | _,_=>0
theorem TV (b:List UInt8):common [] b=0:=by unfold common;rfl
theorem agN (a:List UInt8):common a []=0:=by cases a<;>rfl
theorem Oz:∀a b:List UInt8,common a b<=a.length/\common a b<=b.length
 | [],b=>by simp [common]
 | _::_,[]=>by simp [common]
 | a::x,b::y=>by
   unfold common;have:=Oz x y;split
   ·simp only [jg];omega
   ·omega
theorem aaj:∀a b:List UInt8,a.take (common a b)=b.take (common a b)
 | [],b=>by simp [common]
 | _::_,[]=>by simp [common]
 | a::x,b::y=>by
   unfold common;split
   ·next e=>subst e;rw [xQ,xQ,aaj x y]
   ·simp
theorem aah (a b:List UInt8) (ha:a.length<=140737488351232) (hb:b.length<=140737488351232):∀m i:Nat,i+m=a.length->TT.lim 82 [.s a,.s b,.i .i64 i]=some [.i .i64 0,.i .i64 ((i+common (a.drop i) (b.drop i):Nat):Int)]
 | 0,i,hi=>by
   have h0:a.drop i=[]:=gG (by omega);have h:¬ ((i:Int) < a.length):=by omega
   refine ay rfl rfl ?_;simp [h,h0,TV]
 | m+1,i,hi=>by
   have hlt:i < a.length:=by omega
   have h:((i:Int) < a.length):=by omega
   by_cases hlb:i < b.length;rotate_left
   ·have h0:b.drop i=[]:=gG (by omega)
    have h1:¬ ((i:Int) < b.length):=by omega
    refine ay rfl rfl ?_;simp [h,h0,h1,agN]
   have hb1:((i:Int) < b.length):=by omega
   have ih:TT.lim 82 [.s a,.s b,.i .i64 ((i:Int)+1)]=_:=aah a b ha hb m (i+1) (by omega);have hw:=wrap64 (n:=(i:Int)+1) (by omega) (by omega);rw [iQ hlt,iQ hlb];unfold common;by_cases e:a[i]=b[i]
   ·rw [aj e]
    have e':((a[i].toNat:Int)=(b[i].toNat:Int))=True:=eq_true (by rw [e]);have e2:((i+(common (a.drop (i+1)) (b.drop (i+1))+1):Nat):Int)=((i+1+common (a.drop (i+1)) (b.drop (i+1)):Nat):Int):=by omega
    rw [e2];refine ay rfl rfl ?_;simp [h,hlt,hlb,hb1,e',hw,ih]
   ·rw [ah e]
    have e':¬ (a[i].toNat:Int)=(b[i].toNat:Int):=λh=>e (Y9.1 (by omega));refine ay rfl rfl ?_;simp [h,hlt,hlb,hb1,e']
theorem TU (a b:List UInt8) (ha:a.length<=140737488351232) (hb:b.length<=140737488351232):TT.lim 81 [.s a,.s b]=some [.i .i64 (common a b)]:=by
 have k:TT.lim 82 [.s a,.s b,.i .i64 0]=_:=aah a b ha hb a.length 0 (by omega);rw [dY,dY,jw] at k;refine aW rfl rfl ?_ rfl;simp [k]
/-- A text behind another one, as it is written. -/
def qg (a s:List UInt8):List UInt8:=aT (common a s)++aT (s.length - common a s)++s.drop (common a s)
theorem amE (a s:List UInt8) (ha:a.length<=100000000) (hs:s.length<=100000000):TT.lim 80 [.s a,.s s]=some [.s (qg a s)]:=by
 have k:=TU a s (by omega) (by omega);have hl:=Oz a s;have p1:=xF (common a s) (by omega);have p2:=xF (s.length - common a s) (by omega);have l1:=ng (n:=common a s) (by omega);have l2:=ng (n:=s.length - common a s) (by omega);have w1:=kK (n:=(common a s:Int)) (by omega) (by omega);have w2:=kK (n:=(s.length:Int) - (common a s:Int)) (by omega) (by omega);have w3:=wrap64 (n:=(s.length:Int) - (common a s:Int)) (by omega) (by omega);have e2:(s.length:Int) - (common a s:Int)=((s.length - common a s:Nat):Int):=by omega
 rw [e2] at w2 w3;refine aW rfl rfl ?_ rfl;unfold qg;generalize common a s=c at *;have h1:((aT c).length:Int)+((aT (s.length - c)).length:Int)<=9223372036854775807:=by omega
 have h2:((aT c).length:Int)+((aT (s.length - c)).length:Int)+((s.length:Int) - (c:Int))<=9223372036854775807:=by omega
 have h3:(c:Int)<=s.length:=by omega
 have h4:((s.length - c:Nat):Int)=(s.length:Int) - c:=by omega
 have hd:(s.take s.length).drop c=s.drop c:=by rw [yO]
 rw [<- e2] at w2 w3;rw [<- e2] at p2;simp [k,p1,p2,w1,w2,w3,h1,h2,h3,h4,hd]
def ku:List UInt8->Nat
 | []=>0
 | b::r=>b.toNat % 128+128 * ku r
def nS:Nat->List UInt8->Option Nat
 | 0,_=>none
 | _+1,[]=>none
 | n+1,b::r=>if b.toNat < 128 then some 1 else (nS n r).map (· + 1)
def rJ (k:Nat) (b:Nat):Int:=if k=10/\1 < b then 3 else if 1 < k/\b=0 then 2 else 0
/-- The number that a text begins with, in how many bytes, or why there is none. -/
def au (s:List UInt8):Nat×Nat×Int:=match nS 10 s with
 | none=>(0,0,if 10<=s.length then 3 else 1)
 | some k=>if rJ k (s.getD (k - 1) 0).toNat≠0 then (0,0,rJ k (s.getD (k - 1) 0).toNat) else (ku (s.take k),k,0)
theorem RN:∀ {n:Nat} {s:List UInt8} {k:Nat},nS n s=some k->1<=k/\k<=n/\k<=s.length/\(s.getD (k - 1) 0).toNat < 128
 | 0,s,k,h=>by simp [nS] at h
 | n+1,[],k,h=>by simp [nS] at h
 | n+1,b::r,k,h=>by
   unfold nS at h;split at h
   ·next hb=>cases h;simpa using hb
   ·obtain ⟨j,hj,rfl⟩:=bf.1 h
    obtain ⟨h1,h2,h3,h4⟩:=RN hj;obtain ⟨i,rfl⟩:∃i,j=i+1:=⟨j - 1,by omega⟩
    refine ⟨by omega,by omega,by simp;omega, ?_⟩;simpa using h4
theorem afm:∀ (s:List UInt8),ku s < 128 ^ s.length
 | []=>by simp [ku]
 | b::r=>by
   have:=afm r;simp only [ku,jg,GU];omega
theorem aew (b i:Nat) (hb:b < 128) (hi:i<=9) (h9:i=9->b<=1):oz .shl .u64 (b:Int) ((7 * i:Nat):Int)=some (.i .u64 ((b * 128 ^ i:Nat):Int)):=by
 have e:min ((7 * i:Nat):Int).toNat 64=7 * i:=by simp;omega
 have e2:(2:Int) ^ (7 * i)=((128 ^ i:Nat):Int):=by rw [Int.pow_mul];simp
 have hlt:b * 128 ^ i < 18446744073709551616:=by
  rcases yP i 9 with h | h
  ·have:(128:Nat) ^ i<=128 ^ 8:=Ny (by omega) (by omega)
   have h2:b * 128 ^ i<=127 * 128 ^ 8:=Nat.mul_le_mul (by omega) this;omega
  ·have hi9:i=9:=by omega
   subst hi9;have:=h9 rfl;omega
 unfold oz;rw [ah (by omega)];show some (GV.i .u64 (IntKind.u64.wrap ((b:Int) * 2 ^ (min ((7 * i:Nat):Int).toNat 64))))=_
 rw [e,e2,<- Int.natCast_mul,kK (by omega) (by omega)]
theorem orI (a c i:Nat) (ha:a < 2 ^ i) (h:a+c * 2 ^ i < 18446744073709551616):fJ .or .u64 (a:Int) ((c * 2 ^ i:Nat):Int)=some (.i .u64 ((a+c * 2 ^ i:Nat):Int)):=by
 have h1:((BitVec.ofInt 64 (a:Int) ||| BitVec.ofInt 64 ((c * 2 ^ i:Nat):Int)).toNat:Nat)=a+c * 2 ^ i:=by
  rw [BitVec.toNat_or,xM,xM];generalize hC:c * 2 ^ i=C at *;have e1:((a:Int) % ((2 ^ 64:Nat):Int)).toNat=a:=by omega
  have e2:((C:Int) % ((2 ^ 64:Nat):Int)).toNat=C:=by omega
  rw [e1,e2,<- hC,Nat.or_comm,Es,JE];exact (afJ ha c).symm
 show some (GV.i .u64 (IntKind.u64.wrap (((BitVec.ofInt 64 (a:Int) ||| BitVec.ofInt 64 ((c * 2 ^ i:Nat):Int)).toNat:Nat):Int)))=_
 rw [h1,kK (by omega) (by omega)]
theorem I5 (i:Nat):128 ^ i=2 ^ (7 * i):=by rw [Nat.pow_mul]
/-- Some number, whichever. -/
theorem aex (a b:Int) (hb:0<=b):∃r,oz .shl .u64 a b=some (.i .u64 r):=by
 unfold oz;rw [ah (by omega)];exact ⟨_,rfl⟩
theorem or_some (a b:Int):∃r,fJ .or .u64 a b=some (.i .u64 r):=⟨_,rfl⟩
def AA (s:List UInt8) (acc:Int) (i:Nat):List GV:=match nS (10 - i) (s.drop i) with
 | none=>[.i .i64 1,.s s]
 | some k=>if rJ (i+k) (s.getD (i+k - 1) 0).toNat≠0 then [.i .i64 0,.i .u64 0,.i .i64 0,.i .i64 (rJ (i+k) (s.getD (i+k - 1) 0).toNat)]
   else [.i .i64 0,.i .u64 (acc+((128 ^ i * ku ((s.drop i).take k):Nat):Int)),.i .i64 ((i+k:Nat):Int),.i .i64 0]
theorem getLoop (s:List UInt8) (hs:s.length<=140737488351232):∀ (m i:Nat) (acc:Int),i+m=min s.length 10->(i<=9->0<=acc/\acc < ((128 ^ i:Nat):Int))->
 TT.lim 96 [.s s,.i .u64 acc,.i .i64 ((min s.length 10:Nat):Int),.i .i64 i]=some (AA s acc i)
 | 0,i,acc,hi,ha=>by
   have h:¬ ((i:Int) < ((min s.length 10:Nat):Int)):=by omega
   have hv:nS (10 - i) (s.drop i)=none:=by
    rcases yP i 10 with h1 | h1
    ·have:s.drop i=[]:=gG (by omega)
     rw [this];obtain ⟨j,hj⟩:∃j,10 - i=j+1:=⟨10 - i - 1,by omega⟩
     rw [hj];rfl
    ·have:10 - i=0:=by omega
     rw [this];unfold nS;rfl
   unfold AA;rw [hv];generalize ((min s.length 10:Nat):Int)=M at *;refine ay rfl rfl ?_;simp [h]
 | m+1,i,acc,hi,ha=>by
   have hlt:i < s.length:=by omega
   have h9:i<=9:=by omega
   have h:((i:Int) < ((min s.length 10:Nat):Int)):=by omega
   obtain ⟨a1,a2⟩:=ha h9;obtain ⟨n,rfl⟩:∃n:Nat,acc=n:=⟨acc.toNat,by omega⟩
   have hb:=(s[i]).toNat_lt;have k7:=Zi (s[i]).toNat (by omega);have w8:=kK (n:=(((s[i]).toNat % 128:Nat):Int)) (by omega) (by omega);have wi:=wrap64 (n:=7 * (i:Int)) (by omega) (by omega);have wj:=wrap64 (n:=(i:Int)+1) (by omega) (by omega);have hd:s.drop i=s[i]::s.drop (i+1):=iQ hlt;obtain ⟨j,hj⟩:∃j,10 - i=j+1:=⟨10 - i - 1,by omega⟩
   have hj':10 - (i+1)=j:=by omega
   have e7:(7 * (i:Int))=((7 * i:Nat):Int):=by omega
   have hgd:s.getD i 0=s[i]:=by simp [List.getD,hlt]
   by_cases hc:128<=(s[i]).toNat
   ·-- another one follows
    have hc':((128:Int)<=((s[i]).toNat:Int)):=by omega
    have step:∃V:Int,(i+1<=9->0<=V/\V < ((128 ^ (i+1):Nat):Int)/\V=n+(((s[i]).toNat % 128 * 128 ^ i:Nat):Int))/\(∃S,oz .shl .u64 ((((s[i]).toNat % 128:Nat)):Int) (7 * (i:Int))=some (.i .u64 S)/\fJ .or .u64 (n:Int) S=some (.i .u64 V)):=by
     rcases yP i 9 with h1 | h1
     ·have k1:=aew ((s[i]).toNat % 128) i (by omega) (by omega) (by omega)
      have hp:(s[i]).toNat % 128 * 128 ^ i<=127 * 128 ^ i:=sV _ (by omega);have hpp:128 ^ (i+1)=128 * 128 ^ i:=by rw [GU,Es]
      have hq:(128:Nat) ^ i<=128 ^ 8:=Ny (by omega) (by omega);have k2:=orI n ((s[i]).toNat % 128) (7 * i) (by rw [<- I5];omega) (by rw [<- I5];omega);rw [<- I5] at k2;refine ⟨_,λ_=>⟨by omega, ?_,rfl⟩,_,by rw [e7];exact k1,by rw [k2];simp⟩;rw [hpp];omega
     ·obtain ⟨S,hS⟩:=aex ((((s[i]).toNat % 128:Nat)):Int) (7 * (i:Int)) (by omega)
      obtain ⟨V,hV⟩:=or_some (n:Int) S;exact ⟨V,λh=>by omega,S,hS,hV⟩
    obtain ⟨V,hV,S,hS,hO⟩:=step;have ih:TT.lim 96 [.s s,.i .u64 V,.i .i64 ((min s.length 10:Nat):Int),.i .i64 ((i:Int)+1)]=_:=getLoop s hs m (i+1) V (by omega) (λh=>⟨(hV h).1,(hV h).2.1⟩);have hout:AA s n i=AA s V (i+1):=by
     unfold AA;rw [hd,hj,hj'];have hv:nS (j+1) (s[i]::s.drop (i+1))=(nS j (s.drop (i+1))).map (· + 1):=by
      show (if (s[i]).toNat < 128 then _ else _)=_
      rw [ah (by omega)]
     rw [hv];cases hx:nS j (s.drop (i+1)) with
     | none=>rfl
     | some k=>
       obtain ⟨q1,q2,_,_⟩:=RN hx;have hV':=hV (by omega);have e1:i+(k+1)=i+1+k:=by omega
       simp only [gI,e1];split
       ·rfl
       ·have e2:(n:Int)+((128 ^ i * ku ((s[i]::s.drop (i+1)).take (k+1)):Nat):Int)=V+((128 ^ (i+1) * ku ((s.drop (i+1)).take k):Nat):Int):=by
         rw [hV'.2.2,xQ];have:128 ^ i * ku (s[i]::(s.drop (i+1)).take k)=(s[i]).toNat % 128 * 128 ^ i+128 ^ (i+1) * ku ((s.drop (i+1)).take k):=by
          show 128 ^ i * ((s[i]).toNat % 128+128 * ku _)=_
          rw [Nat.mul_add,GU,Y1,Es (128 ^ i) ((s[i]).toNat % 128)]
         rw [this];omega
        rw [e2]
    rw [hout];generalize AA s V (i+1)=O at *;generalize ((min s.length 10:Nat):Int)=M at *;have em:(((s[i]).toNat % 128:Nat):Int)=((s[i]).toNat:Int) % 128:=by omega
    rw [em] at k7 w8 hS;refine ay rfl rfl ?_;simp [h,hlt,hc',k7,w8,wi,wj,hS,hO,ih]
   ·-- the last one
    have hc':¬ ((128:Int)<=((s[i]).toNat:Int)):=by omega
    have hv:nS (j+1) (s[i]::s.drop (i+1))=some 1:=by
     show (if (s[i]).toNat < 128 then _ else _)=_
     rw [aj (by omega)]
    have hout:AA s n i=if rJ (i+1) (s[i]).toNat≠0 then [.i .i64 0,.i .u64 0,.i .i64 0,.i .i64 (rJ (i+1) (s[i]).toNat)] else [.i .i64 0,.i .u64 ((n+(s[i]).toNat * 128 ^ i:Nat):Int),.i .i64 ((i:Int)+1),.i .i64 0]:=by
     unfold AA;rw [hd,hj,hv];have e1:i+1 - 1=i:=by omega
     have e2:128 ^ i * ku ((s[i]::s.drop (i+1)).take 1)=(s[i]).toNat * 128 ^ i:=by
      simp only [xQ,SI,ku];rw [Nv (by omega),Es];simp
     simp only [e1,hgd,e2];congr 1
    rw [hout];have step:∃S V,oz .shl .u64 ((((s[i]).toNat % 128:Nat)):Int) (7 * (i:Int))=some (.i .u64 S)/\fJ .or .u64 (n:Int) S=some (.i .u64 V)/\(rJ (i+1) (s[i]).toNat=0->V=((n+(s[i]).toNat * 128 ^ i:Nat):Int)):=by
     by_cases hbad:i=9/\1 < (s[i]).toNat
     ·obtain ⟨S,hS⟩:=aex ((((s[i]).toNat % 128:Nat)):Int) (7 * (i:Int)) (by omega)
      obtain ⟨V,hV⟩:=or_some (n:Int) S;refine ⟨S,V,hS,hV,λh=>?_⟩;unfold rJ at h;rw [aj (by omega)] at h;cases h
     ·have k1:=aew ((s[i]).toNat % 128) i (by omega) (by omega) (by omega)
      have em:(s[i]).toNat % 128=(s[i]).toNat:=Nv (by omega);rw [em] at k1;have hp:(s[i]).toNat * 128 ^ i<=127 * 128 ^ i:=sV _ (by omega);have hb64:n+(s[i]).toNat * 128 ^ i < 18446744073709551616:=by
       rcases yP i 9 with h1 | h1
       ·have hq:(128:Nat) ^ i<=128 ^ 8:=Ny (by omega) (by omega)
        omega
       ·have hi9:i=9:=by omega
        have h1:(s[i]).toNat<=1:=by omega
        have hq:(128:Nat) ^ i=128 ^ 9:=by rw [hi9]
        have hp2:(s[i]).toNat * 128 ^ i<=1 * 128 ^ i:=sV _ h1;omega
      have k2:=orI n (s[i]).toNat (7 * i) (by rw [<- I5];omega) (by rw [<- I5];omega);rw [<- I5] at k2;exact ⟨_,_,by rw [e7,em];exact k1,k2,λ_=>rfl⟩
    obtain ⟨S,V,hS,hO,hV⟩:=step;generalize ((n+(s[i]).toNat * 128 ^ i:Nat):Int)=R at *;generalize ((min s.length 10:Nat):Int)=M at *;have bd:rJ (i+1) (s[i]).toNat=if (i:Int)=9/\(1:Int) < ((s[i]).toNat:Int) then 3 else if (0:Int) < (i:Int)/\((s[i]).toNat:Int)=0 then 2 else 0:=by
     unfold rJ;congr 1
     ·apply propext;omega
     ·congr 1
      apply propext;omega
    rw [bd] at hV ⊢;have em:(((s[i]).toNat % 128:Nat):Int)=((s[i]).toNat:Int) % 128:=by omega
    rw [em] at k7 w8 hS;refine ay rfl rfl ?_
    rcases (Sl ((i:Int)=9)).imp eq_true eq_false with q1 | q1<;>rcases (Sl ((1:Int) < ((s[i]).toNat:Int))).imp eq_true eq_false with q2 | q2<;>
     rcases (Sl ((0:Int) < (i:Int))).imp eq_true eq_false with q3 | q3<;>rcases (Sl (((s[i]).toNat:Int)=0)).imp eq_true eq_false with q4 | q4
    all_goals
     have q3n:(0 < i)=((0:Int) < (i:Int)):=propext (by omega);have q4n:((s[i]).toNat=0)=(((s[i]).toNat:Int)=0):=propext (by omega);rw [q3] at q3n;rw [q4] at q4n;simp only [q1,q2,q3,q4,and_self,and_true,and_false,false_and,true_and,if_true,if_false] at hV ⊢;first
     | (have hV:=hV trivial;subst hV)
     | skip
     simp [h,hlt,hc',k7,w8,wi,wj,hS,hO,q1,q2,q3,q4,q3n,q4n]
theorem uY (s:List UInt8) (hs:s.length<=140737488351232):TT.lim 95 [.s s]=some [.i .u64 ((au s).1:Nat),.i .i64 ((au s).2.1:Nat),.i .i64 (au s).2.2]:=by
 have k:TT.lim 96 [.s s,.i .u64 0,.i .i64 ((min s.length 10:Nat):Int),.i .i64 0]=_:=getLoop s hs (min s.length 10) 0 0 (by omega) (by simp);have hm:(if (10:Int) < (s.length:Int) then (10:Int) else (s.length:Int))=((min s.length 10:Nat):Int):=by split<;>omega
 unfold AA at k;rw [dY,Eu] at k;unfold au;generalize ((min s.length 10:Nat):Int)=M at *;refine aW rfl rfl ?_ rfl;cases hv:nS 10 s with
 | none=>
   rw [hv] at k;by_cases h10:10<=s.length
   ·have h1:(10:Int)<=s.length:=by omega
    simp [hm,k,h10,h1]
   ·have h1:¬ (10:Int)<=s.length:=by omega
    simp [hm,k,h10,h1]
 | some j=>
   rw [hv] at k;simp only [jw,Nat.pow_zero,Et,YG] at k;by_cases hb:rJ j (s.getD (j - 1) 0).toNat=0
   ·simp only [hb,ne_eq,not_true_eq_false,if_false] at k ⊢
    simp [hm,k]
   ·simp only [hb,ne_eq,not_false_eq_true,if_true] at k ⊢
    simp [hm,k]
theorem ML {n:Nat} (h:n < 256):(UInt8.ofNat n).toNat=n:=UInt8.toNat_ofNat_of_lt' h
def vN (n:Nat):Nat:=if n < 128 then n else vN (n / 128)
termination_by n
theorem afl {n:Nat} (h:n < 128):vN n=n:=by rw [vN,aj h]
theorem afk {n:Nat} (h:¬ n < 128):vN n=vN (n / 128):=by rw [vN,ah h]
theorem RP {n:Nat} (h:n < 128):gU n=1:=by unfold gU;rw [BM h];rfl
theorem asO:∀n:Nat,vN n < 128/\(0 < n->0 < vN n)/\vN n * 128 ^ (gU n - 1)<=n:=by
 intro n;induction n using Nat.strongRecOn with
 | _ n ih=>
   by_cases h:n < 128
   ·rw [afl h,RP h];simp;omega
   ·obtain ⟨h1,h2,h3⟩:=ih (n / 128) (by omega)
    rw [afk h,Gq h];refine ⟨h1,λ_=>h2 (by omega), ?_⟩;have hp:=zO (n / 128);obtain ⟨j,hj⟩:∃j,gU (n / 128)=j+1:=⟨gU (n / 128) - 1,by omega⟩
    rw [hj] at h3 ⊢;simp only [Nat.add_sub_cancel] at h3 ⊢;have:vN (n / 128) * 128 ^ (j+1)=vN (n / 128) * 128 ^ j * 128:=by rw [GU,Y1]
    rw [this];omega
theorem asM:∀ (n:Nat) (x:List UInt8),(aT n++x).getD (gU n - 1) 0=UInt8.ofNat (vN n):=by
 intro n;induction n using Nat.strongRecOn with
 | _ n ih=>
   intro x;by_cases h:n < 128
   ·rw [afl h,RP h,BM h];rfl
   ·have hp:=zO (n / 128)
    obtain ⟨j,hj⟩:∃j,gU (n / 128)=j+1:=⟨gU (n / 128) - 1,by omega⟩
    have:=ih (n / 128) (by omega) x;rw [afk h,Gq h,Jr h,<- this,hj];simp
theorem asK:∀ (n k:Nat) (x:List UInt8),gU n<=k->nS k (aT n++x)=some (gU n):=by
 intro n;induction n using Nat.strongRecOn with
 | _ n ih=>
   intro k x hk;have hp:=zO n;obtain ⟨j,rfl⟩:∃j,k=j+1:=⟨k - 1,by omega⟩
   by_cases h:n < 128
   ·rw [RP h,BM h]
    show (if (UInt8.ofNat n).toNat < 128 then _ else _)=_
    rw [aj (by rw [ML (by omega)];exact h)]
   ·rw [Gq h] at hk ⊢
    rw [Jr h];show (if (UInt8.ofNat (n % 128+128)).toNat < 128 then _ else (nS j (aT (n / 128)++x)).map (· + 1))=_
    rw [ah (by rw [ML (by omega)];omega),ih (n / 128) (by omega) j x (by omega)];rfl
theorem asP:∀n:Nat,ku (aT n)=n:=by
 intro n;induction n using Nat.strongRecOn with
 | _ n ih=>
   by_cases h:n < 128
   ·rw [BM h]
    simp only [ku];rw [ML (by omega)];omega
   ·rw [Jr h]
    simp only [ku];rw [ih (n / 128) (by omega),ML (by omega)];omega
theorem Gp (n:Nat) (x:List UInt8) (hn:n < 18446744073709551616):au (aT n++x)=(n,(aT n).length,0):=by
 have h1:=asK n 10 x (Ej hn);obtain ⟨f1,f2,f3⟩:=asO n;have hg:=asM n x;have hb:rJ (gU n) (UInt8.ofNat (vN n)).toNat=0:=by
  rw [ML (by omega)];unfold rJ;rw [ah,ah]
  ·rintro ⟨h2,h3⟩
   by_cases h:n < 128
   ·rw [RP h] at h2;omega
   ·have:=f2 (by omega);omega
  ·rintro ⟨h2,h3⟩
   rw [h2] at f3;have:2 * 128 ^ 9<=vN n * 128 ^ 9:=sV _ h3;simp only [show 10 - 1=9 from rfl] at f3;omega
 unfold au;rw [h1];simp only [hg,hb,ne_eq,not_true_eq_false,if_false];have:(aT n++x).take (gU n)=aT n:=by
  unfold gU;simp
 rw [this,asP];rfl
theorem asQ (a:List UInt8) (b:UInt8):ku (a++[b])=ku a+128 ^ a.length * (b.toNat % 128):=by
 induction a with
 | nil=>simp [ku]
 | cons c a ih=>
   simp only [cu,ku,ih,jg,GU,Nat.mul_add,iZ];rw [Es (128 ^ a.length) 128,Y1]
/-- Bytes that are a number's writing. -/
theorem ad4:∀ (j k:Nat) (s:List UInt8),nS j s=some k->(1 < k->(s.getD (k - 1) 0)≠0)->aT (ku (s.take k))=s.take k/\(1 < k\/s.getD (k - 1) 0≠0->ku (s.take k)≠0)
 | 0,k,s,h,_=>by simp [nS] at h
 | j+1,k,[],h,_=>by simp [nS] at h
 | j+1,k,b::r,h,hz=>by
   unfold nS at h;split at h
   ·next hb=>
    cases h;simp only [xQ,SI,ku,Nat.mul_zero,mJ];rw [Nv hb];refine ⟨by rw [BM hb];simp,λhh=>?_⟩;rcases hh with hh | hh
    ·omega
    ·intro e
     apply hh;simp only [yQ,List.getD_cons_zero];exact Y9.1 (by simpa using e)
   ·next hb=>
    obtain ⟨i,hi,rfl⟩:=bf.1 h;obtain ⟨q1,q2,q3,q4⟩:=RN hi;obtain ⟨l,rfl⟩:∃l,i=l+1:=⟨i - 1,by omega⟩
    have hz':r.getD l 0≠0:=by have:=hz (by omega);simpa using this
    obtain ⟨e1,e2⟩:=ad4 j (l+1) r hi (λ_=>by simpa using hz');have e2:=e2 (.inr (by simpa using hz'));have hb8:=b.toNat_lt;rw [xQ];simp only [ku];refine ⟨?_,λ_=>by omega⟩;rw [Jr (by omega)];have a1:(b.toNat % 128+128 * ku (r.take (l+1))) % 128+128=b.toNat:=by omega
    have a2:(b.toNat % 128+128 * ku (r.take (l+1))) / 128=ku (r.take (l+1)):=by omega
    rw [a1,a2,e1];simp
structure VOk (s:List UInt8) (n k:Nat):Prop where
 pos:1<=k
 ten:k<=10
 len:k<=s.length
 lt:n < 18446744073709551616
 put:aT n=s.take k
theorem jM {s:List UInt8} (h:(au s).2.2=0):VOk s (au s).1 (au s).2.1:=by
 unfold au at h ⊢;cases hv:nS 10 s with
 | none=>
   rw [hv] at h;simp only at h;split at h<;>cases h
 | some k=>
   rw [hv] at h;simp only at h ⊢;obtain ⟨v1,v2,v3,v4⟩:=RN hv;by_cases hb:rJ k (s.getD (k - 1) 0).toNat=0
   ·simp only [hb,ne_eq,not_true_eq_false,if_false]
    have hz:1 < k->s.getD (k - 1) 0≠0:=by
     intro h1 h2;unfold rJ at hb;rw [h2] at hb;split at hb
     ·cases hb
     ·rw [aj ⟨h1,rfl⟩] at hb;cases hb
    refine ⟨v1,v2,v3, ?_,(ad4 10 k s hv hz).1⟩;have e:s.take k=s.take (k - 1)++[s.getD (k - 1) 0]:=by
     obtain ⟨j,rfl⟩:∃j,k=j+1:=⟨k - 1,by omega⟩
     have:j < s.length:=by omega
     simp [List.getD,this]
    have h2:=afm (s.take (k - 1));rw [e,asQ,oG,JG (by omega)];rw [oG,JG (by omega)] at h2;rcases yP k 10 with h3 | h3
    ·have hq:(128:Nat) ^ (k - 1)<=128 ^ 8:=Ny (by omega) (by omega)
     have hq2:128 ^ (k - 1) * ((s.getD (k - 1) 0).toNat % 128)<=128 ^ (k - 1) * 127:=Nw _ (by omega);omega
    ·have hK10:k=10:=by omega
     have hb1:(s.getD (k - 1) 0).toNat<=1:=by
      unfold rJ at hb;split at hb
      ·cases hb
      ·next h=>omega
     have hq:(128:Nat) ^ (k - 1)=128 ^ 9:=by rw [hK10]
     have hq2:128 ^ (k - 1) * ((s.getD (k - 1) 0).toNat % 128)<=128 ^ (k - 1) * 1:=Nw _ (by omega);omega
   ·simp only [hb,ne_eq,not_false_eq_true,if_true] at h
theorem Gn {s:List UInt8} (h:(au s).2.2≠0):(au s).1=0/\(au s).2.1=0:=by
 unfold au at h ⊢;cases hv:nS 10 s with
 | none=>exact ⟨rfl,rfl⟩
 | some k=>
   rw [hv] at h;simp only at h ⊢;by_cases hb:rJ k (s.getD (k - 1) 0).toNat=0
   ·simp only [hb,ne_eq,not_true_eq_false,if_false] at h
   ·simp only [hb,ne_eq,not_false_eq_true,if_true]
    exact ⟨trivial,trivial⟩
/-- Taken of a cursor. -/
theorem zN (t:List UInt8) (at':Nat) (h:at'<=t.length) (ht:t.length<=140737488351232) :
 TT.lim 101 [.s t,.i .i64 at']=some [.i .i64 0,.i .u64 ((au (t.drop at')).1:Nat),.i .i64 (au (t.drop at')).2.2,.s t,.i .i64 ((at'+(au (t.drop at')).2.1:Nat):Int)]:=by
 have k:=uY (t.drop at') (by rw [eU];omega);have hd:(t.take t.length).drop at'=t.drop at':=by rw [yO]
 have h1:(at':Int)<=t.length:=by omega
 refine ay rfl rfl ?_;by_cases he:(au (t.drop at')).2.2=0
 ·have hv:=jM he
  have hl:=hv.len;have h10:=hv.ten;rw [eU] at hl;generalize (au (t.drop at')).1=n at *;generalize (au (t.drop at')).2.1=j at *;generalize (au (t.drop at')).2.2=e at *;have w1:=kK (n:=(j:Int)) (by omega) (by omega);have w2:=wrap64 (n:=(t.length:Int) - (at':Int)) (by omega) (by omega);have w3:=kK (n:=(t.length:Int) - (at':Int)) (by omega) (by omega);have w4:=wrap64 (n:=(j:Int)) (by omega) (by omega);have w5:=wrap64 (n:=(at':Int)+(j:Int)) (by omega) (by omega);have c1:¬ ((t.length:Int) - (at':Int) < (j:Int)):=by omega
  have c2:(at':Int)<=(at':Int)+(j:Int)/\(at':Int)+(j:Int)<=t.length:=by omega
  subst he;simp [hd,h1,k,w1,w2,w3,w4,w5,c1,c2]
 ·obtain ⟨e1,e2⟩:=Gn he
  rw [e1,e2] at k ⊢;generalize (au (t.drop at')).2.2=e at *;simp [hd,h1,k,he]
def kU (e:Int):List UInt8×Nat×Int:=([],0,e)
/-- The text that stands next, how many bytes it took, and the code. -/
def bF (s a0:List UInt8) (first:Bool):List UInt8×Nat×Int:=
 let a:=if first=true then [] else a0
 let v:=au s
 if v.2.2≠0 then kU v.2.2 else
 if a.length < v.1 then kU 23 else
 let v2:=au (s.drop v.2.1)
 if v2.2.2≠0 then kU v2.2.2 else
 if s.length - (v.2.1+v2.2.1) < v2.1 then kU 1 else
 let t:=a.take v.1++(s.drop (v.2.1+v2.2.1)).take v2.1
 if first=false/\Op.bytesLess a t=false then kU 7 else
 if v.1 < common a t then kU 23 else (t,v.2.1+v2.2.1+v2.1,0)
theorem akY (a t:List UInt8):(Op.bytesLess t a || t==a) = !(Op.bytesLess a t):=by
 rw [Ho,Ho,pI];simp only [ny,decide_eq_true_iff,beq_iff_eq,wQ,decide_eq_false_iff_not];constructor
 ·rintro (h | h) h2
  ·exact SA _ (SB h h2)
  ·subst h;exact SA _ h2
 ·intro h
  by_cases h1:t < a
  ·exact .inl h1
  ·exact .inr (List.le_antisymm (List.not_lt.1 h) (List.not_lt.1 h1))
theorem aai:∀ (k:Nat) (a x:List UInt8),k<=a.length->k<=common a (a.take k++x)
 | 0,a,x,h=>by omega
 | k+1,[],x,h=>by simp at h
 | k+1,b::a,x,h=>by
   rw [xQ,cu];unfold common;rw [aj rfl];have:=aai k a x (by simpa using h);omega
theorem ano (t a:List UInt8) (first:Bool) (at':Nat) (h:at'<=t.length) (ht:t.length<=100000000) (ha:a.length<=100000000) :
 ∃at2:Nat,TT.lim 126 [.s t,.i .i64 at',.s a,.b first]=some [.i .i64 0,.s (bF (t.drop at') a first).1,.i .i64 (bF (t.drop at') a first).2.2,.s t,.i .i64 at2]/\
  ((bF (t.drop at') a first).2.2=0->at2=at'+(bF (t.drop at') a first).2.1):=by
 have k1:=zN t at' h (by omega);by_cases he:(au (t.drop at')).2.2=0;rotate_left
 ·obtain ⟨e1,e2⟩:=Gn he
  have hp:bF (t.drop at') a first=kU (au (t.drop at')).2.2:=by unfold bF;simp only;rw [aj he]
  rw [e1,e2] at k1;rw [hp];clear e1 e2 hp;generalize (au (t.drop at')).2.2=e at *;refine ⟨at',ay rfl rfl ?_,λh=>absurd h he⟩;cases first<;>simp [k1,he,kU]
 have hv:=jM he;have hl:=hv.len;have h64:=hv.lt;have h10:=hv.ten;rw [eU] at hl
 have hpn:∀a':List UInt8,a'=(if first=true then [] else a)->bF (t.drop at') a first=(if a'.length < (au (t.drop at')).1 then kU 23 else
  if (au (t.drop (at'+(au (t.drop at')).2.1))).2.2≠0 then kU (au (t.drop (at'+(au (t.drop at')).2.1))).2.2 else
  if (t.length - at') - ((au (t.drop at')).2.1+(au (t.drop (at'+(au (t.drop at')).2.1))).2.1) < (au (t.drop (at'+(au (t.drop at')).2.1))).1 then kU 1 else
  if first=false/\Op.bytesLess a' (a'.take (au (t.drop at')).1++(t.drop (at'+((au (t.drop at')).2.1+(au (t.drop (at'+(au (t.drop at')).2.1))).2.1))).take (au (t.drop (at'+(au (t.drop at')).2.1))).1)=false then kU 7 else
  if (au (t.drop at')).1 < common a' (a'.take (au (t.drop at')).1++(t.drop (at'+((au (t.drop at')).2.1+(au (t.drop (at'+(au (t.drop at')).2.1))).2.1))).take (au (t.drop (at'+(au (t.drop at')).2.1))).1) then kU 23 else
  (a'.take (au (t.drop at')).1++(t.drop (at'+((au (t.drop at')).2.1+(au (t.drop (at'+(au (t.drop at')).2.1))).2.1))).take (au (t.drop (at'+(au (t.drop at')).2.1))).1,(au (t.drop at')).2.1+(au (t.drop (at'+(au (t.drop at')).2.1))).2.1+(au (t.drop (at'+(au (t.drop at')).2.1))).1,0)):=by
  intro a' ha';unfold bF;simp only [pK,eU,<- ha',he,ne_eq,not_true_eq_false,if_false]
 rw [he] at k1;have k2:=zN t (at'+(au (t.drop at')).2.1) (by omega) (by omega);have hv2:=λh=>jM (s:=t.drop (at'+(au (t.drop at')).2.1)) h;have hv3:=λh=>Gn (s:=t.drop (at'+(au (t.drop at')).2.1)) h;generalize hv0:au (t.drop at')=v at *;obtain ⟨n,i,e⟩:=v;simp only at *;generalize hv1:au (t.drop (at'+i))=v2 at *;obtain ⟨m,j,e2⟩:=v2;simp only at *;clear hv0 hv1 hv;subst he;simp only [BQ] at k1 k2
 -- whichever is ahead
 cases first with
 | true=>
   have hp:=hpn [] rfl;rw [hp];clear hp hpn;by_cases c1:0 < n
   ·have c1':(0:Int) < n:=by omega
    rw [aj (by simpa using c1)];refine ⟨at'+i,ay rfl rfl ?_,λh=>by cases h⟩;simp [k1,c1,c1',kU]
   have c1':¬ (0:Int) < n:=by omega
   rw [ah (by simpa using c1)];by_cases c2:e2=0;rotate_left
   ·obtain ⟨q1,q2⟩:=hv3 c2
    subst q1;subst q2;rw [aj c2];refine ⟨at'+i,ay rfl rfl ?_,λh=>absurd h c2⟩;simp [k1,k2,c1,c1',c2,kU]
   subst c2;obtain ⟨q1,q2,q3,q4,_⟩:=hv2 rfl;rw [eU] at q3;rw [ah (by simp)];have w2:=wrap64 (n:=(t.length:Int) - ((at':Int)+(i:Int)+(j:Int))) (by omega) (by omega);have w3:=kK (n:=(t.length:Int) - ((at':Int)+(i:Int)+(j:Int))) (by omega) (by omega);by_cases c3:t.length - at' - (i+j) < m
   ·have c3':(t.length:Int) - ((at':Int)+(i:Int)+(j:Int)) < (m:Int):=by omega
    rw [aj c3];refine ⟨at'+i+j,ay rfl rfl ?_,λh=>by cases h⟩;simp [k1,k2,c1,c1',w2,w3,c3',kU]
   have c3':¬ (t.length:Int) - ((at':Int)+(i:Int)+(j:Int)) < (m:Int):=by omega
   rw [ah c3,ah (by simp)];have n0:n=0:=by omega
   subst n0;have hc:common [] ([]++(t.drop (at'+(i+j))).take m)=0:=TV _;have w4:=wrap64 (n:=(m:Int)) (by omega) (by omega);have w5:=wrap64 (n:=(at':Int)+(i:Int)+(j:Int)+(m:Int)) (by omega) (by omega);have w0:=wrap64 (n:=(0:Int)) (by omega) (by omega);have ts:((t.take (at'+i+j+m)).drop (at'+i+j))=(t.drop (at'+(i+j))).take m:=by
    rw [<- iZ,GH];congr 1;omega
   have kc:=TU [] ((t.drop (at'+(i+j))).take m) (by simp) (by simp;omega);rw [TV] at kc;have c4:(at':Int)+(i:Int)+(j:Int)<=(at':Int)+(i:Int)+(j:Int)+(m:Int)/\(at':Int)+(i:Int)+(j:Int)+(m:Int)<=t.length:=by omega
   have c5:(0:Int)<=(at':Int)+(i:Int)+(j:Int):=by omega
   have t1:((at':Int)+(i:Int)+(j:Int)+(m:Int)).toNat=at'+i+j+m:=by omega
   have t2:((at':Int)+(i:Int)+(j:Int)).toNat=at'+i+j:=by omega
   rw [List.take_nil,ah (by rw [hc];omega)];have hl0:(((t.drop (at'+(i+j))).take m).length:Int)<=9223372036854775807:=by
    have:((t.drop (at'+(i+j))).take m).length<=t.length:=by rw [oG,eU];omega
    omega
   refine ⟨at'+i+j+m,ay rfl rfl ?_,λ_=>by simp only;omega⟩;rw [bK];generalize (t.drop (at'+(i+j))).take m=X at *;simp [k1,k2,w0,w2,w3,w4,w5,c3',c4,c5,t1,t2,ts,kc,hl0]
 | false=>
   have hp:=hpn a rfl;rw [hp];clear hp hpn;have wa:=kK (n:=(a.length:Int)) (by omega) (by omega);by_cases c1:a.length < n
   ·have c1':(a.length:Int) < n:=by omega
    rw [aj c1];refine ⟨at'+i,ay rfl rfl ?_,λh=>by cases h⟩;simp [k1,c1,c1',wa,kU]
   have c1':¬ (a.length:Int) < n:=by omega
   rw [ah c1];by_cases c2:e2=0;rotate_left
   ·obtain ⟨q1,q2⟩:=hv3 c2
    subst q1;subst q2;rw [aj c2];refine ⟨at'+i,ay rfl rfl ?_,λh=>absurd h c2⟩;simp [k1,k2,c1,c1',c2,wa,kU]
   subst c2;obtain ⟨q1,q2,q3,q4,_⟩:=hv2 rfl;rw [eU] at q3;rw [ah (by simp)];have w2:=wrap64 (n:=(t.length:Int) - ((at':Int)+(i:Int)+(j:Int))) (by omega) (by omega);have w3:=kK (n:=(t.length:Int) - ((at':Int)+(i:Int)+(j:Int))) (by omega) (by omega);by_cases c3:t.length - at' - (i+j) < m
   ·have c3':(t.length:Int) - ((at':Int)+(i:Int)+(j:Int)) < (m:Int):=by omega
    rw [aj c3];refine ⟨at'+i+j,ay rfl rfl ?_,λh=>by cases h⟩;simp [k1,k2,c1,c1',w2,w3,c3',wa,kU]
   have c3':¬ (t.length:Int) - ((at':Int)+(i:Int)+(j:Int)) < (m:Int):=by omega
   rw [ah c3];have w4:=wrap64 (n:=(m:Int)) (by omega) (by omega);have w5:=wrap64 (n:=(at':Int)+(i:Int)+(j:Int)+(m:Int)) (by omega) (by omega);have wn:=wrap64 (n:=(n:Int)) (by omega) (by omega);have ts:((t.take (at'+i+j+m)).drop (at'+i+j))=(t.drop (at'+(i+j))).take m:=by
    rw [<- iZ,GH];congr 1;omega
   have hlx:((t.drop (at'+(i+j))).take m).length<=t.length:=by rw [oG,eU];omega
   have kc:=TU a (a.take n++(t.drop (at'+(i+j))).take m) (by omega) (by rw [dQ,oG];omega);have c4:(at':Int)+(i:Int)+(j:Int)<=(at':Int)+(i:Int)+(j:Int)+(m:Int)/\(at':Int)+(i:Int)+(j:Int)+(m:Int)<=t.length:=by omega
   have c5:(0:Int)<=(at':Int)+(i:Int)+(j:Int):=by omega
   have c6:(n:Int)<=a.length:=by omega
   have t1:((at':Int)+(i:Int)+(j:Int)+(m:Int)).toNat=at'+i+j+m:=by omega
   have t2:((at':Int)+(i:Int)+(j:Int)).toNat=at'+i+j:=by omega
   have hlm:(min n a.length:Nat)=n:=by omega
   have hl0:(n:Int)+(((t.drop (at'+(i+j))).take m).length:Int)<=9223372036854775807:=by omega
   have hle:=akY a (a.take n++(t.drop (at'+(i+j))).take m);generalize (t.drop (at'+(i+j))).take m=X at *;by_cases c7:Op.bytesLess a (a.take n++X)=false
   ·rw [aj ⟨rfl,c7⟩]
    rw [c7] at hle;refine ⟨at'+i+j+m,ay rfl rfl ?_,λh=>by cases h⟩;have hle':(Op.bytesLess (a.take n++X) a=true\/a.take n++X=a)=True:=eq_true (by simpa using hle);simp [k1,k2,wa,wn,w2,w3,w4,w5,c1',c3',c4,c5,c6,t1,t2,ts,hl0,hlm,hle',kU]
   ·rw [ah (λh=>c7 h.2)]
    have c7:Op.bytesLess a (a.take n++X)=true:=by simpa using c7
    rw [c7] at hle;have hle':(Op.bytesLess (a.take n++X) a=true\/a.take n++X=a)=False:=eq_false (by simpa using hle);by_cases c8:n < common a (a.take n++X)
    ·have EM:(n:Int) < (common a (a.take n++X):Int):=by omega
     rw [aj c8];refine ⟨at'+i+j+m,ay rfl rfl ?_,λh=>by cases h⟩;simp [k1,k2,wa,wn,w2,w3,w4,w5,c1',c3',c4,c5,c6,t1,t2,ts,hl0,hlm,hle',kc,EM,kU]
    ·have EM:¬ (n:Int) < (common a (a.take n++X):Int):=by omega
     rw [ah c8];refine ⟨at'+i+j+m,ay rfl rfl ?_,λ_=>by simp only;omega⟩;simp [k1,k2,wa,wn,w2,w3,w4,w5,c1',c3',c4,c5,c6,t1,t2,ts,hl0,hlm,hle',kc,EM]
theorem Xk {s a:List UInt8} {first:Bool} (h:(bF s a first).2.2=0):2<=(bF s a first).2.1/\(bF s a first).2.1<=s.length/\(bF s a first).1.length<=(if first=true then 0 else a.length)+(bF s a first).2.1:=by
 have hA:(if first=true then 0 else a.length)=(if first=true then [] else a).length:=by cases first<;>rfl
 rw [hA];clear hA;unfold bF at h ⊢;simp only at h ⊢;generalize (if first=true then [] else a)=a' at h ⊢;split at h
 ·next c=>exact absurd h c
 next c0=>
 rw [ah c0];split at h
 ·cases h
 next c1=>
 rw [ah c1];split at h
 ·next c=>exact absurd h c
 next c2=>
 rw [ah c2];split at h
 ·cases h
 next c3=>
 rw [ah c3];split at h
 ·cases h
 next c4=>
 rw [ah c4];split at h
 ·cases h
 next c5=>
 rw [ah c5];have v1:=jM (s:=s) (by simpa using c0);have v2:=jM (s:=s.drop (au s).2.1) (by simpa using c2);have p1:=v1.pos;have p2:=v2.pos;have l1:=v1.len;have l2:=v2.len;rw [eU] at l2;refine ⟨by simp only;omega,by simp only;omega, ?_⟩;simp only [dQ,oG,eU];omega
def strs (l:List (List UInt8)):GV:=.l (l.map GV.s)
def Sm (n:Nat) (l:List (List UInt8)):Prop:=∀s∈l,s.length<=n
theorem adz (a s:List UInt8) (hs:s.length<=100000000):(qg a s).length<=20+s.length:=by
 have hl:=Oz a s;have l1:=ng (n:=common a s) (by omega);have l2:=ng (n:=s.length - common a s) (by omega);unfold qg;simp only [dQ,eU];omega
theorem ajJ {g:GV} (h:(bJ.list false [.str]).has g):∃l:List (List UInt8),g=strs l/\l.length<=140737488351232/\Sm 140737488351232 l:=by
 obtain ⟨xs,rfl,hl,hx⟩:=KU h;obtain ⟨rs,h1,rfl⟩:=IJ (f:=GV.s) (p:=λs=>s.length<=140737488351232) (xs:=xs) λx hx'=>by
  obtain ⟨h1,h2⟩:=hx x hx';obtain ⟨g,r,e,h3,h4⟩:=iI h1;obtain ⟨s,rfl,hs⟩:=AO h3;have:=Iq h4;subst this;have hs':s.length<=140737488351232:=hs;cases x<;>simp [GV.cells] at e<;>simp at h2
  ·cases e;exact ⟨s,hs',rfl⟩
 exact ⟨rs,rfl,by rw [nV] at hl;exact hl,h1⟩
/-- A text that stands next: the text, how many bytes it took, the code. -/
def dP (s:List UInt8):List UInt8×Nat×Int:=
 if (au s).2.2≠0 then ([],0,(au s).2.2) else
 if s.length - (au s).2.1 < (au s).1 then ([],0,1) else
 ((s.drop (au s).2.1).take (au s).1,(au s).2.1+(au s).1,0)
theorem RF {s:List UInt8} (h:(dP s).2.2=0):1<=(dP s).2.1/\(dP s).2.1<=s.length/\(dP s).1.length<=s.length:=by
 unfold dP at h ⊢;by_cases h1:(au s).2.2=0;rotate_left
 ·rw [aj h1] at h
  exact absurd h h1
 rw [ah (λe=>e h1)] at h ⊢;obtain ⟨v1,v2,v3,v4,v5⟩:=jM h1;by_cases h2:s.length - (au s).2.1 < (au s).1
 ·rw [aj h2] at h;cases h
 rw [ah h2];simp only [oG,eU];omega
theorem aeU (t:List UInt8) (at':Nat) (h:at'<=t.length) (ht:t.length<=100000000) :
 ∃at2:Nat,TT.lim 122 [.s t,.i .i64 at']=some [.i .i64 0,.s (dP (t.drop at')).1,.i .i64 (dP (t.drop at')).2.2,.s t,.i .i64 at2]/\((dP (t.drop at')).2.2=0->at2=at'+(dP (t.drop at')).2.1):=by
 have k1:=zN t at' h (by omega);unfold dP;by_cases he:(au (t.drop at')).2.2=0;rotate_left
 ·obtain ⟨e1,e2⟩:=Gn he
  rw [e1,e2] at k1;rw [aj he];generalize (au (t.drop at')).2.2=e at *;refine ⟨at',ay rfl rfl ?_,λh=>absurd h he⟩;simp [k1,he]
 obtain ⟨v1,v2,v3,v4,_⟩:=jM he;rw [ah (λe=>e he)];rw [he] at k1;rw [eU] at v3 ⊢;rw [pK];generalize (au (t.drop at')).1=n at *;generalize (au (t.drop at')).2.1=i at *;have w1:=wrap64 (n:=(t.length:Int) - ((at':Int)+(i:Int))) (by omega) (by omega);have w2:=kK (n:=(t.length:Int) - ((at':Int)+(i:Int))) (by omega) (by omega);simp only [BQ] at k1;by_cases c1:t.length - at' - i < n
 ·have c1':(t.length:Int) - ((at':Int)+(i:Int)) < (n:Int):=by omega
  rw [aj c1];refine ⟨at'+i,ay rfl rfl ?_,λh=>by cases h⟩;simp [k1,w1,w2,c1']
 ·have c1':¬ (t.length:Int) - ((at':Int)+(i:Int)) < (n:Int):=by omega
  rw [ah c1];have w3:=wrap64 (n:=(n:Int)) (by omega) (by omega);have w4:=wrap64 (n:=(at':Int)+(i:Int)+(n:Int)) (by omega) (by omega);have ts:((t.take (at'+i+n)).drop (at'+i))=(t.drop (at'+i)).take n:=by
   rw [GH];congr 1;omega
  have c2:(at':Int)+(i:Int)<=(at':Int)+(i:Int)+(n:Int)/\(at':Int)+(i:Int)+(n:Int)<=t.length:=by omega
  have c3:(0:Int)<=(at':Int)+(i:Int):=by omega
  have t1:((at':Int)+(i:Int)+(n:Int)).toNat=at'+i+n:=by omega
  have t2:((at':Int)+(i:Int)).toNat=at'+i:=by omega
  generalize (t.drop (at'+i)).take n=X at *;refine ⟨at'+i+n,ay rfl rfl ?_,λ_=>by simp only;omega⟩;simp [k1,w1,w2,w3,w4,c1',c2,c3,t1,t2,ts]
/-- An entry that stands next. -/
def cZ (s:List UInt8):dA×Nat×Int:=
 if (dP s).2.2≠0 then (([],[]),0,(dP s).2.2) else
 if (dP (s.drop (dP s).2.1)).2.2≠0 then (([],[]),0,(dP (s.drop (dP s).2.1)).2.2) else
 if qC ((dP s).1,(dP (s.drop (dP s).2.1)).1)≠0 then (([],[]),0,qC ((dP s).1,(dP (s.drop (dP s).2.1)).1)) else
 (((dP s).1,(dP (s.drop (dP s).2.1)).1),(dP s).2.1+(dP (s.drop (dP s).2.1)).2.1,0)
theorem OI {s:List UInt8} (h:(cZ s).2.2=0):2<=(cZ s).2.1/\(cZ s).2.1<=s.length/\qC (cZ s).1=0/\(cZ s).1.1.length<=s.length/\(cZ s).1.2.length<=s.length/\
 (dP s).2.2=0/\(dP (s.drop (dP s).2.1)).2.2=0/\(cZ s).1=((dP s).1,(dP (s.drop (dP s).2.1)).1)/\(cZ s).2.1=(dP s).2.1+(dP (s.drop (dP s).2.1)).2.1:=by
 unfold cZ at h ⊢;by_cases h1:(dP s).2.2=0;rotate_left
 ·rw [aj h1] at h;exact absurd h h1
 rw [ah (λe=>e h1)] at h ⊢;by_cases h2:(dP (s.drop (dP s).2.1)).2.2=0;rotate_left
 ·rw [aj h2] at h;exact absurd h h2
 rw [ah (λe=>e h2)] at h ⊢;by_cases h3:qC ((dP s).1,(dP (s.drop (dP s).2.1)).1)=0;rotate_left
 ·rw [aj h3] at h;exact absurd h h3
 rw [ah (λe=>e h3)];obtain ⟨a1,a2,a3⟩:=RF h1;obtain ⟨b1,b2,b3⟩:=RF h2;rw [eU] at b2 b3;exact ⟨by simp only;omega,by simp only;omega,h3,a3,by simp only;omega,h1,h2,rfl,rfl⟩
theorem ah2 (t:List UInt8) (at':Nat) (h:at'<=t.length) (ht:t.length<=100000000) :
 ∃at2:Nat,TT.lim 121 [.s t,.i .i64 at']=some [.i .i64 0,.s (cZ (t.drop at')).1.1,.s (cZ (t.drop at')).1.2,.i .i64 (cZ (t.drop at')).2.2,.s t,.i .i64 at2]/\((cZ (t.drop at')).2.2=0->at2=at'+(cZ (t.drop at')).2.1):=by
 obtain ⟨p,k1,e1⟩:=aeU t at' h ht;unfold cZ;by_cases h1:(dP (t.drop at')).2.2=0;rotate_left
 ·rw [aj h1]
  generalize dP (t.drop at')=A at *;refine ⟨p,ay rfl rfl ?_,λh=>absurd h h1⟩;simp [k1,h1]
 have e1:=e1 h1;obtain ⟨a1,a2,a3⟩:=RF h1;rw [eU] at a2 a3;have hdd:(t.drop at').drop (dP (t.drop at')).2.1=t.drop p:=by rw [pK,e1]
 obtain ⟨q,k2,e2⟩:=aeU t p (by omega) ht;rw [ah (λe=>e h1),hdd];rw [h1] at k1;by_cases h2:(dP (t.drop p)).2.2=0;rotate_left
 ·rw [aj h2]
  generalize dP (t.drop at')=A at *;generalize dP (t.drop p)=B at *;refine ⟨q,ay rfl rfl ?_,λh=>absurd h h2⟩;simp [k1,k2,h2]
 have e2:=e2 h2;obtain ⟨b1,b2,b3⟩:=RF h2;rw [eU] at b2 b3;rw [ah (λe=>e h2)];rw [h2] at k2;have kc:=aa4 ((dP (t.drop at')).1,(dP (t.drop p)).1) (by simp only;omega) (by simp only;omega);have Vp:TT.lim 21 [.g [.s (dP (t.drop at')).1,.s (dP (t.drop p)).1]]=_:=kc;generalize dP (t.drop at')=A at *;generalize dP (t.drop p)=B at *;by_cases h3:qC (A.1,B.1)=0;rotate_left
 ·rw [aj h3]
  refine ⟨q,ay rfl rfl ?_,λh=>absurd h h3⟩;generalize qC (A.1,B.1)=E at *;simp [k1,k2,Vp,h3]
 ·rw [ah (λe=>e h3)]
  rw [h3] at Vp;refine ⟨q,ay rfl rfl ?_,λ_=>by simp only;omega⟩;simp [k1,k2,Vp]
def xY (p:Option dA) (x:dA):Int:=match p with
 | none=>0
 | some k=>xu k.1 x.1
/-- Entries by rising keys: what is read, how many bytes it took, the code. -/
def eY:Nat->Option dA->List UInt8->List dA×Nat×Int
 | 0,_,_=>([],0,0)
 | m+1,p,s=>if (cZ s).2.2≠0 then ([],0,(cZ s).2.2) else
   if xY p (cZ s).1≠0 then ([],0,xY p (cZ s).1) else
   if (eY m (some (cZ s).1) (s.drop (cZ s).2.1)).2.2≠0 then ([],0,(eY m (some (cZ s).1) (s.drop (cZ s).2.1)).2.2) else
   ((cZ s).1::(eY m (some (cZ s).1) (s.drop (cZ s).2.1)).1,(cZ s).2.1+(eY m (some (cZ s).1) (s.drop (cZ s).2.1)).2.1,0)
theorem OC (m:Nat) (p:Option dA) (s:List UInt8):eY (m+1) p s=if (cZ s).2.2≠0 then ([],0,(cZ s).2.2) else
 if xY p (cZ s).1≠0 then ([],0,xY p (cZ s).1) else
 if (eY m (some (cZ s).1) (s.drop (cZ s).2.1)).2.2≠0 then ([],0,(eY m (some (cZ s).1) (s.drop (cZ s).2.1)).2.2) else
 ((cZ s).1::(eY m (some (cZ s).1) (s.drop (cZ s).2.1)).1,(cZ s).2.1+(eY m (some (cZ s).1) (s.drop (cZ s).2.1)).2.1,0):=rfl
def zy (acc:List dA) (t:List UInt8) (at2:Nat) (r:List dA×Nat×Int):List GV:=if r.2.2≠0 then [.i .i64 0,.i .i64 r.2.2,.s t,.i .i64 at2] else [.i .i64 1,.l ((acc++r.1).map ent),.s t,.i .i64 at2]
theorem ahY (L:List GV) (n i at' at2:Int) (t:List UInt8) (x:dA) (e:Int) (h:i < n) (he:¬ e=0)
 (k:TT.lim 121 [.s t,.i .i64 at']=some [.i .i64 0,.s x.1,.s x.2,.i .i64 e,.s t,.i .i64 at2]) :
 TT.lim 120 [.l L,.i .i64 n,.i .i64 i,.s t,.i .i64 at']=some [.i .i64 0,.i .i64 e,.s t,.i .i64 at2]:=by
 refine ay rfl rfl ?_;simp [h,k,he]
theorem ahW (L:List GV) (n at' at2:Int) (t:List UInt8) (x:dA) (R:List GV) (h:0 < n) (hb:2 * (L.length+1) * 32<=281474976710656/\L.length+1<=281474976710656)
 (k:TT.lim 121 [.s t,.i .i64 at']=some [.i .i64 0,.s x.1,.s x.2,.i .i64 0,.s t,.i .i64 at2])
 (ih:TT.lim 120 [.l (L++[ent x]),.i .i64 n,.i .i64 1,.s t,.i .i64 at2]=some R) :
 TT.lim 120 [.l L,.i .i64 n,.i .i64 0,.s t,.i .i64 at']=some R:=by
 have he:GV.g [.s x.1,.s x.2]=ent x:=rfl;have w1:=wrap64 (n:=1) (by omega) (by omega);refine ay rfl rfl ?_;simp [h,k,he,GV.fU,hb,w1,ih]
theorem ahX (L:List GV) (n:Int) (i:Nat) (at' at2:Int) (t:List UInt8) (p x:dA) (h:(i:Int)+1 < n) (hi:i+1<=100000000) (hl:L.length=i+1) (hg:L[i]? = some (ent p)) (hb:¬ xu p.1 x.1=0)
 (k:TT.lim 121 [.s t,.i .i64 at']=some [.i .i64 0,.s x.1,.s x.2,.i .i64 0,.s t,.i .i64 at2]) :
 TT.lim 120 [.l L,.i .i64 n,.i .i64 ((i:Int)+1),.s t,.i .i64 at']=some [.i .i64 0,.i .i64 (xu p.1 x.1),.s t,.i .i64 at2]:=by
 have h0:(0:Int) < (i:Int)+1:=by omega
 have hii:(i:Int) < (i:Int)+1:=by omega
 have w:=wrap64 (n:=(i:Int)) (by omega) (by omega);have hgi:L[i]'(by omega)=ent p:=by have:=hg;rw [bT (by omega)] at this;exact Ew this
 unfold xu at hb ⊢;by_cases e1:x.1=p.1
 ·have e1':(x.1=p.1)=True:=eq_true e1
  clear e1;refine ay rfl rfl ?_;simp [h,k,h0,hii,w,hl,hg,hgi,e1']
 ·by_cases e2:Op.bytesLess x.1 p.1=true
  ·refine ay rfl rfl ?_
   simp [h,k,h0,hii,w,hl,hg,hgi,e1,e2]
  ·simp [e1,e2] at hb
theorem ahZ (L:List GV) (n:Int) (i:Nat) (at' at2:Int) (t:List UInt8) (p x:dA) (R:List GV) (h:(i:Int)+1 < n) (hi:i+1<=100000000) (hl:(i:Int) < L.length) (hl2:L.length<=100000000) (hg:L[i]? = some (ent p)) (hb:xu p.1 x.1=0)
 (k:TT.lim 121 [.s t,.i .i64 at']=some [.i .i64 0,.s x.1,.s x.2,.i .i64 0,.s t,.i .i64 at2])
 (ih:TT.lim 120 [.l (L++[ent x]),.i .i64 n,.i .i64 ((i:Int)+1+1),.s t,.i .i64 at2]=some R) :
 TT.lim 120 [.l L,.i .i64 n,.i .i64 ((i:Int)+1),.s t,.i .i64 at']=some R:=by
 have h0:(0:Int) < (i:Int)+1:=by omega
 have hii:(i:Int) < (i:Int)+1:=by omega
 have w:=wrap64 (n:=(i:Int)) (by omega) (by omega);have w2:=wrap64 (n:=(i:Int)+1+1) (by omega) (by omega);have hl3:i < L.length:=by omega
 have hgi:L[i]=ent p:=by have:=hg;rw [bT hl3] at this;exact Ew this
 have he:GV.g [.s x.1,.s x.2]=ent x:=rfl;have hbb:2 * (L.length+1) * 32<=281474976710656/\L.length+1<=281474976710656:=by omega
 unfold xu at hb;have e1:¬ x.1=p.1:=by intro e;rw [aj e] at hb;exact absurd hb (by decide)
 rw [ah e1] at hb;have e2:¬ Op.bytesLess x.1 p.1=true:=by intro e;rw [aj e] at hb;exact absurd hb (by decide)
 have e2:Op.bytesLess x.1 p.1=false:=by simpa using e2
 refine ay rfl rfl ?_;simp [h,k,h0,hii,w,w2,hl,hl3,hg,hgi,e1,e2,he,GV.fU,hbb,ih]
/-- What is ahead. -/
def akU (acc:List dA) (p:Option dA):Prop:=(acc=[]/\p=none)\/∃a x,acc=a++[x]/\p=some x
theorem aav (t:List UInt8) (ht:t.length<=100000000) (n:Nat) (hn:n<=1000):∀ (m:Nat) (acc:List dA) (p:Option dA) (at':Nat),acc.length+m=n->akU acc p->at'<=t.length->
 ∃at2:Nat,TT.lim 120 [.l (acc.map ent),.i .i64 n,.i .i64 acc.length,.s t,.i .i64 at']=some (zy acc t at2 (eY m p (t.drop at')))/\((eY m p (t.drop at')).2.2=0->at2=at'+(eY m p (t.drop at')).2.1)
 | 0,acc,p,at',hi,hp,h=>by
   have hlt:¬ ((acc.length:Int) < (n:Int)):=by omega
   refine ⟨at', ?_,λ_=>by simp [eY]⟩;have hl:(acc.map ent).length=acc.length:=by simp
   unfold eY zy;simp only [ne_eq,not_true_eq_false,if_false,mG];generalize acc.map ent=L at *;refine ay rfl rfl ?_;simp [hlt]
 | m+1,acc,p,at',hi,hp,h=>by
   obtain ⟨at2,k,e2⟩:=ah2 t at' h ht;rw [OC];by_cases h1:(cZ (t.drop at')).2.2=0;rotate_left
   ·rw [aj h1]
    refine ⟨at2, ?_,λh=>absurd h h1⟩;have:zy acc t at2 ([],0,(cZ (t.drop at')).2.2)=[.i .i64 0,.i .i64 (cZ (t.drop at')).2.2,.s t,.i .i64 at2]:=by unfold zy;rw [aj h1]
    rw [this];exact ahY _ _ _ _ _ _ _ _ (by omega) h1 k
   rw [ah (λe=>e h1)];rw [h1] at k;have e2:=e2 h1;obtain ⟨a1,a2,_⟩:=OI h1;rw [eU] at a2;have hdd:(t.drop at').drop (cZ (t.drop at')).2.1=t.drop at2:=by rw [pK,e2]
   rw [hdd];have hat:at2<=t.length:=by omega
   generalize hX:(cZ (t.drop at')).1=x at *;obtain ⟨at3,ih,e3⟩:=aav t ht n hn m (acc++[x]) (some x) at2 (by rw [dQ,yM];omega) (.inr ⟨acc,x,rfl,rfl⟩) hat;have hout:zy acc t at3 (if (eY m (some x) (t.drop at2)).2.2≠0 then ([],0,(eY m (some x) (t.drop at2)).2.2) else (x::(eY m (some x) (t.drop at2)).1,(cZ (t.drop at')).2.1+(eY m (some x) (t.drop at2)).2.1,0))=zy (acc++[x]) t at3 (eY m (some x) (t.drop at2)):=by
    unfold zy;by_cases hq:(eY m (some x) (t.drop at2)).2.2=0
    ·simp [hq]
    ·simp [hq]
   have hfin:((if (eY m (some x) (t.drop at2)).2.2≠0 then (([]:List dA),0,(eY m (some x) (t.drop at2)).2.2) else (x::(eY m (some x) (t.drop at2)).1,(cZ (t.drop at')).2.1+(eY m (some x) (t.drop at2)).2.1,0)).2.2=0->at3=at'+(if (eY m (some x) (t.drop at2)).2.2≠0 then (([]:List dA),0,(eY m (some x) (t.drop at2)).2.2) else (x::(eY m (some x) (t.drop at2)).1,(cZ (t.drop at')).2.1+(eY m (some x) (t.drop at2)).2.1,0)).2.1):=by
    by_cases hq:(eY m (some x) (t.drop at2)).2.2=0
    ·rw [ah (λe=>e hq)]
     intro _;have:=e3 hq;simp only;omega
    ·rw [aj hq]
     intro h;exact absurd h hq
   rw [wS] at ih;rcases hp with ⟨rfl,rfl⟩ | ⟨a,y,rfl,rfl⟩
   ·have hb0:xY none x=0:=rfl
    rw [hb0,ah (by simp)];refine ⟨at3, ?_,hfin⟩;rw [hout];exact ahW [] n at' at2 t x _ (by simp at hi;omega) (by simp) k ih
   ·by_cases hb:xu y.1 x.1=0
    rotate_left
    ·have hb':xY (some y) x≠0:=hb
     rw [aj hb'];refine ⟨at2, ?_,λh=>absurd h hb⟩;have:zy (a++[y]) t at2 ([],0,xY (some y) x)=[.i .i64 0,.i .i64 (xu y.1 x.1),.s t,.i .i64 at2]:=by unfold zy;rw [aj hb'];rfl
     rw [this];have hl:((a++[y]).length:Int)=(a.length:Int)+1:=by simp
     rw [hl];rw [dQ,yM] at hi;exact ahX _ n a.length at' at2 t y x (by omega) (by omega) (by simp) (by simp) hb k
    ·have hb':¬ xY (some y) x≠0:=λe=>e hb
     rw [ah hb'];refine ⟨at3, ?_,hfin⟩;rw [hout];have hl:((a++[y]).length:Int)=(a.length:Int)+1:=by simp
     have hl2:((a++[y]++[x]).length:Int)=(a.length:Int)+1+1:=by simp;omega
     rw [hl];rw [hl2] at ih;rw [dQ,yM] at hi;exact ahZ _ n a.length at' at2 t y x _ (by omega) (by omega) (by simp;omega) (by simp;omega) (by simp) hb k ih
def zf (e:Int):List dA×Nat×Int:=([],0,e)
/-- A descriptor that stands next. -/
def lg (s:List UInt8):List dA×Nat×Int:=
 if (au s).2.2≠0 then zf (au s).2.2 else
 if (au s).1=0 then zf 12 else
 if 16 < (au s).1 then zf 13 else
 if (eY (au s).1 none (s.drop (au s).2.1)).2.2≠0 then zf (eY (au s).1 none (s.drop (au s).2.1)).2.2 else
 ((eY (au s).1 none (s.drop (au s).2.1)).1,(au s).2.1+(eY (au s).1 none (s.drop (au s).2.1)).2.1,0)
theorem ahS (t:List UInt8) (at':Nat) (h:at'<=t.length) (ht:t.length<=100000000) :
 ∃at2:Nat,TT.lim 119 [.s t,.i .i64 at']=some [.i .i64 0,.l ((lg (t.drop at')).1.map ent),.i .i64 (lg (t.drop at')).2.2,.s t,.i .i64 at2]/\((lg (t.drop at')).2.2=0->at2=at'+(lg (t.drop at')).2.1):=by
 have k1:=zN t at' h (by omega);unfold lg;by_cases he:(au (t.drop at')).2.2=0;rotate_left
 ·obtain ⟨e1,e2⟩:=Gn he
  rw [e1,e2] at k1;rw [aj he];generalize (au (t.drop at')).2.2=e at *;refine ⟨at',ay rfl rfl ?_,λh=>absurd h he⟩;simp [k1,he,zf]
 obtain ⟨v1,v2,v3,v4,_⟩:=jM he;rw [ah (λe=>e he)];rw [he] at k1;rw [eU] at v3;rw [pK];by_cases h16:16 < (au (t.drop at')).1
 ·have h0:¬ (au (t.drop at')).1=0:=by omega
  have AL:(16:Int) < ((au (t.drop at')).1:Nat):=by omega
  rw [ah h0,aj h16];generalize (au (t.drop at')).1=n at *;generalize (au (t.drop at')).2.1=i at *;refine ⟨at'+i,ay rfl rfl ?_,λh=>by cases h⟩;simp only [BQ] at k1;simp [k1,h0,h16,AL,zf]
 obtain ⟨at2,k2,e2⟩:=aav t ht (au (t.drop at')).1 (by omega) (au (t.drop at')).1 [] none (at'+(au (t.drop at')).2.1) (by simp) (.inl ⟨rfl,rfl⟩) (by omega);generalize (au (t.drop at')).1=n at *;generalize (au (t.drop at')).2.1=i at *;by_cases h0:n=0
 ·rw [aj h0]
  have h0':((n:Int)=0)=True:=eq_true (by omega);refine ⟨at'+i,ay rfl rfl ?_,λh=>by cases h⟩;simp only [BQ] at k1;simp [k1,h0,h0',zf]
 rw [ah h0,ah h16];have AL:¬ (16:Int) < (n:Int):=by omega
 have w:=wrap64 (n:=(n:Int)) (by omega) (by omega);have hc:(0:Int)<=(n:Int)/\32 * (n:Int)<=281474976710656/\(n:Int)<=1152921504606846976:=by omega
 have k2':TT.lim 120 [.l [],.i .i64 n,.i .i64 0,.s t,.i .i64 ((at':Int)+(i:Int))]=_:=k2;generalize hdl:eY n none (t.drop (at'+i))=r at *;refine ⟨at2,ay rfl rfl ?_,λh=>?_⟩
 ·simp only [BQ] at k1
  unfold zy at k2';by_cases hq:r.2.2=0
  ·simp only [hq,ne_eq,not_true_eq_false,if_false,bK] at k2' ⊢
   simp [k1,h0,h16,AL,w,hc,k2',GV.fU]
  ·simp only [hq,ne_eq,not_false_eq_true,if_true] at k2' ⊢
   simp [k1,h0,h16,AL,w,hc,k2',GV.fU,zf]
 ·by_cases hq:r.2.2=0
  ·rw [ah (λe=>e hq)]
   have:=e2 hq;simp only;omega
  ·rw [aj hq] at h
   exact absurd h hq
/-- A whole text, as a descriptor. -/
def pV (s:List UInt8):List dA×Int:=
 if (lg s).2.2≠0 then ([],(lg s).2.2) else if (lg s).2.1 < s.length then ([],10) else ((lg s).1,0)
theorem Ud:∀ (m:Nat) (p:Option dA) (s:List UInt8),(eY m p s).2.2=0->(eY m p s).2.1<=s.length/\(eY m p s).1.length=m/\∀x∈(eY m p s).1,qC x=0/\x.1.length<=s.length/\x.2.length<=s.length
 | 0,p,s,_=>by simp [eY]
 | m+1,p,s,h=>by
   rw [OC] at h ⊢;by_cases h1:(cZ s).2.2=0;rotate_left
   ·rw [aj h1] at h;exact absurd h h1
   rw [ah (λe=>e h1)] at h ⊢;by_cases h2:xY p (cZ s).1=0;rotate_left
   ·rw [aj h2] at h;exact absurd h h2
   rw [ah (λe=>e h2)] at h ⊢;by_cases h3:(eY m (some (cZ s).1) (s.drop (cZ s).2.1)).2.2=0;rotate_left
   ·rw [aj h3] at h;exact absurd h h3
   rw [ah (λe=>e h3)];obtain ⟨a1,a2,a3,a4,a5,_⟩:=OI h1;obtain ⟨b1,b2,b3⟩:=Ud m (some (cZ s).1) _ h3;rw [eU] at b1;refine ⟨by simp only;omega,by simp [b2],λx hx=>?_⟩;rcases cO.1 hx with rfl | hx
   ·exact ⟨a3,a4,a5⟩
   ·obtain ⟨c1,c2,c3⟩:=b3 x hx
    rw [eU] at c2 c3;exact ⟨c1,by omega,by omega⟩
theorem aay {s:List UInt8} (h:(lg s).2.2=0):(au s).2.2=0/\0 < (au s).1/\(au s).1<=16/\(eY (au s).1 none (s.drop (au s).2.1)).2.2=0/\(lg s).1=(eY (au s).1 none (s.drop (au s).2.1)).1/\
 (lg s).2.1=(au s).2.1+(eY (au s).1 none (s.drop (au s).2.1)).2.1/\(lg s).2.1<=s.length:=by
 unfold lg at h ⊢;by_cases h1:(au s).2.2=0;rotate_left
 ·rw [aj h1] at h;exact absurd h h1
 rw [ah (λe=>e h1)] at h ⊢;by_cases h2:(au s).1=0
 ·rw [aj h2] at h;exact absurd h (by simp [zf])
 rw [ah h2] at h ⊢;by_cases h3:16 < (au s).1
 ·rw [aj h3] at h;exact absurd h (by simp [zf])
 rw [ah h3] at h ⊢;by_cases h4:(eY (au s).1 none (s.drop (au s).2.1)).2.2=0;rotate_left
 ·rw [aj h4] at h;exact absurd h h4
 rw [ah (λe=>e h4)];obtain ⟨v1,v2,v3,_,_⟩:=jM h1;obtain ⟨d1,_,_⟩:=Ud _ _ _ h4;rw [eU] at d1;exact ⟨h1,by omega,by omega,h4,rfl,rfl,by simp only;omega⟩
theorem aaz (s:List UInt8) (hs:s.length<=100000000):TT.lim 118 [.s s]=some [.l ((pV s).1.map ent),.i .i64 (pV s).2]:=by
 obtain ⟨at2,k,e2⟩:=ahS s 0 (by omega) hs;rw [dY,show ((0:Nat):Int)=0 from rfl] at k;rw [dY] at e2;unfold pV;by_cases h1:(lg s).2.2=0;rotate_left
 ·rw [aj h1]
  generalize lg s=r at *;refine aW rfl rfl ?_ (by rfl);simp [k,h1]
 have e2:=e2 h1;obtain ⟨_,_,_,_,_,_,a7⟩:=aay h1;rw [ah (λe=>e h1)];rw [h1] at k;rw [jw] at e2;have w:=wrap64 (n:=(s.length:Int) - (at2:Int)) (by omega) (by omega);rw [<- e2] at a7 ⊢;generalize lg s=r at *;by_cases h2:at2 < s.length
 ·rw [aj h2]
  refine aW rfl rfl ?_ rfl;simp [k,w,h2]
 ·rw [ah h2]
  refine aW rfl rfl ?_ rfl;simp [k,w,h2]
def FX (e:Int):Row×Nat×Int:=(([],0),0,e)
/-- The row of a key, whose number stands next. -/
def fO (key s:List UInt8):Row×Nat×Int:=
 if (pV key).2≠0 then FX (pV key).2 else
 if (au s).2.2≠0 then FX (au s).2.2 else
 if (au s).1=0 then FX 17 else (((pV key).1,((au s).1:Nat)),(au s).2.1,0)
theorem Xq {key s:List UInt8} (h:(fO key s).2.2=0):(pV key).2=0/\(au s).2.2=0/\(au s).1≠0/\(fO key s).1=((pV key).1,(((au s).1:Nat):Int))/\(fO key s).2.1=(au s).2.1:=by
 unfold fO at h ⊢;by_cases h1:(pV key).2=0;rotate_left
 ·rw [aj h1] at h;exact absurd h h1
 rw [ah (λe=>e h1)] at h ⊢;by_cases h2:(au s).2.2=0;rotate_left
 ·rw [aj h2] at h;exact absurd h h2
 rw [ah (λe=>e h2)] at h ⊢;by_cases h3:(au s).1=0
 ·rw [aj h3] at h;exact absurd h (by simp [FX])
 rw [ah h3];exact ⟨h1,h2,h3,rfl,rfl⟩
theorem rowP (key t:List UInt8) (at':Nat) (h:at'<=t.length) (ht:t.length<=100000000) (hk:key.length<=100000000) :
 ∃at2:Nat,TT.lim 127 [.s key,.s t,.i .i64 at']=some [.i .i64 0,.l ((fO key (t.drop at')).1.1.map ent),.i .u64 (fO key (t.drop at')).1.2,.i .i64 (fO key (t.drop at')).2.2,.s t,.i .i64 at2]/\
  ((fO key (t.drop at')).2.2=0->at2=at'+(fO key (t.drop at')).2.1):=by
 have k1:=aaz key hk;have k2:=zN t at' h (by omega);unfold fO;generalize pV key=D at *;by_cases h1:D.2=0;rotate_left
 ·rw [aj h1]
  refine ⟨at',ay rfl rfl ?_,λh=>absurd h h1⟩;simp [k1,h1,FX]
 rw [ah (λe=>e h1)];by_cases h2:(au (t.drop at')).2.2=0;rotate_left
 ·obtain ⟨e1,e2⟩:=Gn h2
  rw [e1,e2] at k2;rw [aj h2];generalize au (t.drop at')=V at *;refine ⟨at',ay rfl rfl ?_,λh=>absurd h h2⟩;simp [k1,k2,h1,h2,FX]
 rw [ah (λe=>e h2)];rw [h2] at k2;simp only [BQ] at k2;generalize au (t.drop at')=V at *;by_cases h3:V.1=0
 ·rw [aj h3]
  rw [h3] at k2;refine ⟨at'+V.2.1,ay rfl rfl ?_,λh=>by cases h⟩;simp [k1,k2,h1,FX]
 ·rw [ah h3]
  refine ⟨at'+V.2.1,ay rfl rfl ?_,λ_=>rfl⟩;simp [k1,k2,h1,h3]
/-- Rows, one behind the other. -/
def fV:Nat->List UInt8->Bool->List UInt8->List Row×Nat×Int
 | 0,_,_,_=>([],0,0)
 | m+1,a,first,s=>if (bF s a first).2.2≠0 then ([],0,(bF s a first).2.2) else
   if (fO (bF s a first).1 (s.drop (bF s a first).2.1)).2.2≠0 then ([],0,(fO (bF s a first).1 (s.drop (bF s a first).2.1)).2.2) else
   if (fV m (bF s a first).1 false (s.drop ((bF s a first).2.1+(fO (bF s a first).1 (s.drop (bF s a first).2.1)).2.1))).2.2≠0 then ([],0,(fV m (bF s a first).1 false (s.drop ((bF s a first).2.1+(fO (bF s a first).1 (s.drop (bF s a first).2.1)).2.1))).2.2) else
   ((fO (bF s a first).1 (s.drop (bF s a first).2.1)).1::(fV m (bF s a first).1 false (s.drop ((bF s a first).2.1+(fO (bF s a first).1 (s.drop (bF s a first).2.1)).2.1))).1,
    (bF s a first).2.1+(fO (bF s a first).1 (s.drop (bF s a first).2.1)).2.1+(fV m (bF s a first).1 false (s.drop ((bF s a first).2.1+(fO (bF s a first).1 (s.drop (bF s a first).2.1)).2.1))).2.1,0)
theorem QA (m:Nat) (a:List UInt8) (first:Bool) (s:List UInt8):fV (m+1) a first s=if (bF s a first).2.2≠0 then ([],0,(bF s a first).2.2) else
 if (fO (bF s a first).1 (s.drop (bF s a first).2.1)).2.2≠0 then ([],0,(fO (bF s a first).1 (s.drop (bF s a first).2.1)).2.2) else
 if (fV m (bF s a first).1 false (s.drop ((bF s a first).2.1+(fO (bF s a first).1 (s.drop (bF s a first).2.1)).2.1))).2.2≠0 then ([],0,(fV m (bF s a first).1 false (s.drop ((bF s a first).2.1+(fO (bF s a first).1 (s.drop (bF s a first).2.1)).2.1))).2.2) else
 ((fO (bF s a first).1 (s.drop (bF s a first).2.1)).1::(fV m (bF s a first).1 false (s.drop ((bF s a first).2.1+(fO (bF s a first).1 (s.drop (bF s a first).2.1)).2.1))).1,
  (bF s a first).2.1+(fO (bF s a first).1 (s.drop (bF s a first).2.1)).2.1+(fV m (bF s a first).1 false (s.drop ((bF s a first).2.1+(fO (bF s a first).1 (s.drop (bF s a first).2.1)).2.1))).2.1,0):=rfl
def zB (acc:List Row) (t:List UInt8) (at2:Nat) (r:List Row×Nat×Int):List GV:=if r.2.2≠0 then [.i .i64 0,.i .i64 r.2.2,.s t,.i .i64 at2] else [.i .i64 1,.l ((acc++r.1).map row),.s t,.i .i64 at2]
theorem anu (L:List GV) (a t X:List UInt8) (n i at' at2:Int) (first:Bool) (e:Int) (h:i < n) (hf:decide (i=0)=first) (he:¬ e=0)
 (k:TT.lim 126 [.s t,.i .i64 at',.s a,.b first]=some [.i .i64 0,.s X,.i .i64 e,.s t,.i .i64 at2]) :
 TT.lim 125 [.l L,.s a,.i .i64 n,.i .i64 i,.s t,.i .i64 at']=some [.i .i64 0,.i .i64 e,.s t,.i .i64 at2]:=by
 refine ay rfl rfl ?_;simp [h,hf,k,he]
theorem anw (L:List GV) (a t X:List UInt8) (D:List GV) (N:Int) (n i at' at2 at3:Int) (first:Bool) (e:Int) (h:i < n) (hf:decide (i=0)=first) (he:¬ e=0)
 (k:TT.lim 126 [.s t,.i .i64 at',.s a,.b first]=some [.i .i64 0,.s X,.i .i64 0,.s t,.i .i64 at2])
 (k2:TT.lim 127 [.s X,.s t,.i .i64 at2]=some [.i .i64 0,.l D,.i .u64 N,.i .i64 e,.s t,.i .i64 at3]) :
 TT.lim 125 [.l L,.s a,.i .i64 n,.i .i64 i,.s t,.i .i64 at']=some [.i .i64 0,.i .i64 e,.s t,.i .i64 at3]:=by
 refine ay rfl rfl ?_;simp [h,hf,k,k2,he]
theorem anv (L:List GV) (a t X:List UInt8) (D:List GV) (N:Int) (n i at' at2 at3:Int) (first:Bool) (R:List GV) (h:i < n) (hf:decide (i=0)=first) (hw:IntKind.i64.wrap (i+1)=i+1) (hb:L.length<=100000000)
 (k:TT.lim 126 [.s t,.i .i64 at',.s a,.b first]=some [.i .i64 0,.s X,.i .i64 0,.s t,.i .i64 at2])
 (k2:TT.lim 127 [.s X,.s t,.i .i64 at2]=some [.i .i64 0,.l D,.i .u64 N,.i .i64 0,.s t,.i .i64 at3])
 (ih:TT.lim 125 [.l (L++[.g [.l D,.i .u64 N]]),.s X,.i .i64 n,.i .i64 (i+1),.s t,.i .i64 at3]=some R) :
 TT.lim 125 [.l L,.s a,.i .i64 n,.i .i64 i,.s t,.i .i64 at']=some R:=by
 have hbb:2 * (L.length+1) * 32<=281474976710656/\L.length+1<=281474976710656:=by omega
 refine ay rfl rfl ?_;simp [h,hf,k,k2,hw,GV.fU,hbb,ih]
theorem adP (t:List UInt8) (ht:t.length<=100000000) (n:Nat) (hn:n<=1000):∀ (m:Nat) (acc:List Row) (a:List UInt8) (at':Nat),acc.length+m=n->at'<=t.length->a.length<=at'->
 ∃at2:Nat,TT.lim 125 [.l (acc.map row),.s a,.i .i64 n,.i .i64 acc.length,.s t,.i .i64 at']=some (zB acc t at2 (fV m a (decide ((acc.length:Int)=0)) (t.drop at')))/\
  ((fV m a (decide ((acc.length:Int)=0)) (t.drop at')).2.2=0->at2=at'+(fV m a (decide ((acc.length:Int)=0)) (t.drop at')).2.1)
 | 0,acc,a,at',hi,h,ha=>by
   have hlt:¬ ((acc.length:Int) < (n:Int)):=by omega
   refine ⟨at', ?_,λ_=>by simp [fV]⟩;unfold fV zB;simp only [ne_eq,not_true_eq_false,if_false,mG];generalize acc.map row=L at *;refine ay rfl rfl ?_;simp [hlt]
 | m+1,acc,a,at',hi,h,ha=>by
   obtain ⟨at2,k,e2⟩:=ano t a (decide ((acc.length:Int)=0)) at' h ht (by omega);rw [QA];generalize hf:decide ((acc.length:Int)=0)=first at *
   by_cases h1:(bF (t.drop at') a first).2.2=0;rotate_left
   ·rw [aj h1]
    refine ⟨at2, ?_,λh=>absurd h h1⟩;have:zB acc t at2 ([],0,(bF (t.drop at') a first).2.2)=[.i .i64 0,.i .i64 (bF (t.drop at') a first).2.2,.s t,.i .i64 at2]:=by unfold zB;rw [aj h1]
    rw [this];exact anu _ _ _ _ _ _ _ _ _ _ (by omega) hf h1 k
   rw [ah (λe=>e h1)];rw [h1] at k;have e2:=e2 h1;obtain ⟨a1,a2,a3⟩:=Xk h1;rw [eU] at a2;have hdd:∀j,(t.drop at').drop ((bF (t.drop at') a first).2.1+j)=t.drop (at2+j):=by intro j;rw [pK,e2,iZ]
   have ajO:(t.drop at').drop (bF (t.drop at') a first).2.1=t.drop at2:=by rw [pK,e2]
   have hal:(bF (t.drop at') a first).1.length<=at2:=by split at a3<;>omega
   rw [hdd,ajO];generalize (bF (t.drop at') a first).1=X at *;generalize (bF (t.drop at') a first).2.1=j1 at *;obtain ⟨at3,k2,e3⟩:=rowP X t at2 (by omega) ht (by omega);by_cases h2:(fO X (t.drop at2)).2.2=0;rotate_left
   ·rw [aj h2]
    refine ⟨at3, ?_,λh=>absurd h h2⟩;have:zB acc t at3 ([],0,(fO X (t.drop at2)).2.2)=[.i .i64 0,.i .i64 (fO X (t.drop at2)).2.2,.s t,.i .i64 at3]:=by unfold zB;rw [aj h2]
    rw [this];exact anw _ _ _ _ _ _ _ _ _ _ _ _ _ (by omega) hf h2 k k2
   rw [ah (λe=>e h2)];rw [h2] at k2;have e3:=e3 h2;obtain ⟨_,q2,_,_,q5⟩:=Xq h2;obtain ⟨v1,v2,v3,_,_⟩:=jM q2;rw [eU] at v3;have e3':at2+(fO X (t.drop at2)).2.1=at3:=e3.symm;rw [e3'];have hrow:GV.g [.l ((fO X (t.drop at2)).1.1.map ent),.i .u64 (fO X (t.drop at2)).1.2]=row (fO X (t.drop at2)).1:=rfl;obtain ⟨at4,ih,e4⟩:=adP t ht n hn m (acc++[(fO X (t.drop at2)).1]) X at3 (by rw [dQ,yM];omega) (by omega) (by omega);have hfalse:decide (((acc++[(fO X (t.drop at2)).1]).length:Int)=0)=false:=by simp;omega
   have hl:((acc++[(fO X (t.drop at2)).1]).length:Int)=(acc.length:Int)+1:=by simp
   rw [hfalse] at ih e4;rw [hl,wS] at ih;generalize (fO X (t.drop at2)).1=Q at *;generalize (fO X (t.drop at2)).2.1=j2 at *;have hout:zB acc t at4 (if (fV m X false (t.drop at3)).2.2≠0 then ([],0,(fV m X false (t.drop at3)).2.2) else (Q::(fV m X false (t.drop at3)).1,j1+j2+(fV m X false (t.drop at3)).2.1,0))=zB (acc++[Q]) t at4 (fV m X false (t.drop at3)):=by
    unfold zB;by_cases hq:(fV m X false (t.drop at3)).2.2=0
    ·simp [hq]
    ·simp [hq]
   refine ⟨at4, ?_, ?_⟩
   ·rw [hout]
    exact anv _ _ _ _ _ _ _ _ _ _ _ _ _ (by omega) hf (wrap64 (by omega) (by omega)) (by simp;omega) k k2 (by rw [hrow];exact ih)
   ·by_cases hq:(fV m X false (t.drop at3)).2.2=0
    ·rw [ah (λe=>e hq)]
     intro _;have:=e4 hq;simp only;omega
    ·rw [aj hq]
     intro h;exact absurd h hq
def Fq (e:Int):List Row×Nat×Int:=([],0,e)
/-- A table that stands next. -/
def kP (s:List UInt8):List Row×Nat×Int:=
 if (au s).2.2≠0 then Fq (au s).2.2 else
 if 256 < (au s).1 then Fq 13 else
 if (fV (au s).1 [] true (s.drop (au s).2.1)).2.2≠0 then Fq (fV (au s).1 [] true (s.drop (au s).2.1)).2.2 else
 ((fV (au s).1 [] true (s.drop (au s).2.1)).1,(au s).2.1+(fV (au s).1 [] true (s.drop (au s).2.1)).2.1,0)
theorem akL (t:List UInt8) (at':Nat) (h:at'<=t.length) (ht:t.length<=100000000) :
 ∃at2:Nat,TT.lim 124 [.s t,.i .i64 at']=some [.i .i64 0,.l ((kP (t.drop at')).1.map row),.i .i64 (kP (t.drop at')).2.2,.s t,.i .i64 at2]/\((kP (t.drop at')).2.2=0->at2=at'+(kP (t.drop at')).2.1):=by
 have k1:=zN t at' h (by omega);unfold kP;by_cases he:(au (t.drop at')).2.2=0;rotate_left
 ·obtain ⟨e1,e2⟩:=Gn he
  rw [e1,e2] at k1;rw [aj he];generalize (au (t.drop at')).2.2=e at *;refine ⟨at',ay rfl rfl ?_,λh=>absurd h he⟩;simp [k1,he,Fq]
 obtain ⟨v1,v2,v3,v4,_⟩:=jM he;rw [ah (λe=>e he)];rw [he] at k1;rw [eU] at v3;rw [pK];by_cases h16:256 < (au (t.drop at')).1
 ·have AL:(256:Int) < ((au (t.drop at')).1:Nat):=by omega
  rw [aj h16];generalize (au (t.drop at')).1=n at *;generalize (au (t.drop at')).2.1=i at *;refine ⟨at'+i,ay rfl rfl ?_,λh=>by cases h⟩;simp only [BQ] at k1;simp [k1,h16,AL,Fq]
 obtain ⟨at2,k2,e2⟩:=adP t ht (au (t.drop at')).1 (by omega) (au (t.drop at')).1 [] [] (at'+(au (t.drop at')).2.1) (by simp) (by omega) (by simp);generalize (au (t.drop at')).1=n at *;generalize (au (t.drop at')).2.1=i at *;rw [ah h16];have AL:¬ (256:Int) < (n:Int):=by omega
 have w:=wrap64 (n:=(n:Int)) (by omega) (by omega);have hc:(0:Int)<=(n:Int)/\32 * (n:Int)<=281474976710656/\(n:Int)<=1152921504606846976:=by omega
 rw [show decide ((([]:List Row).length:Int)=0)=true from rfl] at k2 e2;have k2':TT.lim 125 [.l [],.s [],.i .i64 n,.i .i64 0,.s t,.i .i64 ((at':Int)+(i:Int))]=_:=k2;generalize fV n [] true (t.drop (at'+i))=r at *;refine ⟨at2,ay rfl rfl ?_,λh=>?_⟩
 ·simp only [BQ] at k1
  unfold zB at k2';by_cases hq:r.2.2=0
  ·simp only [hq,ne_eq,not_true_eq_false,if_false,bK] at k2' ⊢
   simp [k1,h16,AL,w,hc,k2',GV.fU]
  ·simp only [hq,ne_eq,not_false_eq_true,if_true] at k2' ⊢
   simp [k1,h16,AL,w,hc,k2',GV.fU,Fq]
 ·by_cases hq:r.2.2=0
  ·rw [ah (λe=>e hq)]
   have:=e2 hq;simp only;omega
  ·rw [aj hq] at h
   exact absurd h hq
/-- A whole text, as a table. -/
def ql (s:List UInt8):List Row×Int:=
 if (kP s).2.2≠0 then ([],(kP s).2.2) else if (kP s).2.1 < s.length then ([],10) else ((kP s).1,0)
theorem Xj:∀ (m:Nat) (a:List UInt8) (first:Bool) (s:List UInt8),(fV m a first s).2.2=0->(fV m a first s).2.1<=s.length/\(fV m a first s).1.length=m
 | 0,a,first,s,_=>by simp [fV]
 | m+1,a,first,s,h=>by
   rw [QA] at h ⊢;by_cases h1:(bF s a first).2.2=0;rotate_left
   ·rw [aj h1] at h;exact absurd h h1
   rw [ah (λe=>e h1)] at h ⊢;by_cases h2:(fO (bF s a first).1 (s.drop (bF s a first).2.1)).2.2=0;rotate_left
   ·rw [aj h2] at h;exact absurd h h2
   rw [ah (λe=>e h2)] at h ⊢;by_cases h3:(fV m (bF s a first).1 false (s.drop ((bF s a first).2.1+(fO (bF s a first).1 (s.drop (bF s a first).2.1)).2.1))).2.2=0;rotate_left
   ·rw [aj h3] at h;exact absurd h h3
   rw [ah (λe=>e h3)];obtain ⟨a1,a2,_⟩:=Xk h1;obtain ⟨_,q2,_,_,q5⟩:=Xq h2;obtain ⟨v1,v2,v3,_,_⟩:=jM q2;rw [eU] at v3;obtain ⟨b1,b2⟩:=Xj m _ _ _ h3;rw [eU] at b1;exact ⟨by simp only;omega,by simp [b2]⟩
theorem acv {s:List UInt8} (h:(kP s).2.2=0):(au s).2.2=0/\(au s).1<=256/\(fV (au s).1 [] true (s.drop (au s).2.1)).2.2=0/\(kP s).1=(fV (au s).1 [] true (s.drop (au s).2.1)).1/\
 (kP s).2.1=(au s).2.1+(fV (au s).1 [] true (s.drop (au s).2.1)).2.1/\(kP s).2.1<=s.length:=by
 unfold kP at h ⊢;by_cases h1:(au s).2.2=0;rotate_left
 ·rw [aj h1] at h;exact absurd h h1
 rw [ah (λe=>e h1)] at h ⊢;by_cases h3:256 < (au s).1
 ·rw [aj h3] at h;exact absurd h (by simp [Fq])
 rw [ah h3] at h ⊢;by_cases h4:(fV (au s).1 [] true (s.drop (au s).2.1)).2.2=0;rotate_left
 ·rw [aj h4] at h;exact absurd h h4
 rw [ah (λe=>e h4)];obtain ⟨v1,v2,v3,_,_⟩:=jM h1;obtain ⟨d1,_⟩:=Xj _ _ _ _ h4;rw [eU] at d1;exact ⟨h1,by omega,h4,rfl,rfl,by simp only;omega⟩
theorem arU (s:List UInt8) (hs:s.length<=100000000):TT.lim 123 [.s s]=some [.l ((ql s).1.map row),.i .i64 (ql s).2]:=by
 obtain ⟨at2,k,e2⟩:=akL s 0 (by omega) hs;rw [dY,show ((0:Nat):Int)=0 from rfl] at k;rw [dY] at e2;unfold ql;by_cases h1:(kP s).2.2=0;rotate_left
 ·rw [aj h1]
  generalize kP s=r at *;refine aW rfl rfl ?_ (by rfl);simp [k,h1]
 have e2:=e2 h1;obtain ⟨_,_,_,_,_,a7⟩:=acv h1;rw [ah (λe=>e h1)];rw [h1] at k;rw [jw] at e2;have w:=wrap64 (n:=(s.length:Int) - (at2:Int)) (by omega) (by omega);rw [<- e2] at a7 ⊢;generalize kP s=r at *;by_cases h2:at2 < s.length
 ·rw [aj h2]
  refine aW rfl rfl ?_ rfl;simp [k,w,h2]
 ·rw [ah h2]
  refine aW rfl rfl ?_ rfl;simp [k,w,h2]
def jZ:List UInt8->List Row->List UInt8
 | _,[]=>[]
 | a,r::t=>qg a (iJ r.1)++(aT r.2.toNat++jZ (iJ r.1) t)
/-- A table, as it is written. -/
def nR (t:List Row):List UInt8:=aT t.length++jZ [] t
def zD (t:List Row):List UInt8×Int:=if uS t≠0 then ([],uS t) else (nR t,0)
theorem XC:∀ (t:List Row) (a:List UInt8),(∀r∈t,iq r.1=true/\0<=r.2/\r.2 < 18446744073709551616)->(jZ a t).length<=40000 * t.length
 | [],a,_=>by simp [jZ]
 | r::t,a,h=>by
   obtain ⟨h1,h2,h3⟩:=h r (by simp);have hk:=Lh h1;have ho:=adz a (iJ r.1) (by omega);have hv:=ng (n:=r.2.toNat) (by omega);have ih:=XC t (iJ r.1) λq hq=>h q (by simp [hq]);simp only [jZ,dQ,jg];omega
theorem akS (L:List GV) (n i:Int) (D:List dA) (N:Int) (a k O V acc:List UInt8) (R:List GV) (j:Nat) (hi:i=j) (h:i < n) (hg:L[j]? = some (row (D,N))) (hw:IntKind.i64.wrap (i+1)=i+1) (k1:TT.lim 7 [.l (D.map ent)]=some [.s k]) (k2:TT.lim 80 [.s a,.s k]=some [.s O])
 (k3:TT.lim 8 [.i .u64 N]=some [.s V]) (hb1:2 * (acc.length+O.length)<=281474976710656/\acc.length+O.length<=281474976710656) (hb2:2 * (acc.length+(O.length+V.length))<=281474976710656/\acc.length+(O.length+V.length)<=281474976710656)
 (ih:TT.lim 79 [.s k,.l L,.i .i64 n,.i .i64 (i+1),.l (eG acc++(eG O++eG V))]=some R) :
 TT.lim 79 [.s a,.l L,.i .i64 n,.i .i64 i,.l (eG acc)]=some R:=by
 subst hi;have ok1:=J3 O;have ok2:=J3 V;refine ay rfl rfl ?_;simp [-List.all_eq_true,h,hg,hw,k1,k2,k3,ok1,ok2,hb1,hb2,iZ,ih]
theorem acy (l:List Row) (hl:l.length<=1000) (hf:∀r∈l,iq r.1=true/\0<=r.2/\r.2 < 18446744073709551616):∀ (m i:Nat) (a acc:List UInt8),i+m=l.length->a.length<=100000->acc.length<=10+40000 * i->
 TT.lim 79 [.s a,.l (l.map row),.i .i64 l.length,.i .i64 i,.l (eG acc)]=some [.i .i64 0,.l (eG (acc++jZ a (l.drop i)))]
 | 0,i,a,acc,hi,ha,hacc=>by
   have hd:l.drop i=[]:=gG (by omega);have h:¬ ((i:Int) < l.length):=by omega
   rw [hd];refine ay rfl rfl ?_;simp [h,jZ]
 | m+1,i,a,acc,hi,ha,hacc=>by
   have hlt:i < l.length:=by omega
   obtain ⟨h1,h2,h3⟩:=hf l[i] (jf hlt);have hk:=Lh h1;have k1:=PV l[i].1 h1;have k2:=amE a (iJ l[i].1) (by omega) (by omega);have ho:=adz a (iJ l[i].1) (by omega);have k3:=xF l[i].2.toNat (by omega);rw [show ((l[i].2.toNat:Nat):Int)=l[i].2 by omega] at k3;have hv:=ng (n:=l[i].2.toNat) (by omega);have ih:=acy l hl hf m (i+1) (iJ l[i].1) (acc++(qg a (iJ l[i].1)++aT l[i].2.toNat)) (by omega) (by omega) (by simp only [dQ];omega);have he:acc++jZ a (l.drop i)=acc++(qg a (iJ l[i].1)++aT l[i].2.toNat)++jZ (iJ l[i].1) (l.drop (i+1)):=by
    rw [iQ hlt];simp [jZ]
   rw [he];rw [TA acc,TA] at ih;rw [show ((i+1:Nat):Int)=(i:Int)+1 by omega] at ih;exact akS _ _ _ l[i].1 l[i].2 a _ _ _ acc _ i rfl (by omega) (by simp [hlt]) (wrap64 (by omega) (by omega)) k1 k2 k3 (by omega) (by omega) ih
theorem akR (t:List Row) (ht:Rows t) (hf:zY t):TT.lim 78 [.l (t.map row)]=some [.s (zD t).1,.i .i64 (zD t).2]:=by
 have k1:=TN t ht hf;unfold zD;by_cases hc:uS t=0;rotate_left
 ·rw [aj hc]
  refine aW rfl rfl ?_ (by rfl);simp [k1,hc]
 rw [ah (λe=>e hc)];rw [hc] at k1;have h256:=((TP t).1 hc).1;have KW:∀r∈t,iq r.1=true/\0<=r.2/\r.2 < 18446744073709551616:=λr hr=>⟨hf r hr,(ht.2 r hr).2.1,(ht.2 r hr).2.2⟩
 have k2:=xF t.length (by omega);have l2:=ng (n:=t.length) (by omega);have k3:=acy t (by omega) KW t.length 0 [] (aT t.length) (by omega) (by simp) (by omega);rw [dY,show ((0:Nat):Int)=0 from rfl] at k3;have hlen:=XC t [] KW;have w:=kK (n:=(t.length:Int)) (by omega) (by omega);have ok:=J3 (aT t.length);have hb:2 * (aT t.length).length<=281474976710656/\(aT t.length).length<=281474976710656:=by omega
 have hbg:=TD (nR t);have hpl:(eG (nR t)).length<=281474976710656:=by
  rw [ZF];unfold nR;rw [dQ];omega
 have hk3:TT.lim 79 [.s [],.l (t.map row),.i .i64 t.length,.i .i64 0,.l (eG (aT t.length))]=some [.i .i64 0,.l (eG (nR t))]:=k3;generalize eG (nR t)=PG at *;generalize nR t=P at *;generalize hVG:eG (aT t.length)=VG at *;have hvl:VG.length=(aT t.length).length:=by rw [<- hVG,ZF]
 rw [<- hvl] at hb;have hlm:(t.map row).length=t.length:=by simp
 generalize t.map row=L at *;refine aW rfl rfl ?_ rfl;simp [-List.all_eq_true,k1,hlm,w,k2,hVG,ok,hb,hk3,hbg,hpl]
theorem Uf {x:dA} (h:qC x=0):x.1.length<=64/\x.2.length<=256:=by
 have hu:∀ (s:List UInt8) (lo hi:Int),jI s lo hi=0->(s.length:Int)<=hi:=by
  intro s lo hi h;unfold jI at h;split at h
  ·cases h
  ·split at h
   ·cases h
   ·omega
 unfold qC at h;by_cases h1:jI x.1 1 64=0
 ·rw [ah (λe=>e h1)] at h
  have a:=hu _ _ _ h1;have b:=hu _ _ _ h;omega
 ·rw [aj h1] at h;exact absurd h h1
theorem aeW {s:List UInt8} (h:(dP s).2.2=0):aT (dP s).1.length++(dP s).1=s.take (dP s).2.1:=by
 unfold dP at h ⊢;by_cases h1:(au s).2.2=0;rotate_left
 ·rw [aj h1] at h;exact absurd h h1
 rw [ah (λe=>e h1)] at h ⊢;obtain ⟨v1,v2,v3,v4,v5⟩:=jM h1;by_cases h2:s.length - (au s).2.1 < (au s).1
 ·rw [aj h2] at h;cases h
 rw [ah h2];simp only [oG,eU];rw [JG (by omega),v5,Aa]
theorem ah1 {s:List UInt8} (h:(cZ s).2.2=0):iU (cZ s).1=s.take (cZ s).2.1:=by
 obtain ⟨_,_,_,_,_,h1,h2,h3,h4⟩:=OI h;rw [h3,h4];unfold iU;simp only;have p1:=aeW h1;have p2:=aeW h2;rw [p1,List.append_assoc,p2,Aa]
theorem aax:∀ (m:Nat) (p:Option dA) (s:List UInt8),(eY m p s).2.2=0->(eY m p s).1.flatMap iU=s.take (eY m p s).2.1/\qB (p.map (·.1)) (eY m p s).1=0
 | 0,p,s,_=>by simp [eY,qB]
 | m+1,p,s,h=>by
   rw [OC] at h ⊢;by_cases h1:(cZ s).2.2=0;rotate_left
   ·rw [aj h1] at h;exact absurd h h1
   rw [ah (λe=>e h1)] at h ⊢;by_cases h2:xY p (cZ s).1=0;rotate_left
   ·rw [aj h2] at h;exact absurd h h2
   rw [ah (λe=>e h2)] at h ⊢;by_cases h3:(eY m (some (cZ s).1) (s.drop (cZ s).2.1)).2.2=0;rotate_left
   ·rw [aj h3] at h;exact absurd h h3
   rw [ah (λe=>e h3)];obtain ⟨b1,b2⟩:=aax m (some (cZ s).1) _ h3;obtain ⟨_,_,a3,_⟩:=OI h1;have p1:=ah1 h1;refine ⟨by simp only [jv,b1,p1,Aa], ?_⟩;unfold qB;rw [ah (λe=>e a3)];cases p with
   | none=>exact b2
   | some k=>
     have h2':xu k.1 (cZ s).1.1=0:=h2;unfold xu at h2';simp only [gI];by_cases c1:(cZ s).1.1=k.1
     ·rw [aj c1] at h2';exact absurd h2' (by decide)
     rw [ah c1] at h2' ⊢;by_cases c2:Op.bytesLess (cZ s).1.1 k.1=true
     ·rw [aj c2] at h2';exact absurd h2' (by decide)
     rw [ah c2];exact b2
structure Yz (d:List dA) (key:List UInt8):Prop where
 chk:rY d=0
 few:iq d=true
 ents:uz d
 put:iJ d=key
theorem ahU {s:List UInt8} (h:(lg s).2.2=0) (hs:s.length<=100000000):Yz (lg s).1 (s.take (lg s).2.1):=by
 obtain ⟨a1,a2,a3,a4,a5,a6,a7⟩:=aay h;obtain ⟨b1,b2,b3⟩:=Ud _ _ _ a4;obtain ⟨c1,c2⟩:=aax _ _ _ a4;obtain ⟨v1,v2,v3,v4,v5⟩:=jM a1;rw [a5,a6];refine ⟨?_, ?_,⟨by omega,λx hx=>?_⟩, ?_⟩
 ·unfold rY
  rw [ah (by omega),ah (by omega)];exact c2
 ·unfold iq
  rw [aJ,decide_eq_true_iff,List.all_eq_true];refine ⟨λx hx=>?_,by omega⟩;obtain ⟨e1,e2⟩:=Uf (b3 x hx).1;unfold su;rw [decide_eq_true_iff];omega
 ·obtain ⟨e1,e2⟩:=Uf (b3 x hx).1
  omega
 ·unfold iJ
  rw [b2,v5,c1,Aa]
theorem aaB {s:List UInt8} (h:(pV s).2=0) (hs:s.length<=100000000):Yz (pV s).1 s:=by
 unfold pV at h ⊢;by_cases h1:(lg s).2.2=0;rotate_left
 ·rw [aj h1] at h;exact absurd h h1
 rw [ah (λe=>e h1)] at h ⊢;by_cases h2:(lg s).2.1 < s.length
 ·rw [aj h2] at h;exact absurd h (by simp)
 rw [ah h2];have:=ahU h1 hs;rw [nG (by omega)] at this;exact this
theorem anq {s a:List UInt8} {first:Bool} (h:(bF s a first).2.2=0) (hf:first=true->a=[]):qg a (bF s a first).1=s.take (bF s a first).2.1/\(first=false->a < (bF s a first).1):=by
 have ha:(if first=true then [] else a)=a:=by
  cases first with
  | true=>rw [aj rfl,hf rfl]
  | false=>rfl
 unfold bF at h ⊢;simp only [ha] at h ⊢;by_cases h1:(au s).2.2=0;rotate_left
 ·rw [aj h1] at h;exact absurd h h1
 rw [ah (λe=>e h1)] at h ⊢;by_cases h2:a.length < (au s).1
 ·rw [aj h2] at h;exact absurd h (by simp [kU])
 rw [ah h2] at h ⊢;by_cases h3:(au (s.drop (au s).2.1)).2.2=0;rotate_left
 ·rw [aj h3] at h;exact absurd h h3
 rw [ah (λe=>e h3)] at h ⊢;by_cases h4:s.length - ((au s).2.1+(au (s.drop (au s).2.1)).2.1) < (au (s.drop (au s).2.1)).1
 ·rw [aj h4] at h;exact absurd h (by simp [kU])
 rw [ah h4] at h ⊢;obtain ⟨v1,v2,v3,v4,v5⟩:=jM h1;obtain ⟨u1,u2,u3,u4,u5⟩:=jM h3;have hx:((s.drop ((au s).2.1+(au (s.drop (au s).2.1)).2.1)).take (au (s.drop (au s).2.1)).1).length=(au (s.drop (au s).2.1)).1:=by
  rw [oG,eU];omega
 generalize hX:(s.drop ((au s).2.1+(au (s.drop (au s).2.1)).2.1)).take (au (s.drop (au s).2.1)).1=X at *;by_cases h5:first=false/\Op.bytesLess a (a.take (au s).1++X)=false
 ·rw [aj h5] at h;exact absurd h (by simp [kU])
 rw [ah h5] at h ⊢;by_cases h6:(au s).1 < common a (a.take (au s).1++X)
 ·rw [aj h6] at h;exact absurd h (by simp [kU])
 rw [ah h6];have hge:=aai (au s).1 a X (by omega);have hc:common a (a.take (au s).1++X)=(au s).1:=by omega
 refine ⟨?_,λhf=>?_⟩
 ·unfold qg
  simp only [hc];have hl:(a.take (au s).1++X).length - (au s).1=(au (s.drop (au s).2.1)).1:=by
   rw [dQ,oG,hx];omega
  have hd:(a.take (au s).1++X).drop (au s).1=X:=by
   rw [Sr (by rw [oG];omega)];rw [gG (by rw [oG];omega)];rfl
  rw [hl,hd,v5,u5,<- hX];rw [Aa,Aa,<- pK]
 ·simp only [hf,true_and] at h5
  rw [<- Oh];simpa using h5
theorem adR:∀ (m:Nat) (a:List UInt8) (first:Bool) (s:List UInt8),(fV m a first s).2.2=0->(first=true->a=[])->a.length+s.length<=100000000->
 jZ a (fV m a first s).1=s.take (fV m a first s).2.1/\BZ (fV m a first s).1/\(first=false->∀r∈(fV m a first s).1,a < K r)/\(∀r∈(fV m a first s).1,vI r=0/\iq r.1=true/\uz r.1/\0<=r.2/\r.2 < 18446744073709551616)
 | 0,a,first,s,_,_,_=>by simp [fV,jZ,BZ]
 | m+1,a,first,s,h,hf,hl=>by
   rw [QA] at h ⊢;by_cases h1:(bF s a first).2.2=0;rotate_left
   ·rw [aj h1] at h;exact absurd h h1
   rw [ah (λe=>e h1)] at h ⊢;by_cases h2:(fO (bF s a first).1 (s.drop (bF s a first).2.1)).2.2=0;rotate_left
   ·rw [aj h2] at h;exact absurd h h2
   rw [ah (λe=>e h2)] at h ⊢;by_cases h3:(fV m (bF s a first).1 false (s.drop ((bF s a first).2.1+(fO (bF s a first).1 (s.drop (bF s a first).2.1)).2.1))).2.2=0;rotate_left
   ·rw [aj h3] at h;exact absurd h h3
   rw [ah (λe=>e h3)];obtain ⟨a1,a2,a3⟩:=Xk h1;obtain ⟨p1,p2⟩:=anq h1 hf;obtain ⟨q1,q2,q3,q4,q5⟩:=Xq h2;have hxl:(bF s a first).1.length<=a.length+(bF s a first).2.1:=by
    cases first<;>simp at a3<;>omega
   obtain ⟨v1,v2,v3,v4,v5⟩:=jM q2;have dk:=aaB q1 (by omega);obtain ⟨b1,b2,b3,b4⟩:=adR m _ false _ h3 (λe=>by cases e) (by rw [eU];omega);have hK:K (fO (bF s a first).1 (s.drop (bF s a first).2.1)).1=(bF s a first).1:=by rw [q4];exact dk.put
   have hN:(fO (bF s a first).1 (s.drop (bF s a first).2.1)).1.2.toNat=(au (s.drop (bF s a first).2.1)).1:=by rw [q4];simp
   simp only;refine ⟨?_, ?_,λKW r hr=>?_,λr hr=>?_⟩
   ·show qg a (K _)++(aT _++jZ (K _) _)=_
    rw [hK,hN,b1,p1,v5,<- q5];rw [Aa,Aa,List.append_assoc]
   ·refine wV.2 ⟨λr hr=>?_,b2⟩
    rw [hK];exact b3 rfl r hr
   ·rcases cO.1 hr with rfl | hr
    ·rw [hK];exact p2 KW
    ·exact SB (p2 KW) (b3 rfl r hr)
   ·rcases cO.1 hr with rfl | hr
    ·rw [q4]
     refine ⟨?_,dk.few,dk.ents,by simp only;omega,by simp only;omega⟩;rw [XB];exact ⟨dk.chk,by simp only;omega⟩
    ·exact b4 r hr
structure xR (t:List Row):Prop where
 ok:Ok t
 few:zY t
 rows:Rows t
theorem xR.tb {t:List Row} (h:xR t):uS t=0:=(TP t).2 h.ok
theorem akN {s:List UInt8} (h:(kP s).2.2=0) (hs:s.length<=100000000):nR (kP s).1=s.take (kP s).2.1/\xR (kP s).1:=by
 obtain ⟨a1,a2,a3,a4,a5,a6⟩:=acv h;obtain ⟨v1,v2,v3,v4,v5⟩:=jM a1;obtain ⟨l1,l2⟩:=Xj _ _ _ _ a3;obtain ⟨b1,b2,_,b4⟩:=adR _ _ _ _ a3 (λ_=>rfl) (by rw [eU];simp;omega);rw [a4,a5];refine ⟨?_,⟨by omega,b2,λr hr=>(b4 r hr).1⟩,λr hr=>(b4 r hr).2.1,by omega,λr hr=>(b4 r hr).2.2⟩;unfold nR;rw [l2,v5,b1,Aa]
theorem ae0:xR []:=⟨⟨by simp,List.Pairwise.nil,by simp⟩,λr hr=>by simp at hr,by simp,by simp⟩
theorem arW {s:List UInt8} (hs:s.length<=100000000):xR (ql s).1/\((ql s).2=0->nR (ql s).1=s)/\((ql s).2≠0->(ql s).1=[]):=by
 unfold ql;by_cases h1:(kP s).2.2=0;rotate_left
 ·rw [aj h1]
  exact ⟨ae0,λh=>absurd h h1,λ_=>rfl⟩
 rw [ah (λe=>e h1)];by_cases h2:(kP s).2.1 < s.length
 ·rw [aj h2]
  exact ⟨ae0,λh=>absurd h (by decide),λ_=>rfl⟩
 rw [ah h2];obtain ⟨b1,b2⟩:=akN h1 hs;rw [nG (by omega)] at b1;exact ⟨b2,λ_=>b1,λh=>absurd rfl h⟩
theorem xR.len {t:List Row} (h:xR t):t.length<=256:=h.ok.1
theorem xR.good {t:List Row} (h:xR t):oD t:=⟨Nat.le_trans h.len (by decide),h.few,h.rows⟩
theorem aeV (a x:List UInt8) (ha:a.length<=100000000):dP (aT a.length++(a++x))=(a,(aT a.length).length+a.length,0):=by
 have h:=Gp a.length (a++x) (by omega);unfold dP;rw [h];simp only [ne_eq,not_true_eq_false,if_false];have hl:(aT a.length++(a++x)).length=(aT a.length).length+(a.length+x.length):=by simp
 rw [hl,ah (by omega),rM,SH]
theorem ah0 (e:dA) (y:List UInt8) (h:qC e=0):cZ (iU e++y)=(e,(iU e).length,0):=by
 obtain ⟨l1,l2⟩:=Uf h;have e1:iU e++y=aT e.1.length++(e.1++(aT e.2.length++(e.2++y))):=by unfold iU;simp
 have h1:=aeV e.1 (aT e.2.length++(e.2++y)) (by omega);have h2:=aeV e.2 y (by omega);have hd:(aT e.1.length++(e.1++(aT e.2.length++(e.2++y)))).drop ((aT e.1.length).length+e.1.length)=aT e.2.length++(e.2++y):=by
  rw [<- List.append_assoc,<- dQ,rM]
 have hl:(iU e).length=(aT e.1.length).length+e.1.length+((aT e.2.length).length+e.2.length):=by unfold iU;simp;omega
 unfold cZ;rw [e1,h1];simp only [ne_eq,not_true_eq_false,if_false,hd,h2];have he:qC (e.1,e.2)=0:=h;rw [he,hl];simp
theorem agy {p:Option (List UInt8)} {x:dA} {xs:List dA} (h:qB p (x::xs)=0):qC x=0/\(∀k,p=some k->xu k x.1=0)/\qB (some x.1) xs=0:=by
 unfold qB at h;by_cases h1:qC x=0;rotate_left
 ·rw [aj h1] at h;exact absurd h h1
 rw [ah (λe=>e h1)] at h;cases p with
 | none=>exact ⟨h1,(λk hk=>by cases hk),h⟩
 | some k=>
   simp only at h;by_cases c1:x.1=k
   ·rw [aj c1] at h;exact absurd h (by decide)
   rw [ah c1] at h;by_cases c2:Op.bytesLess x.1 k=true
   ·rw [aj c2] at h;exact absurd h (by decide)
   rw [ah c2] at h;refine ⟨h1,λk' hk=>?_,h⟩;cases hk;unfold xu;rw [ah c1,ah c2]
theorem aaw:∀ (d:List dA) (p:Option dA) (y:List UInt8),qB (p.map (·.1)) d=0->eY d.length p (d.flatMap iU++y)=(d,(d.flatMap iU).length,0)
 | [],p,y,_=>by simp [eY]
 | x::d,p,y,h=>by
   obtain ⟨h1,h2,h3⟩:=agy h;have he:=ah0 x (d.flatMap iU++y) h1;have hs:(x::d).flatMap iU++y=iU x++(d.flatMap iU++y):=by simp
   have ih:=aaw d (some x) y h3;have hb:xY p x=0:=by
    cases p with
    | none=>rfl
    | some k=>exact h2 k.1 rfl
   rw [jg,OC,hs,he];simp only [ne_eq,not_true_eq_false,if_false,rM,hb,ih];simp
theorem ahT (d:List dA) (y:List UInt8) (h:rY d=0):lg (iJ d++y)=(d,(iJ d).length,0):=by
 unfold rY at h;by_cases h1:d.length=0
 ·rw [aj h1] at h;exact absurd h (by decide)
 rw [ah h1] at h;by_cases h2:16 < d.length
 ·rw [aj h2] at h;exact absurd h (by decide)
 rw [ah h2] at h;have hv:=Gp d.length (d.flatMap iU++y) (by omega);have hk:iJ d++y=aT d.length++(d.flatMap iU++y):=by unfold iJ;simp
 have hl:=aaw d none y h;unfold lg;rw [hk,hv];simp only [ne_eq,not_true_eq_false,if_false,h1,h2,rM,hl];unfold iJ;simp
theorem aaA (d:List dA) (h:rY d=0):pV (iJ d)=(d,0):=by
 have:=ahT d [] h;rw [mG] at this;unfold pV;rw [this];simp
theorem agM (a s:List UInt8):a.take (common a s)++s.drop (common a s)=s:=by
 rw [aaj,Ep]
theorem anp (a t y:List UInt8) (first:Bool) (hf:first=true->a=[]) (hn:first=false->a < t) (ht:t.length<=100000000):bF (qg a t++y) a first=(t,(qg a t).length,0):=by
 have ha:(if first=true then [] else a)=a:=by
  cases first with
  | true=>rw [aj rfl,hf rfl]
  | false=>rfl
 obtain ⟨c1,c2⟩:=Oz a t;have e1:qg a t++y=aT (common a t)++(aT (t.length - common a t)++(t.drop (common a t)++y)):=by unfold qg;simp
 have v1:=Gp (common a t) (aT (t.length - common a t)++(t.drop (common a t)++y)) (by omega);have v2:=Gp (t.length - common a t) (t.drop (common a t)++y) (by omega);have hl:(qg a t).length=(aT (common a t)).length+(aT (t.length - common a t)).length+(t.length - common a t):=by unfold qg;simp;omega
 have hd:(aT (common a t)++(aT (t.length - common a t)++(t.drop (common a t)++y))).drop ((aT (common a t)).length+(aT (t.length - common a t)).length)=t.drop (common a t)++y:=by
  rw [<- List.append_assoc,<- dQ,rM]
 have hx:(t.drop (common a t)++y).take (t.length - common a t)=t.drop (common a t):=by
  rw [<- eU,SH]
 have hb:¬ (first=false/\Op.bytesLess a t=false):=by
  rintro ⟨h1,h2⟩
  have:=(Oh a t).2 (hn h1);rw [h2] at this;cases this
 unfold bF;simp only [ha];rw [e1,v1];simp only [ne_eq,not_true_eq_false,if_false,rM,v2,hd,hx,agM];rw [ah (by omega),ah (by simp;omega),ah hb,ah (by omega),hl]
theorem adQ:∀ (l:List Row) (a:List UInt8) (first:Bool) (y:List UInt8),(first=true->a=[])->(first=false->∀r∈l,a < K r)->BZ l->(∀r∈l,vI r=0/\iq r.1=true/\0<=r.2/\r.2 < 18446744073709551616)->
 fV l.length a first (jZ a l++y)=(l,(jZ a l).length,0)
 | [],a,first,y,_,_,_,_=>by simp [fV,jZ]
 | r::l,a,first,y,hf,hn,hr,hc=>by
   obtain ⟨h1,h2⟩:=wV.1 hr;obtain ⟨q1,q2,q3,q4⟩:=hc r (by simp);have hk:(K r).length<=30000:=Lh q2;rw [XB] at q1;have hs:jZ a (r::l)++y=qg a (K r)++(aT r.2.toNat++(jZ (K r) l++y)):=by simp [jZ]
   have hp:=anp a (K r) (aT r.2.toNat++(jZ (K r) l++y)) first hf (λe=>hn e r (by simp)) (by omega)
   have hv:=Gp r.2.toNat (jZ (K r) l++y) (by omega);have hd:=aaA r.1 q1.1;have ih:=adQ l (K r) false y (λe=>by cases e) (λ_=>h1) h2 λq hq=>hc q (by simp [hq]);have hdd:(qg a (K r)++(aT r.2.toNat++(jZ (K r) l++y))).drop ((qg a (K r)).length+(aT r.2.toNat).length)=jZ (K r) l++y:=by
    rw [<- List.append_assoc,<- dQ,rM]
   have hq:fO (K r) (aT r.2.toNat++(jZ (K r) l++y))=(r,(aT r.2.toNat).length,0):=by
    unfold fO;rw [hv,hd];simp only [ne_eq,not_true_eq_false,if_false];rw [ah (by omega)];have:((r.2.toNat:Nat):Int)=r.2:=by omega
    rw [this]
   rw [jg,QA,hs,hp];simp only [ne_eq,not_true_eq_false,if_false,rM,hq,hdd,ih];simp [jZ,iZ]
theorem akM (t:List Row) (y:List UInt8) (h:xR t):kP (nR t++y)=(t,(nR t).length,0):=by
 have hl:=h.len;have hv:=Gp t.length (jZ [] t++y) (by omega);have hk:nR t++y=aT t.length++(jZ [] t++y):=by unfold nR;simp
 have hp:=adQ t [] true y (λ_=>rfl) (λe=>by cases e) h.ok.2.1 λr hr=>⟨h.ok.2.2 r hr,h.few r hr,(h.rows.2 r hr).2.1,(h.rows.2 r hr).2.2⟩
 unfold kP;rw [hk,hv];simp only [ne_eq,not_true_eq_false,if_false,rM,hp];rw [ah (by omega)];unfold nR;simp
theorem arV (t:List Row) (h:xR t):ql (nR t)=(t,0):=by
 have:=akM t [] h;rw [mG] at this;unfold ql;rw [this];simp
structure One where
 deep:Int
 tag:Int
 typ:Int
 num:Int
 text:List UInt8
inductive aF where
 | mk (tag typ num:Int) (text:List UInt8) (l:List aF)
def one (x:One):GV:=.g [.i .u8 x.deep,.i .u64 x.tag,.i .i8 x.typ,.i .u64 x.num,.s x.text]
@[simp] theorem avv (x:One):(one x).cells=[.i .u8 x.deep,.i .u64 x.tag,.i .i8 x.typ,.i .u64 x.num,.s x.text]:=rfl
mutual
def nJ:aF->GV
 | .mk t y n s l=>.g [.i .u64 t,.i .i64 y,.i .u64 n,.s s,.l (aC l)]
def aC:List aF->List GV
 | []=>[]
 | f::l=>nJ f::aC l
end
theorem Uz:∀ (a b:List aF),aC (a++b)=aC a++aC b
 | [],b=>rfl
 | f::a,b=>by simp only [cu,aC,Uz a b]
theorem lq:∀ (a:List aF),(aC a).length=a.length
 | []=>rfl
 | f::a=>by simp only [aC,jg,lq a]
def BX (x:One):Prop:=0<=x.deep/\x.deep<=255/\-128<=x.typ/\x.typ<=127/\0<=x.tag/\x.tag < 18446744073709551616/\0<=x.num/\x.num < 18446744073709551616/\x.text.length<=140737488351232
def Ones (l:List One):Prop:=l.length<=140737488351232/\∀x∈l,BX x
def uU (l:List One):Bool:=l.all (λx=>decide (x.text.length<=300))&&decide (l.length<=60)
theorem abo (l:List One) (hl:l.length<=140737488351232):∀m i:Nat,i+m=l.length->TT.lim 15 [.l (l.map one),.i .i64 l.length,.i .i64 i]=some (if (l.drop i).all (λx=>decide (x.text.length<=300))=true then [.i .i64 1] else [.i .i64 0])
 | 0,i,hi=>by
   have h0:l.drop i=[]:=gG (by omega);refine ay rfl rfl ?_;have h:¬ ((i:Int) < l.length):=by omega
   simp [h,h0]
 | m+1,i,hi=>by
   have hlt:i < l.length:=by omega
   have ih:TT.lim 15 [.l (l.map one),.i .i64 l.length,.i .i64 ((i:Int)+1)]=_:=abo l hl m (i+1) (by omega);refine ay rfl rfl ?_;have h:((i:Int) < l.length):=by omega
   have hw:=wrap64 (n:=(i:Int)+1) (by omega) (by omega);have hda:(l.drop i).all (λx=>decide (x.text.length<=300))=(decide (l[i].text.length<=300)&&(l.drop (i+1)).all (λx=>decide (x.text.length<=300))):=by rw [iQ hlt,sQ]
   by_cases hf:(300:Int) < (l[i].text.length:Int)
   ·have:decide (l[i].text.length<=300)=false:=by simp;omega
    simp [-List.all_eq_true,h,hlt,hf,hda,this]
   ·have:decide (l[i].text.length<=300)=true:=by simp;omega
    rw [hda,this,Jw];simp [-List.all_eq_true,h,hlt,hw,hf,ih]
theorem aiI (l:List One) (hl:l.length<=140737488351232):TT.lim 14 [.l (l.map one)]=some [.b (uU l)]:=by
 refine aW rfl rfl ?_ rfl;have h5:TT.lim 15 [.l (l.map one),.i .i64 l.length,.i .i64 0]=_:=abo l hl l.length 0 (by omega);rw [dY] at h5;cases hc:l.all (λx=>decide (x.text.length<=300)) with
 | false=>rw [hc] at h5;simp [-List.all_eq_true,h5,uU,hc]
 | true=>
   rw [hc] at h5;simp only [if_true] at h5;have:(decide ((l.length:Int)<=60))=decide (l.length<=60):=by rw [pI];simp;omega
   simp [-List.all_eq_true,h5,uU,hc,this]
/-- What Make makes: of the first ones that are at least so deep; and the others. -/
def fA:Nat->List One->Int->List aF×List One
 | 0,l,_=>([],l)
 | _+1,[],_=>([],[])
 | n+1,x::l,deep=>
   if deep<=x.deep then
    let p:=if x.deep=255 then ([],l) else fA n l (x.deep+1)
    let q:=fA n p.2 deep
    (.mk x.tag x.typ x.num x.text p.1::q.1,q.2)
   else ([],x::l)
theorem E5:∀ (n:Nat) (l:List One) (deep:Int),(fA n l deep).1.length+(fA n l deep).2.length<=l.length/\∃k,(fA n l deep).2=l.drop k
 | 0,l,deep=>by simp only [fA];exact ⟨by simp,0,rfl⟩
 | n+1,[],deep=>by simp only [fA];exact ⟨by simp,0,rfl⟩
 | n+1,x::l,deep=>by
   simp only [fA];split
   ·by_cases hx:x.deep=255
    ·rw [aj hx]
     obtain ⟨h1,k,h2⟩:=E5 n l deep;refine ⟨by simp only [jg];omega,k+1,by simp only [h2,JB]⟩
    ·rw [ah hx]
     obtain ⟨h1,k,h2⟩:=E5 n l (x.deep+1);obtain ⟨h3,k',h4⟩:=E5 n (fA n l (x.deep+1)).2 deep;refine ⟨by simp only [jg];omega,k+k'+1, ?_⟩;simp only [h4,JB];rw [h2,pK]
   ·exact ⟨by simp,0,rfl⟩
def Ie (x:One) (l:List aF):GV:=.g [.i .u64 x.tag,.i .i64 x.typ,.i .u64 x.num,.s x.text,.l (aC l)]
theorem Pg:∀ (n:Nat) (l:List One) (deep:Int) (acc:List aF),l.length < n->acc.length+l.length<=1000000->(∀x∈l,BX x)->
 TT.lim 28 [.l (l.map one),.i .u8 deep,.l (aC acc)]=some [.i .i64 0,.l ((fA n l deep).2.map one),.l (aC (acc++(fA n l deep).1))]
 | 0,l,deep,acc,hn,_,_=>by omega
 | n+1,[],deep,acc,hn,hb,hl=>by
   refine ay rfl rfl ?_;simp [fA]
 | n+1,x::l,deep,acc,hn,hb,hl=>by
   have hx:=hl x (by simp);have hl':∀y∈l,BX y:=λy hy=>hl y (by simp [hy]);simp only [jg] at hn hb;have hw:=wrap64 (n:=x.typ) (by have:=hx.2.2.1;omega) (by have:=hx.2.2.2.1;omega);have hb2:2 * ((aC acc).length+1) * 64<=281474976710656:=by rw [lq];omega
   have hb3:(aC acc).length<=281474976710655:=by rw [lq];omega
   have hcast:((l.length:Int)+1).toNat=l.length+1:=by omega
   have h1:(1:Int)<=(l.length:Int)+1:=by omega
   have htake:List.take l.length (l.map one)=l.map one:=nG (by simp);have hall:∀y∈l.map one,y.cells.length=5:=by
    intro y hy;obtain ⟨z,_,rfl⟩:=nD.1 hy;rfl
   refine ay rfl rfl ?_;by_cases hd:deep<=x.deep
   ·by_cases Pq:x.deep=255
    ·have ih:=Pg n l deep (acc++[.mk x.tag x.typ x.num x.text []]) (by omega) (by simp;omega) hl'
     have e:fA (n+1) (x::l) deep=(.mk x.tag x.typ x.num x.text []::(fA n l deep).1,(fA n l deep).2):=by
      simp only [fA,aj hd,aj Pq]
     rw [e];rw [List.append_assoc,Uz] at ih;have e2:aC [aF.mk x.tag x.typ x.num x.text []]=[Ie x []]:=rfl;rw [e2] at ih;have hel:(Ie x []).fU 5=true:=rfl;have hfold:GV.g [.i .u64 x.tag,.i .i64 x.typ,.i .u64 x.num,.s x.text,.l []]=Ie x []:=rfl;have h0:(0:Int) < (l.length:Int)+1:=by omega
     have hd2:deep<=255:=by omega
     simp [hd2,Pq,hw,hfold,hel,hb2,hb3,hall,h0,h1,htake,hcast,ih]
    ·have hf:=E5 n l (x.deep+1)
     have ih1:=Pg n l (x.deep+1) [] (by omega) (by simp;omega) hl';have hk:TT.lim 27 [.l (l.map one),.i .u8 (x.deep+1)]=some [.l (aC (fA n l (x.deep+1)).1),.l ((fA n l (x.deep+1)).2.map one)]:=by
      refine aW rfl rfl ?_ rfl;have ih1':TT.lim 28 [.l (l.map one),.i .u8 (x.deep+1),.l []]=_:=ih1;simp [ih1']
     have ih2:=Pg n (fA n l (x.deep+1)).2 deep (acc++[.mk x.tag x.typ x.num x.text (fA n l (x.deep+1)).1]) (by omega) (by simp;omega) (λy hy=>by
      obtain ⟨_,k,e⟩:=hf;rw [e] at hy;exact hl' y (BU hy))
     have e:fA (n+1) (x::l) deep=(.mk x.tag x.typ x.num x.text (fA n l (x.deep+1)).1::(fA n (fA n l (x.deep+1)).2 deep).1,(fA n (fA n l (x.deep+1)).2 deep).2):=by
      simp only [fA,aj hd,ah Pq]
     rw [e];rw [List.append_assoc,Uz] at ih2;generalize fA n l (x.deep+1)=p at *;obtain ⟨p1,p2⟩:=p;simp only at *;have e2:aC [aF.mk x.tag x.typ x.num x.text p1]=[Ie x p1]:=rfl;rw [e2] at ih2;have hel:(Ie x p1).fU 5=true:=rfl;have hfold:GV.g [.i .u64 x.tag,.i .i64 x.typ,.i .u64 x.num,.s x.text,.l (aC p1)]=Ie x p1:=rfl;have h0:(0:Int) < (l.length:Int)+1:=by omega
     have hw8:=afs (n:=x.deep+1) (by have:=hx.1;omega) (by have:=hx.2.1;omega);simp [hd,Pq,hw,hw8,hk,hfold,hel,hb2,hb3,hall,h0,h1,htake,hcast,ih2]
   ·have e:fA (n+1) (x::l) deep=([],x::l):=by simp only [fA,ah hd]
    rw [e];have h0:(0:Int) < (l.length:Int)+1:=by omega
    simp [hd,h0]
def sG (l:List One):List aF:=(fA (l.length+1) l 0).1
theorem alg (l:List One) (hl:∀x∈l,BX x) (h60:l.length<=1000000):TT.lim 26 [.l (l.map one)]=some [.l (aC (sG l))]:=by
 have hk:TT.lim 27 [.l (l.map one),.i .u8 0]=some [.l (aC (sG l)),.l ((fA (l.length+1) l 0).2.map one)]:=by
  refine aW rfl rfl ?_ rfl;have ih1:TT.lim 28 [.l (l.map one),.i .u8 0,.l []]=_:=Pg (l.length+1) l 0 [] (by omega) (by simp;omega) hl;simp [ih1,sG]
 refine aW rfl rfl ?_ rfl;simp [hk]
structure aB where
 kind:Int
 id:Int
 min:Int
 max:Int
 chosen:Int
 flags:Int
 cost:Int
 priority:Int
 deadline:Int
 retry:Int
 epoch:Int
 base:Int
 digest:Int
 lag:Int
 code:Int
 want:Int
 remaining:Int
 allowed:Bool
 name:List UInt8
 region:List UInt8
 note:List UInt8
 d:List dA
 t:List Row
/-- A message: what it has, and its rest. -/
def bU (b:aB) (r:List GV):GV:=.g [.i .i64 b.kind,.i .u64 b.id,.i .u64 b.min,.i .u64 b.max,.i .u64 b.chosen,.i .u64 b.flags,.i .u64 b.cost,.i .u64 b.priority,.i .u64 b.deadline,.i .u64 b.retry,.i .u64 b.epoch,.i .u64 b.base,.i .u64 b.digest,.i .u64 b.lag,.i .u64 b.code,.i .u64 b.want,.i .i64 b.remaining,.b b.allowed,.s b.name,.s b.region,.s b.note,.l (b.d.map ent),.l (b.t.map row),.l r]
theorem jk (b:aB) (r:List GV):GV.g [.i .i64 b.kind,.i .u64 b.id,.i .u64 b.min,.i .u64 b.max,.i .u64 b.chosen,.i .u64 b.flags,.i .u64 b.cost,.i .u64 b.priority,.i .u64 b.deadline,.i .u64 b.retry,.i .u64 b.epoch,.i .u64 b.base,.i .u64 b.digest,.i .u64 b.lag,.i .u64 b.code,.i .u64 b.want,.i .i64 b.remaining,.b b.allowed,.s b.name,.s b.region,.s b.note,.l (b.d.map ent),.l (b.t.map row),.l r]=bU b r:=rfl
@[simp] theorem dV (b:aB) (r:List GV):(bU b r).cells=[.i .i64 b.kind,.i .u64 b.id,.i .u64 b.min,.i .u64 b.max,.i .u64 b.chosen,.i .u64 b.flags,.i .u64 b.cost,.i .u64 b.priority,.i .u64 b.deadline,.i .u64 b.retry,.i .u64 b.epoch,.i .u64 b.base,.i .u64 b.digest,.i .u64 b.lag,.i .u64 b.code,.i .u64 b.want,.i .i64 b.remaining,.b b.allowed,.s b.name,.s b.region,.s b.note,.l (b.d.map ent),.l (b.t.map row),.l r]:=rfl
structure kL (b:aB):Prop where
 kind : -9223372036854775808<=b.kind/\b.kind<=9223372036854775807
 id:0<=b.id/\b.id < 18446744073709551616
 min:0<=b.min/\b.min < 18446744073709551616
 max:0<=b.max/\b.max < 18446744073709551616
 chosen:0<=b.chosen/\b.chosen < 18446744073709551616
 flags:0<=b.flags/\b.flags < 18446744073709551616
 cost:0<=b.cost/\b.cost < 18446744073709551616
 priority:0<=b.priority/\b.priority < 18446744073709551616
 deadline:0<=b.deadline/\b.deadline < 18446744073709551616
 retry:0<=b.retry/\b.retry < 18446744073709551616
 epoch:0<=b.epoch/\b.epoch < 18446744073709551616
 base:0<=b.base/\b.base < 18446744073709551616
 digest:0<=b.digest/\b.digest < 18446744073709551616
 lag:0<=b.lag/\b.lag < 18446744073709551616
 code:0<=b.code/\b.code < 18446744073709551616
 want:0<=b.want/\b.want < 18446744073709551616
 remaining : -9223372036854775808<=b.remaining/\b.remaining<=9223372036854775807
 name:b.name.length<=140737488351232
 region:b.region.length<=140737488351232
 note:b.note.length<=140737488351232
 d:uz b.d
 t:Rows b.t
def Dh (b:aB) (l:List One):Bool:=decide (b.name.length<=600)&&(decide (b.region.length<=600)&&(decide (b.note.length<=600)&&(iq b.d&&(Df b.t&&uU l))))
theorem abm (b:aB) (l:List One) (hb:kL b) (hl:Ones l):TT.lim 2 [bU b (l.map one)]=some [.b (Dh b l)]:=by
 have h12:=abn b.d hb.d;have h13:=aiH b.t hb.t;have h8:=aiI l hl.1;have e1:(decide ((b.name.length:Int)<=600))=decide (b.name.length<=600):=by rw [pI];simp;omega
 have e2:(decide ((b.region.length:Int)<=600))=decide (b.region.length<=600):=by rw [pI];simp;omega
 have e3:(decide ((b.note.length:Int)<=600))=decide (b.note.length<=600):=by rw [pI];simp;omega
 refine aW rfl rfl ?_ rfl;unfold Dh;generalize iq b.d=c1 at *;generalize Df b.t=c2 at *;generalize uU l=c3 at *;cases f1:decide (b.name.length<=600) with
 | false=>rw [f1] at e1;simp at e1;have e1':¬ ((b.name.length:Int)<=600):=by omega
          simp [e1']
 | true=>
 rw [f1] at e1;have e1':((b.name.length:Int)<=600):=by simpa using e1
 cases f2:decide (b.region.length<=600) with
 | false=>rw [f2] at e2;simp at e2;have e2':¬ ((b.region.length:Int)<=600):=by omega
          simp [e1',e2']
 | true=>
 rw [f2] at e2;have e2':((b.region.length:Int)<=600):=by simpa using e2
 cases f3:decide (b.note.length<=600) with
 | false=>rw [f3] at e3;simp at e3;have e3':¬ ((b.note.length:Int)<=600):=by omega
          simp [e1',e2',e3']
 | true=>
 rw [f3] at e3;have e3':((b.note.length:Int)<=600):=by simpa using e3
 cases c1<;>cases c2<;>simp [e1',e2',e3',h12,h13,h8]
theorem acW (b:aB) (l:List One) (hl:Ones l) (hf:uU l=true):TT.lim 25 [bU b (l.map one)]=some [bU b (aC (sG l))]:=by
 have h8:l.length<=60:=by unfold uU at hf;rw [aJ,decide_eq_true_iff] at hf;exact hf.2
 have hm:=alg l hl.2 (by omega);refine aW rfl rfl ?_ rfl;simp [hm,jk]
theorem UU {k:IntKind} {g:GV} (h:(bJ.int k).has g):∃n,g=.i k n/\k.min<=n/\n<=k.max:=by
 simp only [bJ.has] at h;exact h
theorem abU {g:GV} (h:(bJ.int .i64).has g):∃n,g=.i .i64 n/\-9223372036854775808<=n/\n<=9223372036854775807:=by
 obtain ⟨n,rfl,h1,h2⟩:=UU h;exact ⟨n,rfl,by simpa [IntKind.min,IntKind.signed,IntKind.bits] using h1,by simpa [IntKind.max,IntKind.signed,IntKind.bits] using h2⟩
theorem ajH {g:GV} (h:bJ.bool.has g):∃b,g=.b b:=by simpa only [bJ.has] using h
theorem ah3 {g:GV} (h:(bJ.list true [.str,.str]).has g):∃l:List dA,uz l/\g=.l (l.map ent):=by
 obtain ⟨xs,rfl,h1,h2⟩:=KU h;obtain ⟨rs,h3,rfl⟩:=IJ (f:=ent) (p:=λr:dA=>r.1.length<=140737488351232/\r.2.length<=140737488351232) λx hx=>by
  obtain ⟨h4,h5⟩:=h2 x hx;cases x<;>simp [GV.scalar] at h5
  next cs=>
  simp only [TL] at h4;obtain ⟨a,r,rfl,ha,h4⟩:=iI h4;obtain ⟨c,r,rfl,hc,h4⟩:=iI h4;obtain rfl:=Iq h4;obtain ⟨u,rfl,hu⟩:=AO ha;obtain ⟨v,rfl,hv⟩:=AO hc;exact ⟨(u,v),⟨hu,hv⟩,rfl⟩
 exact ⟨rs,⟨by rw [nV] at h1;exact h1,h3⟩,rfl⟩
theorem amF {g:GV} (h:(bJ.list true [.int .u8,.int .u64,.int .i8,.int .u64,.str]).has g):∃l:List One,Ones l/\g=.l (l.map one):=by
 obtain ⟨xs,rfl,h1,h2⟩:=KU h;obtain ⟨rs,h3,rfl⟩:=IJ (f:=one) (p:=BX) λx hx=>by
  obtain ⟨h4,h5⟩:=h2 x hx;cases x<;>simp [GV.scalar] at h5
  next cs=>
  simp only [TL] at h4;obtain ⟨a,r,rfl,ha,h4⟩:=iI h4;obtain ⟨c,r,rfl,hc,h4⟩:=iI h4;obtain ⟨e,r,rfl,he,h4⟩:=iI h4;obtain ⟨f,r,rfl,hf,h4⟩:=iI h4;obtain ⟨s,r,rfl,hs,h4⟩:=iI h4;obtain rfl:=Iq h4;obtain ⟨a,rfl,a1,a2⟩:=UU ha;obtain ⟨c,rfl,c1,c2⟩:=qE hc;obtain ⟨e,rfl,e1,e2⟩:=UU he;obtain ⟨f,rfl,f1,f2⟩:=qE hf;obtain ⟨s,rfl,hs0⟩:=AO hs;have a1':0<=a:=by simpa [IntKind.min,IntKind.signed] using a1
  have a2':a<=255:=by simpa [IntKind.max,IntKind.signed,IntKind.bits] using a2
  have e1' : -128<=e:=by simpa [IntKind.min,IntKind.signed,IntKind.bits] using e1
  have e2':e<=127:=by simpa [IntKind.max,IntKind.signed,IntKind.bits] using e2
  exact ⟨⟨a,c,e,f,s⟩,⟨a1',a2',e1',e2',c1,c2,f1,f2,hs0⟩,rfl⟩
 exact ⟨rs,⟨by rw [nV] at h1;exact h1,h3⟩,rfl⟩
abbrev Xu:List bJ:=[.int .i64,.int .u64,.int .u64,.int .u64,.int .u64,.int .u64,.int .u64,.int .u64,.int .u64,.int .u64,.int .u64,.int .u64,.int .u64,.int .u64,.int .u64,.int .u64,.int .i64,.bool,.str,.str,.str,.list true [.str,.str],.list true [.list true [.str,.str],.int .u64],.list true [.int .u8,.int .u64,.int .i8,.int .u64,.str]]
theorem ad6 {cs:List GV} (h:bJ.iH Xu cs):∃b l,kL b/\Ones l/\GV.g cs=bU b (l.map one):=by
 obtain ⟨_,_,rfl,h1,g0⟩:=iI h;obtain ⟨x0,rfl,k0⟩:=abU h1;obtain ⟨_,_,rfl,h1,g1⟩:=iI g0;obtain ⟨x1,rfl,k1⟩:=qE h1;obtain ⟨_,_,rfl,h1,g2⟩:=iI g1;obtain ⟨x2,rfl,k2⟩:=qE h1;obtain ⟨_,_,rfl,h1,g3⟩:=iI g2;obtain ⟨x3,rfl,k3⟩:=qE h1;obtain ⟨_,_,rfl,h1,g4⟩:=iI g3;obtain ⟨x4,rfl,k4⟩:=qE h1;obtain ⟨_,_,rfl,h1,g5⟩:=iI g4;obtain ⟨x5,rfl,k5⟩:=qE h1;obtain ⟨_,_,rfl,h1,g6⟩:=iI g5;obtain ⟨x6,rfl,k6⟩:=qE h1;obtain ⟨_,_,rfl,h1,g7⟩:=iI g6;obtain ⟨x7,rfl,k7⟩:=qE h1;obtain ⟨_,_,rfl,h1,g8⟩:=iI g7;obtain ⟨x8,rfl,k8⟩:=qE h1;obtain ⟨_,_,rfl,h1,g9⟩:=iI g8;obtain ⟨x9,rfl,k9⟩:=qE h1;obtain ⟨_,_,rfl,h1,g10⟩:=iI g9;obtain ⟨x10,rfl,k10⟩:=qE h1;obtain ⟨_,_,rfl,h1,g11⟩:=iI g10;obtain ⟨x11,rfl,k11⟩:=qE h1;obtain ⟨_,_,rfl,h1,g12⟩:=iI g11;obtain ⟨x12,rfl,k12⟩:=qE h1;obtain ⟨_,_,rfl,h1,g13⟩:=iI g12;obtain ⟨x13,rfl,k13⟩:=qE h1;obtain ⟨_,_,rfl,h1,g14⟩:=iI g13;obtain ⟨x14,rfl,k14⟩:=qE h1;obtain ⟨_,_,rfl,h1,g15⟩:=iI g14;obtain ⟨x15,rfl,k15⟩:=qE h1;obtain ⟨_,_,rfl,h1,g16⟩:=iI g15;obtain ⟨x16,rfl,k16⟩:=abU h1;obtain ⟨_,_,rfl,h1,g17⟩:=iI g16;obtain ⟨x17,rfl⟩:=ajH h1;obtain ⟨_,_,rfl,h1,g18⟩:=iI g17;obtain ⟨x18,rfl,k18⟩:=AO h1;obtain ⟨_,_,rfl,h1,g19⟩:=iI g18;obtain ⟨x19,rfl,k19⟩:=AO h1;obtain ⟨_,_,rfl,h1,g20⟩:=iI g19;obtain ⟨x20,rfl,k20⟩:=AO h1;obtain ⟨_,_,rfl,h1,g21⟩:=iI g20;obtain ⟨x21,k21,rfl⟩:=ah3 h1;obtain ⟨_,_,rfl,h1,g22⟩:=iI g21;obtain ⟨x22,k22,rfl⟩:=aoq h1;obtain ⟨_,_,rfl,h1,g23⟩:=iI g22;obtain ⟨x23,k23,rfl⟩:=amF h1;obtain rfl:=Iq g23;exact ⟨⟨x0,x1,x2,x3,x4,x5,x6,x7,x8,x9,x10,x11,x12,x13,x14,x15,x16,x17,x18,x19,x20,x21,x22⟩,x23,⟨k0,k1,k2,k3,k4,k5,k6,k7,k8,k9,k10,k11,k12,k13,k14,k15,k16,k18,k19,k20,k21,k22⟩,k23,rfl⟩
structure bM where
 tag:Int
 use:Int
 from_:Int
 name:List UInt8
def dN (s:bM):GV:=.g [.i .u64 s.tag,.i .i64 s.use,.i .i64 s.from_,.s s.name]
@[simp] theorem avM (s:bM):(dN s).cells=[.i .u64 s.tag,.i .i64 s.use,.i .i64 s.from_,.s s.name]:=rfl
theorem aqv (s:bM):GV.g [.i .u64 s.tag,.i .i64 s.use,.i .i64 s.from_,.s s.name]=dN s:=rfl
def sp1:List bM:=[⟨1,0,1,[109,105,110]⟩,⟨2,0,1,[109,97,120]⟩,⟨3,3,1,[110,97,109,101]⟩,⟨4,3,2,[114,101,103,105,111,110]⟩,⟨5,0,3,[102,108,97,103,115]⟩]
def sp2:List bM:=[⟨1,0,1,[99,104,111,115,101,110]⟩,⟨2,3,1,[110,97,109,101]⟩,⟨3,3,2,[114,101,103,105,111,110]⟩]
def rE:List bM:=[⟨1,0,1,[105,100]⟩,⟨2,4,1,[100,101,115,99,114]⟩,⟨3,0,1,[99,111,115,116]⟩,⟨4,0,2,[112,114,105,111,114,105,116,121]⟩,⟨5,0,3,[100,101,97,100,108,105,110,101]⟩]
def zI:List bM:=[⟨1,0,1,[105,100]⟩,⟨2,1,1,[97,108,108,111,119,101,100]⟩,⟨3,2,1,[114,101,109,97,105,110,105,110,103]⟩,⟨4,0,2,[114,101,116,114,121]⟩,⟨5,3,3,[110,111,116,101]⟩]
def rF:List bM:=[⟨1,0,1,[101,112,111,99,104]⟩,⟨2,5,1,[116,97,98,108,101]⟩,⟨3,3,2,[114,101,103,105,111,110]⟩,⟨4,0,3,[100,105,103,101,115,116]⟩]
def rG:List bM:=[⟨1,0,2,[98,97,115,101]⟩,⟨2,0,2,[101,112,111,99,104]⟩,⟨3,5,2,[116,97,98,108,101]⟩,⟨4,3,2,[114,101,103,105,111,110]⟩,⟨5,0,3,[100,105,103,101,115,116]⟩]
def zJ:List bM:=[⟨1,0,1,[101,112,111,99,104]⟩,⟨2,0,3,[108,97,103]⟩]
def zK:List bM:=[⟨1,0,1,[101,112,111,99,104]⟩,⟨2,0,1,[99,111,100,101]⟩,⟨3,0,2,[119,97,110,116]⟩,⟨4,3,3,[110,111,116,101]⟩]
def mF (k:Int):List bM:=if k=1 then sp1 else if k=2 then sp2 else if k=3 then rE else if k=4 then zI else if k=5 then rF else if k=6 then rG else if k=7 then zJ else if k=8 then zK else []
def jm (k:Int):Int:=if k=1 then 1 else if k=2 then 1 else if k=3 then 1 else if k=4 then 1 else if k=5 then 1 else if k=6 then 2 else if k=7 then 1 else if k=8 then 1 else 0
def aG (k v:Int):List bM:=(mF k).filter λs=>decide (s.from_<=v)
theorem ajQ:TT.lim 35 []=some [.l (sp1.map dN)]:=by refine aW rfl rfl ?_ rfl;simp [sp1,dN]
theorem ajP:TT.lim 37 []=some [.l (sp2.map dN)]:=by refine aW rfl rfl ?_ rfl;simp [sp2,dN]
theorem agv:TT.lim 38 []=some [.l (rE.map dN)]:=by refine aW rfl rfl ?_ rfl;simp [rE,dN]
theorem agw:TT.lim 39 []=some [.l (zI.map dN)]:=by refine aW rfl rfl ?_ rfl;simp [zI,dN]
theorem aiY:TT.lim 40 []=some [.l (rF.map dN)]:=by refine aW rfl rfl ?_ rfl;simp [rF,dN]
theorem ahR:TT.lim 41 []=some [.l (rG.map dN)]:=by refine aW rfl rfl ?_ rfl;simp [rG,dN]
theorem afR:TT.lim 42 []=some [.l (zJ.map dN)]:=by refine aW rfl rfl ?_ rfl;simp [zJ,dN]
theorem aol:TT.lim 43 []=some [.l (zK.map dN)]:=by refine aW rfl rfl ?_ rfl;simp [zK,dN]
theorem PX (k:Int):TT.lim 33 [.i .i64 k]=some [.i .i64 (jm k)]:=by
 refine aW rfl rfl ?_ rfl;unfold jm;by_cases h1:k=1
 ·simp [h1]
 by_cases h2:k=2
 ·simp [h2]
 by_cases h3:k=3
 ·simp [h3]
 by_cases h4:k=4
 ·simp [h4]
 by_cases h5:k=5
 ·simp [h5]
 by_cases h6:k=6
 ·simp [h6]
 by_cases h7:k=7
 ·simp [h7]
 by_cases h8:k=8
 ·simp [h8]
 simp [h1,h2,h3,h4,h5,h6,h7,h8]
theorem Vs (v:Int) (l:List bM) (hl:l.length<=8):∀ (m i:Nat) (acc:List bM),i+m=l.length->acc.length<=i->
 TT.lim 36 [.i .i64 v,.l (acc.map dN),.l (l.map dN),.i .i64 l.length,.i .i64 i]=some [.i .i64 0,.l ((acc++(l.drop i).filter λs=>decide (s.from_<=v)).map dN)]
 | 0,i,acc,hi,ha=>by
   have h0:l.drop i=[]:=gG (by omega);refine ay rfl rfl ?_;have h:¬ ((i:Int) < l.length):=by omega
   simp [h,h0]
 | m+1,i,acc,hi,ha=>by
   have hlt:i < l.length:=by omega
   have hd:=iQ hlt;refine ay rfl rfl ?_;have h:((i:Int) < l.length):=by omega
   have hw:=wrap64 (n:=(i:Int)+1) (by omega) (by omega);have hb1:2 * (acc.length+1) * 40<=281474976710656:=by omega
   have hb2:acc.length<=281474976710655:=by omega
   have hok:(dN l[i]).fU 4=true:=rfl;have hcast:((i:Int)+1)=((i+1:Nat):Int):=by omega
   by_cases hf:l[i].from_<=v
   ·have ih:=Vs v l hl m (i+1) (acc++[l[i]]) (by omega) (by simp;omega)
    rw [<- hcast,wS] at ih;simp only [iY,wU] at ih;simp [-List.getElem_cons_drop,h,hlt,hf,hw,aqv,hb1,hb2,hok,ih,hd]
   ·have ih:=Vs v l hl m (i+1) acc (by omega) (by omega)
    rw [<- hcast] at ih;simp [-List.getElem_cons_drop,h,hlt,hf,hw,ih,hd]
theorem aqu (k:Int):(mF k).length<=8:=by
 unfold mF;repeat' split
 all_goals (first | (unfold sp1;decide) | (unfold sp2;decide) | (unfold rE;decide) | (unfold zI;decide) | (unfold rF;decide) | (unfold rG;decide) | (unfold zJ;decide) | (unfold zK;decide) | decide)
theorem Dq (v:Int) (l:List bM) (hl:l.length<=8):TT.lim 36 [.i .i64 v,.l [],.l (l.map dN),.i .i64 l.length,.i .i64 0]=some [.i .i64 0,.l ((l.filter λs=>decide (s.from_<=v)).map dN)]:=by
 have:=Vs v l hl l.length 0 [] (by omega) (by simp);simpa using this
theorem Ll (k v:Int) (h1:1<=v) (h3:v<=3) (hk:jm k<=v):TT.lim 34 [.i .i64 k,.i .i64 v]=some [.l ((aG k v).map dN)]:=by
 have a1:¬ v < 1:=by omega
 have a3:¬ 3 < v:=by omega
 unfold aG mF;unfold jm at hk;have g1:=Dq v sp1 (by decide);have g2:=Dq v sp2 (by decide);have g3:=Dq v rE (by decide);have g4:=Dq v zI (by decide);have g5:=Dq v rF (by decide);have g6:=Dq v rG (by decide);have g7:=Dq v zJ (by decide);have g8:=Dq v zK (by decide);have e1:=ajQ;have e2:=ajP;have e3:=agv;have e4:=agw;have e5:=aiY;have e6:=ahR;have e7:=afR;have e8:=aol;generalize sp1=p1 at *;generalize sp2=p2 at *;generalize rE=p3 at *;generalize zI=p4 at *;generalize rF=p5 at *;generalize rG=p6 at *;generalize zJ=p7 at *;generalize zK=p8 at *;refine aW rfl rfl ?_ rfl;by_cases k1:k=1
 ·simp [k1,a1,a3,e1,g1]
 by_cases k2:k=2
 ·simp [k2,a1,a3,e2,g2]
 by_cases k3:k=3
 ·simp [k3,a1,a3,e3,g3]
 by_cases k4:k=4
 ·simp [k4,a1,a3,e4,g4]
 by_cases k5:k=5
 ·simp [k5,a1,a3,e5,g5]
 by_cases k6:k=6
 ·have a2:¬ v < 2:=by subst k6;simpa using hk
  simp [k6,a1,a2,a3,e6,g6]
 by_cases k7:k=7
 ·simp [k7,a1,a3,e7,g7]
 by_cases k8:k=8
 ·simp [k8,a1,a3,e8,g8]
 simp [k1,k2,k3,k4,k5,k6,k7,k8]
theorem P6 (k v:Int) (h1:1<=v) (h3:v<=3):aG k v=[]↔jm k=0\/v < jm k:=by
 have hv:v=1\/v=2\/v=3:=by omega
 unfold aG mF jm;by_cases k1:k=1
 ·subst k1;rcases hv with rfl | rfl | rfl<;>decide
 by_cases k2:k=2
 ·subst k2;rcases hv with rfl | rfl | rfl<;>decide
 by_cases k3:k=3
 ·subst k3;rcases hv with rfl | rfl | rfl<;>decide
 by_cases k4:k=4
 ·subst k4;rcases hv with rfl | rfl | rfl<;>decide
 by_cases k5:k=5
 ·subst k5;rcases hv with rfl | rfl | rfl<;>decide
 by_cases k6:k=6
 ·subst k6;rcases hv with rfl | rfl | rfl<;>decide
 by_cases k7:k=7
 ·subst k7;rcases hv with rfl | rfl | rfl<;>decide
 by_cases k8:k=8
 ·subst k8;rcases hv with rfl | rfl | rfl<;>decide
 simp [k1,k2,k3,k4,k5,k6,k7,k8]
def aF.tag:aF->Int
 | .mk t _ _ _ _=>t
theorem zl:∀ (a:List aF),aC a=a.map nJ
 | []=>rfl
 | f::a=>by simp only [aC,iY,zl a]
mutual
def qj:aF->Nat
 | .mk _ _ _ _ l=>bI l+1
def bI:List aF->Nat
 | []=>0
 | f::l=>qj f+bI l+1
end
mutual
def oN:aF->Prop
 | .mk t y n s k=>(0<=t/\t < 18446744073709551616/\-128<=y/\y<=127/\0<=n/\n < 18446744073709551616/\s.length<=100000000/\k.length<=1000000)/\bY k
def bY:List aF->Prop
 | []=>True
 | f::r=>oN f/\bY r
end
theorem Dj:∀ {l:List aF},bY l->∀f∈l,oN f
 | f::l,h,g,hg=>by
   simp only [bY] at h;rcases cO.1 hg with rfl | hg
   ·exact h.1
   ·exact Dj h.2 g hg
theorem Rw:∀ {l:List aF} {f:aF},f∈l->qj f < bI l
 | g::l,f,h=>by
   simp only [bI];rcases cO.1 h with rfl | h
   ·omega
   ·have:=Rw h;omega
mutual
/-- What is wrong with fields within so many lists, behind a tag. -/
def xw (w:Nat):aF->Int
 | .mk _ y n s k=>if y=0 then (if s=[]/\k=[] then 0 else 8) else if y=1 then (if n=0/\k=[] then 0 else 8) else if y=2 then (if n=0/\s=[] then (if 8<=w then 9 else iT (w+1) 0 k) else 8) else 8
def iT (w:Nat) (ahead:Int):List aF->Int
 | []=>0
 | f::r=>if f.tag=0 then 18 else if 4294967296 < f.tag then 18 else if f.tag<=ahead then 7 else if xw w f≠0 then xw w f else iT w f.tag r
end
@[simp] theorem Ig (t y n:Int) (s:List UInt8) (k:List aF):(nJ (.mk t y n s k)).cells=[.i .u64 t,.i .i64 y,.i .u64 n,.s s,.l (aC k)]:=by simp only [nJ];rfl
theorem aiS (k:List aF):(aC k).length=0↔k=[]:=by rw [lq,List.length_eq_zero_iff]
theorem abl:∀ (N:Nat) (l:List aF),bI l < N->bY l->l.length<=1000000->∀w:Nat,w<=8->TT.lim 72 [.l (aC l),.i .i64 w]=some [.i .i64 (iT w 0 l)]
 | 0,l,h,_,_,_,_=>by omega
 | N+1,l,hN,hok,hlen,w,hw8=>by
   have loop:∀m i (ahead:Int),i+m=l.length->TT.lim 73 [.i .i64 w,.i .u64 ahead,.l (aC l),.i .i64 l.length,.i .i64 i]=some (if iT w ahead (l.drop i)=0 then [.i .i64 1] else [.i .i64 0,.i .i64 (iT w ahead (l.drop i))]):=by
    intro m;induction m with
    | zero=>
      intro i ahead hi;have h0:l.drop i=[]:=gG (by omega);refine ay rfl rfl ?_;have h:¬ ((i:Int) < l.length):=by omega
      simp [h,h0,iT]
    | succ m ih=>
      intro i ahead hi;have hlt:i < l.length:=by omega
      rw [iQ hlt];have hf:=Dj hok l[i] (jf hlt);have hs:=Rw (jf hlt);have hget:(aC l)[i]? = some (nJ l[i]):=by rw [zl,iL,bT hlt];rfl
      have hcast:((i:Int)+1)=((i+1:Nat):Int):=by omega
      have ih':=λa=>ih (i+1) a (by omega);simp only [<- hcast] at ih';generalize l[i]=f at *;obtain ⟨t,y,n,s,k⟩:=f;simp only [oN] at hf;simp only [qj] at hs;have hwr:=wrap64 (n:=(i:Int)+1) (by omega) (by omega);have Ve:=wrap64 (n:=(w:Int)+1) (by omega) (by omega);refine ay rfl rfl ?_;have h:((i:Int) < l.length):=by omega
      have hk:=λh=>abl N k (by omega) hf.2 hf.1.2.2.2.2.2.2.2 (w+1) h;simp only [BQ,Int.natCast_one] at hk;have hkl:((aC k).length=0)=(k=[]):=propext (aiS k);simp only [iT,aF.tag];by_cases h1:t=0
      ·simp [h,hget,h1]
      by_cases h2:4294967296 < t
      ·simp [h,hget,h1,h2]
      by_cases h3:t<=ahead
      ·simp [h,hget,h1,h2,h3]
      simp only [xw];by_cases h4:y=0
      ·subst h4
       by_cases h5:s=[]
       ·by_cases h6:k=[]
        ·simp [h,hget,h1,h2,h3,h5,h6,hwr,ih',aC]
        ·simp [h,hget,h1,h2,h3,h5,h6,hwr,ih',hkl]
       ·simp [h,hget,h1,h2,h3,h5]
      by_cases h7:y=1
      ·subst h7
       by_cases h5:n=0
       ·by_cases h6:k=[]
        ·simp [h,hget,h1,h2,h3,h5,h6,hwr,ih',aC]
        ·simp [h,hget,h1,h2,h3,h5,h6,hwr,ih',hkl]
       ·simp [h,hget,h1,h2,h3,h5]
      by_cases h8:y=2
      ·subst h8
       by_cases h5:n=0
       ·by_cases h6:s=[]
        ·by_cases h9:8<=w
         ·have Pv:(8:Int)<=w:=by omega
          simp [h,hget,h1,h2,h3,h5,h6,h9,Pv]
         ·have Pv:¬ (8:Int)<=w:=by omega
          have hk:=hk (by omega);by_cases h10:iT (w+1) 0 k=0
          ·rw [h10] at hk
           simp [h,hget,h1,h2,h3,h5,h6,h9,Pv,Ve,hk,h10,hwr,ih',aF.tag]
          ·simp [h,hget,h1,h2,h3,h5,h6,h9,Pv,Ve,hk,h10,hwr,ih',aF.tag]
        ·simp [h,hget,h1,h2,h3,h5,h6]
       ·simp [h,hget,h1,h2,h3,h5]
      simp [h,hget,h1,h2,h3,h4,h7,h8]
   have h0:=loop l.length 0 0 (by omega);rw [dY] at h0;refine aW rfl rfl ?_ rfl;have hl2:=lq l;by_cases hc:iT w 0 l=0
   ·rw [aj hc] at h0
    have h0':TT.lim 73 [.i .i64 w,.i .u64 0,.l (aC l),.i .i64 (aC l).length,.i .i64 0]=some [.i .i64 1]:=by rw [hl2];exact h0
    simp [h0',hc]
   ·rw [ah hc] at h0
    have h0':TT.lim 73 [.i .i64 w,.i .u64 0,.l (aC l),.i .i64 (aC l).length,.i .i64 0]=some [.i .i64 0,.i .i64 (iT w 0 l)]:=by rw [hl2];exact h0
    simp [h0',hc]
theorem OZ (l:List aF) (hok:bY l) (hlen:l.length<=1000000):TT.lim 71 [.l (aC l)]=some [.i .i64 (iT 0 0 l)]:=by
 have h:=abl (bI l+1) l (by omega) hok hlen 0 (by omega);have h':TT.lim 72 [.l (aC l),.i .i64 0]=_:=h;refine aW rfl rfl ?_ rfl;simp [h']
end K
end Go.Proofs.YtcpfjpcdcafjmaaGreatDoor
