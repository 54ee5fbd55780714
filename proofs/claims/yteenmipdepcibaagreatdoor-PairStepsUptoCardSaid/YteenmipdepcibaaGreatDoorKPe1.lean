/- What the trees compute: plain laws. -/
import Derived.Test.YteenmipdepcibaaGreatDoorKPT
import Derived.Lib.TrimUEq
import Derived.Lib.MapLaws
set_option linter.unusedSimpArgs false
set_option linter.unusedVariables false
namespace Go.Proofs.YteenmipdepcibaaGreatDoor
open Go Go.aN
set_option maxRecDepth 100000
namespace P
theorem J8:∀a b:Q0,Op.bytesLess a b=decide (a<b)
 |_,[]=>by simp[Op.bytesLess]
 |[],_::_=>by simp[Op.bytesLess]
 |a::x,b::y=>by rw[Op.bytesLess,J8 x y,wU];simp[ab9]
abbrev dW:=Q0×Q0
abbrev Row:=List dW×Int
def ent(x:dW):GV:=.g [.s x.1,.s x.2]
def row(r:Row):GV:=.g [.l (r.1.map ent),.i .u64 r.2]
@[simp] theorem aCb(x:dW):(ent x).cells=[.s x.1,.s x.2]:=rfl
@[simp] theorem awQ(r:Row):(row r).cells=[.l (r.1.map ent),.i .u64 r.2]:=rfl
@[simp] theorem aCc(x:dW):(ent x).scalar=false:=rfl
@[simp] theorem aDB(r:Row):(row r).scalar=false:=rfl
def qJ(d:List dW):Prop:=d.length<=140737488351232/\∀x∈d,x.1.length<=140737488351232/\x.2.length<=140737488351232
def Rows(l:List Row):Prop:=l.length<=140737488351232/\∀r∈l,qJ r.1/\0<=r.2/\r.2<18446744073709551616
def tJ(x:dW):Bool:=decide (x.1.length+x.2.length<=600)
theorem agx(d:List dW)(hd:qJ d):∀m i:Nat,i+m=d.length->TT.lim 14 [.l (d.map ent),.i .i64 d.length,.i .i64 i]=some (if(d.drop i).all tJ=true then[.i .i64 1]else[.i .i64 0])
 |0,i,hi=>by
  have h0:d.drop i=[]:=fZ (by omega);refine au rfl rfl ?_;have h:¬((i:Int)<d.length):=by omega
  simp[h,h0]
 |m+1,i,hi=>by
  have hlt:i<d.length:=by omega
  have ih:TT.lim 14 [.l (d.map ent),.i .i64 d.length,.i .i64 ((i:Int)+1)]=_:=agx d hd m (i+1) (by omega);refine au rfl rfl ?_;have h:((i:Int)<d.length):=by omega
  have hw:=wrap64 (n:=(i:Int)+1) (by omega) (by have:=hd.1;omega);have hx:=hd.2 d[i] (gK hlt);have hw2:=wrap64 (n:=(d[i].1.length:Int)+(d[i].2.length:Int)) (by omega) (by omega);have hda:(d.drop i).all tJ=(tJ d[i]&&(d.drop (i+1)).all tJ):=by rw[gY hlt,qK]
  by_cases hf:(600:Int)<(d[i].1.length:Int)+(d[i].2.length:Int)
  ·have:tJ d[i]=false:=by unfold tJ;simp;omega
   simp[h,hlt,hw2,hf,hda,this]
  ·have:tJ d[i]=true:=by unfold tJ;simp;omega
   rw[hda,this,D9];simp[h,hlt,hw,hw2,hf,ih]
def iF(d:List dW):Bool:=d.all tJ&&decide (d.length<=40)
theorem ap8(d:List dW)(hd:qJ d):TT.lim 13 [.l (d.map ent)]=some [.b (iF d)]:=by
 refine aP rfl rfl ?_ rfl;have h5:TT.lim 14 [.l (d.map ent),.i .i64 d.length,.i .i64 0]=_:=agx d hd d.length 0 (by omega);rw[dD]at h5;cases hc:d.all tJ with
 |false=>rw[hc]at h5;simp[h5,iF,hc]
 |true=>
  rw[hc]at h5;simp only[if_true]at h5;have:(decide ((d.length:Int)<=40))=decide (d.length<=40):=by rw[wU];simp;omega
  simp[h5,iF,hc,this]
def aY(n:Nat):Q0:=if n<128 then[UInt8.ofNat n]else UInt8.ofNat (n%128+128)::aY (n/128)
termination_by n
decreasing_by omega
theorem xP{n:Nat}(h:n<128):aY n=[UInt8.ofNat n]:=by rw[aY,aj h]
theorem BA{n:Nat}(h:¬n<128):aY n=UInt8.ofNat (n%128+128)::aY (n/128):=by rw[aY,ah h]
theorem V5{a b:Nat}(ha:a<256)(hb:b<256)(h:UInt8.ofNat a=UInt8.ofNat b):a=b:=by have:=uK UInt8.toNat h;simp at this;omega
theorem abH:∀(n m:Nat)(x y:Q0),aY n++x=aY m++y->n=m/\x=y:=by
 intro n;induction n using Nat.strongRecOn with
 |_ n ih=>
  intro m x y h;by_cases hn:n<128<;>by_cases hm:m<128
  ·rw[xP hn,xP hm]at h;simp only[bC,aV,yL]at h;exact⟨V5 (by omega) (by omega) h.1,h.2⟩
  ·rw[xP hn,BA hm]at h;simp only[bC,aV,yL]at h;have:=V5 (by omega) (by omega) h.1;omega
  ·rw[BA hn,xP hm]at h;simp only[bC,aV,yL]at h;have:=V5 (by omega) (by omega) h.1;omega
  ·rw[BA hn,BA hm]at h;simp only[bC,yL]at h;have h1:=V5 (by omega) (by omega) h.1;obtain⟨h2,h3⟩:=ih (n/128) (by omega) (m/128) x y h.2;exact⟨by omega,h3⟩
def fD(n:Nat):Nat:=(aY n).length
theorem aza{n:Int}(h0:0<=n):n.fdiv (2^(7:Nat))=n/128:=by rw[Ea _ (by decide)];rfl
theorem aiI{n:Nat}:jB .shr .u64 (n:Int) 7=some (.i .u64 ((n/128:Nat):Int)):=by
 have:((n:Int)).fdiv (2^(7:Nat))=((n/128:Nat):Int):=by rw[aza (by omega)];omega
 simp[jB,IntKind.bits];exact this
theorem Js(n:Nat):0<fD n:=by unfold fD;rw[aY];split<;>simp
theorem Jr{n:Nat}(h:¬n<128):fD n=fD (n/128)+1:=by unfold fD;rw[BA h];rfl
theorem Nb:∀(k n:Nat),0<k->n<128^k->fD n<=k
 |0,_,h,_=>by omega
 |k+1,n,_,h=>by
  by_cases hn:n<128
  ·unfold fD;rw[xP hn];simp
  ·rw[Jr hn];cases k with
   |zero=>simp at h;omega
   |succ k=>
    have:n/128<128^(k+1):=by rw[JR]at h;omega
    have:=Nb (k+1) (n/128) (by omega) this;omega
theorem FV{n:Nat}(h:n<18446744073709551616):fD n<=10:=Nb 10 n (by omega) (by omega)
theorem atb:∀(n s:Nat),s+fD n<=1000->n<18446744073709551616->TT.lim 18 [.i .u64 n,.i .i64 s]=some [.i .i64 0,.i .i64 ((s+fD n-1:Nat):Int)]:=by
 intro n;induction n using Nat.strongRecOn with
 |_ n ih=>
  intro s hs hn;refine au rfl rfl ?_;by_cases h:n<128
  ·have h':¬(128:Int)<=n:=by omega
   simp[h',fD,xP h]
  ·have h':(128:Int)<=n:=by omega
   have hv:=Jr h;have hp:=Js (n/128);have hw:=wrap64 (n:=(s:Int)+1) (by omega) (by omega);have ih':TT.lim 18 [.i .u64 ((n/128:Nat):Int),.i .i64 ((s:Int)+1)]=_:=ih (n/128) (by omega) (s+1) (by omega) (by omega);have hn':s+fD n-1=s+1+fD (n/128)-1:=by omega
   rw[hn'];have h7:jB .shr .u64 (n:Int) 7=some (.i .u64 ((n/128:Nat):Int)):=aiI;generalize((n/128:Nat):Int)=q at h7 ih';simp[h',hw,h7,ih']
theorem MK(n:Nat)(hn:n<18446744073709551616):TT.lim 17 [.i .u64 n]=some [.i .i64 (fD n)]:=by have hp:=Js n;have h9:TT.lim 18 [.i .u64 n,.i .i64 1]=_:=atb n 1 (by have:=FV hn;omega) hn;rw[show 1+fD n-1=fD n by omega]at h9;refine aP rfl rfl ?_ rfl;simp[h9]
def kP:Nat->Nat->List Nat
 |0,_=>[]
 |k+1,n=>(n%128+128)::kP k (n/128)
def jm(n:Nat):GV:=.i .u8 n
theorem ako(n:Nat)(hn:n<18446744073709551616):bQ .and .u64 (n:Int) 127=some (.i .u64 ((n%128:Nat):Int)):=by
 have h1:((BitVec.ofInt 64 (n:Int) &&& BitVec.ofInt 64 127).toNat:Nat)=n%128:=by
  rw[Wy,sJ,sJ];have e1:((n:Int)%((2^64:Nat):Int)).toNat=n:=by omega
  have e2:((127:Int)%((2^64:Nat):Int)).toNat=2^7-1:=by decide
  rw[e1,e2,acu]
 show some (GV.i .u64 (IntKind.u64.wrap (((BitVec.ofInt 64 (n:Int) &&& BitVec.ofInt 64 127).toNat:Nat):Int)))=_
 rw[h1,gJ (by omega) (by omega)]
theorem acT(n:Nat)(hn:n<256):bQ .and .u8 (n:Int) 127=some (.i .u8 ((n%128:Nat):Int)):=by
 have:∀x:Fin 256,IntKind.u8.wrap (((BitVec.ofInt IntKind.u8.bits ((x.val:Nat):Int) &&& BitVec.ofInt IntKind.u8.bits 127).toNat:Nat):Int)=((x.val%128:Nat):Int):=by decide +kernel
 show some (GV.i .u8 _)=some (GV.i .u8 _)
 exact uK (λz=>some (GV.i .u8 z)) (this ⟨n,hn⟩)
theorem auL(n:Nat)(hn:n<128):bQ .or .u8 (n:Int) 128=some (.i .u8 ((n+128:Nat):Int)):=by
 have:∀x:Fin 128,IntKind.u8.wrap (((BitVec.ofInt IntKind.u8.bits ((x.val:Nat):Int) |||BitVec.ofInt IntKind.u8.bits 128).toNat:Nat):Int)=((x.val+128:Nat):Int):=by decide +kernel
 show some (GV.i .u8 _)=some (GV.i .u8 _)
 exact uK (λz=>some (GV.i .u8 z)) (this ⟨n,hn⟩)
theorem aA5{n:Int}(h0:0<=n)(h1:n<256):IntKind.u8.wrap n=n:=by
 have:IntKind.u8.wrap n=n%256:=by simp[IntKind.wrap,IntKind.signed,IntKind.bits]
 rw[this];omega
@[simp] theorem aBX(n:Nat):(jm n).cells=[jm n]:=rfl
@[simp] theorem aBZ(n:Nat):(jm n).scalar=true:=rfl
@[simp] theorem aBY(n:Nat)(v:GV):(jm n).put 0 [v]=some v:=rfl
theorem adl:∀l:Q2,(∀x∈l,x<256)->mY (l.map jm)=some (l.map UInt8.ofNat)
 |[],_=>rfl
 |a::l,h=>by have h1:=h a (by simp);have h2:=adl l λx hx=>h x (by simp[hx]);simp only[iD,jm,mY]at h2⊢;rw[aj (by omega)];have:(λn:Nat=>GV.i .u8 (n:Int))=jm:=rfl;rw[h2];simp
theorem agn:∀(m n:Nat)(done:Q2),n<18446744073709551616->done.length+m<1000->
 TT.lim 19 [.i .u64 n,.l ((done++List.replicate m 0).map jm),.i .i64 ((done.length+m:Nat):Int),.i .i64 done.length]=some [.i .i64 0,.l ((done++kP m n).map jm)]
 |0,n,done,hn,hd=>by refine au rfl rfl ?_;simp[kP]
 |m+1,n,done,hn,hd=>by
  have hlt:(done.length:Int)<((done.length+(m+1):Nat):Int):=by omega
  have hw:=wrap64 (n:=(done.length:Int)+1) (by omega) (by omega);have hw8:=aA5 (n:=((n%128:Nat):Int)) (by omega) (by omega);have h7:jB .shr .u64 (n:Int) 7=some (.i .u64 ((n/128:Nat):Int)):=aiI;have ha:=ako n hn;have ho:=auL (n%128) (by omega);have ih:=agn m (n/128) (done++[n%128+128]) (by omega) (by simp;omega);have hlen:(done++[n%128+128]).length+m=done.length+(m+1):=by simp;omega
  rw[hlen]at ih;have hl2:(((done++[n%128+128]).length:Nat):Int)=(done.length:Int)+1:=by simp
  rw[hl2]at ih;have hset:((done++List.replicate (m+1) 0).map jm).set done.length (jm (n%128+128))=(done++[n%128+128]++List.replicate m 0).map jm:=by rw[Ns,<-WM,List.set_append_right _ _ (bV _),zQ];simp
  have hget:((done++List.replicate (m+1) 0).map jm)[done.length]? =some (jm 0):=by rw[iP,vF (bV _),zQ,Ns];rfl
  have hll:((done++List.replicate (m+1) 0).map jm).length=done.length+(m+1):=by simp
  have hv:done++kP (m+1) n=done++[n%128+128]++kP m (n/128):=by simp[kP]
  rw[hv];generalize hL:(done++List.replicate (m+1) 0).map jm=L at *;refine au rfl rfl ?_;have hix:(0:Int)<=(done.length:Int)/\(done.length:Int)<(L.length:Int):=by rw[hll];omega
  have hob:GV.i IntKind.u8 ((n%128+128:Nat):Int)=jm (n%128+128):=rfl;have YZ:L.set done.length (GV.i IntKind.u8 ((n%128+128:Nat):Int))=(done++[n%128+128]++List.replicate m 0).map jm:=hset;generalize(done++[n%128+128]++List.replicate m 0).map jm=L2 at ih YZ;generalize(done++[n%128+128]++kP m (n/128)).map jm=L3 at ih⊢;generalize((n/128:Nat):Int)=q at h7 ih;generalize((n%128+128:Nat):Int)=z at ho YZ;generalize((n%128:Nat):Int)=rr at ha hw8 ho;generalize((done.length+(m+1):Nat):Int)=N at hlt ih⊢;simp[hlt,ha,hw8,ho,hix,hget,h7,hw,YZ,ih]
theorem abI:∀m n,(kP m n).length=m
 |0,_=>rfl
 |m+1,n=>by simp[kP,abI m]
theorem abJ:∀m n,∀x∈kP m n,x<256
 |0,_,x,h=>by simp[kP]at h
 |m+1,n,x,h=>by
  simp only[kP,bG]at h;rcases h with rfl|h
  ·omega
  ·exact abJ m _ x h
theorem ajz:∀(s n:Nat),fD n=s+1->∃x,(kP (s+1) n)[s]? =some x/\((kP (s+1) n).set s (x%128)).map UInt8.ofNat=aY n
 |0,n,h=>by
  have hn:n<128:=by
   by_cases hn:n<128
   ·exact hn
   ·rw[Jr hn]at h;have:=Js (n/128);omega
  refine⟨n%128+128,by simp[kP],?_⟩;rw[xP hn];simp[kP];rw[Nv hn]
 |s+1,n,h=>by
  have hn:¬n<128:=by intro hn;unfold fD at h;rw[xP hn]at h;simp at h
  rw[Jr hn]at h;obtain⟨x,h1,h2⟩:=ajz s (n/128) (by omega);refine⟨x,by simp only[kP,uw]at h1⊢;exact h1,?_⟩;rw[BA hn,<-h2];simp[kP]
theorem xG(n:Nat)(hn:n<18446744073709551616):TT.lim 16 [.i .u64 n]=some [.s (aY n)]:=by
 have h8:=MK n hn;have hp:=Js n;have hs:=FV hn;obtain⟨s,hs1⟩:∃s,fD n=s+1:=⟨fD n-1,by omega⟩
 obtain⟨x,h1,h2⟩:=ajz s n hs1;rw[hs1]at h8;have h10:TT.lim 19 [.i .u64 n,.l ((List.replicate (s+1) 0).map jm),.i .i64 ((s+1:Nat):Int),.i .i64 0]=some [.i .i64 0,.l ((kP (s+1) n).map jm)]:=by have:=agn (s+1) n [] hn (by simp;omega);simpa using this
 have hr:(List.replicate (s+1) 0).map jm=List.replicate (s+1) (GV.i .u8 0):=by rw[List.map_replicate];rfl
 rw[hr]at h10;have hx:x<256:=abJ _ _ x (rC h1);have ha:=acT x hx;have hget:((kP (s+1) n).map jm)[s]? =some (jm x):=by rw[iP,h1];rfl
 have hset:((kP (s+1) n).map jm).set s (GV.i .u8 ((x%128:Nat):Int))=((kP (s+1) n).set s (x%128)).map jm:=(WM (f:=jm) (l:=kP (s+1) n) (i:=s) (a:=x%128)).symm;have hb:=adl ((kP (s+1) n).set s (x%128)) (λy hy=>by
  rcases acp hy with hy|rfl
  ·exact abJ _ _ y hy
  ·omega)
 rw[h2]at hb;have hlen:(((kP (s+1) n).set s (x%128)).map jm).length=s+1:=by simp[abI]
 have hlr:(List.replicate (s+1) (GV.i .u8 0)).length=s+1:=by simp
 have hl1:((kP (s+1) n).map jm).length=s+1:=by simp[abI]
 generalize((kP (s+1) n).set s (x%128)).map jm=L3 at hset hb hlen;generalize(kP (s+1) n).map jm=L2 at h10 hget hset hl1;generalize hrep:List.replicate (s+1) (GV.i .u8 0)=L1 at h10 hlr;refine aP rfl rfl ?_ rfl;have hw:=wrap64 (n:=(s:Int)) (by omega) (by omega);have hcast:((s+1:Nat):Int)=(s:Int)+1:=by omega
 rw[hcast]at h8 h10;have hc1:(0:Int)<=(s:Int)+1/\(s:Int)+1<=281474976710656/\(s:Int)+1<=1152921504606846976:=by omega
 have hc2:((s:Int)+1).toNat=s+1:=by omega
 have hlt:(s:Int)<(s:Int)+1:=by omega
 have hs2:(s:Int)+1-1=(s:Int):=by omega
 generalize hM:((x%128:Nat):Int)=M at ha hset;have hxx:jm x=.i .u8 x:=rfl;have h48:s+1<=281474976710656:=by omega
 have hg2:L2[s]'(by omega)=jm x:=by have:=hget;rw[bK (by omega)]at this;exact Gj this
 simp[h8,hc1,hc2,hrep,hlr,h10,hl1,hs2,hw,hlt,hget,hg2,ha,hset,hxx,hlen,hb,h48,GV.fC]
theorem Xw(a b:Q0):bT (a++b)=bT a++bT b:=by simp[bT]
@[simp] theorem adi(a:Q0):(bT a).length=a.length:=by simp[bT]
theorem NZ(a:Q0):(bT a).all (GV.fC 1)=true:=by rw[List.all_eq_true];intro x hx;obtain⟨b,_,rfl⟩:=qj.1 hx;rfl
theorem Xz:∀a:Q0,mY (bT a)=some a
 |[]=>rfl
 |x::a=>by have ih:=Xz a;simp only[bT,iD,mY]at ih⊢;have:=x.toNat_lt;rw[aj (by omega),ih];simp
def lN(x:dW):Q0:=aY x.1.length++x.1++aY x.2.length++x.2
def dQ(d:List dW):Q0:=aY d.length++d.flatMap lN
theorem ny{n:Nat}(h:n<18446744073709551616):(aY n).length<=10:=FV h
theorem apq(x:dW)(h1:x.1.length<=140737488351232)(h2:x.2.length<=140737488351232):TT.lim 21 [ent x]=some [.s (lN x)]:=by
 have k1:=xG x.1.length (by omega);have k2:=xG x.2.length (by omega);have l1:=ny (n:=x.1.length) (by omega);have l2:=ny (n:=x.2.length) (by omega);have w1:=gJ (n:=(x.1.length:Int)) (by omega) (by omega);have w2:=gJ (n:=(x.2.length:Int)) (by omega) (by omega);refine aP rfl rfl ?_ rfl;have c1:((aY x.1.length).length:Int)+(x.1.length:Int)<=9223372036854775807:=by omega
 have c2:((aY x.1.length).length:Int)+((x.1.length:Int)+((aY x.2.length).length:Int))<=9223372036854775807:=by omega
 have c3:((aY x.1.length).length:Int)+((x.1.length:Int)+(((aY x.2.length).length:Int)+(x.2.length:Int)))<=9223372036854775807:=by omega
 simp[w1,w2,k1,k2,c1,c2,c3,lN,Int.add_assoc]
theorem aex{x:dW}(h:tJ x=true):(lN x).length<=620:=by unfold tJ at h;simp only[decide_eq_true_iff]at h;have l1:=ny (n:=x.1.length) (by omega);have l2:=ny (n:=x.2.length) (by omega);simp only[lN,fU];omega
theorem Yr:∀d:List dW,d.all tJ=true->(d.flatMap lN).length<=620*d.length
 |[],_=>by simp
 |x::d,h=>by rw[qK,aK]at h;have:=aex h.1;have:=Yr d h.2;simp only[jC,fU,gQ];omega
theorem agp(d:List dW)(hf:d.all tJ=true)(hl:d.length<=40):∀(m i:Nat)(acc:Q0),i+m=d.length->acc.length<=10+620*i->
 TT.lim 20 [.l (d.map ent),.i .i64 d.length,.i .i64 i,.l (bT acc)]=some [.i .i64 0,.l (bT (acc++(d.drop i).flatMap lN))]
 |0,i,acc,hi,ha=>by
  have h0:d.drop i=[]:=fZ (by omega);refine au rfl rfl ?_;have h:¬((i:Int)<d.length):=by omega
  simp[h,h0]
 |m+1,i,acc,hi,ha=>by
  have hlt:i<d.length:=by omega
  have hx:=List.all_eq_true.1 hf d[i] (gK hlt);have hx1:=hx;unfold tJ at hx1;simp only[decide_eq_true_iff]at hx1;have hp:=apq d[i] (by omega) (by omega);have hpl:=aex hx;have ih:TT.lim 20 [.l (d.map ent),.i .i64 d.length,.i .i64 ((i:Int)+1),.l (bT (acc++lN d[i]))]=_:=agp d hf hl m (i+1) (acc++lN d[i]) (by omega) (by simp;omega);rw[Xw]at ih;have hd:(d.drop i).flatMap lN=lN d[i]++(d.drop (i+1)).flatMap lN:=by rw[gY hlt,jC]
  rw[hd,<-List.append_assoc];refine au rfl rfl ?_;have h:((i:Int)<d.length):=by omega
  have hw:=wrap64 (n:=(i:Int)+1) (by omega) (by omega);have hok:=NZ (lN d[i]);have hb:2*(acc.length+(lN d[i]).length)<=281474976710656/\acc.length+(lN d[i]).length<=281474976710656:=by omega
  have he:GV.g [GV.s d[i].1,GV.s d[i].2]=ent d[i]:=rfl;simp[-List.all_eq_true,h,hlt,he,hp,hok,hb,hw,ih]
theorem AO(d:List dW)(hf:iF d=true):TT.lim 15 [.l (d.map ent)]=some [.s (dQ d)]:=by
 unfold iF at hf;rw[aK,decide_eq_true_iff]at hf;have k:=xG d.length (by omega);have l1:=ny (n:=d.length) (by omega);have w1:=gJ (n:=(d.length:Int)) (by omega) (by omega);have h11:TT.lim 20 [.l (d.map ent),.i .i64 d.length,.i .i64 0,.l (bT (aY d.length))]=_:=agp d hf.1 hf.2 d.length 0 (aY d.length) (by omega) (by omega);rw[dD]at h11;have hb:2*(aY d.length).length<=281474976710656/\(aY d.length).length<=281474976710656:=by omega
 have hok:=NZ (aY d.length);have hfl:=Yr d hf.1;have hc:(aY d.length).length+(List.flatMap lN d).length<=281474976710656:=by omega
 have hbg:=Xz (aY d.length++d.flatMap lN);refine aP rfl rfl ?_ rfl;unfold dQ;generalize d.flatMap lN=Fx at *;simp[-List.all_eq_true,w1,k,hb,hok,h11,hc,hbg]
theorem apo{x y:dW}{a b:Q0}(h:lN x++a=lN y++b):x=y/\a=b:=by unfold lN at h;simp only[List.append_assoc]at h;obtain⟨h1,h2⟩:=abH _ _ _ _ h;obtain⟨h3,h4⟩:=List.append_inj h2 h1;obtain⟨h5,h6⟩:=abH _ _ _ _ h4;obtain⟨h7,h8⟩:=List.append_inj h6 h5;exact⟨Prod.ext h3 h7,h8⟩
theorem aeW:∀{d e:List dW}{a b:Q0},d.length=e.length->d.flatMap lN++a=e.flatMap lN++b->d=e/\a=b
 |[],[],a,b,_,h=>⟨rfl,by simpa using h⟩
 |x::d,y::e,a,b,hl,h=>by simp only[jC,List.append_assoc]at h;obtain⟨h1,h2⟩:=apo h;obtain⟨h3,h4⟩:=aeW (by simpa using hl) h2;exact⟨by rw[h1,h3],h4⟩
 |[],_::_,_,_,hl,_=>by simp at hl
 |_::_,[],_,_,hl,_=>by simp at hl
theorem asG{d e:List dW}{a b:Q0}(h:dQ d++a=dQ e++b):d=e/\a=b:=by unfold dQ at h;simp only[List.append_assoc]at h;obtain⟨h1,h2⟩:=abH _ _ _ _ h;exact aeW h1 h2
theorem asF{d e:List dW}(h:dQ d=dQ e):d=e:=(asG (a:=[]) (b:=[]) (by simpa using h)).1
def pq(s:Q0)(lo hi:Int):Int:=if(s.length:Int)<lo then 13 else if hi<(s.length:Int)then 13 else if Lib.validD s=true then 0 else 11
theorem ard(s:Q0)(h:s.length<=140737488351232):TT.lim 27 [.s s]=some [.b (Lib.validD s)]:=by have h21:TT.lim 28 [.s s]=some [.b (Lib.validD s)]:=yA (Ds:=Ds) (k:=28) (f:=Na) rfl (by simp only[Na];rw[aj (by omega)]);refine aP rfl rfl ?_ rfl;simp[h21]
theorem EF(s:Q0)(lo hi:Int)(h:s.length<=140737488351232):TT.lim 26 [.s s,.i .i64 lo,.i .i64 hi]=some [.i .i64 (pq s lo hi)]:=by
 have h20:=ard s h;refine aP rfl rfl ?_ rfl;unfold pq;by_cases h1:(s.length:Int)<lo
 ·simp[h1]
 ·by_cases h2:hi<(s.length:Int)
  ·simp[h1,h2]
  ·cases hv:Lib.validD s<;>rw[hv]at h20<;>simp[h1,h2,h20,hv]
def vX(x:dW):Int:=if pq x.1 1 64≠0 then pq x.1 1 64 else pq x.2 0 256
theorem aey(x:dW)(h1:x.1.length<=140737488351232)(h2:x.2.length<=140737488351232):TT.lim 40 [ent x]=some [.i .i64 (vX x)]:=by
 have k1:=EF x.1 1 64 h1;have k2:=EF x.2 0 256 h2;refine aP rfl rfl ?_ rfl;unfold vX;by_cases h:pq x.1 1 64=0
 ·simp[k1,h,k2]
 ·simp[k1,h]
def vV:Option Q0->List dW->Int
 |_,[]=>0
 |p,x::xs=>if vX x≠0 then vX x else match p with
  |none=>vV (some x.1) xs
  |some k=>if x.1=k then 14 else if Op.bytesLess x.1 k=true then 7 else vV (some x.1) xs
def tagged(r:Int):Q1:=if r=0 then[.i .i64 1]else[.i .i64 0,.i .i64 r]
def prevK(d:List dW)(i:Nat):Option Q0:=if i=0 then none else(d[i-1]?).map (·.1)
theorem agq(d:List dW)(hd:qJ d):∀m i:Nat,i+m=d.length->TT.lim 39 [.l (d.map ent),.i .i64 d.length,.i .i64 i]=some (tagged (vV (prevK d i) (d.drop i)))
 |0,i,hi=>by
  have h0:d.drop i=[]:=fZ (by omega);refine au rfl rfl ?_;have h:¬((i:Int)<d.length):=by omega
  simp[h,h0,vV,tagged]
 |m+1,i,hi=>by
  have hlt:i<d.length:=by omega
  have hx:=hd.2 d[i] (gK hlt);have hp:=aey d[i] hx.1 hx.2;have ih:TT.lim 39 [.l (d.map ent),.i .i64 d.length,.i .i64 ((i:Int)+1)]=_:=agq d hd m (i+1) (by omega);have hpk:prevK d (i+1)=some d[i].1:=by unfold prevK;rw[ah (by omega)];simp[hlt]
  rw[hpk]at ih;have hdr:d.drop i=d[i]::d.drop (i+1):=gY hlt;rw[hdr];refine au rfl rfl ?_;have h:((i:Int)<d.length):=by omega
  have hw:=wrap64 (n:=(i:Int)+1) (by omega) (by have:=hd.1;omega);have he:GV.g [GV.s d[i].1,GV.s d[i].2]=ent d[i]:=rfl;by_cases h1:vX d[i]=0;rotate_left
  ·simp[h,hlt,he,hp,h1,vV,tagged]
  by_cases h0:i=0
  ·subst h0;simp only[qZ,ab4]at hw ih;simp[h,hlt,he,hp,h1,vV,prevK,hw];simpa using ih
  ·have hi1:i-1<d.length:=by omega
   have hpk2:prevK d i=some d[i-1].1:=by unfold prevK;rw[ah h0];simp[hi1]
   have hw2:=wrap64 (n:=(i:Int)-1) (by omega) (by have:=hd.1;omega);have hi0:¬((i:Int)=0):=by omega
   have hge:(0:Int)<=(i:Int)-1:=by omega
   have ht:((i:Int)-1).toNat=i-1:=by omega
   have hnl:(1:Int)<=(i:Int):=by omega
   rw[hpk2];by_cases h2:d[i].1=d[i-1].1
   ·have h2':(d[i].1=d[i-1].1)=True:=eq_true h2;clear h2;simp[h,hlt,he,hp,h1,hi0,h0,hw2,ht,hi1,h2',vV,tagged,hnl]
   ·cases h3:Op.bytesLess d[i].1 d[i-1].1 with
    |true=>simp[h,hlt,he,hp,h1,hi0,h0,hw2,ht,hi1,h2,h3,vV,tagged,hnl]
    |false=>simp[h,hlt,he,hp,h1,hi0,h0,hw2,ht,hi1,h2,h3,vV,hw,ih,hnl]
def yZ(d:List dW):Int:=if d.length=0 then 12 else if 16<d.length then 13 else vV none d
theorem adF(d:List dW)(hd:qJ d):TT.lim 38 [.l (d.map ent)]=some [.i .i64 (yZ d)]:=by
 have h17:TT.lim 39 [.l (d.map ent),.i .i64 d.length,.i .i64 0]=_:=agq d hd d.length 0 (by omega);have hpk:prevK d 0=none:=rfl;rw[hpk,dD]at h17;have w1:=gJ (n:=(d.length:Int)) (by omega) (by have:=hd.1;omega);refine aP rfl rfl ?_ rfl;unfold yZ;by_cases h0:d.length=0
 ·have h0':(d.length:Int)=0:=by omega
  have:d=[]:=jw h0;subst this;simp[IntKind.wrap,IntKind.signed]
 ·have h0':¬(d.length:Int)=0:=by omega
  by_cases h1:16<d.length
  ·have h1':(16:Int)<(d.length:Int):=by omega
   simp[w1,h0,h1,h0',h1']
  ·have h1':¬(16:Int)<(d.length:Int):=by omega
   by_cases h2:vV none d=0
   ·simp only[tagged,h2,if_true]at h17;simp[w1,h0,h1,h0',h1',h17,h2]
   ·simp only[tagged,h2,if_false]at h17;simp[w1,h0,h1,h0',h1',h17]
def xH(r:Row):Int:=if yZ r.1≠0 then yZ r.1 else if r.2=0 then 18 else 0
theorem alb(r:Row)(hd:qJ r.1):TT.lim 37 [row r]=some [.i .i64 (xH r)]:=by
 have k:=adF r.1 hd;refine aP rfl rfl ?_ rfl;unfold xH;by_cases h:yZ r.1=0
 ·by_cases h2:r.2=0
  ·simp[k,h,h2]
  ·simp[k,h,h2]
 ·simp[k,h]
def rH(long:Bool)(r:Row):Bool:=decide (r.1.length<=18)&&iF r.1&&(!long ||decide ((dQ r.1).length<=100))
theorem agu(l:List Row)(hl:Rows l):∀m i:Nat,i+m=l.length->TT.lim 12 [.l (l.map row),.i .i64 l.length,.i .i64 i]=some (if(l.drop i).all (rH (decide (40<l.length)))=true then[.i .i64 1]else[.i .i64 0])
 |0,i,hi=>by
  have h0:l.drop i=[]:=fZ (by omega);refine au rfl rfl ?_;have h:¬((i:Int)<l.length):=by omega
  simp[h,h0]
 |m+1,i,hi=>by
  have hlt:i<l.length:=by omega
  have hr:=hl.2 l[i] (gK hlt);have ih:TT.lim 12 [.l (l.map row),.i .i64 l.length,.i .i64 ((i:Int)+1)]=_:=agu l hl m (i+1) (by omega);have hda:(l.drop i).all (rH (decide (40<l.length)))=(rH (decide (40<l.length)) l[i]&&(l.drop (i+1)).all (rH (decide (40<l.length)))):=by rw[gY hlt,qK]
  rw[hda];refine au rfl rfl ?_;have h:((i:Int)<l.length):=by omega
  have hw:=wrap64 (n:=(i:Int)+1) (by omega) (by have:=hl.1;omega);have h4:=ap8 l[i].1 hr.1;by_cases h1:18<l[i].1.length
  ·have h1':(18:Int)<(l[i].1.length:Int):=by omega
   have:rH (decide (40<l.length)) l[i]=false:=by unfold rH;simp;omega
   rw[this];simp[h,hlt,h1']
  have h1':¬(18:Int)<(l[i].1.length:Int):=by omega
  have h1d:l[i].1.length<=18:=by omega
  cases hf:iF l[i].1 with
  |false=>
   rw[hf]at h4;have:rH (decide (40<l.length)) l[i]=false:=by unfold rH;simp[hf]
   rw[this];simp[h,hlt,h1',h4]
  |true=>
   rw[hf]at h4;have k6:=AO l[i].1 hf;by_cases h2:40<l.length
   ·have h2':(40:Int)<(l.length:Int):=by omega
    by_cases h3:100<(dQ l[i].1).length
    ·have h3':(100:Int)<((dQ l[i].1).length:Int):=by omega
     have:rH (decide (40<l.length)) l[i]=false:=by unfold rH;simp[h2];omega
     rw[this];simp[h,hlt,h1',h4,h2',k6,h3']
    ·have h3':¬(100:Int)<((dQ l[i].1).length:Int):=by omega
     have:rH (decide (40<l.length)) l[i]=true:=by unfold rH;simp[h2,hf,h1d];omega
     rw[this,D9];simp[h,hlt,h1',h4,h2',k6,h3',hw,ih]
   ·have h2':¬(40:Int)<(l.length:Int):=by omega
    have:rH (decide (40<l.length)) l[i]=true:=by unfold rH;simp[h2,hf,h1d]
    rw[this,D9];simp[h,hlt,h1',h4,h2',hw,ih]
def EO(l:List Row):Bool:=l.all (rH (decide (40<l.length)))&&decide (l.length<=300)
theorem ap6(l:List Row)(hl:Rows l):TT.lim 11 [.l (l.map row)]=some [.b (EO l)]:=by
 refine aP rfl rfl ?_ rfl;have h3:TT.lim 12 [.l (l.map row),.i .i64 l.length,.i .i64 0]=_:=agu l hl l.length 0 (by omega);rw[dD]at h3;unfold EO;cases hc:l.all (rH (decide (40<l.length)))with
 |false=>rw[hc]at h3;simp[h3]
 |true=>
  rw[hc]at h3;simp only[if_true]at h3;have:(decide ((l.length:Int)<=300))=decide (l.length<=300):=by rw[wU];simp;omega
  simp[h3,this]
theorem ap5{l:List Row}(h:EO l=true):∀r∈l,iF r.1=true:=by unfold EO at h;rw[aK]at h;intro r hr;have:=List.all_eq_true.1 h.1 r hr;unfold rH at this;simp only[aK]at this;exact this.1.2
theorem EG(d:List dW)(h:d.length<=40):TT.lim 43 [.l (d.map ent)]=some [.l (d.map ent)]:=by
 refine yA (Ds:=Ds) (k:=43) (f:=qy 32 2) rfl ?_;have hall:(d.map ent).all (GV.fC 2)=true:=by rw[List.all_eq_true];intro x hx;obtain⟨r,_,rfl⟩:=qj.1 hx;rfl
 simp only[qy];rw[aj ⟨by rw[fE];omega,hall⟩]
abbrev K(r:Row):Q0:=dQ r.1
def pF(k:Q0):List Row->Nat
 |[]=>0
 |r::rs=>if Op.bytesLess (K r) k=true then pF k rs+1 else 0
theorem aek(k:Q0):∀t:List Row,t.drop (pF k t)=t.dropWhile λr=>Op.bytesLess (K r) k
 |[]=>rfl
 |r::rs=>by
  unfold pF;cases h:Op.bytesLess (K r) k with
  |true=>simp[h,aek k rs]
  |false=>simp[h]
theorem acO(k:Q0):∀t:List Row,pF k t<=t.length
 |[]=>by simp[pF]
 |r::rs=>by unfold pF;have:=acO k rs;split<;>simp;omega
def Pq(t:List Row)(i:Nat)(k:GV)(b n j dd nn:GV):Q1:=match t[i]? with
 |some r=>[.i .i64 0,.i .i64 i,row r,.l (r.1.map ent),.s (dQ r.1)]
 |none=>[.i .i64 1,.i .i64 i]
theorem ags(t:List Row)(ht:t.length<=256)(hf:∀r∈t,iF r.1=true)(k:Q0)(b n j dd nn:GV):∀m i:Nat,i+m=t.length->
 TT.lim 49 [.l (t.map row),.i .i64 i,.s k,b,n,j,dd,nn]=some (Pq t (i+pF k (t.drop i)) (.s k) b n j dd nn)
 |0,i,hi=>by
  have h0:t.drop i=[]:=fZ (by omega);have h1:t[i]? =none:=vG (by omega);refine au rfl rfl ?_;have h:¬((i:Int)<t.length):=by omega
  simp[h,h0,pF,Pq,h1]
 |m+1,i,hi=>by
  have hlt:i<t.length:=by omega
  have ih:TT.lim 49 [.l (t.map row),.i .i64 ((i:Int)+1),.s k,b,n,j,dd,nn]=_:=ags t ht hf k b n j dd nn m (i+1) (by omega);have k6:=AO t[i].1 (hf _ (gK hlt));have hd:pF k (t.drop i)=if Op.bytesLess (K t[i]) k=true then pF k (t.drop (i+1))+1 else 0:=by rw[gY hlt];rfl
  refine au rfl rfl ?_;have h:((i:Int)<t.length):=by omega
  have hw:=wrap64 (n:=(i:Int)+1) (by omega) (by omega);rw[hd];cases hb:Op.bytesLess (K t[i]) k with
  |true=>have hb':Op.bytesLess (dQ t[i].1) k=true:=hb;rw[aj rfl,show i+(pF k (t.drop (i+1))+1)=i+1+pF k (t.drop (i+1)) by omega];simp[h,hlt,k6,hb',hw,ih]
  |false=>have hb':Op.bytesLess (dQ t[i].1) k=false:=hb;have h1:t[i]? =some t[i]:=bK hlt;rw[ah (by simp),nC];simp[h,hlt,k6,hb',Pq]
def mX:List Row->List Row->Bool
 |_,[]=>true
 |t,r::rs=>match t.drop (pF (K r) t)with
  |[]=>false
  |s::t'=>decide (K s=K r)&&decide (r.2<=s.2)&&mX (s::t') rs
theorem agr(t b:List Row)(ht:t.length<=256)(hb:b.length<=256)(hf:∀r∈t,iF r.1=true)(hg:∀r∈b,iF r.1=true):∀m j i:Nat,j+m=b.length->i<=t.length->
 TT.lim 48 [.l (t.map row),.i .i64 i,.l (b.map row),.i .i64 b.length,.i .i64 j]=some (if mX (t.drop i) (b.drop j)=true then[.i .i64 1]else[.i .i64 0])
 |0,j,i,hj,hi=>by
  have h0:b.drop j=[]:=fZ (by omega);refine au rfl rfl ?_;have h:¬((j:Int)<b.length):=by omega
  simp[h,h0,mX]
 |m+1,j,i,hj,hi=>by
  have hlt:j<b.length:=by omega
  have k6:=AO b[j].1 (hg _ (gK hlt));have Hu:=ags t ht hf (dQ b[j].1) (.l (b.map row)) (.i .i64 b.length) (.i .i64 j) (.l (b[j].1.map ent)) (.i .u64 b[j].2) (t.length-i) i (by omega);have hal:=acO (dQ b[j].1) (t.drop i);rw[eX]at hal;have hdr:b.drop j=b[j]::b.drop (j+1):=gY hlt
  have hat:mX (t.drop i) (b.drop j)=match t.drop (i+pF (dQ b[j].1) (t.drop i))with
   |[]=>false
   |s::t'=>decide (K s=K b[j])&&decide (b[j].2<=s.2)&&mX (s::t') (b.drop (j+1)):=by
   rw[hdr];simp only[mX,sK]
  rw[hat];generalize hi':i+pF (dQ b[j].1) (t.drop i)=i' at Hu⊢;have hi2:i'<=t.length:=by omega
  refine au rfl rfl ?_;have h:((j:Int)<b.length):=by omega
  have hw:=wrap64 (n:=(j:Int)+1) (by omega) (by omega);by_cases hlt2:i'<t.length
  ·have hne:¬((i':Int)=(t.length:Int)):=by omega
   have h1:t[i']? =some t[i']:=bK hlt2;have hd2:t.drop i'=t[i']::t.drop (i'+1):=gY hlt2;have k7:=AO t[i'].1 (hf _ (gK hlt2));have ih:TT.lim 48 [.l (t.map row),.i .i64 i',.l (b.map row),.i .i64 b.length,.i .i64 ((j:Int)+1)]=_:=agr t b ht hb hf hg m (j+1) i' (by omega) hi2;simp only[Pq,h1]at Hu;rw[hd2];rw[hd2]at ih;by_cases h2:dQ t[i'].1=dQ b[j].1
   ·have h2':(dQ t[i'].1=dQ b[j].1)=True:=eq_true h2;clear h2;by_cases h3:t[i'].2<b[j].2
    ·have h3':¬b[j].2<=t[i'].2:=by omega
     simp[h,hlt,k6,Hu,hne,hlt2,k7,h2',h3,h3']
    ·have h3':b[j].2<=t[i'].2:=by omega
     simp[h,hlt,k6,Hu,hne,hlt2,k7,h2',h3,h3',hw,ih]
   ·simp[h,hlt,k6,Hu,hne,hlt2,k7,h2]
  ·have he:(i':Int)=(t.length:Int):=by omega
   have h1:t[i']? =none:=vG (by omega);have hd2:t.drop i'=[]:=fZ (by omega);simp only[Pq,h1]at Hu;rw[hd2];simp[h,hlt,k6,Hu,he]
theorem acZ(t b:List Row)(ht:t.length<=256)(hb:b.length<=256)(hf:∀r∈t,iF r.1=true)(hg:∀r∈b,iF r.1=true):TT.lim 47 [.l (t.map row),.l (b.map row)]=some [.b (mX t b)]:=by have TB:TT.lim 48 [.l (t.map row),.i .i64 0,.l (b.map row),.i .i64 b.length,.i .i64 0]=_:=agr t b ht hb hf hg b.length 0 0 (by omega) (by omega);rw[dD,dD]at TB;refine aP rfl rfl ?_ rfl;cases ha:mX t b<;>rw[ha]at TB<;>simp at TB<;>simp[TB]
theorem apt(x y:dW):lQ [1,1] [.s x.1,.s x.2] [.s y.1,.s y.2]=some (decide (x=y)):=by simp only[lQ,gI,Qs];congr 1;rw[wU];simp[Prod.ext_iff]
theorem agv(d e:List dW)(hl:d.length=e.length)(hb:d.length<=140737488351232):∀m i:Nat,i+m=d.length->
 TT.lim 223 [.l (d.map ent),.l (e.map ent),.i .i64 d.length,.i .i64 i]=some (if d.drop i=e.drop i then[.i .i64 1]else[.i .i64 0])
 |0,i,hi=>by
  have h0:d.drop i=[]:=fZ (by omega);have h1:e.drop i=[]:=fZ (by omega);refine au rfl rfl ?_;have h:¬((i:Int)<d.length):=by omega
  simp[h,h0,h1]
 |m+1,i,hi=>by
  have hlt:i<d.length:=by omega
  have hlt2:i<e.length:=by omega
  have ih:TT.lim 223 [.l (d.map ent),.l (e.map ent),.i .i64 d.length,.i .i64 ((i:Int)+1)]=_:=agv d e hl hb m (i+1) (by omega);have hd:(d.drop i=e.drop i)↔(d[i]=e[i]/\d.drop (i+1)=e.drop (i+1)):=by rw[gY hlt,gY hlt2,yL]
  have hq:=apt d[i] e[i];refine au rfl rfl ?_;have h:((i:Int)<d.length):=by omega
  have hw:=wrap64 (n:=(i:Int)+1) (by omega) (by omega);by_cases h1:d[i]=e[i]
  ·have h2:(d.drop i=e.drop i)↔(d.drop (i+1)=e.drop (i+1)):=by rw[hd];simp[h1]
   have hq':lQ [1,1] [.s d[i].1,.s d[i].2] [.s e[i].1,.s e[i].2]=some true:=by rw[hq];simp[h1]
   simp only[h2];simp[h,hlt,hlt2,hq',hw,ih]
  ·have h2:¬(d.drop i=e.drop i):=by rw[hd];simp[h1]
   have hq':lQ [1,1] [.s d[i].1,.s d[i].2] [.s e[i].1,.s e[i].2]=some false:=by rw[hq];simp[h1]
   rw[ah h2];simp[h,hlt,hlt2,hq']
theorem aeK(d e:List dW)(hb:d.length<=140737488351232)(hb2:e.length<=140737488351232):TT.lim 222 [.l (d.map ent),.l (e.map ent)]=some [.b (decide (d=e))]:=by
 refine aP rfl rfl ?_ rfl;by_cases hl:d.length=e.length
 ·have hl':(d.length:Int)=(e.length:Int):=by omega
  have h32:TT.lim 223 [.l (d.map ent),.l (e.map ent),.i .i64 d.length,.i .i64 0]=_:=agv d e hl hb d.length 0 (by omega);rw[dD,dD]at h32;by_cases h:d=e
  ·rw[aj h]at h32;have h':(d=e)=True:=eq_true h;clear h;rw[hl']at h32;simp[hl',h32,h']
  ·rw[ah h]at h32;rw[hl']at h32;simp[hl',h32,h]
 ·have hl':¬(d.length:Int)=(e.length:Int):=by omega
  have h:¬d=e:=λh=>hl (by rw[h]);simp[hl',hl,h]
theorem awP(r s:Row)(hb:r.1.length<=140737488351232)(hb2:s.1.length<=140737488351232):TT.lim 227 [row r,row s]=some [.b (decide (r=s))]:=by
 have k:=aeK r.1 s.1 hb hb2;refine aP rfl rfl ?_ rfl;by_cases h:r.2=s.2
 ·have:decide (r=s)=decide (r.1=s.1):=by rw[wU];simp[Prod.ext_iff,h]
  rw[this];simp[h,k]
 ·have:decide (r=s)=false:=by rw[decide_eq_false_iff_not];intro e;exact h (by rw[e])
  rw[this];simp[h]
theorem agt(a b:List Row)(hl:a.length=b.length)(hb:a.length<=140737488351232)(h1:∀r∈a,r.1.length<=140737488351232)(h2:∀r∈b,r.1.length<=140737488351232):∀m i:Nat,i+m=a.length->
 TT.lim 226 [.l (b.map row),.l (a.map row),.i .i64 a.length,.i .i64 i]=some (if a.drop i=b.drop i then[.i .i64 1]else[.i .i64 0])
 |0,i,hi=>by
  have h0:a.drop i=[]:=fZ (by omega);have h1:b.drop i=[]:=fZ (by omega);refine au rfl rfl ?_;have h:¬((i:Int)<a.length):=by omega
  simp[h,h0,h1]
 |m+1,i,hi=>by
  have hlt:i<a.length:=by omega
  have hlt2:i<b.length:=by omega
  have ih:TT.lim 226 [.l (b.map row),.l (a.map row),.i .i64 a.length,.i .i64 ((i:Int)+1)]=_:=agt a b hl hb h1 h2 m (i+1) (by omega);have hd:(a.drop i=b.drop i)↔(a[i]=b[i]/\a.drop (i+1)=b.drop (i+1)):=by rw[gY hlt,gY hlt2,yL]
  have k:=awP a[i] b[i] (h1 _ (gK hlt)) (h2 _ (gK hlt2));have r1:GV.g [.l (a[i].1.map ent),.i .u64 a[i].2]=row a[i]:=rfl;have r2:GV.g [.l (b[i].1.map ent),.i .u64 b[i].2]=row b[i]:=rfl;refine au rfl rfl ?_;have h:((i:Int)<a.length):=by omega
  have hw:=wrap64 (n:=(i:Int)+1) (by omega) (by omega);by_cases h3:a[i]=b[i]
  ·have h4:(a.drop i=b.drop i)↔(a.drop (i+1)=b.drop (i+1)):=by rw[hd];simp[h3]
   simp only[h4];have k':TT.lim 227 [row a[i],row b[i]]=some [.b true]:=by rw[k];simp[h3]
   simp[h,hlt,hlt2,r1,r2,k',hw,ih]
  ·have h4:¬(a.drop i=b.drop i):=by rw[hd];simp[h3]
   rw[ah h4];have k':TT.lim 227 [row a[i],row b[i]]=some [.b false]:=by rw[k];simp[h3]
   simp[h,hlt,hlt2,r1,r2,k']
theorem ayS(a b:List Row)(hb:a.length<=140737488351232)(hb2:b.length<=140737488351232)(h1:∀r∈a,r.1.length<=140737488351232)(h2:∀r∈b,r.1.length<=140737488351232):TT.lim 224 [.l (a.map row),.l (b.map row)]=some [.b (decide (a=b))]:=by
 have h28:TT.lim 225 [.l (a.map row),.l (b.map row)]=some [.b (decide (a=b))]:=by
  refine aP rfl rfl ?_ rfl;by_cases hl:a.length=b.length
  ·have hl':(a.length:Int)=(b.length:Int):=by omega
   have KP:TT.lim 226 [.l (b.map row),.l (a.map row),.i .i64 a.length,.i .i64 0]=_:=agt a b hl hb h1 h2 a.length 0 (by omega);rw[dD,dD]at KP;rw[hl']at KP;by_cases h:a=b
   ·rw[aj h]at KP;have h':(a=b)=True:=eq_true h;clear h;simp[hl',KP,h']
   ·rw[ah h]at KP;simp[hl',KP,h]
  ·have hl':¬(a.length:Int)=(b.length:Int):=by omega
   have h:¬a=b:=λh=>hl (by rw[h]);simp[hl',hl,h]
 refine aP rfl rfl ?_ rfl;simp[h28]
theorem NV(a b:Q0):Op.bytesLess a b=true↔a<b:=by rw[J8];simp
def jE(l:List Row):Prop:=l.Pairwise λa b=>K a<K b
theorem NP:∀(b t:List Row),jE t->jE b->(mX t b=true↔∀r∈b,∃s∈t,K s=K r/\r.2<=s.2)
 |[],t,_,_=>by simp[mX]
 |r::rs,t,ht,hb=>by
  have hrs:=iV.1 hb;have hdw:=aek (K r) t;have htd:jE (t.drop (pF (K r) t)):=ht.sublist (acf _ _);have hsub:∀s∈t.drop (pF (K r) t),s∈t:=λs hs=>(acf _ _).subset hs;have hkeep:∀(u:List Row),(∀s∈u,s∈t.dropWhile (λx=>Op.bytesLess (K x) (K r))\/K s<K r)->True:=λ_ _=>trivial;have hin:∀s∈t,¬K s<K r->s∈t.drop (pF (K r) t):=by
   intro s hs hn;rw[hdw];clear hkeep hsub htd hdw ht;induction t with
   |nil=>simp at hs
   |cons a t ih=>
    rw[List.dropWhile_cons];split
    ·next ha=>
     rcases bG.1 hs with rfl|hs
     ·exact absurd ((NV _ _).1 ha) hn
     ·exact ih hs
    ·exact hs
  have hhead:∀s t',t.drop (pF (K r) t)=s::t'->¬K s<K r:=by intro s t' e;rw[hdw]at e;have:=List.head?_dropWhile_not (λx=>Op.bytesLess (K x) (K r)) t;rw[e]at this;simp only[WH,Option.all_some,yJ]at this;intro hlt;rw[(NV _ _).2 hlt]at this;cases this
  unfold mX;cases e:t.drop (pF (K r) t)with
  |nil=>simp only[iO,false_iff];intro h;obtain⟨s,hs,hk,_⟩:=h r (by simp);have:=hin s hs (by rw[hk];exact oC _);rw[e]at this;simp at this
  |cons s t'=>
   simp only[aK,decide_eq_true_iff];rw[e]at htd hsub hin;rw[NP rs (s::t') htd hrs.2];have hst:=iV.1 htd;constructor
   ·rintro⟨⟨h1,h2⟩,h3⟩ x hx
    rcases bG.1 hx with rfl|hx
    ·exact⟨s,hsub s (by simp),h1,h2⟩
    ·obtain⟨y,hy,h4⟩:=h3 x hx;exact⟨y,hsub y hy,h4⟩
   ·intro h;obtain⟨y,hy,hk,hn⟩:=h r (by simp);have hy2:=hin y hy (by rw[hk];exact oC _);have hys:y=s:=by
     rcases bG.1 hy2 with rfl|hy2
     ·rfl
     ·have:=hst.1 y hy2;rw[hk]at this;exact absurd this (hhead s t' e)
    subst hys;refine⟨⟨hk,hn⟩,λx hx=>?_⟩;obtain⟨z,hz,h4,h5⟩:=h x (by simp[hx]);refine⟨z,hin z hz ?_,h4,h5⟩;rw[h4];exact λhlt=>oC _ (yM hlt (hrs.1 x hx))
theorem akz{a b c:List Row}(ha:jE a)(hb:jE b)(hc:jE c)(h1:mX a b=true)(h2:mX b c=true):mX a c=true:=by rw[NP _ _ ha hb]at h1;rw[NP _ _ hb hc]at h2;rw[NP _ _ ha hc];intro r hr;obtain⟨s,hs,k1,n1⟩:=h2 r hr;obtain⟨u,hu,k2,n2⟩:=h1 s hs;exact⟨u,hu,k2.trans k1,Int.le_trans n1 n2⟩
theorem aia:∀{a b:List Row},jE a->jE b->(∀r∈a,r∈b)->(∀r∈b,r∈a)->a=b
 |[],[],_,_,_,_=>rfl
 |[],b::_,_,_,_,h=>absurd (h b (by simp)) (by simp)
 |a::_,[],_,_,h,_=>absurd (h a (by simp)) (by simp)
 |x::a,y::b,ha,hb,h1,h2=>by
  have ha':=iV.1 ha;have hb':=iV.1 hb;have hxy:x=y:=by
   rcases bG.1 (h1 x (by simp))with e|hx
   ·exact e
   ·rcases bG.1 (h2 y (by simp))with e|hy
    ·exact e.symm
    ·exact absurd (yM (hb'.1 x hx) (ha'.1 y hy)) (oC _)
  subst hxy;rw[aia ha'.2 hb'.2 (λr hr=>?_) (λr hr=>?_)]
  ·rcases bG.1 (h1 r (by simp[hr]))with e|h
   ·subst e;exact absurd (ha'.1 _ hr) (oC _)
   ·exact h
  ·rcases bG.1 (h2 r (by simp[hr]))with e|h
   ·subst e;exact absurd (hb'.1 _ hr) (oC _)
   ·exact h
theorem awN{a:List Row}(ha:jE a){r s:Row}(hr:r∈a)(hs:s∈a)(hk:K r=K s):r=s:=by
 induction a with
 |nil=>simp at hr
 |cons x a ih=>
  have ha':=iV.1 ha;rcases bG.1 hr with e1|hr1<;>rcases bG.1 hs with e2|hs1
  ·rw[e1,e2]
  ·have:=ha'.1 s hs1;rw[<-e1,hk]at this;exact absurd this (oC _)
  ·have:=ha'.1 r hr1;rw[<-e2,hk]at this;exact absurd this (oC _)
  ·exact ih ha'.2 hr1 hs1
theorem aps{cs:Q1}{r0:Q1}(h:bP.iU [.list true [.str,.str],.int .u64] cs):∃r:Row,(qJ r.1/\0<=r.2/\r.2<18446744073709551616)/\GV.g cs=row r:=by
 obtain⟨g,l,rfl,h1,h⟩:=oL h;obtain⟨n,l,rfl,h2,h⟩:=oL h;obtain rfl:=KU h;obtain⟨n,rfl,n1,n2⟩:=Hz h2;obtain⟨xs,rfl,h3,h4⟩:=TL h1;obtain⟨d,hd,rfl⟩:∃d:List dW,(∀x∈d,x.1.length<=140737488351232/\x.2.length<=140737488351232)/\xs=d.map ent:=O1 λx hx=>by
  obtain⟨k1,k2⟩:=h4 x hx;cases x<;>simp[GV.scalar]at k2
  obtain⟨a,l,e1,a1,k1⟩:=oL k1;obtain⟨b,l,rfl,b1,k1⟩:=oL k1;obtain rfl:=KU k1;obtain⟨s,rfl,s1⟩:=afw a1;obtain⟨u,rfl,u1⟩:=afw b1;simp only[ak9]at e1;subst e1;exact⟨(s,u),⟨Nat.le_trans s1 (by decide),jD u1 (by decide)⟩,rfl⟩
 exact⟨(d,n),⟨⟨by have:=jD h3 (by decide:reachBytes<=140737488351232);simpa using this,hd⟩,n1,n2⟩,rfl⟩
theorem awR{g:GV}(h:(bP.list true [.list true [.str,.str],.int .u64]).has g):∃l:List Row,Rows l/\g=.l (l.map row):=by
 obtain⟨xs,rfl,h1,h2⟩:=TL h;obtain⟨l,hl,rfl⟩:∃l:List Row,(∀r∈l,qJ r.1/\0<=r.2/\r.2<18446744073709551616)/\xs=l.map row:=O1 λx hx=>by
  obtain⟨k1,k2⟩:=h2 x hx;cases x<;>simp[GV.scalar]at k2
  obtain⟨r,hr,e⟩:=aps (r0:=[]) k1;exact⟨r,hr,e⟩
 exact⟨l,⟨by have:=jD h1 (by decide:reachBytes<=140737488351232);simpa using this,hl⟩,rfl⟩
def tq:Option Q0->List Row->Int
 |_,[]=>0
 |p,r::rs=>if xH r≠0 then xH r else match p with
  |none=>tq (some (K r)) rs
  |some k=>if K r=k then 14 else if Op.bytesLess (K r) k=true then 7 else tq (some (K r)) rs
theorem agw(t:List Row)(ht:Rows t)(hf:∀r∈t,iF r.1=true):∀(m i:Nat)(p:Q0),i+m=t.length->
 TT.lim 36 [.s p,.l (t.map row),.i .i64 t.length,.i .i64 i]=some (tagged (tq (if i=0 then none else some p) (t.drop i)))
 |0,i,p,hi=>by
  have h0:t.drop i=[]:=fZ (by omega);refine au rfl rfl ?_;have h:¬((i:Int)<t.length):=by omega
  simp[h,h0,tq,tagged]
 |m+1,i,p,hi=>by
  have hlt:i<t.length:=by omega
  have hr:=ht.2 t[i] (gK hlt);have k15:=alb t[i] hr.1;have k6:=AO t[i].1 (hf _ (gK hlt));have hrow:GV.g [.l (t[i].1.map ent),.i .u64 t[i].2]=row t[i]:=rfl;have ih:TT.lim 36 [.s (dQ t[i].1),.l (t.map row),.i .i64 t.length,.i .i64 ((i:Int)+1)]=_:=agw t ht hf m (i+1) (dQ t[i].1) (by omega);rw[ah (by omega)]at ih;rw[gY hlt];refine au rfl rfl ?_;have h:((i:Int)<t.length):=by omega
  have hw:=wrap64 (n:=(i:Int)+1) (by omega) (by have:=ht.1;omega);by_cases h1:xH t[i]=0;rotate_left
  ·simp[-List.getElem_cons_drop,h,hlt,hrow,k15,h1,tq,tagged]
  by_cases h0:i=0
  ·subst h0;simp only[qZ,ab4]at hw ih;simp[-List.getElem_cons_drop,h,hlt,hrow,k15,h1,k6,hw,tq];have hn:(0:Int)<(t.length:Int):=by omega
   simpa using ih
  ·have hi0:0<i:=by omega
   by_cases h2:dQ t[i].1=p
   ·have h2':(dQ t[i].1=p)=True:=eq_true h2;clear h2;simp[-List.getElem_cons_drop,h,hlt,hrow,k15,h1,k6,hi0,h0,h2',tq,tagged]
   ·cases h3:Op.bytesLess (dQ t[i].1) p with
    |true=>simp[-List.getElem_cons_drop,h,hlt,hrow,k15,h1,k6,hi0,h0,h2,h3,tq,tagged]
    |false=>simp[-List.getElem_cons_drop,h,hlt,hrow,k15,h1,k6,hi0,h0,h2,h3,hw,ih,tq]
def nD(t:List Row):Int:=if 256<t.length then 13 else tq none t
theorem RQ(t:List Row)(ht:Rows t)(hf:∀r∈t,iF r.1=true):TT.lim 35 [.l (t.map row)]=some [.i .i64 (nD t)]:=by
 have h38:TT.lim 36 [.s [],.l (t.map row),.i .i64 t.length,.i .i64 0]=_:=agw t ht hf t.length 0 [] (by omega);rw[aj rfl,dD]at h38;refine aP rfl rfl ?_ rfl;unfold nD;by_cases h1:256<t.length
 ·have h1':(256:Int)<(t.length:Int):=by omega
  simp[h1,h1']
 ·have h1':¬(256:Int)<(t.length:Int):=by omega
  by_cases h2:tq none t=0
  ·simp only[tagged,h2,if_true]at h38;simp[h1,h1',h38,h2]
  ·simp only[tagged,h2,if_false]at h38;simp[h1,h1',h38,h2]
theorem adI:∀{t:List Row}(p:Option Q0),jE t->(∀r∈t,xH r=0)->(∀k,p=some k->∀r∈t,k<K r)->tq p t=0
 |[],p,_,_,_=>by cases p<;>rfl
 |r::t,p,ht,hc,hp=>by
  have ht':=iV.1 ht;have ih:=adI (t:=t) (some (K r)) ht'.2 (λx hx=>hc x (by simp[hx])) (λk hk x hx=>by cases hk;exact ht'.1 x hx);unfold tq;rw[ah (by simp[hc r (by simp)])];cases p with
  |none=>exact ih
  |some k=>
   have hk:=hp k rfl r (by simp);have h1:¬K r=k:=λe=>by rw[e]at hk;exact oC _ hk
   have h2:¬Op.bytesLess (K r) k=true:=λe=>oC _ (yM hk ((NV _ _).1 e));simp only;rw[ah h1,ah h2];exact ih
theorem Rows.perm{l m:List Row}(h:l.Perm m)(hl:Rows l):Rows m:=⟨by rw[<-h.length_eq];exact hl.1,λr hr=>hl.2 r (h.mem_iff.2 hr)⟩
def cmpK(a b:Q0):Int:=if a<b then -1 else if b<a then 1 else 0
theorem adW:∀a b:Q0,Lib.compareBytes a b=cmpK a b
 |[],[]=>by simp[Lib.compareBytes,cmpK]
 |[],_::_=>by simp[Lib.compareBytes,cmpK]
 |_::_,[]=>by simp[Lib.compareBytes,cmpK]
 |x::a,y::b=>by
  unfold Lib.compareBytes;rw[adW a b];unfold cmpK;simp only[ab9];by_cases h1:x<y
  ·simp[h1]
  ·by_cases h2:y<x
   ·have hne:¬x=y:=λe=>by subst e;exact UInt8.lt_irrefl _ h2
    simp[h1,h2,hne]
   ·have he:x=y:=UInt8.le_antisymm (UInt8.not_lt.1 h2) (UInt8.not_lt.1 h1);subst he;simp[UInt8.lt_irrefl]
theorem alC(a b:Q0):XR a b=cmpK a b:=(Lib.cmp_eq _ _).trans (adW a b)
theorem alB(a b:Q0):TT.lim 60 [.s a,.s b]=some [.i .i64 (cmpK a b)]:=yA rfl (by rw[<-alC];rfl)
theorem adN(d e:List dW)(hd:iF d=true)(he:iF e=true):TT.lim 59 [.l (d.map ent),.l (e.map ent)]=some [.i .i64 (cmpK (dQ d) (dQ e))]:=by have k1:=AO d hd;have k2:=AO e he;have k3:=alB (dQ d) (dQ e);refine aP rfl rfl ?_ rfl;simp[k1,k2,k3]
theorem akg(x y:Int)(h1:0<=x)(h2:0<=y):TT.lim 219 [.i .u64 x,.i .u64 y,.i .u64 0]=some [.i .u64 ((x+y)%18446744073709551616),.i .u64 ((x+y)/18446744073709551616)]:=yA rfl (by unfold NJ;simp only;rw[aj ⟨h1,h2,by omega,by omega⟩];simp only[Int.add_zero])
def val:List Row->List UInt8->Int
 |[],_=>0
 |r::rs,k=>if K r=k then r.2 else val rs k
def Pos(t:List Row):Prop:=∀r∈t,0<r.2/\r.2<18446744073709551616
theorem Qk:∀{t:List Row}{k:Q0},(∀r∈t,K r≠k)->val t k=0
 |[],_,_=>rfl
 |r::t,k,h=>by unfold val;rw[ah (h r (by simp))];exact Qk λx hx=>h x (by simp[hx])
theorem ajv:∀{t:List Row},jE t->∀r∈t,val t (K r)=r.2
 |[],_,r,h=>by simp at h
 |x::t,ht,r,h=>by
  have ht':=iV.1 ht;unfold val;rcases bG.1 h with rfl|h
  ·rw[aj rfl]
  ·rw[ah λe=>by have:=ht'.1 r h;rw[e]at this;exact oC _ this];exact ajv ht'.2 r h
theorem abC:∀(t:List Row)(k:Q0),(∃r∈t,K r=k/\val t k=r.2)\/((∀r∈t,K r≠k)/\val t k=0)
 |[],k=>.inr ⟨by simp,rfl⟩
 |x::t,k=>by
  unfold val;by_cases h:K x=k
  ·exact .inl ⟨x,by simp,h,by rw[aj h]⟩
  ·rw[ah h];rcases abC t k with⟨r,h1,h2,h3⟩|⟨h1,h2⟩
   ·exact .inl ⟨r,by simp[h1],h2,h3⟩
   ·refine .inr ⟨λr hr=>?_,h2⟩;rcases bG.1 hr with rfl|hr
    ·exact h
    ·exact h1 r hr
theorem aAQ{t:List Row}(hp:Pos t)(k:Q0):0<=val t k/\val t k<18446744073709551616:=by
 rcases abC t k with⟨r,h1,h2,h3⟩|⟨h1,h2⟩
 ·have:=hp r h1;omega
 ·omega
theorem aAR{t:List Row}(hp:Pos t){k:Q0}(h:0<val t k):∃r∈t,K r=k/\val t k=r.2:=by
 rcases abC t k with h1|⟨h1,h2⟩
 ·exact h1
 ·omega
theorem aAP{a b:List Row}(ha:jE a)(hb:jE b)(pa:Pos a)(pb:Pos b)(h:∀k,val a k=val b k):a=b:=by
 have key:∀{a b:List Row},jE a->jE b->Pos a->Pos b->(∀k,val a k=val b k)->∀r∈a,r∈b:=by intro a b ha hb pa pb h r hr;have h1:=ajv ha r hr;have h2:=(pa r hr).1;obtain⟨s,hs,h3,h4⟩:=aAR pb (k:=K r) (by rw[<-h];omega);have:s=r:=Prod.ext (asF h3) (by rw[<-h4,<-h,h1]);rw[<-this];exact hs
 exact aia ha hb (key ha hb pa pb h) (key hb ha pb pa λk=>(h k).symm)
def gy:List Row->List Row->Option (List Row)
 |[],b=>some b
 |x::a,[]=>some (x::a)
 |x::a,y::b=>
  if K x<K y then(gy a (y::b)).map (x::·)
  else if K y<K x then(gy (x::a) b).map (y::·)
  else if x.2+y.2<18446744073709551616 then(gy a b).map ((x.1,x.2+y.2)::·)else none
termination_by a b=>a.length+b.length
def Keys(a b m:List Row):Prop:=∀r∈m,∃s,(s∈a\/s∈b)/\s.1=r.1
theorem UH:∀(a b:List Row){m:List Row},jE a->jE b->Pos a->Pos b->gy a b=some m->jE m/\(∀k,val m k=val a k+val b k)/\Keys a b m/\Pos m:=by
 intro a b;induction a,b using gy.induct with
 |case1 b=>intro m ha hb pa pb h;rw[gy]at h;cases h;exact⟨hb,λk=>by simp[val],λr hr=>⟨r,.inr hr,rfl⟩,pb⟩
 |case2 x a=>intro m ha hb pa pb h;rw[gy]at h;cases h;exact⟨ha,λk=>by simp[val],λr hr=>⟨r,.inl hr,rfl⟩,pa⟩
 |case3 x a y b hlt ih=>
  intro m ha hb pa pb h;rw[gy,aj hlt]at h;obtain⟨m',h',rfl⟩:=aZ.1 h;have ha':=iV.1 ha;have hb':=iV.1 hb;obtain⟨h1,h2,h3,h4⟩:=ih ha'.2 hb (λr hr=>pa r (by simp[hr])) pb h';have hx:∀s,s∈a\/s∈y::b->K x<K s:=by
   rintro s (hs|hs)
   ·exact ha'.1 s hs
   ·rcases bG.1 hs with rfl|hs
    ·exact hlt
    ·exact yM hlt (hb'.1 s hs)
  refine⟨List.Pairwise.cons (λr hr=>?_) h1,λk=>?_,λr hr=>?_,λr hr=>?_⟩
  ·obtain⟨s,hs,e⟩:=h3 r hr;have:=hx s hs;show K x<dQ r.1
   rw[<-e];exact this
  ·show(if K x=k then x.2 else val m' k)=(if K x=k then x.2 else val a k)+val (y::b) k
   split
   ·next e=>
    rw[Qk (t:=y::b) λr hr e2=>by have:=hx r (.inr hr);rw[e,e2]at this;exact oC _ this];omega
   ·exact h2 k
  ·rcases bG.1 hr with rfl|hr
   ·exact⟨r,.inl (by simp),rfl⟩
   ·obtain⟨s,hs,e⟩:=h3 r hr;exact⟨s,hs.imp (λh=>by simp[h]) id,e⟩
  ·rcases bG.1 hr with rfl|hr
   ·exact pa r (by simp)
   ·exact h4 r hr
 |case4 x a y b hlt hgt ih=>
  intro m ha hb pa pb h;rw[gy,ah hlt,aj hgt]at h;obtain⟨m',h',rfl⟩:=aZ.1 h;have ha':=iV.1 ha;have hb':=iV.1 hb;obtain⟨h1,h2,h3,h4⟩:=ih ha hb'.2 pa (λr hr=>pb r (by simp[hr])) h';have hx:∀s,s∈x::a\/s∈b->K y<K s:=by
   rintro s (hs|hs)
   ·rcases bG.1 hs with rfl|hs
    ·exact hgt
    ·exact yM hgt (ha'.1 s hs)
   ·exact hb'.1 s hs
  refine⟨List.Pairwise.cons (λr hr=>?_) h1,λk=>?_,λr hr=>?_,λr hr=>?_⟩
  ·obtain⟨s,hs,e⟩:=h3 r hr;have:=hx s hs;show K y<dQ r.1
   rw[<-e];exact this
  ·show(if K y=k then y.2 else val m' k)=val (x::a) k+(if K y=k then y.2 else val b k)
   split
   ·next e=>
    rw[Qk (t:=x::a) λr hr e2=>by have:=hx r (.inl hr);rw[e,e2]at this;exact oC _ this];omega
   ·exact h2 k
  ·rcases bG.1 hr with rfl|hr
   ·exact⟨r,.inr (by simp),rfl⟩
   ·obtain⟨s,hs,e⟩:=h3 r hr;exact⟨s,hs.imp id (λh=>by simp[h]),e⟩
  ·rcases bG.1 hr with rfl|hr
   ·exact pb r (by simp)
   ·exact h4 r hr
 |case5 x a y b hlt hgt hs ih=>
  intro m ha hb pa pb h;rw[gy,ah hlt,ah hgt,aj hs]at h;obtain⟨m',h',rfl⟩:=aZ.1 h;have ha':=iV.1 ha;have hb':=iV.1 hb;have he:K x=K y:=Qx (zN.1 hgt) (zN.1 hlt);obtain⟨h1,h2,h3,h4⟩:=ih ha'.2 hb'.2 (λr hr=>pa r (by simp[hr])) (λr hr=>pb r (by simp[hr])) h';have hx:∀s,s∈a\/s∈b->K x<K s:=by
   rintro s (hs|hs)
   ·exact ha'.1 s hs
   ·rw[he];exact hb'.1 s hs
  refine⟨List.Pairwise.cons (λr hr=>?_) h1,λk=>?_,λr hr=>?_,λr hr=>?_⟩
  ·obtain⟨s,hs,e⟩:=h3 r hr;have:=hx s hs;show dQ x.1<dQ r.1
   rw[<-e];exact this
  ·show(if K x=k then x.2+y.2 else val m' k)=(if K x=k then x.2 else val a k)+(if K y=k then y.2 else val b k)
   rw[he];split
   ·rfl
   ·exact h2 k
  ·rcases bG.1 hr with rfl|hr
   ·exact⟨x,.inl (by simp),rfl⟩
   ·obtain⟨s,hs,e⟩:=h3 r hr;exact⟨s,hs.imp (λh=>by simp[h]) (λh=>by simp[h]),e⟩
  ·rcases bG.1 hr with rfl|hr
   ·have q1:=pa x (by simp);have q2:=pb y (by simp);exact⟨by simp only;omega,hs⟩
   ·exact h4 r hr
 |case6 x a y b hlt hgt hs=>intro m ha hb pa pb h;rw[gy,ah hlt,ah hgt,ah hs]at h;cases h
theorem Jp{t:List Row}{k:Q0}(h:∀r∈t,k<K r):val t k=0:=Qk λr hr e=>by have:=h r hr;rw[e]at this;exact oC _ this
theorem atz:∀(a b:List Row),jE a->jE b->gy a b=none->∃k,18446744073709551616<=val a k+val b k:=by
 intro a b;induction a,b using gy.induct with
 |case1 b=>intro ha hb h;rw[gy]at h;cases h
 |case2 x a=>intro ha hb h;rw[gy]at h;cases h
 |case3 x a y b hlt ih=>
  intro ha hb h;rw[gy,aj hlt]at h;have ha':=iV.1 ha;have hb':=iV.1 hb;obtain⟨k,hk⟩:=ih ha'.2 hb (acC.1 h);refine⟨k,?_⟩;by_cases e:K x=k
  ·exfalso;subst e;rw[Jp ha'.1,Jp (t:=y::b) λr hr=>?_]at hk
   ·omega
   ·rcases bG.1 hr with rfl|hr
    ·exact hlt
    ·exact yM hlt (hb'.1 r hr)
  ·show _<=(if K x=k then x.2 else val a k)+_
   rw[ah e];exact hk
 |case4 x a y b hlt hgt ih=>
  intro ha hb h;rw[gy,ah hlt,aj hgt]at h;have ha':=iV.1 ha;have hb':=iV.1 hb;obtain⟨k,hk⟩:=ih ha hb'.2 (acC.1 h);refine⟨k,?_⟩;by_cases e:K y=k
  ·exfalso;subst e;rw[Jp hb'.1,Jp (t:=x::a) λr hr=>?_]at hk
   ·omega
   ·rcases bG.1 hr with rfl|hr
    ·exact hgt
    ·exact yM hgt (ha'.1 r hr)
  ·show _<=_+(if K y=k then y.2 else val b k)
   rw[ah e];exact hk
 |case5 x a y b hlt hgt hs ih=>
  intro ha hb h;rw[gy,ah hlt,ah hgt,aj hs]at h;have ha':=iV.1 ha;have hb':=iV.1 hb;have he:K x=K y:=Qx (zN.1 hgt) (zN.1 hlt);obtain⟨k,hk⟩:=ih ha'.2 hb'.2 (acC.1 h);refine⟨k,?_⟩;by_cases e:K x=k
  ·exfalso;subst e;rw[Jp ha'.1,Jp (t:=b) λr hr=>by rw[he];exact hb'.1 r hr]at hk;omega
  ·show _<=(if K x=k then x.2 else val a k)+(if K y=k then y.2 else val b k)
   rw[ah e,<-he,ah e];exact hk
 |case6 x a y b hlt hgt hs=>
  intro ha hb h;have he:K x=K y:=Qx (zN.1 hgt) (zN.1 hlt);refine⟨K x,?_⟩;show _<=(if K x=K x then x.2 else val a _)+(if K y=K x then y.2 else val b _)
  rw[aj rfl,aj he.symm];omega
theorem aib:∀{a b:List Row},jE a->jE b->(∀r∈a,∃s∈b,K s=K r)->a.length<=b.length
 |[],_,_,_,_=>ql _
 |_::_,[],_,_,h=>by obtain⟨s,hs,_⟩:=h _ (Qz ..);simp at hs
 |x::a,y::b,ha,hb,h=>by
  have ha':=iV.1 ha;have hb':=iV.1 hb;have hxy:K y=K x\/K y<K x:=by
   obtain⟨s,hs,e⟩:=h x (by simp);rcases bG.1 hs with rfl|hs
   ·exact .inl e
   ·right;rw[<-e];exact hb'.1 s hs
  have:=aib ha'.2 hb'.2 λr hr=>by
   obtain⟨s,hs,e⟩:=h r (by simp[hr]);rcases bG.1 hs with rfl|hs
   ·have h1:=ha'.1 r hr;rw[<-e]at h1;rcases hxy with e2|e2
    ·rw[e2]at h1;exact absurd h1 (oC _)
    ·exact absurd (yM h1 e2) (oC _)
   ·exact⟨s,hs,e⟩
  simp only[gQ];omega
theorem O6(x:GV)(l:List Row)(n:Int)(hx:x.cells.length=2)(hn:n=l.length+1):Lj 2 (some (.l (x::l.map row))) (some (.i .i64 1)) (some (.i .i64 n))=some (.l (l.map row)):=by
 subst hn;rw[lD,aj ⟨by omega,by omega,by simp,by rw[qK];simp[hx,awQ]⟩]
 ·congr 2;have h1:((l.length:Int)+1).toNat=l.length+1:=by omega
  rw[h1,jZ (by simp)];rfl
def pW(acc:List Row):Option (List Row)->List GV
 |some m=>[.i .i64 1,.l ((acc++m).map row)]
 |none=>[.i .i64 0]
theorem CQ{d:List dW}(h:iF d=true):d.length<=40:=by unfold iF at h;simp at h;omega
theorem alF{a b:Q0}(h:a<b):cmpK a b = -1:=by unfold cmpK;rw[aj h]
theorem alE{a b:Q0}(h1:¬a<b)(h:b<a):cmpK a b=1:=by unfold cmpK;rw[ah h1,aj h]
theorem alD{a b:Q0}(h1:¬a<b)(h:¬b<a):cmpK a b=0:=by unfold cmpK;rw[ah h1,ah h]
def wV(t:List Row):Prop:=∀r∈t,iF r.1=true
set_option maxHeartbeats 4000000 in
theorem ata:∀(n:Nat)(a b acc:List Row),a.length+b.length<=n->acc.length+a.length+b.length<=1000->wV a->wV b->(∀r∈a,0<=r.2/\r.2<18446744073709551616)->(∀r∈b,0<=r.2/\r.2<18446744073709551616)->
 TT.lim 218 [.l (a.map row),.l (b.map row),.l (acc.map row)]=some (pW acc (gy a b)):=by
 intro n;induction n with
 |zero=>intro a b acc hn hb fa fb va vb;obtain rfl:a=[]:=jw (by omega);obtain rfl:b=[]:=jw (by omega);rw[gy];refine au rfl rfl ?_;simp[pW]
 |succ n ih=>
  intro a b acc hn hb fa fb va vb;cases a with
  |nil=>
   cases b with
   |nil=>rw[gy];refine au rfl rfl ?_;simp[pW]
   |cons y b=>
    simp only[kT,gQ,kH]at hn hb;have ih':=ih [] b (acc++[y]) (by simp;omega) (by simp;omega) fa (λr hr=>fb r (by simp[hr])) va (λr hr=>vb r (by simp[hr]));rw[gy]at ih'⊢;simp only[pW,List.append_assoc,Nu,lX,iD,jl]at ih'⊢;have kc:=EG y.1 (CQ (fb y (by simp)));have hrow:GV.g [.l (y.1.map ent),.i .u64 y.2]=row y:=rfl;have hok:(row y).fC 2=true:=rfl;have hl:=O6 (row y) b ((b.length:Int)+1) rfl rfl;have hbb:2*(acc.length+1)*32<=281474976710656/\acc.length+1<=281474976710656:=by omega
    have hp:(0:Int)<(b.length:Int)+1:=by omega
    have hp2:¬((b.length:Int)+1=0):=by omega
    refine au rfl rfl ?_;simp[-lD,kc,hrow,hok,hl,hbb,hp,hp2,ih']
  |cons x a=>
   cases b with
   |nil=>
    simp only[kT,gQ,nC]at hn hb;have ih':=ih a [] (acc++[x]) (by simp;omega) (by simp;omega) (λr hr=>fa r (by simp[hr])) fb (λr hr=>va r (by simp[hr])) vb;have hm:gy a []=some a:=by cases a<;>rw[gy]
    rw[hm]at ih';rw[gy];simp only[pW,List.append_assoc,Nu,lX,iD,jl]at ih'⊢;have kc:=EG x.1 (CQ (fa x (by simp)));have hrow:GV.g [.l (x.1.map ent),.i .u64 x.2]=row x:=rfl;have hok:(row x).fC 2=true:=rfl;have hl:=O6 (row x) a ((a.length:Int)+1) rfl rfl;have hbb:2*(acc.length+1)*32<=281474976710656/\acc.length+1<=281474976710656:=by omega
    have hp:(0:Int)<(a.length:Int)+1:=by omega
    have hp2:¬((a.length:Int)+1=0):=by omega
    refine au rfl rfl ?_;simp[-lD,kc,hrow,hok,hl,hbb,hp,hp2,ih']
   |cons y b=>
    simp only[gQ]at hn hb;have fx:=fa x (by simp);have fy:=fb y (by simp);have Ug:=EG x.1 (CQ fx);have Uh:=EG y.1 (CQ fy);have hrx:GV.g [.l (x.1.map ent),.i .u64 x.2]=row x:=rfl;have TV:GV.g [.l (y.1.map ent),.i .u64 y.2]=row y:=rfl;have hrs:GV.g [.l (x.1.map ent),.i .u64 (x.2+y.2)]=row (x.1,x.2+y.2):=rfl;have hok:∀r:Row,(row r).fC 2=true:=λr=>rfl;have hlx:=O6 (row x) a ((a.length:Int)+1) rfl rfl;have TP:=O6 (row y) b ((b.length:Int)+1) rfl rfl;have hbb:2*(acc.length+1)*32<=281474976710656/\acc.length+1<=281474976710656:=by omega
    have hp:(0:Int)<(a.length:Int)+1:=by omega
    have hp2:¬((a.length:Int)+1=0):=by omega
    have hq:(0:Int)<(b.length:Int)+1:=by omega
    have hq2:¬((b.length:Int)+1=0):=by omega
    have wB:=adN x.1 y.1 fx fy;have Ue:=akg x.2 y.2 (va x (by simp)).1 (vb y (by simp)).1;have vx:=va x (by simp);have vy:=vb y (by simp);by_cases h1:K x<K y
    ·have ih':=ih a (y::b) (acc++[x]) (by simp;omega) (by simp;omega) (λr hr=>fa r (by simp[hr])) fb (λr hr=>va r (by simp[hr])) vb;rw[gy,aj h1];rw[alF h1]at wB;have e:pW (acc++[x]) (gy a (y::b))=pW acc ((gy a (y::b)).map (x::·)):=by cases gy a (y::b)<;>simp[pW]
     rw[e]at ih';generalize pW acc ((gy a (y::b)).map (x::·))=out at ih'⊢;simp only[lX,iD,jl]at ih';refine au rfl rfl ?_;simp[-lD,Ug,Uh,hrx,TV,hok,hlx,TP,hbb,hp,hp2,hq,hq2,wB,ih']
    by_cases h2:K y<K x
    ·have ih':=ih (x::a) b (acc++[y]) (by simp;omega) (by simp;omega) fa (λr hr=>fb r (by simp[hr])) va (λr hr=>vb r (by simp[hr]));rw[gy,ah h1,aj h2];rw[alE h1 h2]at wB;have e:pW (acc++[y]) (gy (x::a) b)=pW acc ((gy (x::a) b).map (y::·)):=by cases gy (x::a) b<;>simp[pW]
     rw[e]at ih';generalize pW acc ((gy (x::a) b).map (y::·))=out at ih'⊢;simp only[lX,iD,jl]at ih';refine au rfl rfl ?_;simp[-lD,Ug,Uh,hrx,TV,hok,hlx,TP,hbb,hp,hp2,hq,hq2,wB,ih']
    rw[gy,ah h1,ah h2];rw[alD h1 h2]at wB;by_cases h3:x.2+y.2<18446744073709551616
    ·have ih':=ih a b (acc++[(x.1,x.2+y.2)]) (by omega) (by simp;omega) (λr hr=>fa r (by simp[hr])) (λr hr=>fb r (by simp[hr])) (λr hr=>va r (by simp[hr])) (λr hr=>vb r (by simp[hr]));rw[aj h3];have e:pW (acc++[(x.1,x.2+y.2)]) (gy a b)=pW acc ((gy a b).map ((x.1,x.2+y.2)::·)):=by cases gy a b<;>simp[pW]
     rw[e]at ih';generalize pW acc ((gy a b).map ((x.1,x.2+y.2)::·))=out at ih'⊢;simp only[lX,iD,jl]at ih';rw[show(x.2+y.2)%18446744073709551616=x.2+y.2 by omega,show(x.2+y.2)/18446744073709551616=0 by omega]at Ue;refine au rfl rfl ?_;simp[-lD,Ug,Uh,hrx,TV,hrs,hok,hlx,TP,hbb,hp,hp2,hq,hq2,wB,Ue,ih']
    ·rw[ah h3];rw[show(x.2+y.2)/18446744073709551616=1 by omega]at Ue;refine au rfl rfl ?_;simp[-lD,Ug,Uh,hrx,TV,hok,hlx,TP,hbb,hp,hp2,hq,hq2,wB,Ue,pW]
def Ok(t:List Row):Prop:=t.length<=256/\jE t/\∀r∈t,xH r=0
theorem adH:∀{t:List Row}(p:Option Q0),tq p t=0->jE t/\(∀r∈t,xH r=0)/\∀k,p=some k->∀r∈t,k<K r
 |[],p,_=>⟨List.Pairwise.nil,by simp,by simp⟩
 |r::t,p,h=>by
  unfold tq at h;by_cases h1:xH r=0;rotate_left
  ·rw[aj h1]at h;exact absurd h h1
  rw[ah (by simp[h1])]at h;have main:∀(h:tq (some (K r)) t=0),jE (r::t)/\∀x∈r::t,xH x=0:=by
   intro h;obtain⟨i1,i2,i3⟩:=adH (some (K r)) h;refine⟨List.Pairwise.cons (i3 _ rfl) i1,λx hx=>?_⟩;rcases bG.1 hx with rfl|hx
   ·exact h1
   ·exact i2 x hx
  cases p with
  |none=>exact⟨(main h).1,(main h).2,by simp⟩
  |some k=>
   simp only at h;split at h
   ·cases h
   next h2=>
   split at h
   ·cases h
   next h3=>
   refine⟨(main h).1,(main h).2,?_⟩;rintro _ ⟨⟩ x hx
   have hk:k<K r:=by
    rcases List.le_iff_lt_or_eq.1 (zN.1 λe=>h3 ((NV _ _).2 e))with e|e
    ·exact e
    ·exact absurd e.symm h2
   rcases bG.1 hx with rfl|hx
   ·exact hk
   ·exact yM hk ((iV.1 (main h).1).1 x hx)
theorem vU(t:List Row):nD t=0↔Ok t:=by
 unfold nD Ok;constructor
 ·intro h;split at h
  ·cases h
  ·obtain⟨h1,h2,_⟩:=adH none h;exact⟨by omega,h1,h2⟩
 ·rintro⟨h1,h2,h3⟩
  rw[ah (by omega)];exact adI none h2 h3 (by simp)
theorem PV(r:Row):xH r=0↔yZ r.1=0/\r.2≠0:=by
 unfold xH;by_cases h:yZ r.1=0
 ·simp[h]
 ·simp[h]
structure Tb(t:List Row):Prop where
 ok:Ok t
 rows:Rows t
 few:wV t
theorem Tb.pos{t:List Row}(h:Tb t):Pos t:=λr hr=>by have h1:=((PV r).1 (h.ok.2.2 r hr)).2;have h2:=(h.rows.2 r hr).2;omega
theorem Tb.rise{t:List Row}(h:Tb t):jE t:=h.ok.2.1
theorem FQ:Tb []:=⟨⟨by simp,List.Pairwise.nil,by simp⟩,⟨by simp,by simp⟩,λr hr=>by simp at hr⟩
theorem ajb{a b m:List Row}(ha:Tb a)(hb:Tb b)(hl:m.length<=256)(hr:jE m)(hk:Keys a b m)(hp:Pos m):Tb m:=by
 have src:∀r∈m,yZ r.1=0/\qJ r.1/\iF r.1=true:=by
  intro r hr;obtain⟨s,hs,e⟩:=hk r hr;rw[<-e];rcases hs with hs|hs
  ·exact⟨((PV s).1 (ha.ok.2.2 s hs)).1,(ha.rows.2 s hs).1,ha.few s hs⟩
  ·exact⟨((PV s).1 (hb.ok.2.2 s hs)).1,(hb.rows.2 s hs).1,hb.few s hs⟩
 refine⟨⟨hl,hr,λr hr=>(PV r).2 ⟨(src r hr).1,by have:=hp r hr;omega⟩⟩,⟨by omega,λr hr=>⟨(src r hr).2.1,?_⟩⟩,λr hr=>(src r hr).2.2⟩;have:=hp r hr;omega
def tog(a b:List Row):List Row×Int:=match gy a b with
 |none=>([],3)
 |some m=>if 256<m.length then([],13)else(m,0)
structure fQ(t:List Row):Prop where
 len:t.length<=300
 few:wV t
 rows:Rows t
theorem Tb.good{t:List Row}(h:Tb t):fQ t:=⟨Nat.le_trans h.ok.1 (by decide),h.few,h.rows⟩
theorem aAs(a b:List Row)(ha:fQ a)(hb:fQ b):TT.lim 217 [.l (a.map row),.l (b.map row)]=some [.l ((tog a b).1.map row),.i .i64 (tog a b).2]:=by
 have k:=ata (a.length+b.length) a b [] (bV _) (by have:=ha.len;have:=hb.len;simp;omega) ha.few hb.few (λr hr=>(ha.rows.2 r hr).2) (λr hr=>(hb.rows.2 r hr).2);have hl1:=ha.len;have hl2:=hb.len;have hw:=wrap64 (n:=(a.length:Int)+(b.length:Int)) (by omega) (by omega);have hok:(GV.g [.l [],.i .u64 0]).fC 2=true:=rfl;have hc:(0:Int)<=(a.length:Int)+(b.length:Int)/\32*((a.length:Int)+(b.length:Int))<=281474976710656/\(a.length:Int)+(b.length:Int)<=1152921504606846976:=by omega
 unfold tog;cases hm:gy a b with
 |none=>rw[hm]at k;simp only[pW,jl]at k;refine aP rfl rfl ?_ rfl;simp[hw,hok,hc,k]
 |some m=>
  rw[hm]at k;simp only[pW,jl,aV]at k;by_cases h:256<m.length
  ·have h':(256:Int)<(m.length:Int):=by omega
   refine aP rfl rfl ?_ rfl;simp[hw,hok,hc,k,h,h']
  ·have h':¬(256:Int)<(m.length:Int):=by omega
   simp only[ah h];refine aP rfl rfl ?_ rfl;simp[hw,hok,hc,k,h']
theorem aAp{a b:List Row}(ha:Tb a)(hb:Tb b)(h:(tog a b).2=0):Tb (tog a b).1/\∀k,val (tog a b).1 k=val a k+val b k:=by
 unfold tog at h⊢;cases hm:gy a b with
 |none=>rw[hm]at h;cases h
 |some m=>
  rw[hm]at h;simp only at h⊢;split at h
  ·cases h
  next hl=>
  rw[ah hl];obtain⟨h1,h2,h3,h4⟩:=UH a b ha.rise hb.rise ha.pos hb.pos hm;exact⟨ajb ha hb (Nat.not_lt.1 hl) h1 h3 h4,h2⟩
theorem aAr{a b c d:List Row}(ha:Tb a)(hb:Tb b)(hc:Tb c)(hd:Tb d)(h:∀k,val a k+val b k=val c k+val d k):tog a b=tog c d:=by
 have key:∀{a b c d:List Row},Tb a->Tb b->Tb c->Tb d->(∀k,val a k+val b k=val c k+val d k)->gy a b=none->∀m,gy c d=some m->False:=by intro a b c d ha hb hc hd h h1 m h2;obtain⟨k,hk⟩:=atz a b ha.rise hb.rise h1;obtain⟨_,q2,_,q4⟩:=UH c d hc.rise hd.rise hc.pos hd.pos h2;have:=aAQ q4 k;rw[q2,<-h]at this;omega
 unfold tog;cases h1:gy a b with
 |none=>
  cases h2:gy c d with
  |none=>rfl
  |some m=>exact(key ha hb hc hd h h1 m h2).elim
 |some m=>
  cases h2:gy c d with
  |none=>exact(key hc hd ha hb (λk=>(h k).symm) h2 m h1).elim
  |some m'=>obtain⟨p1,p2,_,p4⟩:=UH a b ha.rise hb.rise ha.pos hb.pos h1;obtain⟨q1,q2,_,q4⟩:=UH c d hc.rise hd.rise hc.pos hd.pos h2;rw[aAP p1 q1 p4 q4 λk=>by rw[p2,q2,h]]
abbrev Dl:=Int×Int×List Row
def dl(d:Dl):GV:=.g [.i .u64 d.1,.i .u64 d.2.1,.l (d.2.2.map row)]
@[simp] theorem aB8(d:Dl):(dl d).cells=[.i .u64 d.1,.i .u64 d.2.1,.l (d.2.2.map row)]:=rfl
@[simp] theorem aB9(d:Dl):(dl d).scalar=false:=rfl
def zD:Dl:=(0,0,[])
def xw(d:Dl):Int:=if d.2.1<=d.1 then 20 else nD d.2.2
theorem alc(d:Dl)(h:fQ d.2.2):TT.lim 216 [dl d]=some [.i .i64 (xw d)]:=by
 have k:=RQ d.2.2 h.rows h.few;unfold xw;refine aP rfl rfl ?_ rfl;by_cases h1:d.2.1<=d.1
 ·simp[h1]
 ·simp[h1,k]
theorem alg{d:Dl}(h:xw d=0):d.1<d.2.1/\Ok d.2.2:=by
 unfold xw at h;split at h
 ·cases h
 ·exact⟨by omega,(vU _).1 h⟩
theorem alf{d:Dl}(h1:d.1<d.2.1)(h2:Ok d.2.2):xw d=0:=by unfold xw;rw[ah (by omega)];exact(vU _).2 h2
theorem fQ.tb{t:List Row}(h:fQ t)(ho:Ok t):Tb t:=⟨ho,h.rows,h.few⟩
theorem afi{l:List Row}(hl:Rows l)(h:EO l=true):fQ l:=by refine⟨?_,λr hr=>ap5 h r hr,hl⟩;unfold EO at h;rw[aK,decide_eq_true_iff]at h;exact h.2
theorem ayW(a b:List Row)(ha:fQ a)(hb:fQ b):TT.lim 224 [.l (a.map row),.l (b.map row)]=some [.b (decide (a=b))]:=
 ayS a b (by have:=ha.len;omega) (by have:=hb.len;omega) (λr hr=>(ha.rows.2 r hr).1.1) (λr hr=>(hb.rows.2 r hr).1.1)
def jq:List Row->List Row->List Row
 |[],_=>[]
 |r::rs,[]=>if r.2=0 then jq rs []else r::jq rs []
 |r::rs,l::ls=>if K l=K r then(if IntKind.u64.wrap (r.2-l.2)=0 then jq rs ls else(r.1,IntKind.u64.wrap (r.2-l.2))::jq rs ls)else if r.2=0 then jq rs (l::ls)else r::jq rs (l::ls)
theorem alH(a:Q0):cmpK a a=0:=by unfold cmpK;simp[oC]
theorem alG{a b:Q0}(h:a≠b):cmpK a b≠0:=by
 unfold cmpK;split
 ·omega
 next h1=>
 split
 ·omega
 next h2=>exact absurd (Qx (zN.1 h2) (zN.1 h1)) h
set_option maxHeartbeats 4000000 in
theorem Zu(t:List Row)(e f:Int)(ht:t.length<=300)(ft:wV t):∀(m i:Nat)(b acc:List Row),i+m=t.length->acc.length<=i->wV b->
 TT.lim 58 [.l (b.map row),.l (t.map row),.i .i64 t.length,.i .i64 i,.i .u64 e,.i .u64 f,.l (acc.map row)]=some [.i .i64 0,.l ((acc++jq (t.drop i) b).map row)]
 |0,i,b,acc,hi,ha,fb=>by
  have h0:t.drop i=[]:=fZ (by omega);refine au rfl rfl ?_;have h:¬((i:Int)<t.length):=by omega
  simp[h,h0,jq]
 |m+1,i,b,acc,hi,ha,fb=>by
  have hlt:i<t.length:=by omega
  have fr:=ft t[i] (gK hlt);have kc:=EG t[i].1 (CQ fr);have hrow:GV.g [.l (t[i].1.map ent),.i .u64 t[i].2]=row t[i]:=rfl;have hok:∀r:Row,(row r).fC 2=true:=λr=>rfl;have hbb:2*(acc.length+1)*32<=281474976710656/\acc.length+1<=281474976710656:=by omega
  have h:((i:Int)<t.length):=by omega
  have hw:=wrap64 (n:=(i:Int)+1) (by omega) (by omega);have ih1:∀b',wV b'->TT.lim 58 [.l (b'.map row),.l (t.map row),.i .i64 t.length,.i .i64 ((i:Int)+1),.i .u64 e,.i .u64 f,.l (acc.map row)]=_:=λb' Yo=>Zu t e f ht ft m (i+1) b' acc (by omega) (by omega) Yo;have ih2:∀b' r,wV b'->TT.lim 58 [.l (b'.map row),.l (t.map row),.i .i64 t.length,.i .i64 ((i:Int)+1),.i .u64 e,.i .u64 f,.l ((acc++[r]).map row)]=_:=λb' r Yo=>Zu t e f ht ft m (i+1) b' (acc++[r]) (by omega) (by simp;omega) Yo;have hdr:t.drop i=t[i]::t.drop (i+1):=gY hlt;rw[hdr];cases b with
  |nil=>
   by_cases h1:t[i].2=0
   ·have ih:=ih1 [] fb;simp only[jl]at ih;simp only[jq];rw[aj h1];have h1':(t[i].2=0)=True:=eq_true h1;clear h1;refine au rfl rfl ?_;simp[-List.getElem_cons_drop,h,hlt,h1',hw,ih]
   ·have ih:=ih2 [] t[i] fb;simp only[jl,lX,iD]at ih;simp only[jq];rw[ah h1];refine au rfl rfl ?_;simp[-List.getElem_cons_drop,h,hlt,h1,hw,kc,hrow,hok,hbb,ih]
  |cons l ls=>
   have fl:=fb l (by simp);have fls:wV ls:=λr hr=>fb r (by simp[hr]);have hl:=O6 (row l) ls ((ls.length:Int)+1) rfl rfl;have hp:(0:Int)<(ls.length:Int)+1:=by omega
   have wB:=adN l.1 t[i].1 fl fr;by_cases h2:K l=K t[i]
   ·rw[show dQ l.1=dQ t[i].1 from h2,alH]at wB;simp only[jq];rw[aj h2];by_cases h1:IntKind.u64.wrap (t[i].2-l.2)=0
    ·have ih:=ih1 ls fls;rw[aj h1];refine au rfl rfl ?_;simp[-List.getElem_cons_drop,-lD,h,hlt,hp,wB,hl,h1,hw,ih]
    ·have ih:=ih2 ls (t[i].1,IntKind.u64.wrap (t[i].2-l.2)) fls;rw[ah h1];simp only[jl,lX,iD]at ih;have hrow2:GV.g [.l (t[i].1.map ent),.i .u64 (IntKind.u64.wrap (t[i].2-l.2))]=row (t[i].1,IntKind.u64.wrap (t[i].2-l.2)):=rfl;refine au rfl rfl ?_;simp[-List.getElem_cons_drop,-lD,h,hlt,hp,wB,hl,h1,hw,kc,hrow2,hok,hbb,ih]
   ·have hne:=alG h2;generalize cmpK (dQ l.1) (dQ t[i].1)=v at wB hne;simp only[jq];rw[ah h2];by_cases h1:t[i].2=0
    ·have ih:=ih1 (l::ls) fb;simp only[iD]at ih;rw[aj h1];have h1':(t[i].2=0)=True:=eq_true h1;clear h1;refine au rfl rfl ?_;simp[-List.getElem_cons_drop,-lD,h,hlt,hp,wB,hne,h1',hw,ih]
    ·have ih:=ih2 (l::ls) t[i] fb;simp only[jl,lX,iD]at ih;rw[ah h1];refine au rfl rfl ?_;simp[-List.getElem_cons_drop,-lD,h,hlt,hp,wB,hne,h1,hw,kc,hrow,hok,hbb,ih]
theorem Sv:∀(t b:List Row),jE t->jE b->Pos t->Pos b->(∀l∈b,∃r∈t,K r=K l/\l.2<=r.2)->
 jE (jq t b)/\(∀k,val (jq t b) k=val t k-val b k)/\(∀r∈jq t b,∃s∈t,s.1=r.1)/\Pos (jq t b)
 |[],[],_,_,_,_,_=>⟨List.Pairwise.nil,λk=>rfl,by simp[jq],by simp[jq,Pos]⟩
 |[],l::b,_,_,_,_,h=>by obtain⟨r,hr,_⟩:=h l (by simp);simp at hr
 |r::t,[],ht,hb,pt,pb,h=>by
  have ht':=iV.1 ht;obtain⟨h1,h2,h3,h4⟩:=Sv t [] ht'.2 hb (λx hx=>pt x (by simp[hx])) pb (by simp);have hr:=pt r (by simp);simp only[jq];rw[ah (by omega)];refine⟨List.Pairwise.cons (λx hx=>?_) h1,λk=>?_,λx hx=>?_,λx hx=>?_⟩
  ·obtain⟨s,hs,e⟩:=h3 x hx;show K r<dQ x.1
   rw[<-e];exact ht'.1 s hs
  ·show(if K r=k then r.2 else val (jq t []) k)=(if K r=k then r.2 else val t k)-val [] k
   split
   ·simp[val]
   ·exact h2 k
  ·rcases bG.1 hx with rfl|hx
   ·exact⟨x,by simp,rfl⟩
   ·obtain⟨s,hs,e⟩:=h3 x hx;exact⟨s,by simp[hs],e⟩
  ·rcases bG.1 hx with rfl|hx
   ·exact hr
   ·exact h4 x hx
 |r::t,l::b,ht,hb,pt,pb,h=>by
  have ht':=iV.1 ht;have hb':=iV.1 hb;have hr:=pt r (by simp);have hl:=pb l (by simp);simp only[jq];by_cases he:K l=K r
  ·rw[aj he];have hle:l.2<=r.2:=by obtain⟨s,hs,e,hn⟩:=h l (by simp);have:s=r:=awN ht hs (by simp) (e.trans he);rw[<-this];exact hn
   have hw:=gJ (n:=r.2-l.2) (by omega) (by omega);rw[hw];obtain⟨h1,h2,h3,h4⟩:=Sv t b ht'.2 hb'.2 (λx hx=>pt x (by simp[hx])) (λx hx=>pb x (by simp[hx])) (λx hx=>by
    obtain⟨s,hs,e,hn⟩:=h x (by simp[hx]);rcases bG.1 hs with rfl|hs
    ·have:=hb'.1 x hx;rw[he,<-e]at this;exact absurd this (oC _)
    ·exact⟨s,hs,e,hn⟩)
   have h3':∀x∈jq t b,∃s∈r::t,s.1=x.1:=λx hx=>by obtain⟨s,hs,e⟩:=h3 x hx;exact⟨s,by simp[hs],e⟩
   have hv:∀k,(if K r=k then r.2-l.2 else val (jq t b) k)=val (r::t) k-val (l::b) k:=λk=>by
    show _=(if K r=k then r.2 else val t k)-(if K l=k then l.2 else val b k)
    rw[he];split
    ·rfl
    ·exact h2 k
   by_cases h0:r.2-l.2=0
   ·rw[aj h0];refine⟨h1,λk=>?_,h3',h4⟩;rw[<-hv k];split
    ·next e=>
     rw[h0];subst e;refine Jp λx hx=>?_;obtain⟨s,hs,e⟩:=h3 x hx;show K r<dQ x.1
     rw[<-e];exact ht'.1 s hs
    ·rfl
   ·rw[ah h0];refine⟨List.Pairwise.cons (λx hx=>?_) h1,hv,λx hx=>?_,λx hx=>?_⟩
    ·obtain⟨s,hs,e⟩:=h3 x hx;show dQ r.1<dQ x.1
     rw[<-e];exact ht'.1 s hs
    ·rcases bG.1 hx with rfl|hx
     ·exact⟨r,by simp,rfl⟩
     ·exact h3' x hx
    ·rcases bG.1 hx with rfl|hx
     ·exact⟨by simp only;omega,by simp only;omega⟩
     ·exact h4 x hx
  ·rw[ah he,ah (by omega)];have hin:∀x∈l::b,∃s∈t,K s=K x/\x.2<=s.2:=by
    have hlr:K r<K l:=by
     obtain⟨s,hs,e,_⟩:=h l (by simp);rcases bG.1 hs with rfl|hs
     ·exact absurd e.symm he
     ·rw[<-e];exact ht'.1 s hs
    intro x hx;obtain⟨s,hs,e,hn⟩:=h x hx;rcases bG.1 hs with rfl|hs
    ·exfalso;rcases bG.1 hx with rfl|hx
     ·exact he e.symm
     ·have:=yM hlr (hb'.1 x hx);rw[e]at this;exact oC _ this
    ·exact⟨s,hs,e,hn⟩
   obtain⟨h1,h2,h3,h4⟩:=Sv t (l::b) ht'.2 hb (λx hx=>pt x (by simp[hx])) pb hin;refine⟨List.Pairwise.cons (λx hx=>?_) h1,λk=>?_,λx hx=>?_,λx hx=>?_⟩
   ·obtain⟨s,hs,e⟩:=h3 x hx;show K r<dQ x.1
    rw[<-e];exact ht'.1 s hs
   ·show(if K r=k then r.2 else val (jq t (l::b)) k)=(if K r=k then r.2 else val t k)-val (l::b) k
    split
    ·next e=>
     rw[Qk (t:=l::b) λx hx e2=>by obtain⟨s,hs,e3,_⟩:=hin x hx;have:=ht'.1 s hs;rw[e3,e2,e]at this;exact oC _ this]
     omega
    ·exact h2 k
   ·rcases bG.1 hx with rfl|hx
    ·exact⟨x,by simp,rfl⟩
    ·obtain⟨s,hs,e⟩:=h3 x hx;exact⟨s,by simp[hs],e⟩
   ·rcases bG.1 hx with rfl|hx
    ·exact hr
    ·exact h4 x hx
abbrev Sn:=Int×List Row
def sn(s:Sn):GV:=.g [.i .u64 s.1,.l (s.2.map row)]
@[simp] theorem aDJ(s:Sn):(sn s).cells=[.i .u64 s.1,.l (s.2.map row)]:=rfl
@[simp] theorem aDK(s:Sn):(sn s).scalar=false:=rfl
def zS:Sn:=(0,[])
theorem RS(s:Sn)(h:fQ s.2):TT.lim 34 [sn s]=some [.i .i64 (nD s.2)]:=by have k:=RQ s.2 h.rows h.few;refine aP rfl rfl ?_ rfl;simp[k]
def oI(s n:Sn):Dl×Int:=
 if nD s.2≠0 then(zD,nD s.2)else if nD n.2≠0 then(zD,nD n.2)else if n.1<=s.1 then(zD,20)
 else if mX n.2 s.2=false then(zD,21)else((s.1,n.1,jq n.2 s.2),0)
def nS(s:Sn)(d:Dl):Sn×Int:=
 if nD s.2≠0 then(zS,nD s.2)else if xw d≠0 then(zS,xw d)else if s.1≠d.1 then(zS,19)
 else if(tog s.2 d.2.2).2≠0 then(zS,(tog s.2 d.2.2).2)else((d.2.1,(tog s.2 d.2.2).1),0)
theorem ao5(s n:Sn)(hs:fQ s.2)(hn:fQ n.2):TT.lim 57 [sn s,sn n]=some [dl (oI s n).1,.i .i64 (oI s n).2]:=by
 have k1:=RS s hs;have k2:=RS n hn;have e1:GV.g [.i .u64 s.1,.l (s.2.map row)]=sn s:=rfl;have e2:GV.g [.i .u64 n.1,.l (n.2.map row)]=sn n:=rfl;have e3:GV.g [.i .u64 0,.i .u64 0,.l []]=dl zD:=rfl;have e4:GV.g [.i .u64 s.1,.i .u64 n.1,.l ((jq n.2 s.2).map row)]=dl (s.1,n.1,jq n.2 s.2):=rfl;have k5:TT.lim 58 [.l (s.2.map row),.l (n.2.map row),.i .i64 n.2.length,.i .i64 0,.i .u64 s.1,.i .u64 n.1,.l []]=_:=Zu n.2 s.1 n.1 hn.len hn.few n.2.length 0 s.2 [] (by omega) (by simp) hs.few;rw[dD,aV]at k5;unfold oI;by_cases h1:nD s.2=0;rotate_left
 ·refine aP rfl rfl ?_ rfl;simp[e1,k1,h1,e3]
 by_cases h2:nD n.2=0;rotate_left
 ·refine aP rfl rfl ?_ rfl;simp[e1,k1,h1,e2,k2,h2,e3]
 by_cases h3:n.1<=s.1
 ·refine aP rfl rfl ?_ rfl;simp[e1,k1,h1,e2,k2,h2,e3,h3]
 have k4:=acZ n.2 s.2 ((vU _).1 h2).1 ((vU _).1 h1).1 hn.few hs.few;cases h4:mX n.2 s.2 with
 |false=>rw[h4]at k4;refine aP rfl rfl ?_ rfl;simp[e1,k1,h1,e2,k2,h2,e3,h3,k4]
 |true=>rw[h4]at k4;refine aP rfl rfl ?_ rfl;simp[e1,k1,h1,e2,k2,h2,e4,h3,k4,k5]
theorem aku(s:Sn)(d:Dl)(hs:fQ s.2)(hd:fQ d.2.2):TT.lim 215 [sn s,dl d]=some [sn (nS s d).1,.i .i64 (nS s d).2]:=by
 have k1:=RS s hs;have k2:=alc d hd;have k3:=aAs _ _ hs hd;have e1:GV.g [.i .u64 s.1,.l (s.2.map row)]=sn s:=rfl;have e2:GV.g [.i .u64 d.1,.i .u64 d.2.1,.l (d.2.2.map row)]=dl d:=rfl;have e3:GV.g [.i .u64 0,.l []]=sn zS:=rfl;have e4:GV.g [.i .u64 d.2.1,.l ((tog s.2 d.2.2).1.map row)]=sn (d.2.1,(tog s.2 d.2.2).1):=rfl;unfold nS;by_cases h1:nD s.2=0;rotate_left
 ·refine aP rfl rfl ?_ rfl;simp[e1,k1,h1,e3]
 by_cases h2:xw d=0;rotate_left
 ·refine aP rfl rfl ?_ rfl;simp[e1,k1,h1,e2,k2,h2,e3]
 by_cases h3:s.1=d.1;rotate_left
 ·refine aP rfl rfl ?_ rfl;simp[e1,k1,h1,e2,k2,h2,e3,h3]
 have h3':(s.1=d.1)=True:=eq_true h3;clear h3;by_cases h4:(tog s.2 d.2.2).2=0;rotate_left
 ·refine aP rfl rfl ?_ rfl;simp[e1,k1,h1,e2,k2,h2,e3,h3',k3,h4]
 ·refine aP rfl rfl ?_ rfl;simp[e1,k1,h1,e2,k2,h2,e4,h3',k3,h4]
theorem aea{s n:Sn}(h:(oI s n).2=0):Ok s.2/\Ok n.2/\s.1<n.1/\mX n.2 s.2=true/\(oI s n).1=(s.1,n.1,jq n.2 s.2):=by
 unfold oI at h⊢;split at h
 ·next h1=>exact absurd h h1
 next h1=>
 split at h
 ·next h2=>exact absurd h h2
 next h2=>
 split at h
 ·cases h
 next h3=>
 split at h
 ·cases h
 next h4=>
 rw[ah h1,ah h2,ah h3,ah h4];exact⟨(vU _).1 (by simpa using h1),(vU _).1 (by simpa using h2),by omega,by simpa using h4,rfl⟩
theorem ao6{s n:Sn}(h1:Ok s.2)(h2:Ok n.2)(h3:s.1<n.1)(h4:mX n.2 s.2=true):oI s n=((s.1,n.1,jq n.2 s.2),0):=by unfold oI;rw[ah (by simp[(vU _).2 h1]),ah (by simp[(vU _).2 h2]),ah (by omega),ah (by simp[h4])]
theorem acX{s:Sn}{d:Dl}(h:(nS s d).2=0):Ok s.2/\xw d=0/\s.1=d.1/\(tog s.2 d.2.2).2=0/\(nS s d).1=(d.2.1,(tog s.2 d.2.2).1):=by
 unfold nS at h⊢;split at h
 ·next h1=>exact absurd h h1
 next h1=>
 split at h
 ·next h2=>exact absurd h h2
 next h2=>
 split at h
 ·cases h
 next h3=>
 split at h
 ·next h4=>exact absurd h h4
 next h4=>
 rw[ah h1,ah h2,ah h3,ah h4];exact⟨(vU _).1 (by simpa using h1),by simpa using h2,by simpa using h3,by simpa using h4,rfl⟩
theorem akv{s:Sn}{d:Dl}(h1:Ok s.2)(h2:xw d=0)(h3:s.1=d.1):nS s d=if(tog s.2 d.2.2).2≠0 then(zS,(tog s.2 d.2.2).2)else((d.2.1,(tog s.2 d.2.2).1),0):=by unfold nS;rw[ah (by simp[(vU _).2 h1]),ah (by simp[h2]),ah (by simp[h3])]
theorem ao7{s n:List Row}(hs:Tb s)(hn:Tb n)(h:mX n s=true):Tb (jq n s)/\∀k,val (jq n s) k=val n k-val s k:=by
 have h':=(NP _ _ hn.rise hs.rise).1 h;obtain⟨h1,h2,h3,h4⟩:=Sv n s hn.rise hs.rise hn.pos hs.pos h';have hl:(jq n s).length<=n.length:=aib h1 hn.rise λr hr=>by obtain⟨x,hx,e⟩:=h3 r hr;exact⟨x,hx,by show dQ x.1=dQ r.1;rw[e]⟩
 exact⟨ajb hn hn (jD hl hn.ok.1) h1 (λr hr=>by obtain⟨x,hx,e⟩:=h3 r hr;exact⟨x,.inl hx,e⟩) h4,h2⟩
theorem aAq{t:List Row}(ht:Tb t):tog t []=(t,0):=by
 have h:gy t []=some t:=by cases t<;>rw[gy]
 unfold tog;rw[h];simp only;rw[ah (by have:=ht.ok.1;omega)]
theorem akC{s n:Sn}(hs:fQ s.2)(hn:fQ n.2)(h:(oI s n).2=0):xw (oI s n).1=0/\nS s (oI s n).1=(n,0)/\fQ (oI s n).1.2.2:=by
 obtain⟨h1,h2,h3,h4,h5⟩:=aea h;have ts:=hs.tb h1;have tn:=hn.tb h2;obtain⟨k1,k2⟩:=ao7 ts tn h4;rw[h5];have hc:xw (s.1,n.1,jq n.2 s.2)=0:=alf h3 k1.ok;have ht:tog s.2 (jq n.2 s.2)=tog n.2 []:=aAr ts k1 tn FQ λk=>by rw[k2];simp[val];omega
 rw[aAq tn]at ht;refine⟨hc,?_,k1.good⟩;rw[akv h1 hc rfl];simp only[ht];rfl
theorem akw{s:Sn}{d:Dl}(hs:fQ s.2)(hd:fQ d.2.2)(h:(nS s d).2=0):Tb (nS s d).1.2/\∀k,val (nS s d).1.2 k=val s.2 k+val d.2.2 k:=by obtain⟨h1,h2,h3,h4,h5⟩:=acX h;rw[h5];exact aAp (hs.tb h1) (hd.tb (alg h2).2) h4
def zZ(p x:Q0):Int:=if x=p then 14 else if Op.bytesLess x p=true then 7 else 0
theorem Zf{d:List dW}(hf:iF d=true):(dQ d).length<=30000:=by unfold iF at hf;rw[aK,decide_eq_true_iff]at hf;have l1:=ny (n:=d.length) (by omega);have:=Yr d hf.1;unfold dQ;simp only[fU];omega
def common:Q0->List UInt8->Nat
 |a::x,b::y=>if a=b then common x y+1 else 0
 |_,_=>0
theorem X4(b:Q0):common [] b=0:=by unfold common;rfl
theorem alO(a:Q0):common a []=0:=by cases a<;>rfl
theorem X3:∀a b:Q0,common a b<=a.length/\common a b<=b.length
 |[],b=>by simp[common]
 |_::_,[]=>by simp[common]
 |a::x,b::y=>by
  unfold common;have:=X3 x y;split
  ·simp only[gQ];omega
  ·omega
theorem adS(a b:Q0)(ha:a.length<=140737488351232)(hb:b.length<=140737488351232):∀m i:Nat,i+m=a.length->TT.lim 114 [.s a,.s b,.i .i64 i]=some [.i .i64 0,.i .i64 ((i+common (a.drop i) (b.drop i):Nat):Int)]
 |0,i,hi=>by
  have h0:a.drop i=[]:=fZ (by omega);have h:¬((i:Int)<a.length):=by omega
  refine au rfl rfl ?_;simp[h,h0,X4]
 |m+1,i,hi=>by
  have hlt:i<a.length:=by omega
  have h:((i:Int)<a.length):=by omega
  by_cases hlb:i<b.length;rotate_left
  ·have h0:b.drop i=[]:=fZ (by omega);have h1:¬((i:Int)<b.length):=by omega
   refine au rfl rfl ?_;simp[h,h0,h1,alO]
  have hb1:((i:Int)<b.length):=by omega
  have ih:TT.lim 114 [.s a,.s b,.i .i64 ((i:Int)+1)]=_:=adS a b ha hb m (i+1) (by omega);have hw:=wrap64 (n:=(i:Int)+1) (by omega) (by omega);rw[gY hlt,gY hlb];unfold common;by_cases e:a[i]=b[i]
  ·rw[aj e];have e':((a[i].toNat:Int)=(b[i].toNat:Int))=True:=eq_true (by rw[e]);have e2:((i+(common (a.drop (i+1)) (b.drop (i+1))+1):Nat):Int)=((i+1+common (a.drop (i+1)) (b.drop (i+1)):Nat):Int):=by omega
   rw[e2];refine au rfl rfl ?_;simp[h,hlt,hlb,hb1,e',hw,ih]
  ·rw[ah e];have e':¬(a[i].toNat:Int)=(b[i].toNat:Int):=λh=>e (Xa.1 (by omega));refine au rfl rfl ?_;simp[h,hlt,hlb,hb1,e']
theorem XT(a b:Q0)(ha:a.length<=140737488351232)(hb:b.length<=140737488351232):TT.lim 113 [.s a,.s b]=some [.i .i64 (common a b)]:=by have k:TT.lim 114 [.s a,.s b,.i .i64 0]=_:=adS a b ha hb a.length 0 (by omega);rw[dD,dD,kH]at k;refine aP rfl rfl ?_ rfl;simp[k]
def A8(a s:Q0):Q0:=aY (common a s)++aY (s.length-common a s)++s.drop (common a s)
theorem auI(a s:Q0)(ha:a.length<=100000000)(hs:s.length<=100000000):TT.lim 112 [.s a,.s s]=some [.s (A8 a s)]:=by
 have k:=XT a s (by omega) (by omega);have hl:=X3 a s;have p1:=xG (common a s) (by omega);have p2:=xG (s.length-common a s) (by omega);have l1:=ny (n:=common a s) (by omega);have l2:=ny (n:=s.length-common a s) (by omega);have w1:=gJ (n:=(common a s:Int)) (by omega) (by omega);have w2:=gJ (n:=(s.length:Int)-(common a s:Int)) (by omega) (by omega);have w3:=wrap64 (n:=(s.length:Int)-(common a s:Int)) (by omega) (by omega);have e2:(s.length:Int)-(common a s:Int)=((s.length-common a s:Nat):Int):=by omega
 rw[e2]at w2 w3;refine aP rfl rfl ?_ rfl;unfold A8;generalize common a s=c at *;have h1:((aY c).length:Int)+((aY (s.length-c)).length:Int)<=9223372036854775807:=by omega
 have h2:((aY c).length:Int)+((aY (s.length-c)).length:Int)+((s.length:Int)-(c:Int))<=9223372036854775807:=by omega
 have h3:(c:Int)<=s.length:=by omega
 have h4:((s.length-c:Nat):Int)=(s.length:Int)-c:=by omega
 have hd:(s.take s.length).drop c=s.drop c:=by rw[yO]
 rw[<-e2]at w2 w3;rw[<-e2]at p2;simp[k,p1,p2,w1,w2,w3,h1,h2,h3,h4,hd]
def lJ:Q0->Nat
 |[]=>0
 |b::r=>b.toNat%128+128*lJ r
def oq:Nat->List UInt8->Option Nat
 |0,_=>none
 |_+1,[]=>none
 |n+1,b::r=>if b.toNat<128 then some 1 else(oq n r).map (· +1)
def sG(k:Nat)(b:Nat):Int:=if k=10/\1<b then 3 else if 1<k/\b=0 then 2 else 0
def aB(s:Q0):Nat×Nat×Int:=match oq 10 s with
 |none=>(0,0,if 10<=s.length then 3 else 1)
 |some k=>if sG k (s.getD (k-1) 0).toNat≠0 then(0,0,sG k (s.getD (k-1) 0).toNat)else(lJ (s.take k),k,0)
theorem Wj:∀{n:Nat}{s:Q0}{k:Nat},oq n s=some k->1<=k/\k<=n/\k<=s.length/\(s.getD (k-1) 0).toNat<128
 |0,s,k,h=>by simp[oq]at h
 |n+1,[],k,h=>by simp[oq]at h
 |n+1,b::r,k,h=>by
  unfold oq at h;split at h
  ·next hb=>cases h;simpa using hb
  ·obtain⟨j,hj,rfl⟩:=aZ.1 h;obtain⟨h1,h2,h3,h4⟩:=Wj hj;obtain⟨i,rfl⟩:∃i,j=i+1:=⟨j-1,by omega⟩
   refine⟨by omega,by omega,by simp;omega,?_⟩;simpa using h4
theorem ajC:∀(s:Q0),lJ s<128^s.length
 |[]=>by simp[lJ]
 |b::r=>by have:=ajC r;simp only[lJ,gQ,JR];omega
theorem aiF(b i:Nat)(hb:b<128)(hi:i<=9)(h9:i=9->b<=1):jB .shl .u64 (b:Int) ((7*i:Nat):Int)=some (.i .u64 ((b*128^i:Nat):Int)):=by
 have e:min ((7*i:Nat):Int).toNat 64=7*i:=by simp;omega
 have e2:(2:Int)^(7*i)=((128^i:Nat):Int):=by rw[Int.pow_mul];simp
 have hlt:b*128^i<18446744073709551616:=by
  rcases xU i 9 with h|h
  ·have:(128:Nat)^i<=128^8:=QF (by omega) (by omega);have h2:b*128^i<=127*128^8:=Nat.mul_le_mul (by omega) this;omega
  ·have hi9:i=9:=by omega
   subst hi9;have:=h9 rfl;omega
 unfold jB;rw[ah (by omega)];show some (GV.i .u64 (IntKind.u64.wrap ((b:Int)*2^(min ((7*i:Nat):Int).toNat 64))))=_
 rw[e,e2,<-Int.natCast_mul,gJ (by omega) (by omega)]
theorem orI(a c i:Nat)(ha:a<2^i)(h:a+c*2^i<18446744073709551616):bQ .or .u64 (a:Int) ((c*2^i:Nat):Int)=some (.i .u64 ((a+c*2^i:Nat):Int)):=by
 have h1:((BitVec.ofInt 64 (a:Int) |||BitVec.ofInt 64 ((c*2^i:Nat):Int)).toNat:Nat)=a+c*2^i:=by
  rw[abU,sJ,sJ];generalize hC:c*2^i=C at *;have e1:((a:Int)%((2^64:Nat):Int)).toNat=a:=by omega
  have e2:((C:Int)%((2^64:Nat):Int)).toNat=C:=by omega
  rw[e1,e2,<-hC,Nat.or_comm,Gg,JM];exact(ajY ha c).symm
 show some (GV.i .u64 (IntKind.u64.wrap (((BitVec.ofInt 64 (a:Int) |||BitVec.ofInt 64 ((c*2^i:Nat):Int)).toNat:Nat):Int)))=_
 rw[h1,gJ (by omega) (by omega)]
theorem LK(i:Nat):128^i=2^(7*i):=by rw[Nat.pow_mul]
theorem aiG(a b:Int)(hb:0<=b):∃r,jB .shl .u64 a b=some (.i .u64 r):=by unfold jB;rw[ah (by omega)];exact⟨_,rfl⟩
theorem or_some(a b:Int):∃r,bQ .or .u64 a b=some (.i .u64 r):=⟨_,rfl⟩
def CV(s:Q0)(acc:Int)(i:Nat):Q1:=match oq (10-i) (s.drop i)with
 |none=>[.i .i64 1,.s s]
 |some k=>if sG (i+k) (s.getD (i+k-1) 0).toNat≠0 then[.i .i64 0,.i .u64 0,.i .i64 0,.i .i64 (sG (i+k) (s.getD (i+k-1) 0).toNat)]
  else[.i .i64 0,.i .u64 (acc+((128^i*lJ ((s.drop i).take k):Nat):Int)),.i .i64 ((i+k:Nat):Int),.i .i64 0]
theorem getLoop(s:Q0)(hs:s.length<=140737488351232):∀(m i:Nat)(acc:Int),i+m=min s.length 10->(i<=9->0<=acc/\acc<((128^i:Nat):Int))->
 TT.lim 171 [.s s,.i .u64 acc,.i .i64 ((min s.length 10:Nat):Int),.i .i64 i]=some (CV s acc i)
 |0,i,acc,hi,ha=>by
  have h:¬((i:Int)<((min s.length 10:Nat):Int)):=by omega
  have hv:oq (10-i) (s.drop i)=none:=by
   rcases xU i 10 with h1|h1
   ·have:s.drop i=[]:=fZ (by omega);rw[this];obtain⟨j,hj⟩:∃j,10-i=j+1:=⟨10-i-1,by omega⟩
    rw[hj];rfl
   ·have:10-i=0:=by omega
    rw[this];unfold oq;rfl
  unfold CV;rw[hv];generalize((min s.length 10:Nat):Int)=M at *;refine au rfl rfl ?_;simp[h]
 |m+1,i,acc,hi,ha=>by
  have hlt:i<s.length:=by omega
  have h9:i<=9:=by omega
  have h:((i:Int)<((min s.length 10:Nat):Int)):=by omega
  obtain⟨a1,a2⟩:=ha h9;obtain⟨n,rfl⟩:∃n:Nat,acc=n:=⟨acc.toNat,by omega⟩
  have hb:=(s[i]).toNat_lt;have k7:=acT (s[i]).toNat (by omega);have w8:=gJ (n:=(((s[i]).toNat%128:Nat):Int)) (by omega) (by omega);have wi:=wrap64 (n:=7*(i:Int)) (by omega) (by omega);have wj:=wrap64 (n:=(i:Int)+1) (by omega) (by omega);have hd:s.drop i=s[i]::s.drop (i+1):=gY hlt;obtain⟨j,hj⟩:∃j,10-i=j+1:=⟨10-i-1,by omega⟩
  have hj':10-(i+1)=j:=by omega
  have e7:(7*(i:Int))=((7*i:Nat):Int):=by omega
  have hgd:s.getD i 0=s[i]:=by simp[List.getD,hlt]
  by_cases hc:128<=(s[i]).toNat
  ·have hc':((128:Int)<=((s[i]).toNat:Int)):=by omega
   have step:∃V:Int,(i+1<=9->0<=V/\V<((128^(i+1):Nat):Int)/\V=n+(((s[i]).toNat%128*128^i:Nat):Int))/\(∃S,jB .shl .u64 ((((s[i]).toNat%128:Nat)):Int) (7*(i:Int))=some (.i .u64 S)/\bQ .or .u64 (n:Int) S=some (.i .u64 V)):=by
    rcases xU i 9 with h1|h1
    ·have k1:=aiF ((s[i]).toNat%128) i (by omega) (by omega) (by omega);have hp:(s[i]).toNat%128*128^i<=127*128^i:=rF _ (by omega);have hpp:128^(i+1)=128*128^i:=by rw[JR,Gg]
     have hq:(128:Nat)^i<=128^8:=QF (by omega) (by omega);have k2:=orI n ((s[i]).toNat%128) (7*i) (by rw[<-LK];omega) (by rw[<-LK];omega);rw[<-LK]at k2;refine⟨_,λ_=>⟨by omega,?_,rfl⟩,_,by rw[e7];exact k1,by rw[k2];simp⟩;rw[hpp];omega
    ·obtain⟨S,hS⟩:=aiG ((((s[i]).toNat%128:Nat)):Int) (7*(i:Int)) (by omega);obtain⟨V,hV⟩:=or_some (n:Int) S;exact⟨V,λh=>by omega,S,hS,hV⟩
   obtain⟨V,hV,S,hS,hO⟩:=step;have ih:TT.lim 171 [.s s,.i .u64 V,.i .i64 ((min s.length 10:Nat):Int),.i .i64 ((i:Int)+1)]=_:=getLoop s hs m (i+1) V (by omega) (λh=>⟨(hV h).1,(hV h).2.1⟩);have hout:CV s n i=CV s V (i+1):=by
    unfold CV;rw[hd,hj,hj'];have hv:oq (j+1) (s[i]::s.drop (i+1))=(oq j (s.drop (i+1))).map (· +1):=by
     show(if(s[i]).toNat<128 then _ else _)=_
     rw[ah (by omega)]
    rw[hv];cases hx:oq j (s.drop (i+1))with
    |none=>rfl
    |some k=>
     obtain⟨q1,q2,_,_⟩:=Wj hx;have hV':=hV (by omega);have e1:i+(k+1)=i+1+k:=by omega
     simp only[gI,e1];split
     ·rfl
     ·have e2:(n:Int)+((128^i*lJ ((s[i]::s.drop (i+1)).take (k+1)):Nat):Int)=V+((128^(i+1)*lJ ((s.drop (i+1)).take k):Nat):Int):=by
       rw[hV'.2.2,BL];have:128^i*lJ (s[i]::(s.drop (i+1)).take k)=(s[i]).toNat%128*128^i+128^(i+1)*lJ ((s.drop (i+1)).take k):=by
        show 128^i*((s[i]).toNat%128+128*lJ _)=_
        rw[Nat.mul_add,JR,acz,Gg (128^i) ((s[i]).toNat%128)]
       rw[this];omega
      rw[e2]
   rw[hout];generalize CV s V (i+1)=O at *;generalize((min s.length 10:Nat):Int)=M at *;have em:(((s[i]).toNat%128:Nat):Int)=((s[i]).toNat:Int)%128:=by omega
   rw[em]at k7 w8 hS;refine au rfl rfl ?_;simp[h,hlt,hc',k7,w8,wi,wj,hS,hO,ih]
  ·have hc':¬((128:Int)<=((s[i]).toNat:Int)):=by omega
   have hv:oq (j+1) (s[i]::s.drop (i+1))=some 1:=by
    show(if(s[i]).toNat<128 then _ else _)=_
    rw[aj (by omega)]
   have hout:CV s n i=if sG (i+1) (s[i]).toNat≠0 then[.i .i64 0,.i .u64 0,.i .i64 0,.i .i64 (sG (i+1) (s[i]).toNat)]else[.i .i64 0,.i .u64 ((n+(s[i]).toNat*128^i:Nat):Int),.i .i64 ((i:Int)+1),.i .i64 0]:=by
    unfold CV;rw[hd,hj,hv];have e1:i+1-1=i:=by omega
    have e2:128^i*lJ ((s[i]::s.drop (i+1)).take 1)=(s[i]).toNat*128^i:=by simp only[BL,QB,lJ];rw[Nv (by omega),Gg];simp
    simp only[e1,hgd,e2];congr 1
   rw[hout];have step:∃S V,jB .shl .u64 ((((s[i]).toNat%128:Nat)):Int) (7*(i:Int))=some (.i .u64 S)/\bQ .or .u64 (n:Int) S=some (.i .u64 V)/\(sG (i+1) (s[i]).toNat=0->V=((n+(s[i]).toNat*128^i:Nat):Int)):=by
    by_cases hbad:i=9/\1<(s[i]).toNat
    ·obtain⟨S,hS⟩:=aiG ((((s[i]).toNat%128:Nat)):Int) (7*(i:Int)) (by omega);obtain⟨V,hV⟩:=or_some (n:Int) S;refine⟨S,V,hS,hV,λh=>?_⟩;unfold sG at h;rw[aj (by omega)]at h;cases h
    ·have k1:=aiF ((s[i]).toNat%128) i (by omega) (by omega) (by omega);have em:(s[i]).toNat%128=(s[i]).toNat:=Nv (by omega);rw[em]at k1;have hp:(s[i]).toNat*128^i<=127*128^i:=rF _ (by omega);have hb64:n+(s[i]).toNat*128^i<18446744073709551616:=by
      rcases xU i 9 with h1|h1
      ·have hq:(128:Nat)^i<=128^8:=QF (by omega) (by omega);omega
      ·have hi9:i=9:=by omega
       have h1:(s[i]).toNat<=1:=by omega
       have hq:(128:Nat)^i=128^9:=by rw[hi9]
       have hp2:(s[i]).toNat*128^i<=1*128^i:=rF _ h1;omega
     have k2:=orI n (s[i]).toNat (7*i) (by rw[<-LK];omega) (by rw[<-LK];omega);rw[<-LK]at k2;exact⟨_,_,by rw[e7,em];exact k1,k2,λ_=>rfl⟩
   obtain⟨S,V,hS,hO,hV⟩:=step;generalize((n+(s[i]).toNat*128^i:Nat):Int)=R at *;generalize((min s.length 10:Nat):Int)=M at *;have bd:sG (i+1) (s[i]).toNat=if(i:Int)=9/\(1:Int)<((s[i]).toNat:Int)then 3 else if(0:Int)<(i:Int)/\((s[i]).toNat:Int)=0 then 2 else 0:=by
    unfold sG;congr 1
    ·apply propext;omega
    ·congr 1;apply propext;omega
   rw[bd]at hV⊢;have em:(((s[i]).toNat%128:Nat):Int)=((s[i]).toNat:Int)%128:=by omega
   rw[em]at k7 w8 hS;refine au rfl rfl ?_
   rcases(Qu ((i:Int)=9)).imp eq_true eq_false with q1|q1<;>rcases(Qu ((1:Int)<((s[i]).toNat:Int))).imp eq_true eq_false with q2|q2<;>
    rcases(Qu ((0:Int)<(i:Int))).imp eq_true eq_false with q3|q3<;>rcases(Qu (((s[i]).toNat:Int)=0)).imp eq_true eq_false with q4|q4
   all_goals
    have q3n:(0<i)=((0:Int)<(i:Int)):=propext (by omega);have q4n:((s[i]).toNat=0)=(((s[i]).toNat:Int)=0):=propext (by omega);rw[q3]at q3n;rw[q4]at q4n;simp only[q1,q2,q3,q4,and_self,and_true,and_false,false_and,true_and,if_true,if_false]at hV⊢;first
    |(have hV:=hV trivial;subst hV)
    |skip
    simp[h,hlt,hc',k7,w8,wi,wj,hS,hO,q1,q2,q3,q4,q3n,q4n]
theorem tN(s:Q0)(hs:s.length<=140737488351232):TT.lim 170 [.s s]=some [.i .u64 ((aB s).1:Nat),.i .i64 ((aB s).2.1:Nat),.i .i64 (aB s).2.2]:=by
 have k:TT.lim 171 [.s s,.i .u64 0,.i .i64 ((min s.length 10:Nat):Int),.i .i64 0]=_:=getLoop s hs (min s.length 10) 0 0 (by omega) (by simp);have hm:(if(10:Int)<(s.length:Int)then(10:Int)else(s.length:Int))=((min s.length 10:Nat):Int):=by split<;>omega
 unfold CV at k;rw[dD,Gi]at k;unfold aB;generalize((min s.length 10:Nat):Int)=M at *;refine aP rfl rfl ?_ rfl;cases hv:oq 10 s with
 |none=>
  rw[hv]at k;by_cases h10:10<=s.length
  ·have h1:(10:Int)<=s.length:=by omega
   simp[hm,k,h10,h1]
  ·have h1:¬(10:Int)<=s.length:=by omega
   simp[hm,k,h10,h1]
 |some j=>
  rw[hv]at k;simp only[kH,Nat.pow_zero,Gh,ab4]at k;by_cases hb:sG j (s.getD (j-1) 0).toNat=0
  ·simp only[hb,ne_eq,not_true_eq_false,if_false]at k⊢;simp[hm,k]
  ·simp only[hb,ne_eq,not_false_eq_true,if_true]at k⊢;simp[hm,k]
theorem D5{n:Nat}(h:n<256):(UInt8.ofNat n).toNat=n:=UInt8.toNat_ofNat_of_lt' h
def wR(n:Nat):Nat:=if n<128 then n else wR (n/128)
termination_by n
theorem ajB{n:Nat}(h:n<128):wR n=n:=by rw[wR,aj h]
theorem ajA{n:Nat}(h:¬n<128):wR n=wR (n/128):=by rw[wR,ah h]
theorem Wl{n:Nat}(h:n<128):fD n=1:=by unfold fD;rw[xP h];rfl
theorem aAX:∀n:Nat,wR n<128/\(0<n->0<wR n)/\wR n*128^(fD n-1)<=n:=by
 intro n;induction n using Nat.strongRecOn with
 |_ n ih=>
  by_cases h:n<128
  ·rw[ajB h,Wl h];simp;omega
  ·obtain⟨h1,h2,h3⟩:=ih (n/128) (by omega);rw[ajA h,Jr h];refine⟨h1,λ_=>h2 (by omega),?_⟩;have hp:=Js (n/128);obtain⟨j,hj⟩:∃j,fD (n/128)=j+1:=⟨fD (n/128)-1,by omega⟩
   rw[hj]at h3⊢;simp only[Nat.add_sub_cancel]at h3⊢;have:wR (n/128)*128^(j+1)=wR (n/128)*128^j*128:=by rw[JR,acz]
   rw[this];omega
theorem aAW:∀(n:Nat)(x:Q0),(aY n++x).getD (fD n-1) 0=UInt8.ofNat (wR n):=by
 intro n;induction n using Nat.strongRecOn with
 |_ n ih=>
  intro x;by_cases h:n<128
  ·rw[ajB h,Wl h,xP h];rfl
  ·have hp:=Js (n/128);obtain⟨j,hj⟩:∃j,fD (n/128)=j+1:=⟨fD (n/128)-1,by omega⟩
   have:=ih (n/128) (by omega) x;rw[ajA h,Jr h,BA h,<-this,hj];simp
theorem aAV:∀(n k:Nat)(x:Q0),fD n<=k->oq k (aY n++x)=some (fD n):=by
 intro n;induction n using Nat.strongRecOn with
 |_ n ih=>
  intro k x hk;have hp:=Js n;obtain⟨j,rfl⟩:∃j,k=j+1:=⟨k-1,by omega⟩
  by_cases h:n<128
  ·rw[Wl h,xP h];show(if(UInt8.ofNat n).toNat<128 then _ else _)=_
   rw[aj (by rw[D5 (by omega)];exact h)]
  ·rw[Jr h]at hk⊢;rw[BA h];show(if(UInt8.ofNat (n%128+128)).toNat<128 then _ else(oq j (aY (n/128)++x)).map (· +1))=_
   rw[ah (by rw[D5 (by omega)];omega),ih (n/128) (by omega) j x (by omega)];rfl
theorem aAY:∀n:Nat,lJ (aY n)=n:=by
 intro n;induction n using Nat.strongRecOn with
 |_ n ih=>
  by_cases h:n<128
  ·rw[xP h];simp only[lJ];rw[D5 (by omega)];omega
  ·rw[BA h];simp only[lJ];rw[ih (n/128) (by omega),D5 (by omega)];omega
theorem ajy(n:Nat)(x:Q0)(hn:n<18446744073709551616):aB (aY n++x)=(n,(aY n).length,0):=by
 have h1:=aAV n 10 x (FV hn);obtain⟨f1,f2,f3⟩:=aAX n;have hg:=aAW n x;have hb:sG (fD n) (UInt8.ofNat (wR n)).toNat=0:=by
  rw[D5 (by omega)];unfold sG;rw[ah,ah]
  ·rintro⟨h2,h3⟩
   by_cases h:n<128
   ·rw[Wl h]at h2;omega
   ·have:=f2 (by omega);omega
  ·rintro⟨h2,h3⟩
   rw[h2]at f3;have:2*128^9<=wR n*128^9:=rF _ h3;simp only[show 10-1=9 from rfl]at f3;omega
 unfold aB;rw[h1];simp only[hg,hb,ne_eq,not_true_eq_false,if_false];have:(aY n++x).take (fD n)=aY n:=by unfold fD;simp
 rw[this,aAY];rfl
theorem aAZ(a:Q0)(b:UInt8):lJ (a++[b])=lJ a+128^a.length*(b.toNat%128):=by
 induction a with
 |nil=>simp[lJ]
 |cons c a ih=>simp only[bC,lJ,ih,gQ,JR,Nat.mul_add,jL];rw[Gg (128^a.length) 128,acz]
theorem ah1:∀(j k:Nat)(s:Q0),oq j s=some k->(1<k->(s.getD (k-1) 0)≠0)->aY (lJ (s.take k))=s.take k/\(1<k\/s.getD (k-1) 0≠0->lJ (s.take k)≠0)
 |0,k,s,h,_=>by simp[oq]at h
 |j+1,k,[],h,_=>by simp[oq]at h
 |j+1,k,b::r,h,hz=>by
  unfold oq at h;split at h
  ·next hb=>
   cases h;simp only[BL,QB,lJ,Nat.mul_zero,nC];rw[Nv hb];refine⟨by rw[xP hb];simp,λhh=>?_⟩;rcases hh with hh|hh
   ·omega
   ·intro e;apply hh;simp only[zQ,List.getD_cons_zero];exact Xa.1 (by simpa using e)
  ·next hb=>
   obtain⟨i,hi,rfl⟩:=aZ.1 h;obtain⟨q1,q2,q3,q4⟩:=Wj hi;obtain⟨l,rfl⟩:∃l,i=l+1:=⟨i-1,by omega⟩
   have hz':r.getD l 0≠0:=by have:=hz (by omega);simpa using this
   obtain⟨e1,e2⟩:=ah1 j (l+1) r hi (λ_=>by simpa using hz');have e2:=e2 (.inr (by simpa using hz'));have hb8:=b.toNat_lt;rw[BL];simp only[lJ];refine⟨?_,λ_=>by omega⟩;rw[BA (by omega)];have a1:(b.toNat%128+128*lJ (r.take (l+1)))%128+128=b.toNat:=by omega
   have a2:(b.toNat%128+128*lJ (r.take (l+1)))/128=lJ (r.take (l+1)):=by omega
   rw[a1,a2,e1];simp
structure VOk(s:Q0)(n k:Nat):Prop where
 pos:1<=k
 ten:k<=10
 len:k<=s.length
 lt:n<18446744073709551616
 put:aY n=s.take k
theorem jY{s:Q0}(h:(aB s).2.2=0):VOk s (aB s).1 (aB s).2.1:=by
 unfold aB at h⊢;cases hv:oq 10 s with
 |none=>rw[hv]at h;simp only at h;split at h<;>cases h
 |some k=>
  rw[hv]at h;simp only at h⊢;obtain⟨v1,v2,v3,v4⟩:=Wj hv;by_cases hb:sG k (s.getD (k-1) 0).toNat=0
  ·simp only[hb,ne_eq,not_true_eq_false,if_false];have hz:1<k->s.getD (k-1) 0≠0:=by
    intro h1 h2;unfold sG at hb;rw[h2]at hb;split at hb
    ·cases hb
    ·rw[aj ⟨h1,rfl⟩]at hb;cases hb
   refine⟨v1,v2,v3,?_,(ah1 10 k s hv hz).1⟩;have e:s.take k=s.take (k-1)++[s.getD (k-1) 0]:=by
    obtain⟨j,rfl⟩:∃j,k=j+1:=⟨k-1,by omega⟩
    have:j<s.length:=by omega
    simp[List.getD,this]
   have h2:=ajC (s.take (k-1));rw[e,aAZ,kF,JQ (by omega)];rw[kF,JQ (by omega)]at h2;rcases xU k 10 with h3|h3
   ·have hq:(128:Nat)^(k-1)<=128^8:=QF (by omega) (by omega);have hq2:128^(k-1)*((s.getD (k-1) 0).toNat%128)<=128^(k-1)*127:=WW _ (by omega);omega
   ·have hK10:k=10:=by omega
    have hb1:(s.getD (k-1) 0).toNat<=1:=by
     unfold sG at hb;split at hb
     ·cases hb
     ·next h=>omega
    have hq:(128:Nat)^(k-1)=128^9:=by rw[hK10]
    have hq2:128^(k-1)*((s.getD (k-1) 0).toNat%128)<=128^(k-1)*1:=WW _ (by omega);omega
  ·simp only[hb,ne_eq,not_false_eq_true,if_true]at h
theorem Jq{s:Q0}(h:(aB s).2.2≠0):(aB s).1=0/\(aB s).2.1=0:=by
 unfold aB at h⊢;cases hv:oq 10 s with
 |none=>exact⟨rfl,rfl⟩
 |some k=>
  rw[hv]at h;simp only at h⊢;by_cases hb:sG k (s.getD (k-1) 0).toNat=0
  ·simp only[hb,ne_eq,not_true_eq_false,if_false]at h
  ·simp only[hb,ne_eq,not_false_eq_true,if_true];exact⟨trivial,trivial⟩
theorem Bz(t:Q0)(at':Nat)(h:at'<=t.length)(ht:t.length<=140737488351232):
 TT.lim 182 [.s t,.i .i64 at']=some [.i .i64 0,.i .u64 ((aB (t.drop at')).1:Nat),.i .i64 (aB (t.drop at')).2.2,.s t,.i .i64 ((at'+(aB (t.drop at')).2.1:Nat):Int)]:=by
 have k:=tN (t.drop at') (by rw[eX];omega);have hd:(t.take t.length).drop at'=t.drop at':=by rw[yO]
 have h1:(at':Int)<=t.length:=by omega
 refine au rfl rfl ?_;by_cases he:(aB (t.drop at')).2.2=0
 ·have hv:=jY he;have hl:=hv.len;have h10:=hv.ten;rw[eX]at hl;generalize(aB (t.drop at')).1=n at *;generalize(aB (t.drop at')).2.1=j at *;generalize(aB (t.drop at')).2.2=e at *;have w1:=gJ (n:=(j:Int)) (by omega) (by omega);have w2:=wrap64 (n:=(t.length:Int)-(at':Int)) (by omega) (by omega);have w3:=gJ (n:=(t.length:Int)-(at':Int)) (by omega) (by omega);have w4:=wrap64 (n:=(j:Int)) (by omega) (by omega);have w5:=wrap64 (n:=(at':Int)+(j:Int)) (by omega) (by omega);have c1:¬((t.length:Int)-(at':Int)<(j:Int)):=by omega
  have c2:(at':Int)<=(at':Int)+(j:Int)/\(at':Int)+(j:Int)<=t.length:=by omega
  subst he;simp[hd,h1,k,w1,w2,w3,w4,w5,c1,c2]
 ·obtain⟨e1,e2⟩:=Jq he;rw[e1,e2]at k⊢;generalize(aB (t.drop at')).2.2=e at *;simp[hd,h1,k,he]
def mG(e:Int):Q0×Nat×Int:=([],0,e)
def bH(s a0:Q0)(first:Bool):Q0×Nat×Int:=
 let a:=if first=true then[]else a0
 let v:=aB s
 if v.2.2≠0 then mG v.2.2 else
 if a.length<v.1 then mG 23 else
 let v2:=aB (s.drop v.2.1)
 if v2.2.2≠0 then mG v2.2.2 else
 if s.length-(v.2.1+v2.2.1)<v2.1 then mG 1 else
 let t:=a.take v.1++(s.drop (v.2.1+v2.2.1)).take v2.1
 if first=false/\Op.bytesLess a t=false then mG 7 else
 if v.1<common a t then mG 23 else(t,v.2.1+v2.2.1+v2.1,0)
theorem as1(a t:Q0):(Op.bytesLess t a ||t==a) = !(Op.bytesLess a t):=by
 rw[J8,J8,wU];simp only[nO,decide_eq_true_iff,beq_iff_eq,yJ,decide_eq_false_iff_not];constructor
 ·rintro(h|h) h2
  ·exact oC _ (yM h h2)
  ·subst h;exact oC _ h2
 ·intro h;by_cases h1:t<a
  ·exact .inl h1
  ·exact .inr (Qx (zN.1 h) (zN.1 h1))
theorem adV:∀(k:Nat)(a x:Q0),k<=a.length->k<=common a (a.take k++x)
 |0,a,x,h=>by omega
 |k+1,[],x,h=>by simp at h
 |k+1,b::a,x,h=>by rw[BL,bC];unfold common;rw[aj rfl];have:=adV k a x (by simpa using h);omega
theorem avJ(t a:Q0)(first:Bool)(at':Nat)(h:at'<=t.length)(ht:t.length<=100000000)(ha:a.length<=100000000):
 ∃at2:Nat,TT.lim 206 [.s t,.i .i64 at',.s a,.b first]=some [.i .i64 0,.s (bH (t.drop at') a first).1,.i .i64 (bH (t.drop at') a first).2.2,.s t,.i .i64 at2]/\
  ((bH (t.drop at') a first).2.2=0->at2=at'+(bH (t.drop at') a first).2.1):=by
 have k1:=Bz t at' h (by omega);by_cases he:(aB (t.drop at')).2.2=0;rotate_left
 ·obtain⟨e1,e2⟩:=Jq he;have hp:bH (t.drop at') a first=mG (aB (t.drop at')).2.2:=by unfold bH;simp only;rw[aj he]
  rw[e1,e2]at k1;rw[hp];clear e1 e2 hp;generalize(aB (t.drop at')).2.2=e at *;refine⟨at',au rfl rfl ?_,λh=>absurd h he⟩;cases first<;>simp[k1,he,mG]
 have hv:=jY he;have hl:=hv.len;have h64:=hv.lt;have h10:=hv.ten;rw[eX]at hl
 have hpn:∀a':Q0,a'=(if first=true then[]else a)->bH (t.drop at') a first=(if a'.length<(aB (t.drop at')).1 then mG 23 else
  if(aB (t.drop (at'+(aB (t.drop at')).2.1))).2.2≠0 then mG (aB (t.drop (at'+(aB (t.drop at')).2.1))).2.2 else
  if(t.length-at')-((aB (t.drop at')).2.1+(aB (t.drop (at'+(aB (t.drop at')).2.1))).2.1)<(aB (t.drop (at'+(aB (t.drop at')).2.1))).1 then mG 1 else
  if first=false/\Op.bytesLess a' (a'.take (aB (t.drop at')).1++(t.drop (at'+((aB (t.drop at')).2.1+(aB (t.drop (at'+(aB (t.drop at')).2.1))).2.1))).take (aB (t.drop (at'+(aB (t.drop at')).2.1))).1)=false then mG 7 else
  if(aB (t.drop at')).1<common a' (a'.take (aB (t.drop at')).1++(t.drop (at'+((aB (t.drop at')).2.1+(aB (t.drop (at'+(aB (t.drop at')).2.1))).2.1))).take (aB (t.drop (at'+(aB (t.drop at')).2.1))).1)then mG 23 else
  (a'.take (aB (t.drop at')).1++(t.drop (at'+((aB (t.drop at')).2.1+(aB (t.drop (at'+(aB (t.drop at')).2.1))).2.1))).take (aB (t.drop (at'+(aB (t.drop at')).2.1))).1,(aB (t.drop at')).2.1+(aB (t.drop (at'+(aB (t.drop at')).2.1))).2.1+(aB (t.drop (at'+(aB (t.drop at')).2.1))).1,0)):=by
  intro a' ha';unfold bH;simp only[sK,eX,<-ha',he,ne_eq,not_true_eq_false,if_false]
 rw[he]at k1;have k2:=Bz t (at'+(aB (t.drop at')).2.1) (by omega) (by omega);have hv2:=λh=>jY (s:=t.drop (at'+(aB (t.drop at')).2.1)) h;have hv3:=λh=>Jq (s:=t.drop (at'+(aB (t.drop at')).2.1)) h;generalize hv0:aB (t.drop at')=v at *;obtain⟨n,i,e⟩:=v;simp only at *;generalize hv1:aB (t.drop (at'+i))=v2 at *;obtain⟨m,j,e2⟩:=v2;simp only at *;clear hv0 hv1 hv;subst he;simp only[Eb]at k1 k2;cases first with
 |true=>
  have hp:=hpn [] rfl;rw[hp];clear hp hpn;by_cases c1:0<n
  ·have c1':(0:Int)<n:=by omega
   rw[aj (by simpa using c1)];refine⟨at'+i,au rfl rfl ?_,λh=>by cases h⟩;simp[k1,c1,c1',mG]
  have c1':¬(0:Int)<n:=by omega
  rw[ah (by simpa using c1)];by_cases c2:e2=0;rotate_left
  ·obtain⟨q1,q2⟩:=hv3 c2;subst q1;subst q2;rw[aj c2];refine⟨at'+i,au rfl rfl ?_,λh=>absurd h c2⟩;simp[k1,k2,c1,c1',c2,mG]
  subst c2;obtain⟨q1,q2,q3,q4,_⟩:=hv2 rfl;rw[eX]at q3;rw[ah (by simp)];have w2:=wrap64 (n:=(t.length:Int)-((at':Int)+(i:Int)+(j:Int))) (by omega) (by omega);have w3:=gJ (n:=(t.length:Int)-((at':Int)+(i:Int)+(j:Int))) (by omega) (by omega);by_cases c3:t.length-at'-(i+j)<m
  ·have c3':(t.length:Int)-((at':Int)+(i:Int)+(j:Int))<(m:Int):=by omega
   rw[aj c3];refine⟨at'+i+j,au rfl rfl ?_,λh=>by cases h⟩;simp[k1,k2,c1,c1',w2,w3,c3',mG]
  have c3':¬(t.length:Int)-((at':Int)+(i:Int)+(j:Int))<(m:Int):=by omega
  rw[ah c3,ah (by simp)];have n0:n=0:=by omega
  subst n0;have hc:common [] ([]++(t.drop (at'+(i+j))).take m)=0:=X4 _;have w4:=wrap64 (n:=(m:Int)) (by omega) (by omega);have w5:=wrap64 (n:=(at':Int)+(i:Int)+(j:Int)+(m:Int)) (by omega) (by omega);have w0:=wrap64 (n:=(0:Int)) (by omega) (by omega);have ts:((t.take (at'+i+j+m)).drop (at'+i+j))=(t.drop (at'+(i+j))).take m:=by rw[<-jL,JF];congr 1;omega
  have kc:=XT [] ((t.drop (at'+(i+j))).take m) (by simp) (by simp;omega);rw[X4]at kc;have c4:(at':Int)+(i:Int)+(j:Int)<=(at':Int)+(i:Int)+(j:Int)+(m:Int)/\(at':Int)+(i:Int)+(j:Int)+(m:Int)<=t.length:=by omega
  have c5:(0:Int)<=(at':Int)+(i:Int)+(j:Int):=by omega
  have t1:((at':Int)+(i:Int)+(j:Int)+(m:Int)).toNat=at'+i+j+m:=by omega
  have t2:((at':Int)+(i:Int)+(j:Int)).toNat=at'+i+j:=by omega
  rw[List.take_nil,ah (by rw[hc];omega)];have hl0:(((t.drop (at'+(i+j))).take m).length:Int)<=9223372036854775807:=by
   have:((t.drop (at'+(i+j))).take m).length<=t.length:=by rw[kF,eX];omega
   omega
  refine⟨at'+i+j+m,au rfl rfl ?_,λ_=>by simp only;omega⟩;rw[aV];generalize(t.drop (at'+(i+j))).take m=X at *;simp[k1,k2,w0,w2,w3,w4,w5,c3',c4,c5,t1,t2,ts,kc,hl0]
 |false=>
  have hp:=hpn a rfl;rw[hp];clear hp hpn;have wa:=gJ (n:=(a.length:Int)) (by omega) (by omega);by_cases c1:a.length<n
  ·have c1':(a.length:Int)<n:=by omega
   rw[aj c1];refine⟨at'+i,au rfl rfl ?_,λh=>by cases h⟩;simp[k1,c1,c1',wa,mG]
  have c1':¬(a.length:Int)<n:=by omega
  rw[ah c1];by_cases c2:e2=0;rotate_left
  ·obtain⟨q1,q2⟩:=hv3 c2;subst q1;subst q2;rw[aj c2];refine⟨at'+i,au rfl rfl ?_,λh=>absurd h c2⟩;simp[k1,k2,c1,c1',c2,wa,mG]
  subst c2;obtain⟨q1,q2,q3,q4,_⟩:=hv2 rfl;rw[eX]at q3;rw[ah (by simp)];have w2:=wrap64 (n:=(t.length:Int)-((at':Int)+(i:Int)+(j:Int))) (by omega) (by omega);have w3:=gJ (n:=(t.length:Int)-((at':Int)+(i:Int)+(j:Int))) (by omega) (by omega);by_cases c3:t.length-at'-(i+j)<m
  ·have c3':(t.length:Int)-((at':Int)+(i:Int)+(j:Int))<(m:Int):=by omega
   rw[aj c3];refine⟨at'+i+j,au rfl rfl ?_,λh=>by cases h⟩;simp[k1,k2,c1,c1',w2,w3,c3',wa,mG]
  have c3':¬(t.length:Int)-((at':Int)+(i:Int)+(j:Int))<(m:Int):=by omega
  rw[ah c3];have w4:=wrap64 (n:=(m:Int)) (by omega) (by omega);have w5:=wrap64 (n:=(at':Int)+(i:Int)+(j:Int)+(m:Int)) (by omega) (by omega);have wn:=wrap64 (n:=(n:Int)) (by omega) (by omega);have ts:((t.take (at'+i+j+m)).drop (at'+i+j))=(t.drop (at'+(i+j))).take m:=by rw[<-jL,JF];congr 1;omega
  have hlx:((t.drop (at'+(i+j))).take m).length<=t.length:=by rw[kF,eX];omega
  have kc:=XT a (a.take n++(t.drop (at'+(i+j))).take m) (by omega) (by rw[fU,kF];omega);have c4:(at':Int)+(i:Int)+(j:Int)<=(at':Int)+(i:Int)+(j:Int)+(m:Int)/\(at':Int)+(i:Int)+(j:Int)+(m:Int)<=t.length:=by omega
  have c5:(0:Int)<=(at':Int)+(i:Int)+(j:Int):=by omega
  have c6:(n:Int)<=a.length:=by omega
  have t1:((at':Int)+(i:Int)+(j:Int)+(m:Int)).toNat=at'+i+j+m:=by omega
  have t2:((at':Int)+(i:Int)+(j:Int)).toNat=at'+i+j:=by omega
  have hlm:(min n a.length:Nat)=n:=by omega
  have hl0:(n:Int)+(((t.drop (at'+(i+j))).take m).length:Int)<=9223372036854775807:=by omega
  have hle:=as1 a (a.take n++(t.drop (at'+(i+j))).take m);generalize(t.drop (at'+(i+j))).take m=X at *;by_cases c7:Op.bytesLess a (a.take n++X)=false
  ·rw[aj ⟨rfl,c7⟩];rw[c7]at hle;refine⟨at'+i+j+m,au rfl rfl ?_,λh=>by cases h⟩;have hle':(Op.bytesLess (a.take n++X) a=true\/a.take n++X=a)=True:=eq_true (by simpa using hle);simp[k1,k2,wa,wn,w2,w3,w4,w5,c1',c3',c4,c5,c6,t1,t2,ts,hl0,hlm,hle',mG]
  ·rw[ah (λh=>c7 h.2)];have c7:Op.bytesLess a (a.take n++X)=true:=by simpa using c7
   rw[c7]at hle;have hle':(Op.bytesLess (a.take n++X) a=true\/a.take n++X=a)=False:=eq_false (by simpa using hle);by_cases c8:n<common a (a.take n++X)
   ·have GH:(n:Int)<(common a (a.take n++X):Int):=by omega
    rw[aj c8];refine⟨at'+i+j+m,au rfl rfl ?_,λh=>by cases h⟩;simp[k1,k2,wa,wn,w2,w3,w4,w5,c1',c3',c4,c5,c6,t1,t2,ts,hl0,hlm,hle',kc,GH,mG]
   ·have GH:¬(n:Int)<(common a (a.take n++X):Int):=by omega
    rw[ah c8];refine⟨at'+i+j+m,au rfl rfl ?_,λ_=>by simp only;omega⟩;simp[k1,k2,wa,wn,w2,w3,w4,w5,c1',c3',c4,c5,c6,t1,t2,ts,hl0,hlm,hle',kc,GH]
theorem aaD{s a:Q0}{first:Bool}(h:(bH s a first).2.2=0):2<=(bH s a first).2.1/\(bH s a first).2.1<=s.length/\(bH s a first).1.length<=(if first=true then 0 else a.length)+(bH s a first).2.1:=by
 have hA:(if first=true then 0 else a.length)=(if first=true then[]else a).length:=by cases first<;>rfl
 rw[hA];clear hA;unfold bH at h⊢;simp only at h⊢;generalize(if first=true then[]else a)=a' at h⊢;split at h
 ·next c=>exact absurd h c
 next c0=>
 rw[ah c0];split at h
 ·cases h
 next c1=>
 rw[ah c1];split at h
 ·next c=>exact absurd h c
 next c2=>
 rw[ah c2];split at h
 ·cases h
 next c3=>
 rw[ah c3];split at h
 ·cases h
 next c4=>
 rw[ah c4];split at h
 ·cases h
 next c5=>
 rw[ah c5];have v1:=jY (s:=s) (by simpa using c0);have v2:=jY (s:=s.drop (aB s).2.1) (by simpa using c2);have p1:=v1.pos;have p2:=v2.pos;have l1:=v1.len;have l2:=v2.len;rw[eX]at l2;refine⟨by simp only;omega,by simp only;omega,?_⟩;simp only[fU,kF,eX];omega
theorem aha(a s:Q0)(hs:s.length<=100000000):(A8 a s).length<=20+s.length:=by have hl:=X3 a s;have l1:=ny (n:=common a s) (by omega);have l2:=ny (n:=s.length-common a s) (by omega);unfold A8;simp only[fU,eX];omega
theorem ars{g:GV}(h:bP.bool.has g):∃b,g=.b b:=by simpa only[bP.has]using h
