/- What the trees compute: plain laws. -/
import Derived.Test.YtkoclengoeonnaaGreatDoorKQT
import Derived.Lib.TrimUEq
import Derived.Lib.MapLaws
set_option linter.all false
namespace Go.Proofs.YtkoclengoeonnaaGreatDoor
open Go Go.aP
set_option maxRecDepth 100000
namespace Q
def KW:∀a b:Q0,Op.bytesLess a b=decide (a<b)
 |_,[]=>by simp[Op.bytesLess]
 |[],_::_=>by simp[Op.bytesLess]
 |a::x,b::y=>by rw[Op.bytesLess,KW x y,xK];simp[ac5]
abbrev eP:=Q0×Q0
abbrev Row:=List eP×Int
def ent(x:eP):GV:=.g [.s x.1,.s x.2]
def row(r:Row):GV:=.g [.l (r.1.map ent),.zu r.2]
@[simp] theorem aDg(x:eP):(ent x).cells=[.s x.1,.s x.2]:=rfl
@[simp] theorem axJ(r:Row):(row r).cells=[.l (r.1.map ent),.zu r.2]:=rfl
@[simp] theorem aDh(x:eP):(ent x).scalar=false:=rfl
@[simp] theorem aEH(r:Row):(row r).scalar=false:=rfl
def tZ(d:List eP):Prop:=d.length<=140737488351232/\∀x∈d,x.1.length<=140737488351232/\x.2.length<=140737488351232
def Rows(l:List Row):Prop:=l.length<=140737488351232/\∀r∈l,tZ r.1/\0<=r.2/\r.2<18446744073709551616
def uJ(x:eP):Bool:=decide (x.1.length+x.2.length<=600)
def ahp(d:List eP)(e:tZ d):∀m i:Nat,i+m=d.length->TT.lim 13 [.l (d.map ent),.zq d.length,.zq i]=some (if(d.drop i).all uJ=true then[.zq 1]else[.zq 0])
 |0,i,hi=>by have h0:d.drop i=[]:=gJ;refine aB ?_;have h:¬((i:Int)<d.length):=ah;simp[h,h0]
 |m+1,i,hi=>by
  have a:i<d.length:=ah;have g:TT.lim 13 [.l (d.map ent),.zq d.length,.zq ((i:Int)+1)]=_:=ahp d e m (i+1) ah;refine aB ?_;have h:((i:Int)<d.length):=ah;have j:=wrap64 (n:=(i:Int)+1) ah (by have:=e.1;omega);have k:=e.2 d[i] (iq a);have b:=bD ((d[i].1.length:Int)+(d[i].2.length:Int));have c:(d.drop i).all uJ=(uJ d[i]&&(d.drop (i+1)).all uJ):=by rw[gW a,qJ]
  by_cases f:(600:Int)<(d[i].1.length:Int)+(d[i].2.length:Int)
  ·have:uJ d[i]=false:=by unfold uJ;simp;omega
   simp[h,a,b,f,c,this]
  ·have:uJ d[i]=true:=by unfold uJ;simp;omega
   rw[c,this,ET];simp[h,a,j,b,f,g]
def iL(d:List eP):Bool:=d.all uJ&&decide (d.length<=40)
def aqH(d:List eP)(c:tZ d):TT.lim 12 [.l (d.map ent)]=some [.b (iL d)]:=by
 refine aQ ?_;have a:TT.lim 13 [.l (d.map ent),.zq d.length,.zq 0]=_:=ahp d c d.length 0 ah;rw[dD]at a;cases b:d.all uJ with
 |false=>rw[b]at a;simp[a,iL,b]
 |true=>
  rw[b]at a;simp only[if_true]at a;have:(decide ((d.length:Int)<=40))=decide (d.length<=40):=by rw[xK];simp;omega
  simp[a,iL,b,this]
def bg(n:Nat):Q0:=if n<128 then[UInt8.ofNat n]else UInt8.ofNat (n%128+128)::bg (n/128)
termination_by n
decreasing_by omega
def yI{n:Nat}(h:n<128):bg n=[UInt8.ofNat n]:=by rw[bg,au h]
def CZ{n:Nat}(h:¬n<128):bg n=UInt8.ofNat (n%128+128)::bg (n/128):=by rw[bg,aj h]
def WW{a b:Nat}(c:a<256)(d:b<256)(h:UInt8.ofNat a=UInt8.ofNat b):a=b:=by have:=uH UInt8.toNat h;simp at this;omega
def acC:∀(n m:Nat)(x y:Q0),bg n++x=bg m++y->n=m/\x=y:=by
 intro n;induction n using Nat.strongRecOn with
 |_ n c=>
  intro m x y h;by_cases a:n<128<;>by_cases b:m<128
  ·rw[yI a,yI b]at h;simp only[bI,bf,zI]at h;exact⟨WW ah ah h.1,h.2⟩
  ·rw[yI a,CZ b]at h;simp only[bI,bf,zI]at h;have:=WW ah ah h.1;omega
  ·rw[CZ a,yI b]at h;simp only[bI,bf,zI]at h;have:=WW ah ah h.1;omega
  ·rw[CZ a,CZ b]at h;simp only[bI,zI]at h;have e:=WW ah ah h.1;obtain⟨f,d⟩:=c (n/128) ah (m/128) x y h.2;exact⟨ah,d⟩
def fJ(n:Nat):Nat:=(bg n).length
def az6{n:Int}(h0:0<=n):n.fdiv (2^(7:Nat))=n/128:=by rw[EW _ aX];rfl
def ajx{n:Nat}:jQ .shr .u64 (n:Int) 7=some (.zu ((n/128:Nat):Int)):=by
 have:((n:Int)).fdiv (2^(7:Nat))=((n/128:Nat):Int):=by rw[az6 ah];omega
 simp[jQ,IntKind.bits];exact this
def J3(n:Nat):0<fJ n:=by unfold fJ;rw[bg];split<;>simp
def JZ{n:Nat}(h:¬n<128):fJ n=fJ (n/128)+1:=by unfold fJ;rw[CZ h];rfl
def NP:∀(k n:Nat),0<k->n<128^k->fJ n<=k
 |0,_,h,_=>ah
 |k+1,n,_,h=>by
  by_cases a:n<128
  ·unfold fJ;rw[yI a];simp
  ·rw[JZ a];cases k with
   |zero=>simp at h;omega
   |succ k=>
    have:n/128<128^(k+1):=by rw[KF]at h;omega
    have:=NP (k+1) (n/128) ah this;omega
def G5{n:Nat}(h:n<18446744073709551616):fJ n<=10:=NP 10 n ah ah
def atS:∀(n s:Nat),s+fJ n<=1000->n<18446744073709551616->TT.lim 17 [.zu n,.zq s]=some [.zq 0,.zq ((s+fJ n-1:Nat):Int)]:=by
 intro n;induction n using Nat.strongRecOn with
 |_ n e=>
  intro s g i;refine aB ?_;by_cases h:n<128
  ·have b:¬(128:Int)<=n:=ah;simp[b,fJ,yI h]
  ·have b:(128:Int)<=n:=ah;have j:=JZ h;have k:=J3 (n/128);have f:=bD ((s:Int)+1);have a:TT.lim 17 [.zu ((n/128:Nat):Int),.zq ((s:Int)+1)]=_:=e (n/128) ah (s+1) ah ah;have c:s+fJ n-1=s+1+fJ (n/128)-1:=ah;rw[c];have d:jQ .shr .u64 (n:Int) 7=some (.zu ((n/128:Nat):Int)):=ajx;generalize((n/128:Nat):Int)=q at d a;simp[b,f,d,a]
def Nw(n:Nat)(a:n<18446744073709551616):TT.lim 16 [.zu n]=some [.zq (fJ n)]:=by have c:=J3 n;have b:TT.lim 17 [.zu n,.zq 1]=_:=atS n 1 (by have:=G5 a;omega) a;rw[(ah:1+fJ n-1=fJ n)]at b;refine aQ ?_;simp[b]
def lu:Nat->Nat->List Nat
 |0,_=>[]
 |k+1,n=>(n%128+128)::lu k (n/128)
def jE(n:Nat):GV:=.i .u8 n
def alg(n:Nat)(d:n<18446744073709551616):bV .and .u64 (n:Int) 127=some (.zu ((n%128:Nat):Int)):=by
 have a:((BitVec.ofInt 64 (n:Int) &&& BitVec.ofInt 64 127).toNat:Nat)=n%128:=by rw[Xq,tY,tY];have b:((n:Int)%((2^64:Nat):Int)).toNat=n:=ah;have c:((127:Int)%((2^64:Nat):Int)).toNat=2^7-1:=aX;rw[b,c,adp]
 show some (GV.zu (IntKind.u64.wrap (((BitVec.ofInt 64 (n:Int) &&& BitVec.ofInt 64 127).toNat:Nat):Int)))=_
 rw[a,G7 ah ah]
def adP(n:Nat)(a:n<256):bV .and .u8 (n:Int) 127=some (.i .u8 ((n%128:Nat):Int)):=by
 have:∀x:Fin 256,IntKind.u8.wrap (((BitVec.ofInt IntKind.u8.bits ((x.val:Nat):Int) &&& BitVec.ofInt IntKind.u8.bits 127).toNat:Nat):Int)=((x.val%128:Nat):Int):=by decide +kernel
 show some (GV.i .u8 _)=some (GV.i .u8 _)
 exact uH (λz=>some (GV.i .u8 z)) (this ⟨n,a⟩)
def avv(n:Nat)(a:n<128):bV .or .u8 (n:Int) 128=some (.i .u8 ((n+128:Nat):Int)):=by
 have:∀x:Fin 128,IntKind.u8.wrap (((BitVec.ofInt IntKind.u8.bits ((x.val:Nat):Int) |||BitVec.ofInt IntKind.u8.bits 128).toNat:Nat):Int)=((x.val+128:Nat):Int):=by decide +kernel
 show some (GV.i .u8 _)=some (GV.i .u8 _)
 exact uH (λz=>some (GV.i .u8 z)) (this ⟨n,a⟩)
def aB8{n:Int}(h0:0<=n)(h1:n<256):IntKind.u8.wrap n=n:=by
 have:IntKind.u8.wrap n=n%256:=by simp[IntKind.wrap,IntKind.signed,IntKind.bits]
 rw[this];omega
@[simp] theorem aC1(n:Nat):(jE n).cells=[jE n]:=rfl
@[simp] theorem aC3(n:Nat):(jE n).scalar=true:=rfl
@[simp] theorem aC2(n:Nat)(v:GV):(jE n).put 0 [v]=some v:=rfl
def aeg:∀l:Q2,(∀x∈l,x<256)->mg (l.map jE)=some (l.map UInt8.ofNat)
 |[],_=>rfl
 |a::l,h=>by have h1:=h a aA;have b:=aeg l λx c=>h x (by simp[c]);simp only[iC,jE,mg]at b⊢;rw[mW];have:(λn:Nat=>GV.i .u8 (n:Int))=jE:=rfl;rw[b];simp
def ahg:∀(m n:Nat)(done:Q2),n<18446744073709551616->done.length+m<1000->
 TT.lim 18 [.zu n,.l ((done++List.replicate m 0).map jE),.zq ((done.length+m:Nat):Int),.zq done.length]=some [.zq 0,.l ((done++lu m n).map jE)]
 |0,n,done,l,r=>by refine aB ?_;simp[lu]
 |m+1,n,done,l,r=>by
  have b:(done.length:Int)<((done.length+(m+1):Nat):Int):=ah;have s:=bD ((done.length:Int)+1);have c:=aB8 (n:=((n%128:Nat):Int)) ah ah;have o:jQ .shr .u64 (n:Int) 7=some (.zu ((n/128:Nat):Int)):=ajx;have p:=alg n l;have g:=avv (n%128) ah;have a:=ahg m (n/128) (done++[n%128+128]) ah (by simp;omega);have d:(done++[n%128+128]).length+m=done.length+(m+1):=by simp;omega
  rw[d]at a;have h:(((done++[n%128+128]).length:Nat):Int)=(done.length:Int)+1:=aA;rw[h]at a;have e:((done++List.replicate (m+1) 0).map jE).set done.length (jE (n%128+128))=(done++[n%128+128]++List.replicate m 0).map jE:=by rw[N7,<-XB,List.set_append_right _ _ (cO _),AY];simp
  have f:((done++List.replicate (m+1) 0).map jE)[done.length]? =some (jE 0):=by rw[jf,wE (cO _),AY,N7];rfl
  have i:((done++List.replicate (m+1) 0).map jE).length=done.length+(m+1):=aA;have t:done++lu (m+1) n=done++[n%128+128]++lu m (n/128):=by simp[lu]
  rw[t];generalize v:(done++List.replicate (m+1) 0).map jE=L at *;refine aB ?_;have j:(0:Int)<=(done.length:Int)/\(done.length:Int)<(L.length:Int):=by rw[i];omega
  have u:GV.i IntKind.u8 ((n%128+128:Nat):Int)=jE (n%128+128):=rfl;have k:L.set done.length (GV.i IntKind.u8 ((n%128+128:Nat):Int))=(done++[n%128+128]++List.replicate m 0).map jE:=e;generalize(done++[n%128+128]++List.replicate m 0).map jE=w at a k;generalize(done++[n%128+128]++lu m (n/128)).map jE=x at a⊢;generalize((n/128:Nat):Int)=q at o a;generalize((n%128+128:Nat):Int)=z at g k;generalize((n%128:Nat):Int)=y at p c g;generalize((done.length+(m+1):Nat):Int)=N at b a⊢;simp[b,p,c,g,j,f,o,s,k,a]
def acD:∀m n,(lu m n).length=m
 |0,_=>rfl
 |m+1,n=>by simp[lu,acD m]
def acE:∀m n,∀x∈lu m n,x<256
 |0,_,x,h=>by simp[lu]at h
 |m+1,n,x,h=>by
  simp only[lu,bJ]at h;rcases h with rfl|h
  ·omega
  ·exact acE m _ x h
def akv:∀(s n:Nat),fJ n=s+1->∃x,(lu (s+1) n)[s]? =some x/\((lu (s+1) n).set s (x%128)).map UInt8.ofNat=bg n
 |0,n,h=>by
  have a:n<128:=by
   by_cases a:n<128
   ·exact a
   ·rw[JZ a]at h;have:=J3 (n/128);omega
  refine⟨n%128+128,by simp[lu],?_⟩;rw[yI a];simp[lu];rw[N9 a]
 |s+1,n,h=>by
  have a:¬n<128:=by intro a;unfold fJ at h;rw[yI a]at h;simp at h
  rw[JZ a]at h;obtain⟨x,b,c⟩:=akv s (n/128) ah;refine⟨x,by simp only[lu,vk]at b⊢;exact b,?_⟩;rw[CZ a,<-c];simp[lu]
def yA(n:Nat)(o:n<18446744073709551616):TT.lim 15 [.zu n]=some [.s (bg n)]:=by
 have p:=Nw n o;have L:=J3 n;have N:=G5 o;obtain⟨s,h⟩:∃s,fJ n=s+1:=⟨fJ n-1,ah⟩
 obtain⟨x,D,F⟩:=akv s n h;rw[h]at p;have c:TT.lim 18 [.zu n,.l ((List.replicate (s+1) 0).map jE),.zq ((s+1:Nat):Int),.zq 0]=some [.zq 0,.l ((lu (s+1) n).map jE)]:=by have:=ahg (s+1) n [] o (by simp;omega);simpa using this
 have G:(List.replicate (s+1) 0).map jE=List.replicate (s+1) (GV.i .u8 0):=by rw[List.map_replicate];rfl
 rw[G]at c;have H:x<256:=acE _ _ x (rX D);have E:=adP x H;have d:((lu (s+1) n).map jE)[s]? =some (jE x):=by rw[jf,D];rfl
 have b:((lu (s+1) n).map jE).set s (GV.i .u8 ((x%128:Nat):Int))=((lu (s+1) n).set s (x%128)).map jE:=(XB (f:=jE) (l:=lu (s+1) n) (i:=s) (a:=x%128)).symm;have q:=aeg ((lu (s+1) n).set s (x%128)) (λy r=>by
  rcases adk r with r|rfl
  ·exact acE _ _ y r
  ·omega)
 rw[F]at q;have e:(((lu (s+1) n).set s (x%128)).map jE).length=s+1:=by simp[acD]
 have j:(List.replicate (s+1) (GV.i .u8 0)).length=s+1:=aA;have k:((lu (s+1) n).map jE).length=s+1:=by simp[acD]
 generalize((lu (s+1) n).set s (x%128)).map jE=O at b q e;generalize(lu (s+1) n).map jE=I at c d b k;generalize m:List.replicate (s+1) (GV.i .u8 0)=P at c j;refine aQ ?_;have J:=bD ((s:Int));have g:((s+1:Nat):Int)=(s:Int)+1:=ah;rw[g]at p c;have t:(0:Int)<=(s:Int)+1/\(s:Int)+1<=281474976710656/\(s:Int)+1<=1152921504606846976:=ah;have u:((s:Int)+1).toNat=s+1:=ah;have v:(s:Int)<(s:Int)+1:=ah;have w:(s:Int)+1-1=(s:Int):=ah;generalize R:((x%128:Nat):Int)=M at E b;have z:jE x=.i .u8 x:=rfl;have A:s+1<=281474976710656:=ah;have B:I[s]'(by omega)=jE x:=by have:=d;rw[bT ah]at this;exact Hu this
 simp[p,t,u,m,j,c,k,w,J,v,d,B,E,b,z,e,q,A,GV.fQ]
def Ya(a b:Q0):bQ (a++b)=bQ a++bQ b:=by simp[bQ]
@[simp] theorem aee(a:Q0):(bQ a).length=a.length:=by simp[bQ]
def OC(a:Q0):(bQ a).all (GV.fQ 1)=true:=by rw[List.all_eq_true];intro x c;obtain⟨b,_,rfl⟩:=qK.1 c;rfl
def Yc:∀a:Q0,mg (bQ a)=some a
 |[]=>rfl
 |x::a=>by have b:=Yc a;simp only[bQ,iC,mg]at b⊢;have:=x.toNat_lt;rw[mW,b];simp
def lU(x:eP):Q0:=bg x.1.length++x.1++bg x.2.length++x.2
def dV(d:List eP):Q0:=bg d.length++d.flatMap lU
def nN{n:Nat}(h:n<18446744073709551616):(bg n).length<=10:=G5 h
def ap2(x:eP)(h1:x.1.length<=140737488351232)(g:x.2.length<=140737488351232):TT.lim 20 [ent x]=some [.s (lU x)]:=by have a:=yA x.1.length ah;have b:=yA x.2.length ah;have h:=nN (n:=x.1.length) ah;have i:=nN (n:=x.2.length) ah;have w1:=jD ((x.1.length:Int));have c:=jD ((x.2.length:Int));refine aQ ?_;have d:((bg x.1.length).length:Int)+(x.1.length:Int)<=9223372036854775807:=ah;have e:((bg x.1.length).length:Int)+((x.1.length:Int)+((bg x.2.length).length:Int))<=9223372036854775807:=ah;have f:((bg x.1.length).length:Int)+((x.1.length:Int)+(((bg x.2.length).length:Int)+(x.2.length:Int)))<=9223372036854775807:=ah;simp[w1,c,a,b,d,e,f,lU,Int.add_assoc]
def afr{x:eP}(h:uJ x=true):(lU x).length<=620:=by unfold uJ at h;simp only[decide_eq_true_iff]at h;have a:=nN (n:=x.1.length) ah;have b:=nN (n:=x.2.length) ah;simp only[lU,gu];omega
def Y1:∀d:List eP,d.all uJ=true->(d.flatMap lU).length<=620*d.length
 |[],_=>aA
 |x::d,h=>by rw[qJ,aO]at h;have:=afr h.1;have:=Y1 d h.2;simp only[jS,gu,iF];omega
def ahh(d:List eP)(f:d.all uJ=true)(k:d.length<=40):∀(m i:Nat)(a:Q0),i+m=d.length->a.length<=10+620*i->
 TT.lim 19 [.l (d.map ent),.zq d.length,.zq i,.l (bQ a)]=some [.zq 0,.l (bQ (a++(d.drop i).flatMap lU))]
 |0,i,a,hi,l=>by have h0:d.drop i=[]:=gJ;refine aB ?_;have h:¬((i:Int)<d.length):=ah;simp[h,h0]
 |m+1,i,a,hi,l=>by
  have b:i<d.length:=ah;have g:=List.all_eq_true.1 f d[i] (iq b);have c:=g;unfold uJ at c;simp only[decide_eq_true_iff]at c;have n:=ap2 d[i] ah ah;have o:=afr g;have j:TT.lim 19 [.l (d.map ent),.zq d.length,.zq ((i:Int)+1),.l (bQ (a++lU d[i]))]=_:=ahh d f k m (i+1) (a++lU d[i]) ah (by simp;omega);rw[Ya]at j;have p:(d.drop i).flatMap lU=lU d[i]++(d.drop (i+1)).flatMap lU:=by rw[gW b,jS]
  rw[p,<-List.append_assoc];refine aB ?_;have h:((i:Int)<d.length):=ah;have q:=bD ((i:Int)+1);have e:=OC (lU d[i]);have r:2*(a.length+(lU d[i]).length)<=281474976710656/\a.length+(lU d[i]).length<=281474976710656:=ah;have s:GV.g [GV.s d[i].1,GV.s d[i].2]=ent d[i]:=rfl;simp[-List.all_eq_true,h,b,s,n,e,r,q,j]
def BQ(d:List eP)(a:iL d=true):TT.lim 14 [.l (d.map ent)]=some [.s (dV d)]:=by unfold iL at a;rw[aO,decide_eq_true_iff]at a;have k:=yA d.length ah;have i:=nN (n:=d.length) ah;have w1:=jD ((d.length:Int));have b:TT.lim 19 [.l (d.map ent),.zq d.length,.zq 0,.l (bQ (bg d.length))]=_:=ahh d a.1 a.2 d.length 0 (bg d.length) ah ah;rw[dD]at b;have f:2*(bg d.length).length<=281474976710656/\(bg d.length).length<=281474976710656:=ah;have c:=OC (bg d.length);have g:=Y1 d a.1;have h:(bg d.length).length+(List.flatMap lU d).length<=281474976710656:=ah;have e:=Yc (bg d.length++d.flatMap lU);refine aQ ?_;unfold dV;generalize d.flatMap lU=j at *;simp[-List.all_eq_true,w1,k,f,c,b,h,e]
def ap1{x y:eP}{a b:Q0}(h:lU x++a=lU y++b):x=y/\a=b:=by unfold lU at h;simp only[List.append_assoc]at h;obtain⟨c,d⟩:=acC _ _ _ _ h;obtain⟨e,f⟩:=List.append_inj d c;obtain⟨g,i⟩:=acC _ _ _ _ f;obtain⟨j,k⟩:=List.append_inj i g;exact⟨Prod.ext e j,k⟩
def afP:∀{d e:List eP}{a b:Q0},d.length=e.length->d.flatMap lU++a=e.flatMap lU++b->d=e/\a=b
 |[],[],a,b,_,h=>⟨rfl,by simpa using h⟩
 |x::d,y::e,a,b,c,h=>by simp only[jS,List.append_assoc]at h;obtain⟨h1,f⟩:=ap1 h;obtain⟨g,i⟩:=afP (by simpa using c) f;exact⟨by rw[h1,g],i⟩
 |[],_::_,_,_,c,_=>by simp at c
 |_::_,[],_,_,c,_=>by simp at c
def atm{d e:List eP}{a b:Q0}(h:dV d++a=dV e++b):d=e/\a=b:=by unfold dV at h;simp only[List.append_assoc]at h;obtain⟨c,f⟩:=acC _ _ _ _ h;exact afP c f
def atl{d e:List eP}(h:dV d=dV e):d=e:=(atm (a:=[]) (b:=[]) (by simpa using h)).1
def pX(s:Q0)(lo hi:Int):Int:=if(s.length:Int)<lo then 13 else if hi<(s.length:Int)then 13 else if Lib.validD s=true then 0 else 11
def arO(s:Q0)(h:s.length<=140737488351232):TT.lim 26 [.s s]=some [.b (Lib.validD s)]:=by have a:TT.lim 27 [.s s]=some [.b (Lib.validD s)]:=CG (Ds:=Ds) (k:=27) (f:=NM) rfl (by simp only[NM];rw[mW]);refine aQ ?_;simp[a]
def FI(s:Q0)(lo hi:Int)(h:s.length<=140737488351232):TT.lim 25 [.s s,.zq lo,.zq hi]=some [.zq (pX s lo hi)]:=by
 have a:=arO s h;refine aQ ?_;unfold pX;by_cases b:(s.length:Int)<lo
 ·simp[b]
 ·by_cases c:hi<(s.length:Int)
  ·simp[b,c]
  ·cases d:Lib.validD s<;>rw[d]at a<;>simp[b,c,a,d]
def xk(x:eP):Int:=if pX x.1 1 64≠0 then pX x.1 1 64 else pX x.2 0 256
def afs(x:eP)(h1:x.1.length<=140737488351232)(b:x.2.length<=140737488351232):TT.lim 43 [ent x]=some [.zq (xk x)]:=by
 have a:=FI x.1 1 64 h1;have c:=FI x.2 0 256 b;refine aQ ?_;unfold xk;by_cases h:pX x.1 1 64=0
 ·simp[a,h,c]
 ·simp[a,h]
def wY:Option Q0->List eP->Int
 |_,[]=>0
 |p,x::xs=>if xk x≠0 then xk x else match p with
  |none=>wY (some x.1) xs
  |some k=>if x.1=k then 14 else if Op.bytesLess x.1 k=true then 7 else wY (some x.1) xs
def tagged(r:Int):Q1:=if r=0 then[.zq 1]else[.zq 0,.zq r]
def prevK(d:List eP)(i:Nat):Option Q0:=if i=0 then none else(d[i-1]?).map (·.1)
def ahi(d:List eP)(o:tZ d):∀m i:Nat,i+m=d.length->TT.lim 42 [.l (d.map ent),.zq d.length,.zq i]=some (tagged (wY (prevK d i) (d.drop i)))
 |0,i,hi=>by have h0:d.drop i=[]:=gJ;refine aB ?_;have h:¬((i:Int)<d.length):=ah;simp[h,h0,wY,tagged]
 |m+1,i,hi=>by
  have a:i<d.length:=ah;have w:=o.2 d[i] (iq a);have g:=afs d[i] w.1 w.2;have p:TT.lim 42 [.l (d.map ent),.zq d.length,.zq ((i:Int)+1)]=_:=ahi d o m (i+1) ah;have r:prevK d (i+1)=some d[i].1:=by unfold prevK;rw[eX];simp[a]
  rw[r]at p;have s:d.drop i=d[i]::d.drop (i+1):=gW a;rw[s];refine aB ?_;have h:((i:Int)<d.length):=ah;have t:=wrap64 (n:=(i:Int)+1) ah (by have:=o.1;omega);have j:GV.g [GV.s d[i].1,GV.s d[i].2]=ent d[i]:=rfl;by_cases k:xk d[i]=0;rotate_left
  ·simp[h,a,j,g,k,wY,tagged]
  by_cases h0:i=0
  ·subst h0;simp only[qX,ac0]at t p;simp[h,a,j,g,k,wY,prevK,t];simpa using p
  ·have b:i-1<d.length:=ah;have l:prevK d i=some d[i-1].1:=by unfold prevK;rw[aj h0];simp[b]
   have c:=wrap64 (n:=(i:Int)-1) ah (by have:=o.1;omega);have e:¬((i:Int)=0):=ah;have y:(0:Int)<=(i:Int)-1:=ah;have u:((i:Int)-1).toNat=i-1:=ah;have f:(1:Int)<=(i:Int):=ah;rw[l];by_cases q:d[i].1=d[i-1].1
   ·have v:(d[i].1=d[i-1].1)=True:=eq_true q;clear q;simp[h,a,j,g,k,e,h0,c,u,b,v,wY,tagged,f]
   ·cases x:Op.bytesLess d[i].1 d[i-1].1 with
    |true=>simp[h,a,j,g,k,e,h0,c,u,b,q,x,wY,tagged,f]
    |false=>simp[h,a,j,g,k,e,h0,c,u,b,q,x,wY,t,p,f]
def zX(d:List eP):Int:=if d.length=0 then 12 else if 16<d.length then 13 else wY none d
def aez(d:List eP)(i:tZ d):TT.lim 41 [.l (d.map ent)]=some [.zq (zX d)]:=by
 have a:TT.lim 42 [.l (d.map ent),.zq d.length,.zq 0]=_:=ahi d i d.length 0 ah;have f:prevK d 0=none:=rfl;rw[f,dD]at a;have w1:=G7 (n:=(d.length:Int)) ah (by have:=i.1;omega);refine aQ ?_;unfold zX;by_cases e:d.length=0
 ·have b:(d.length:Int)=0:=ah;have:d=[]:=jR e;subst this;simp[IntKind.wrap,IntKind.signed]
 ·have b:¬(d.length:Int)=0:=ah;by_cases g:16<d.length
  ·have c:(16:Int)<(d.length:Int):=ah;simp[w1,e,g,b,c]
  ·have c:¬(16:Int)<(d.length:Int):=ah;by_cases h:wY none d=0
   ·simp only[tagged,h,if_true]at a;simp[w1,e,g,b,c,a,h]
   ·simp only[tagged,h,if_false]at a;simp[w1,e,g,b,c,a]
def yB(r:Row):Int:=if zX r.1≠0 then zX r.1 else if r.2=0 then 18 else 0
def al7(r:Row)(b:tZ r.1):TT.lim 40 [row r]=some [.zq (yB r)]:=by
 have k:=aez r.1 b;refine aQ ?_;unfold yB;by_cases h:zX r.1=0
 ·by_cases a:r.2=0
  ·simp[k,h,a]
  ·simp[k,h,a]
 ·simp[k,h]
def sH(long:Bool)(r:Row):Bool:=decide (r.1.length<=18)&&iL r.1&&(!long ||decide ((dV r.1).length<=100))
def ahm(l:List Row)(j:Rows l):∀m i:Nat,i+m=l.length->TT.lim 11 [.l (l.map row),.zq l.length,.zq i]=some (if(l.drop i).all (sH (decide (40<l.length)))=true then[.zq 1]else[.zq 0])
 |0,i,hi=>by have h0:l.drop i=[]:=gJ;refine aB ?_;have h:¬((i:Int)<l.length):=ah;simp[h,h0]
 |m+1,i,hi=>by
  have a:i<l.length:=ah;have s:=j.2 l[i] (iq a);have p:TT.lim 11 [.l (l.map row),.zq l.length,.zq ((i:Int)+1)]=_:=ahm l j m (i+1) ah;have k:(l.drop i).all (sH (decide (40<l.length)))=(sH (decide (40<l.length)) l[i]&&(l.drop (i+1)).all (sH (decide (40<l.length)))):=by rw[gW a,qJ]
  rw[k];refine aB ?_;have h:((i:Int)<l.length):=ah;have q:=wrap64 (n:=(i:Int)+1) ah (by have:=j.1;omega);have e:=aqH l[i].1 s.1;by_cases t:18<l[i].1.length
  ·have b:(18:Int)<(l[i].1.length:Int):=ah;have:sH (decide (40<l.length)) l[i]=false:=by unfold sH;simp;omega
   rw[this];simp[h,a,b]
  have b:¬(18:Int)<(l[i].1.length:Int):=ah;have g:l[i].1.length<=18:=ah;cases f:iL l[i].1 with
  |false=>
   rw[f]at e;have:sH (decide (40<l.length)) l[i]=false:=by unfold sH;simp[f]
   rw[this];simp[h,a,b,e]
  |true=>
   rw[f]at e;have r:=BQ l[i].1 f;by_cases o:40<l.length
   ·have c:(40:Int)<(l.length:Int):=ah;by_cases u:100<(dV l[i].1).length
    ·have d:(100:Int)<((dV l[i].1).length:Int):=ah;have:sH (decide (40<l.length)) l[i]=false:=by unfold sH;simp[o];omega
     rw[this];simp[h,a,b,e,c,r,d]
    ·have d:¬(100:Int)<((dV l[i].1).length:Int):=ah;have:sH (decide (40<l.length)) l[i]=true:=by unfold sH;simp[o,f,g];omega
     rw[this,ET];simp[h,a,b,e,c,r,d,q,p]
   ·have c:¬(40:Int)<(l.length:Int):=ah;have:sH (decide (40<l.length)) l[i]=true:=by unfold sH;simp[o,f,g]
    rw[this,ET];simp[h,a,b,e,c,q,p]
def FX(l:List Row):Bool:=l.all (sH (decide (40<l.length)))&&decide (l.length<=300)
def aqF(l:List Row)(c:Rows l):TT.lim 10 [.l (l.map row)]=some [.b (FX l)]:=by
 refine aQ ?_;have a:TT.lim 11 [.l (l.map row),.zq l.length,.zq 0]=_:=ahm l c l.length 0 ah;rw[dD]at a;unfold FX;cases b:l.all (sH (decide (40<l.length)))with
 |false=>rw[b]at a;simp[a]
 |true=>
  rw[b]at a;simp only[if_true]at a;have:(decide ((l.length:Int)<=300))=decide (l.length<=300):=by rw[xK];simp;omega
  simp[a,this]
def aqE{l:List Row}(h:FX l=true):∀r∈l,iL r.1=true:=by unfold FX at h;rw[aO]at h;intro r a;have:=List.all_eq_true.1 h.1 r a;unfold sH at this;simp only[aO]at this;exact this.1.2
def FK(d:List eP)(h:d.length<=40):TT.lim 33 [.l (d.map ent)]=some [.l (d.map ent)]:=by
 refine CG (Ds:=Ds) (k:=33) (f:=DL 32 2) rfl ?_;have a:(d.map ent).all (GV.fQ 2)=true:=by rw[List.all_eq_true];intro x b;obtain⟨r,_,rfl⟩:=qK.1 b;rfl
 simp only[DL];rw[au ⟨by rw[iw];omega,a⟩]
abbrev K(r:Row):Q0:=dV r.1
def qg(k:Q0):List Row->Nat
 |[]=>0
 |r::rs=>if Op.bytesLess (K r) k=true then qg k rs+1 else 0
def afi(k:Q0):∀t:List Row,t.drop (qg k t)=t.dropWhile λr=>Op.bytesLess (K r) k
 |[]=>rfl
 |r::rs=>by
  unfold qg;cases h:Op.bytesLess (K r) k with
  |true=>simp[h,afi k rs]
  |false=>simp[h]
def adK(k:Q0):∀t:List Row,qg k t<=t.length
 |[]=>by simp[qg]
 |r::rs=>by unfold qg;have:=adK k rs;split<;>simp;omega
def Qk(t:List Row)(i:Nat)(k:GV)(b n j a c:GV):Q1:=match t[i]? with
 |some r=>[.zq 0,.zq i,row r,.l (r.1.map ent),.s (dV r.1)]
 |none=>[.zq 1,.zq i]
def ahk(t:List Row)(p:t.length<=256)(f:∀r∈t,iL r.1=true)(k:Q0)(b n j d e:GV):∀m i:Nat,i+m=t.length->
 TT.lim 46 [.l (t.map row),.zq i,.s k,b,n,j,d,e]=some (Qk t (i+qg k (t.drop i)) (.s k) b n j d e)
 |0,i,hi=>by have h0:t.drop i=[]:=gJ;have g:t[i]? =none:=wG ah;refine aB ?_;have h:¬((i:Int)<t.length):=ah;simp[h,h0,qg,Qk,g]
 |m+1,i,hi=>by
  have a:i<t.length:=ah;have q:TT.lim 46 [.l (t.map row),.zq ((i:Int)+1),.s k,b,n,j,d,e]=_:=ahk t p f k b n j d e m (i+1) ah;have l:=BQ t[i].1 (f _ (iq a));have s:qg k (t.drop i)=if Op.bytesLess (K t[i]) k=true then qg k (t.drop (i+1))+1 else 0:=by rw[gW a];rfl
  refine aB ?_;have h:((i:Int)<t.length):=ah;have u:=bD ((i:Int)+1);rw[s];cases o:Op.bytesLess (K t[i]) k with
  |true=>have c:Op.bytesLess (dV t[i].1) k=true:=o;rw[au rfl,(ah:i+(qg k (t.drop (i+1))+1)=i+1+qg k (t.drop (i+1)))];simp[h,a,l,c,u,q]
  |false=>have c:Op.bytesLess (dV t[i].1) k=false:=o;have g:t[i]? =some t[i]:=bT a;rw[aj aA,nR];simp[h,a,l,c,Qk]
def sD:List Row->List Row->Bool
 |_,[]=>true
 |t,r::rs=>match t.drop (qg (K r) t)with
  |[]=>false
  |s::a=>decide (K s=K r)&&decide (r.2<=s.2)&&sD (s::a) rs
def ahj(t b:List Row)(z:t.length<=256)(E:b.length<=256)(o:∀r∈t,iL r.1=true)(A:∀r∈b,iL r.1=true):∀m j i:Nat,j+m=b.length->i<=t.length->
 TT.lim 45 [.l (t.map row),.zq i,.l (b.map row),.zq b.length,.zq j]=some (if sD (t.drop i) (b.drop j)=true then[.zq 1]else[.zq 0])
 |0,j,i,F,hi=>by have h0:b.drop j=[]:=gJ;refine aB ?_;have h:¬((j:Int)<b.length):=ah;simp[h,h0,sD]
 |m+1,j,i,F,hi=>by
  have d:j<b.length:=ah;have n:=BQ b[j].1 (A _ (iq d));have f:=ahk t z o (dV b[j].1) (.l (b.map row)) (.zq b.length) (.zq j) (.l (b[j].1.map ent)) (.zu b[j].2) (t.length-i) i ah;have p:=adK (dV b[j].1) (t.drop i);rw[fF]at p;have q:b.drop j=b[j]::b.drop (j+1):=gW d
  have u:sD (t.drop i) (b.drop j)=match t.drop (i+qg (dV b[j].1) (t.drop i))with
   |[]=>false
   |s::G=>decide (K s=K b[j])&&decide (b[j].2<=s.2)&&sD (s::G) (b.drop (j+1)):=by
   rw[q];simp only[sD,uf]
  rw[u];generalize H:i+qg (dV b[j].1) (t.drop i)=c at f⊢;have v:c<=t.length:=ah;refine aB ?_;have h:((j:Int)<b.length):=ah;have I:=bD ((j:Int)+1);by_cases a:c<t.length
  ·have g:¬((c:Int)=(t.length:Int)):=ah;have w:t[c]? =some t[c]:=bT a;have e:t.drop c=t[c]::t.drop (c+1):=gW a;have x:=BQ t[c].1 (o _ (iq a));have B:TT.lim 45 [.l (t.map row),.zq c,.l (b.map row),.zq b.length,.zq ((j:Int)+1)]=_:=ahj t b z E o A m (j+1) c ah v;simp only[Qk,w]at f;rw[e];rw[e]at B;by_cases y:dV t[c].1=dV b[j].1
   ·have l:(dV t[c].1=dV b[j].1)=True:=eq_true y;clear y;by_cases D:t[c].2<b[j].2
    ·have k:¬b[j].2<=t[c].2:=ah;simp[h,d,n,f,g,a,x,l,D,k]
    ·have k:b[j].2<=t[c].2:=ah;simp[h,d,n,f,g,a,x,l,D,k,I,B]
   ·simp[h,d,n,f,g,a,x,y]
  ·have J:(c:Int)=(t.length:Int):=ah;have w:t[c]? =none:=wG ah;have e:t.drop c=[]:=gJ;simp only[Qk,w]at f;rw[e];simp[h,d,n,f,J]
def alq(t b:List Row)(c:t.length<=256)(d:b.length<=256)(e:∀r∈t,iL r.1=true)(f:∀r∈b,iL r.1=true):TT.lim 44 [.l (t.map row),.l (b.map row)]=some [.b (sD t b)]:=by have a:TT.lim 45 [.l (t.map row),.zq 0,.l (b.map row),.zq b.length,.zq 0]=_:=ahj t b c d e f b.length 0 0 ah ah;rw[dD,dD]at a;refine aQ ?_;cases g:sD t b<;>rw[g]at a<;>simp at a<;>simp[a]
def ap3(x y:eP):nH [1,1] [.s x.1,.s x.2] [.s y.1,.s y.2]=some (decide (x=y)):=by simp only[nH,gU,Q5];congr 1;rw[xK];simp[Prod.ext_iff]
def ahn(d e:List eP)(l:d.length=e.length)(n:d.length<=140737488351232):∀m i:Nat,i+m=d.length->
 TT.lim 180 [.l (d.map ent),.l (e.map ent),.zq d.length,.zq i]=some (if d.drop i=e.drop i then[.zq 1]else[.zq 0])
 |0,i,hi=>by have h0:d.drop i=[]:=gJ;have f:e.drop i=[]:=gJ;refine aB ?_;have h:¬((i:Int)<d.length):=ah;simp[h,h0,f]
 |m+1,i,hi=>by
  have b:i<d.length:=ah;have a:i<e.length:=ah;have o:TT.lim 180 [.l (d.map ent),.l (e.map ent),.zq d.length,.zq ((i:Int)+1)]=_:=ahn d e l n m (i+1) ah;have j:(d.drop i=e.drop i)↔(d[i]=e[i]/\d.drop (i+1)=e.drop (i+1)):=by rw[gW b,gW a,zI]
  have k:=ap3 d[i] e[i];refine aB ?_;have h:((i:Int)<d.length):=ah;have p:=bD ((i:Int)+1);by_cases f:d[i]=e[i]
  ·have g:(d.drop i=e.drop i)↔(d.drop (i+1)=e.drop (i+1)):=by rw[j];simp[f]
   have c:nH [1,1] [.s d[i].1,.s d[i].2] [.s e[i].1,.s e[i].2]=some true:=by rw[k];simp[f]
   simp only[g];simp[h,b,a,c,p,o]
  ·have g:¬(d.drop i=e.drop i):=by rw[j];simp[f]
   have c:nH [1,1] [.s d[i].1,.s d[i].2] [.s e[i].1,.s e[i].2]=some false:=by rw[k];simp[f]
   rw[aj g];simp[h,b,a,c]
def afD(d e:List eP)(f:d.length<=140737488351232)(g:e.length<=140737488351232):TT.lim 179 [.l (d.map ent),.l (e.map ent)]=some [.b (decide (d=e))]:=by
 refine aQ ?_;by_cases c:d.length=e.length
 ·have b:(d.length:Int)=(e.length:Int):=ah;have a:TT.lim 180 [.l (d.map ent),.l (e.map ent),.zq d.length,.zq 0]=_:=ahn d e c f d.length 0 ah;rw[dD,dD]at a;by_cases h:d=e
  ·rw[au h]at a;have i:(d=e)=True:=eq_true h;clear h;rw[b]at a;simp[b,a,i]
  ·rw[aj h]at a;rw[b]at a;simp[b,a,h]
 ·have b:¬(d.length:Int)=(e.length:Int):=ah;have h:¬d=e:=λh=>c (by rw[h]);simp[b,c,h]
def axI(r s:Row)(b:r.1.length<=140737488351232)(a:s.1.length<=140737488351232):TT.lim 184 [row r,row s]=some [.b (decide (r=s))]:=by
 have k:=afD r.1 s.1 b a;refine aQ ?_;by_cases h:r.2=s.2
 ·have:decide (r=s)=decide (r.1=s.1):=by rw[xK];simp[Prod.ext_iff,h]
  rw[this];simp[h,k]
 ·have:decide (r=s)=false:=by rw[decide_eq_false_iff_not];intro e;exact h (by rw[e])
  rw[this];simp[h]
def ahl(a b:List Row)(n:a.length=b.length)(o:a.length<=140737488351232)(h1:∀r∈a,r.1.length<=140737488351232)(j:∀r∈b,r.1.length<=140737488351232):∀m i:Nat,i+m=a.length->
 TT.lim 183 [.l (b.map row),.l (a.map row),.zq a.length,.zq i]=some (if a.drop i=b.drop i then[.zq 1]else[.zq 0])
 |0,i,hi=>by have h0:a.drop i=[]:=gJ;have h1:b.drop i=[]:=gJ;refine aB ?_;have h:¬((i:Int)<a.length):=ah;simp[h,h0,h1]
 |m+1,i,hi=>by
  have d:i<a.length:=ah;have c:i<b.length:=ah;have p:TT.lim 183 [.l (b.map row),.l (a.map row),.zq a.length,.zq ((i:Int)+1)]=_:=ahl a b n o h1 j m (i+1) ah;have l:(a.drop i=b.drop i)↔(a[i]=b[i]/\a.drop (i+1)=b.drop (i+1)):=by rw[gW d,gW c,zI]
  have k:=axI a[i] b[i] (h1 _ (iq d)) (j _ (iq c));have r1:GV.g [.l (a[i].1.map ent),.zu a[i].2]=row a[i]:=rfl;have r2:GV.g [.l (b[i].1.map ent),.zu b[i].2]=row b[i]:=rfl;refine aB ?_;have h:((i:Int)<a.length):=ah;have q:=bD ((i:Int)+1);by_cases e:a[i]=b[i]
  ·have f:(a.drop i=b.drop i)↔(a.drop (i+1)=b.drop (i+1)):=by rw[l];simp[e]
   simp only[f];have g:TT.lim 184 [row a[i],row b[i]]=some [.b true]:=by rw[k];simp[e]
   simp[h,d,c,r1,r2,g,q,p]
  ·have f:¬(a.drop i=b.drop i):=by rw[l];simp[e]
   rw[aj f];have g:TT.lim 184 [row a[i],row b[i]]=some [.b false]:=by rw[k];simp[e]
   simp[h,d,c,r1,r2,g]
def azL(a b:List Row)(g:a.length<=140737488351232)(i:b.length<=140737488351232)(h1:∀r∈a,r.1.length<=140737488351232)(j:∀r∈b,r.1.length<=140737488351232):TT.lim 181 [.l (a.map row),.l (b.map row)]=some [.b (decide (a=b))]:=by
 have e:TT.lim 182 [.l (a.map row),.l (b.map row)]=some [.b (decide (a=b))]:=by
  refine aQ ?_;by_cases f:a.length=b.length
  ·have c:(a.length:Int)=(b.length:Int):=ah;have d:TT.lim 183 [.l (b.map row),.l (a.map row),.zq a.length,.zq 0]=_:=ahl a b f g h1 j a.length 0 ah;rw[dD,dD]at d;rw[c]at d;by_cases h:a=b
   ·rw[au h]at d;have k:(a=b)=True:=eq_true h;clear h;simp[c,d,k]
   ·rw[aj h]at d;simp[c,d,h]
  ·have c:¬(a.length:Int)=(b.length:Int):=ah;have h:¬a=b:=λh=>f (by rw[h]);simp[c,f,h]
 refine aQ ?_;simp[e]
def Oz(a b:Q0):Op.bytesLess a b=true↔a<b:=by rw[KW];simp
def kS(l:List Row):Prop:=l.Pairwise λa b=>K a<K b
def adV:∀(b t:List Row),kS t->kS b->(sD t b=true↔∀r∈b,∃s∈t,K s=K r/\r.2<=s.2)
 |[],t,_,_=>by simp[sD]
 |r::rs,t,E,F=>by
  have o:=jm.1 F;have i:=afi (K r) t;have d:kS (t.drop (qg (K r) t)):=E.sublist (ac8 _ _);have c:∀s∈t.drop (qg (K r) t),s∈t:=λs f=>(ac8 _ _).subset f;have j:∀(u:List Row),(∀s∈u,s∈t.dropWhile (λx=>Op.bytesLess (K x) (K r))\/K s<K r)->True:=λ_ _=>trivial;have g:∀s∈t,¬K s<K r->s∈t.drop (qg (K r) t):=by
   intro s f w;rw[i];clear j c d i E;induction t with
   |nil=>simp at f
   |cons a t G=>
    rw[List.dropWhile_cons];split
    ·next H=>
     rcases bJ.1 f with rfl|f
     ·exact absurd ((Oz _ _).1 H) w
     ·exact G f
    ·exact f
  have k:∀s p,t.drop (qg (K r) t)=s::p->¬K s<K r:=by intro s p e;rw[i]at e;have:=List.head?_dropWhile_not (λx=>Op.bytesLess (K x) (K r)) t;rw[e]at this;simp only[Xy,Option.all_some,zG]at this;intro l;rw[(Oz _ _).2 l]at this;cases this
  unfold sD;cases e:t.drop (qg (K r) t)with
  |nil=>simp only[ig,false_iff];intro h;obtain⟨s,f,q,_⟩:=h r aA;have:=g s f (by rw[q];exact oU _);rw[e]at this;simp at this
  |cons s p=>
   simp only[aO,decide_eq_true_iff];rw[e]at d c g;rw[adV rs (s::p) d o.2];have A:=jm.1 d;constructor
   ·rintro⟨⟨I,J⟩,L⟩ x n
    rcases bJ.1 n with rfl|n
    ·exact⟨s,c s aA,I,J⟩
    ·obtain⟨y,B,v⟩:=L x n;exact⟨y,c y B,v⟩
   ·intro h;obtain⟨y,B,q,w⟩:=h r aA;have m:=g y B (by rw[q];exact oU _);have D:y=s:=by
     rcases bJ.1 m with rfl|m
     ·rfl
     ·have:=A.1 y m;rw[q]at this;exact absurd this (k s p e)
    subst D;refine⟨⟨q,w⟩,λx n=>?_⟩;obtain⟨z,M,v,N⟩:=h x (by simp[n]);refine⟨z,g z M ?_,v,N⟩;rw[v];exact λl=>oU _ (zJ l (o.1 x n))
def ai3:∀{a b:List Row},kS a->kS b->(∀r∈a,r∈b)->(∀r∈b,r∈a)->a=b
 |[],[],_,_,_,_=>rfl
 |[],b::_,_,_,_,h=>absurd (h b aA) aA
 |a::_,[],_,_,h,_=>absurd (h a aA) aA
 |x::a,y::b,j,k,h1,i=>by
  have c:=jm.1 j;have d:=jm.1 k;have g:x=y:=by
   rcases bJ.1 (h1 x aA)with e|l
   ·exact e
   ·rcases bJ.1 (i y aA)with e|m
    ·exact e.symm
    ·exact absurd (zJ (d.1 x l) (c.1 y m)) (oU _)
  subst g;rw[ai3 c.2 d.2 (λr f=>?_) (λr f=>?_)]
  ·rcases bJ.1 (h1 r (by simp[f]))with e|h
   ·subst e;exact absurd (c.1 _ f) (oU _)
   ·exact h
  ·rcases bJ.1 (i r (by simp[f]))with e|h
   ·subst e;exact absurd (d.1 _ f) (oU _)
   ·exact h
def axG{a:List Row}(i:kS a){r s:Row}(e:r∈a)(j:s∈a)(f:K r=K s):r=s:=by
 induction a with
 |nil=>simp at e
 |cons x a k=>
  have b:=jm.1 i;rcases bJ.1 e with g|c<;>rcases bJ.1 j with h|d
  ·rw[g,h]
  ·have:=b.1 s d;rw[<-g,f]at this;exact absurd this (oU _)
  ·have:=b.1 r c;rw[<-h,f]at this;exact absurd this (oU _)
  ·exact k b.2 c d
def uF:Option Q0->List Row->Int
 |_,[]=>0
 |p,r::rs=>if yB r≠0 then yB r else match p with
  |none=>uF (some (K r)) rs
  |some k=>if K r=k then 14 else if Op.bytesLess (K r) k=true then 7 else uF (some (K r)) rs
def aho(t:List Row)(k:Rows t)(q:∀r∈t,iL r.1=true):∀(m i:Nat)(p:Q0),i+m=t.length->
 TT.lim 39 [.s p,.l (t.map row),.zq t.length,.zq i]=some (tagged (uF (if i=0 then none else some p) (t.drop i)))
 |0,i,p,hi=>by have h0:t.drop i=[]:=gJ;refine aB ?_;have h:¬((i:Int)<t.length):=ah;simp[h,h0,uF,tagged]
 |m+1,i,p,hi=>by
  have a:i<t.length:=ah;have u:=k.2 t[i] (iq a);have c:=al7 t[i] u.1;have f:=BQ t[i].1 (q _ (iq a));have b:GV.g [.l (t[i].1.map ent),.zu t[i].2]=row t[i]:=rfl;have g:TT.lim 39 [.s (dV t[i].1),.l (t.map row),.zq t.length,.zq ((i:Int)+1)]=_:=aho t k q m (i+1) (dV t[i].1) ah;rw[eX]at g;rw[gW a];refine aB ?_;have h:((i:Int)<t.length):=ah;have l:=wrap64 (n:=(i:Int)+1) ah (by have:=k.1;omega);by_cases e:yB t[i]=0;rotate_left
  ·simp[-List.getElem_cons_drop,h,a,b,c,e,uF,tagged]
  by_cases h0:i=0
  ·subst h0;simp only[qX,ac0]at l g;simp[-List.getElem_cons_drop,h,a,b,c,e,f,l,uF];have v:(0:Int)<(t.length:Int):=ah;simpa using g
  ·have d:0<i:=ah;by_cases j:dV t[i].1=p
   ·have o:(dV t[i].1=p)=True:=eq_true j;clear j;simp[-List.getElem_cons_drop,h,a,b,c,e,f,d,h0,o,uF,tagged]
   ·cases s:Op.bytesLess (dV t[i].1) p with
    |true=>simp[-List.getElem_cons_drop,h,a,b,c,e,f,d,h0,j,s,uF,tagged]
    |false=>simp[-List.getElem_cons_drop,h,a,b,c,e,f,d,h0,j,s,l,g,uF]
def qh(t:List Row):Int:=if 256<t.length then 13 else uF none t
def Ti(t:List Row)(e:Rows t)(f:∀r∈t,iL r.1=true):TT.lim 38 [.l (t.map row)]=some [.zq (qh t)]:=by
 have a:TT.lim 39 [.s [],.l (t.map row),.zq t.length,.zq 0]=_:=aho t e f t.length 0 [] ah;rw[au rfl,dD]at a;refine aQ ?_;unfold qh;by_cases d:256<t.length
 ·have b:(256:Int)<(t.length:Int):=ah;simp[d,b]
 ·have b:¬(256:Int)<(t.length:Int):=ah;by_cases c:uF none t=0
  ·simp only[tagged,c,if_true]at a;simp[d,b,a,c]
  ·simp only[tagged,c,if_false]at a;simp[d,b,a,c]
def aeC:∀{t:List Row}(p:Option Q0),kS t->(∀r∈t,yB r=0)->(∀k,p=some k->∀r∈t,k<K r)->uF p t=0
 |[],p,_,_,_=>by cases p<;>rfl
 |r::t,p,g,d,h=>by
  have a:=jm.1 g;have f:=aeC (t:=t) (some (K r)) a.2 (λx c=>d x (by simp[c])) (λk b x c=>by cases b;exact a.1 x c);unfold uF;rw[aj (by simp[d r aA])];cases p with
  |none=>exact f
  |some k=>
   have b:=h k rfl r aA;have i:¬K r=k:=λe=>by rw[e]at b;exact oU _ b
   have j:¬Op.bytesLess (K r) k=true:=λe=>oU _ (zJ b ((Oz _ _).1 e));simp only;rw[aj i,aj j];exact f
def Rows.perm{l m:List Row}(h:l.Perm m)(a:Rows l):Rows m:=⟨by rw[<-h.length_eq];exact a.1,λr b=>a.2 r (h.mem_iff.2 b)⟩
def cmpK(a b:Q0):Int:=if a<b then -1 else if b<a then 1 else 0
def aeQ:∀a b:Q0,Lib.compareBytes a b=cmpK a b
 |[],[]=>by simp[Lib.compareBytes,cmpK]
 |[],_::_=>by simp[Lib.compareBytes,cmpK]
 |_::_,[]=>by simp[Lib.compareBytes,cmpK]
 |x::a,y::b=>by
  unfold Lib.compareBytes;rw[aeQ a b];unfold cmpK;simp only[ac5];by_cases h1:x<y
  ·simp[h1]
  ·by_cases c:y<x
   ·have d:¬x=y:=λe=>by subst e;exact UInt8.lt_irrefl _ c
    simp[h1,c,d]
   ·have f:x=y:=UInt8.le_antisymm (UInt8.not_lt.1 c) (UInt8.not_lt.1 h1);subst f;simp[UInt8.lt_irrefl]
def ams(a b:Q0):Yr a b=cmpK a b:=(Lib.cmp_eq _ _).trans (aeQ a b)
def amr(a b:Q0):TT.lim 49 [.s a,.s b]=some [.zq (cmpK a b)]:=CG rfl (by rw[<-ams];rfl)
def aeG(d e:List eP)(a:iL d=true)(b:iL e=true):TT.lim 48 [.l (d.map ent),.l (e.map ent)]=some [.zq (cmpK (dV d) (dV e))]:=by have c:=BQ d a;have f:=BQ e b;have g:=amr (dV d) (dV e);refine aQ ?_;simp[c,f,g]
def ak8(x y:Int)(h1:0<=x)(a:0<=y):TT.lim 176 [.zu x,.zu y,.zu 0]=some [.zu ((x+y)%18446744073709551616),.zu ((x+y)/18446744073709551616)]:=CG rfl (by unfold Ol;simp only;rw[au ⟨h1,a,ah,ah⟩];simp only[Int.add_zero])
def val:List Row->List UInt8->Int
 |[],_=>0
 |r::rs,k=>if K r=k then r.2 else val rs k
def Pos(t:List Row):Prop:=∀r∈t,0<r.2/\r.2<18446744073709551616
def QS:∀{t:List Row}{k:Q0},(∀r∈t,K r≠k)->val t k=0
 |[],_,_=>rfl
 |r::t,k,h=>by unfold val;rw[aj (h r aA)];exact QS λx a=>h x (by simp[a])
def akr:∀{t:List Row},kS t->∀r∈t,val t (K r)=r.2
 |[],_,r,h=>by simp at h
 |x::t,b,r,h=>by
  have a:=jm.1 b;unfold val;rcases bJ.1 h with rfl|h
  ·rw[au rfl]
  ·rw[aj λe=>by have:=a.1 r h;rw[e]at this;exact oU _ this];exact akr a.2 r h
def acy:∀(t:List Row)(k:Q0),(∃r∈t,K r=k/\val t k=r.2)\/((∀r∈t,K r≠k)/\val t k=0)
 |[],k=>.inr ⟨aA,rfl⟩
 |x::t,k=>by
  unfold val;by_cases h:K x=k
  ·exact .inl ⟨x,aA,h,by rw[au h]⟩
  ·rw[aj h];rcases acy t k with⟨r,h1,a,c⟩|⟨h1,a⟩
   ·exact .inl ⟨r,by simp[h1],a,c⟩
   ·refine .inr ⟨λr b=>?_,a⟩;rcases bJ.1 b with rfl|b
    ·exact h
    ·exact h1 r b
def aBS{t:List Row}(b:Pos t)(k:Q0):0<=val t k/\val t k<18446744073709551616:=by
 rcases acy t k with⟨r,a,c,d⟩|⟨a,c⟩
 ·have:=b r a;omega
 ·omega
def aBT{t:List Row}(b:Pos t){k:Q0}(h:0<val t k):∃r∈t,K r=k/\val t k=r.2:=by
 rcases acy t k with a|⟨a,c⟩
 ·exact a
 ·omega
def aBR{a b:List Row}(c:kS a)(e:kS b)(pa:Pos a)(f:Pos b)(h:∀k,val a k=val b k):a=b:=by
 have d:∀{a b:List Row},kS a->kS b->Pos a->Pos b->(∀k,val a k=val b k)->∀r∈a,r∈b:=by intro a b c e pa f h r g;have i:=akr c r g;have n:=(pa r g).1;obtain⟨s,j,l,m⟩:=aBT f (k:=K r) (by rw[<-h];omega);have:s=r:=Prod.ext (atl l) (by rw[<-m,<-h,i]);rw[<-this];exact j
 exact ai3 c e (d c e pa f h) (d e c f pa λk=>(h k).symm)
def gI:List Row->List Row->Option (List Row)
 |[],b=>some b
 |x::a,[]=>some (x::a)
 |x::a,y::b=>
  if K x<K y then(gI a (y::b)).map (x::·)
  else if K y<K x then(gI (x::a) b).map (y::·)
  else if x.2+y.2<18446744073709551616 then(gI a b).map ((x.1,x.2+y.2)::·)else none
termination_by a b=>a.length+b.length
def Keys(a b m:List Row):Prop:=∀r∈m,∃s,(s∈a\/s∈b)/\s.1=r.1
def Vl:∀(a b:List Row){m:List Row},kS a->kS b->Pos a->Pos b->gI a b=some m->kS m/\(∀k,val m k=val a k+val b k)/\Keys a b m/\Pos m:=by
 intro a b;induction a,b using gI.induct with
 |case1 b=>intro m o p l n h;rw[gI]at h;cases h;exact⟨p,λk=>by simp[val],λr c=>⟨r,.inr c,rfl⟩,n⟩
 |case2 x a=>intro m o p l n h;rw[gI]at h;cases h;exact⟨o,λk=>by simp[val],λr c=>⟨r,.inl c,rfl⟩,l⟩
 |case3 x a y b f v=>
  intro m o p l n h;rw[gI,au f]at h;obtain⟨w,z,rfl⟩:=bn.1 h;have i:=jm.1 o;have j:=jm.1 p;obtain⟨A,B,q,D⟩:=v i.2 p (λr c=>l r (by simp[c])) n z;have u:∀s,s∈a\/s∈y::b->K x<K s:=by
   rintro s (d|d)
   ·exact i.1 s d
   ·rcases bJ.1 d with rfl|d
    ·exact f
    ·exact zJ f (j.1 s d)
  refine⟨List.Pairwise.cons (λr c=>?_) A,λk=>?_,λr c=>?_,λr c=>?_⟩
  ·obtain⟨s,d,e⟩:=q r c;have:=u s d;show K x<dV r.1
   rw[<-e];exact this
  ·show(if K x=k then x.2 else val w k)=(if K x=k then x.2 else val a k)+val (y::b) k
   split
   ·next e=>
    rw[QS (t:=y::b) λr c E=>by have:=u r (.inr c);rw[e,E]at this;exact oU _ this];omega
   ·exact B k
  ·rcases bJ.1 c with rfl|c
   ·exact⟨r,.inl aA,rfl⟩
   ·obtain⟨s,d,e⟩:=q r c;exact⟨s,d.imp (λh=>by simp[h]) id,e⟩
  ·rcases bJ.1 c with rfl|c
   ·exact l r aA
   ·exact D r c
 |case4 x a y b f g v=>
  intro m o p l n h;rw[gI,aj f,au g]at h;obtain⟨w,z,rfl⟩:=bn.1 h;have i:=jm.1 o;have j:=jm.1 p;obtain⟨A,B,q,D⟩:=v o j.2 l (λr c=>n r (by simp[c])) z;have u:∀s,s∈x::a\/s∈b->K y<K s:=by
   rintro s (d|d)
   ·rcases bJ.1 d with rfl|d
    ·exact g
    ·exact zJ g (i.1 s d)
   ·exact j.1 s d
  refine⟨List.Pairwise.cons (λr c=>?_) A,λk=>?_,λr c=>?_,λr c=>?_⟩
  ·obtain⟨s,d,e⟩:=q r c;have:=u s d;show K y<dV r.1
   rw[<-e];exact this
  ·show(if K y=k then y.2 else val w k)=val (x::a) k+(if K y=k then y.2 else val b k)
   split
   ·next e=>
    rw[QS (t:=x::a) λr c E=>by have:=u r (.inl c);rw[e,E]at this;exact oU _ this];omega
   ·exact B k
  ·rcases bJ.1 c with rfl|c
   ·exact⟨r,.inr aA,rfl⟩
   ·obtain⟨s,d,e⟩:=q r c;exact⟨s,d.imp id (λh=>by simp[h]),e⟩
  ·rcases bJ.1 c with rfl|c
   ·exact n r aA
   ·exact D r c
 |case5 x a y b f g d v=>
  intro m o p l n h;rw[gI,aj f,aj g,au d]at h;obtain⟨w,z,rfl⟩:=bn.1 h;have i:=jm.1 o;have j:=jm.1 p;have F:K x=K y:=Rh (AU.1 g) (AU.1 f);obtain⟨A,B,q,D⟩:=v i.2 j.2 (λr c=>l r (by simp[c])) (λr c=>n r (by simp[c])) z;have u:∀s,s∈a\/s∈b->K x<K s:=by
   rintro s (d|d)
   ·exact i.1 s d
   ·rw[F];exact j.1 s d
  refine⟨List.Pairwise.cons (λr c=>?_) A,λk=>?_,λr c=>?_,λr c=>?_⟩
  ·obtain⟨s,d,e⟩:=q r c;have:=u s d;show dV x.1<dV r.1
   rw[<-e];exact this
  ·show(if K x=k then x.2+y.2 else val w k)=(if K x=k then x.2 else val a k)+(if K y=k then y.2 else val b k)
   rw[F];split
   ·rfl
   ·exact B k
  ·rcases bJ.1 c with rfl|c
   ·exact⟨x,.inl aA,rfl⟩
   ·obtain⟨s,d,e⟩:=q r c;exact⟨s,d.imp (λh=>by simp[h]) (λh=>by simp[h]),e⟩
  ·rcases bJ.1 c with rfl|c
   ·have G:=l x aA;have H:=n y aA;exact⟨by simp only;omega,d⟩
   ·exact D r c
 |case6 x a y b f g d=>intro m o p l n h;rw[gI,aj f,aj g,aj d]at h;cases h
def JW{t:List Row}{k:Q0}(h:∀r∈t,k<K r):val t k=0:=QS λr a e=>by have:=h r a;rw[e]at this;exact oU _ this
def aum:∀(a b:List Row),kS a->kS b->gI a b=none->∃k,18446744073709551616<=val a k+val b k:=by
 intro a b;induction a,b using gI.induct with
 |case1 b=>intro i j h;rw[gI]at h;cases h
 |case2 x a=>intro i j h;rw[gI]at h;cases h
 |case3 x a y b c n=>
  intro i j h;rw[gI,au c]at h;have f:=jm.1 i;have g:=jm.1 j;obtain⟨k,m⟩:=n f.2 j (adw.1 h);refine⟨k,?_⟩;by_cases e:K x=k
  ·exfalso;subst e;rw[JW f.1,JW (t:=y::b) λr l=>?_]at m
   ·omega
   ·rcases bJ.1 l with rfl|l
    ·exact c
    ·exact zJ c (g.1 r l)
  ·show _<=(if K x=k then x.2 else val a k)+_
   rw[aj e];exact m
 |case4 x a y b c d n=>
  intro i j h;rw[gI,aj c,au d]at h;have f:=jm.1 i;have g:=jm.1 j;obtain⟨k,m⟩:=n i g.2 (adw.1 h);refine⟨k,?_⟩;by_cases e:K y=k
  ·exfalso;subst e;rw[JW g.1,JW (t:=x::a) λr l=>?_]at m
   ·omega
   ·rcases bJ.1 l with rfl|l
    ·exact d
    ·exact zJ d (f.1 r l)
  ·show _<=_+(if K y=k then y.2 else val b k)
   rw[aj e];exact m
 |case5 x a y b c d p n=>
  intro i j h;rw[gI,aj c,aj d,au p]at h;have f:=jm.1 i;have g:=jm.1 j;have o:K x=K y:=Rh (AU.1 d) (AU.1 c);obtain⟨k,m⟩:=n f.2 g.2 (adw.1 h);refine⟨k,?_⟩;by_cases e:K x=k
  ·exfalso;subst e;rw[JW f.1,JW (t:=b) λr l=>by rw[o];exact g.1 r l]at m;omega
  ·show _<=(if K x=k then x.2 else val a k)+(if K y=k then y.2 else val b k)
   rw[aj e,<-o,aj e];exact m
 |case6 x a y b c d p=>
  intro i j h;have o:K x=K y:=Rh (AU.1 d) (AU.1 c);refine⟨K x,?_⟩;show _<=(if K x=K x then x.2 else val a _)+(if K y=K x then y.2 else val b _)
  rw[au rfl,au o.symm];omega
def ai4:∀{a b:List Row},kS a->kS b->(∀r∈a,∃s∈b,K s=K r)->a.length<=b.length
 |[],_,_,_,_=>rZ _
 |_::_,[],_,_,h=>by obtain⟨s,c,_⟩:=h _ (Ri ..);simp at c
 |x::a,y::b,l,m,h=>by
  have d:=jm.1 l;have f:=jm.1 m;have i:K y=K x\/K y<K x:=by
   obtain⟨s,c,e⟩:=h x aA;rcases bJ.1 c with rfl|c
   ·exact .inl e
   ·right;rw[<-e];exact f.1 s c
  have:=ai4 d.2 f.2 λr k=>by
   obtain⟨s,c,e⟩:=h r (by simp[k]);rcases bJ.1 c with rfl|c
   ·have g:=d.1 r k;rw[<-e]at g;rcases i with j|j
    ·rw[j]at g;exact absurd g (oU _)
    ·exact absurd (zJ g j) (oU _)
   ·exact⟨s,c,e⟩
  simp only[iF];omega
def P9(x:GV)(l:List Row)(n:Int)(a:x.cells.length=2)(b:n=l.length+1):P8 2 (some (.l (x::l.map row))) (some (.zq 1)) (some (.zq n))=some (.l (l.map row)):=by
 subst b;rw[nI,au ⟨ah,ah,aA,by rw[qJ];simp[a,axJ]⟩]
 ·congr 2;have c:((l.length:Int)+1).toNat=l.length+1:=ah;rw[c,kQ aA];rfl
def qF(a:List Row):Option (List Row)->List GV
 |some m=>[.zq 1,.l ((a++m).map row)]
 |none=>[.zq 0]
def DW{d:List eP}(h:iL d=true):d.length<=40:=by unfold iL at h;simp at h;omega
def amw{a b:Q0}(h:a<b):cmpK a b = -1:=by unfold cmpK;rw[au h]
def amv{a b:Q0}(h1:¬a<b)(h:b<a):cmpK a b=1:=by unfold cmpK;rw[aj h1,au h]
def amu{a b:Q0}(h1:¬a<b)(h:¬b<a):cmpK a b=0:=by unfold cmpK;rw[aj h1,aj h]
def xM(t:List Row):Prop:=∀r∈t,iL r.1=true
set_option maxHeartbeats 4000000 in
def atQ:∀(n:Nat)(a b c:List Row),a.length+b.length<=n->c.length+a.length+b.length<=1000->xM a->xM b->(∀r∈a,0<=r.2/\r.2<18446744073709551616)->(∀r∈b,0<=r.2/\r.2<18446744073709551616)->
 TT.lim 175 [.l (a.map row),.l (b.map row),.l (c.map row)]=some (qF c (gI a b)):=by
 intro n;induction n with
 |zero=>intro a b c A B o p q s;obtain rfl:a=[]:=jR ah;obtain rfl:b=[]:=jR ah;rw[gI];refine aB ?_;simp[qF]
 |succ n w=>
  intro a b c A B o p q s;cases a with
  |nil=>
   cases b with
   |nil=>rw[gI];refine aB ?_;simp[qF]
   |cons y b=>simp only[mZ,iF,kX]at A B;have d:=w [] b (c++[y]) (by simp;omega) (by simp;omega) o (λr f=>p r (by simp[f])) q (λr f=>s r (by simp[f]));rw[gI]at d⊢;simp only[qF,List.append_assoc,N8,ng,iC,jg]at d⊢;have kc:=FK y.1 (DW (p y aA));have j:GV.g [.l (y.1.map ent),.zu y.2]=row y:=rfl;have g:(row y).fQ 2=true:=rfl;have L:=P9 (row y) b ((b.length:Int)+1) rfl rfl;have h:2*(c.length+1)*32<=281474976710656/\c.length+1<=281474976710656:=ah;have t:(0:Int)<(b.length:Int)+1:=ah;have i:¬((b.length:Int)+1=0):=ah;refine aB ?_;simp[-nI,kc,j,g,L,h,t,i,d]
  |cons x a=>
   cases b with
   |nil=>
    simp only[mZ,iF,nR]at A B;have d:=w a [] (c++[x]) (by simp;omega) (by simp;omega) (λr f=>o r (by simp[f])) p (λr f=>q r (by simp[f])) s;have R:gI a []=some a:=by cases a<;>rw[gI]
    rw[R]at d;rw[gI];simp only[qF,List.append_assoc,N8,ng,iC,jg]at d⊢;have kc:=FK x.1 (DW (o x aA));have j:GV.g [.l (x.1.map ent),.zu x.2]=row x:=rfl;have g:(row x).fQ 2=true:=rfl;have L:=P9 (row x) a ((a.length:Int)+1) rfl rfl;have h:2*(c.length+1)*32<=281474976710656/\c.length+1<=281474976710656:=ah;have t:(0:Int)<(a.length:Int)+1:=ah;have i:¬((a.length:Int)+1=0):=ah;refine aB ?_;simp[-nI,kc,j,g,L,h,t,i,d]
   |cons y b=>
    simp only[iF]at A B;have N:=o x aA;have O:=p y aA;have D:=FK x.1 (DW N);have E:=FK y.1 (DW O);have k:GV.g [.l (x.1.map ent),.zu x.2]=row x:=rfl;have F:GV.g [.l (y.1.map ent),.zu y.2]=row y:=rfl;have M:GV.g [.l (x.1.map ent),.zu (x.2+y.2)]=row (x.1,x.2+y.2):=rfl;have g:∀r:Row,(row r).fQ 2=true:=λr=>rfl;have l:=P9 (row x) a ((a.length:Int)+1) rfl rfl;have G:=P9 (row y) b ((b.length:Int)+1) rfl rfl;have h:2*(c.length+1)*32<=281474976710656/\c.length+1<=281474976710656:=ah;have t:(0:Int)<(a.length:Int)+1:=ah;have i:¬((a.length:Int)+1=0):=ah;have H:(0:Int)<(b.length:Int)+1:=ah;have m:¬((b.length:Int)+1=0):=ah;have u:=aeG x.1 y.1 N O;have I:=ak8 x.2 y.2 (q x aA).1 (s y aA).1;have S:=q x aA;have T:=s y aA;by_cases v:K x<K y
    ·have d:=w a (y::b) (c++[x]) (by simp;omega) (by simp;omega) (λr f=>o r (by simp[f])) p (λr f=>q r (by simp[f])) s;rw[gI,au v];rw[amw v]at u;have e:qF (c++[x]) (gI a (y::b))=qF c ((gI a (y::b)).map (x::·)):=by cases gI a (y::b)<;>simp[qF]
     rw[e]at d;generalize qF c ((gI a (y::b)).map (x::·))=z at d⊢;simp only[ng,iC,jg]at d;refine aB ?_;simp[-nI,D,E,k,F,g,l,G,h,t,i,H,m,u,d]
    by_cases J:K y<K x
    ·have d:=w (x::a) b (c++[y]) (by simp;omega) (by simp;omega) o (λr f=>p r (by simp[f])) q (λr f=>s r (by simp[f]));rw[gI,aj v,au J];rw[amv v J]at u;have e:qF (c++[y]) (gI (x::a) b)=qF c ((gI (x::a) b).map (y::·)):=by cases gI (x::a) b<;>simp[qF]
     rw[e]at d;generalize qF c ((gI (x::a) b).map (y::·))=z at d⊢;simp only[ng,iC,jg]at d;refine aB ?_;simp[-nI,D,E,k,F,g,l,G,h,t,i,H,m,u,d]
    rw[gI,aj v,aj J];rw[amu v J]at u;by_cases P:x.2+y.2<18446744073709551616
    ·have d:=w a b (c++[(x.1,x.2+y.2)]) ah (by simp;omega) (λr f=>o r (by simp[f])) (λr f=>p r (by simp[f])) (λr f=>q r (by simp[f])) (λr f=>s r (by simp[f]));rw[au P];have e:qF (c++[(x.1,x.2+y.2)]) (gI a b)=qF c ((gI a b).map ((x.1,x.2+y.2)::·)):=by cases gI a b<;>simp[qF]
     rw[e]at d;generalize qF c ((gI a b).map ((x.1,x.2+y.2)::·))=z at d⊢;simp only[ng,iC,jg]at d;rw[(ah:(x.2+y.2)%18446744073709551616=x.2+y.2),(ah:(x.2+y.2)/18446744073709551616=0)]at I;refine aB ?_;simp[-nI,D,E,k,F,M,g,l,G,h,t,i,H,m,u,I,d]
    ·rw[aj P];rw[(ah:(x.2+y.2)/18446744073709551616=1)]at I;refine aB ?_;simp[-nI,D,E,k,F,g,l,G,h,t,i,H,m,u,I,qF]
def Ok(t:List Row):Prop:=t.length<=256/\kS t/\∀r∈t,yB r=0
def aeB:∀{t:List Row}(p:Option Q0),uF p t=0->kS t/\(∀r∈t,yB r=0)/\∀k,p=some k->∀r∈t,k<K r
 |[],p,_=>⟨List.Pairwise.nil,aA,aA⟩
 |r::t,p,h=>by
  unfold uF at h;by_cases h1:yB r=0;rotate_left
  ·rw[au h1]at h;exact absurd h h1
  rw[aj (by simp[h1])]at h;have a:∀(h:uF (some (K r)) t=0),kS (r::t)/\∀x∈r::t,yB x=0:=by
   intro h;obtain⟨d,f,g⟩:=aeB (some (K r)) h;refine⟨List.Pairwise.cons (g _ rfl) d,λx b=>?_⟩;rcases bJ.1 b with rfl|b
   ·exact h1
   ·exact f x b
  cases p with
  |none=>exact⟨(a h).1,(a h).2,aA⟩
  |some k=>
   simp only at h;split at h
   ·cases h
   next i=>
   split at h
   ·cases h
   next j=>
   refine⟨(a h).1,(a h).2,?_⟩;rintro _ ⟨⟩ x b
   have c:k<K r:=by
    rcases List.le_iff_lt_or_eq.1 (AU.1 λe=>j ((Oz _ _).2 e))with e|e
    ·exact e
    ·exact absurd e.symm i
   rcases bJ.1 b with rfl|b
   ·exact c
   ·exact zJ c ((jm.1 (a h).1).1 x b)
def yR(t:List Row):qh t=0↔Ok t:=by
 unfold qh Ok;constructor
 ·intro h;split at h
  ·cases h
  ·obtain⟨b,a,_⟩:=aeB none h;exact⟨ah,b,a⟩
 ·rintro⟨b,a,c⟩
  rw[eX];exact aeC none a c aA
def Qz(r:Row):yB r=0↔zX r.1=0/\r.2≠0:=by
 unfold yB;by_cases h:zX r.1=0
 ·simp[h]
 ·simp[h]
structure Tb(t:List Row):Prop where
 ok:Ok t
 rows:Rows t
 few:xM t
def Tb.pos{t:List Row}(h:Tb t):Pos t:=λr a=>by have b:=((Qz r).1 (h.ok.2.2 r a)).2;have c:=(h.rows.2 r a).2;omega
def Tb.rise{t:List Row}(h:Tb t):kS t:=h.ok.2.1
def GX:Tb []:=⟨⟨aA,List.Pairwise.nil,aA⟩,⟨aA,aA⟩,λr a=>by simp at a⟩
def aj6{a b m:List Row}(f:Tb a)(g:Tb b)(i:m.length<=256)(c:kS m)(j:Keys a b m)(h:Pos m):Tb m:=by
 have src:∀r∈m,zX r.1=0/\tZ r.1/\iL r.1=true:=by
  intro r c;obtain⟨s,d,e⟩:=j r c;rw[<-e];rcases d with d|d
  ·exact⟨((Qz s).1 (f.ok.2.2 s d)).1,(f.rows.2 s d).1,f.few s d⟩
  ·exact⟨((Qz s).1 (g.ok.2.2 s d)).1,(g.rows.2 s d).1,g.few s d⟩
 refine⟨⟨i,c,λr c=>(Qz r).2 ⟨(src r c).1,by have:=h r c;omega⟩⟩,⟨ah,λr c=>⟨(src r c).2.1,?_⟩⟩,λr c=>(src r c).2.2⟩;have:=h r c;omega
def tog(a b:List Row):List Row×Int:=match gI a b with
 |none=>([],3)
 |some m=>if 256<m.length then([],13)else(m,0)
structure gV(t:List Row):Prop where
 len:t.length<=300
 few:xM t
 rows:Rows t
def Tb.good{t:List Row}(h:Tb t):gV t:=⟨Nat.le_trans h.ok.1 aX,h.few,h.rows⟩
def aBq(a b:List Row)(d:gV a)(e:gV b):TT.lim 174 [.l (a.map row),.l (b.map row)]=some [.l ((tog a b).1.map row),.zq (tog a b).2]:=by
 have k:=atQ (a.length+b.length) a b [] (cO _) (by have:=d.len;have:=e.len;simp;omega) d.few e.few (λr f=>(d.rows.2 r f).2) (λr f=>(e.rows.2 r f).2);have n:=d.len;have o:=e.len;have g:=bD ((a.length:Int)+(b.length:Int));have c:(GV.g [.l [],.zu 0]).fQ 2=true:=rfl;have i:(0:Int)<=(a.length:Int)+(b.length:Int)/\32*((a.length:Int)+(b.length:Int))<=281474976710656/\(a.length:Int)+(b.length:Int)<=1152921504606846976:=ah;unfold tog;cases l:gI a b with
 |none=>rw[l]at k;simp only[qF,jg]at k;refine aQ ?_;simp[g,c,i,k]
 |some m=>
  rw[l]at k;simp only[qF,jg,bf]at k;by_cases h:256<m.length
  ·have j:(256:Int)<(m.length:Int):=ah;refine aQ ?_;simp[g,c,i,k,h,j]
  ·have j:¬(256:Int)<(m.length:Int):=ah;simp only[aj h];refine aQ ?_;simp[g,c,i,k,j]
def aBn{a b:List Row}(c:Tb a)(d:Tb b)(h:(tog a b).2=0):Tb (tog a b).1/\∀k,val (tog a b).1 k=val a k+val b k:=by
 unfold tog at h⊢;cases e:gI a b with
 |none=>rw[e]at h;cases h
 |some m=>
  rw[e]at h;simp only at h⊢;split at h
  ·cases h
  next f=>
  rw[aj f];obtain⟨g,i,j,l⟩:=Vl a b c.rise d.rise c.pos d.pos e;exact⟨aj6 c d (Nat.not_lt.1 f) g j l,i⟩
def aBp{a b c d:List Row}(g:Tb a)(i:Tb b)(e:Tb c)(f:Tb d)(h:∀k,val a k+val b k=val c k+val d k):tog a b=tog c d:=by
 have l:∀{a b c d:List Row},Tb a->Tb b->Tb c->Tb d->(∀k,val a k+val b k=val c k+val d k)->gI a b=none->∀m,gI c d=some m->False:=by intro a b c d g i e f h n m j;obtain⟨k,u⟩:=aum a b g.rise i.rise n;obtain⟨_,o,_,p⟩:=Vl c d e.rise f.rise e.pos f.pos j;have:=aBS p k;rw[o,<-h]at this;omega
 unfold tog;cases n:gI a b with
 |none=>
  cases j:gI c d with
  |none=>rfl
  |some m=>exact(l g i e f h n m j).elim
 |some m=>
  cases j:gI c d with
  |none=>exact(l e f g i (λk=>(h k).symm) j m n).elim
  |some v=>obtain⟨q,r,_,s⟩:=Vl a b g.rise i.rise g.pos i.pos n;obtain⟨t,o,_,p⟩:=Vl c d e.rise f.rise e.pos f.pos j;rw[aBR q t s p λk=>by rw[r,o,h]]
abbrev Dl:=Int×Int×List Row
def dl(d:Dl):GV:=.g [.zu d.1,.zu d.2.1,.l (d.2.2.map row)]
@[simp] theorem aDd(d:Dl):(dl d).cells=[.zu d.1,.zu d.2.1,.l (d.2.2.map row)]:=rfl
@[simp] theorem aDe(d:Dl):(dl d).scalar=false:=rfl
def zD:Dl:=(0,0,[])
def yc(d:Dl):Int:=if d.2.1<=d.1 then 20 else qh d.2.2
def al8(d:Dl)(h:gV d.2.2):TT.lim 173 [dl d]=some [.zq (yc d)]:=by
 have k:=Ti d.2.2 h.rows h.few;unfold yc;refine aQ ?_;by_cases a:d.2.1<=d.1
 ·simp[a]
 ·simp[a,k]
def amc{d:Dl}(h:yc d=0):d.1<d.2.1/\Ok d.2.2:=by
 unfold yc at h;split at h
 ·cases h
 ·exact⟨ah,(yR _).1 h⟩
def amb{d:Dl}(h1:d.1<d.2.1)(a:Ok d.2.2):yc d=0:=by unfold yc;rw[eX];exact(yR _).2 a
def gV.tb{t:List Row}(h:gV t)(a:Ok t):Tb t:=⟨a,h.rows,h.few⟩
def arP{l:List Row}(a:Rows l)(h:FX l=true):gV l:=by refine⟨?_,λr b=>aqE h r b,a⟩;unfold FX at h;rw[aO,decide_eq_true_iff]at h;exact h.2
def azP(a b:List Row)(d:gV a)(e:gV b):TT.lim 181 [.l (a.map row),.l (b.map row)]=some [.b (decide (a=b))]:=
 azL a b (by have:=d.len;omega) (by have:=e.len;omega) (λr c=>(d.rows.2 r c).1.1) (λr c=>(e.rows.2 r c).1.1)
def jG:List Row->List Row->List Row
 |[],_=>[]
 |r::rs,[]=>if r.2=0 then jG rs []else r::jG rs []
 |r::rs,l::a=>if K l=K r then(if IntKind.u64.wrap (r.2-l.2)=0 then jG rs a else(r.1,IntKind.u64.wrap (r.2-l.2))::jG rs a)else if r.2=0 then jG rs (l::a)else r::jG rs (l::a)
def amy(a:Q0):cmpK a a=0:=by unfold cmpK;simp[oU]
def amx{a b:Q0}(h:a≠b):cmpK a b≠0:=by
 unfold cmpK;split
 ·omega
 next c=>
 split
 ·omega
 next d=>exact absurd (Rh (AU.1 d) (AU.1 c)) h
set_option maxHeartbeats 4000000 in
def aad(t:List Row)(e f:Int)(I:t.length<=300)(F:xM t):∀(m i:Nat)(b a:List Row),i+m=t.length->a.length<=i->xM b->
 TT.lim 47 [.l (b.map row),.l (t.map row),.zq t.length,.zq i,.zu e,.zu f,.l (a.map row)]=some [.zq 0,.l ((a++jG (t.drop i) b).map row)]
 |0,i,b,a,hi,M,o=>by have h0:t.drop i=[]:=gJ;refine aB ?_;have h:¬((i:Int)<t.length):=ah;simp[h,h0,jG]
 |m+1,i,b,a,hi,M,o=>by
  have c:i<t.length:=ah;have J:=F t[i] (iq c);have kc:=FK t[i].1 (DW J);have k:GV.g [.l (t[i].1.map ent),.zu t[i].2]=row t[i]:=rfl;have p:∀r:Row,(row r).fQ 2=true:=λr=>rfl;have q:2*(a.length+1)*32<=281474976710656/\a.length+1<=281474976710656:=ah;have h:((i:Int)<t.length):=ah;have z:=bD ((i:Int)+1);have s:∀j,xM j->TT.lim 47 [.l (j.map row),.l (t.map row),.zq t.length,.zq ((i:Int)+1),.zu e,.zu f,.l (a.map row)]=_:=λj G=>aad t e f I F m (i+1) j a ah ah G;have u:∀j r,xM j->TT.lim 47 [.l (j.map row),.l (t.map row),.zq t.length,.zq ((i:Int)+1),.zu e,.zu f,.l ((a++[r]).map row)]=_:=λj r G=>aad t e f I F m (i+1) j (a++[r]) ah (by simp;omega) G;have H:t.drop i=t[i]::t.drop (i+1):=gW c;rw[H];cases b with
  |nil=>
   by_cases d:t[i].2=0
   ·have g:=s [] o;simp only[jg]at g;simp only[jG];rw[au d];have w:(t[i].2=0)=True:=eq_true d;clear d;refine aB ?_;simp[-List.getElem_cons_drop,h,c,w,z,g]
   ·have g:=u [] t[i] o;simp only[jg,ng,iC]at g;simp only[jG];rw[aj d];refine aB ?_;simp[-List.getElem_cons_drop,h,c,d,z,kc,k,p,q,g]
  |cons l n=>
   have N:=o l aA;have B:xM n:=λr O=>o r (by simp[O]);have L:=P9 (row l) n ((n.length:Int)+1) rfl rfl;have D:(0:Int)<(n.length:Int)+1:=ah;have A:=aeG l.1 t[i].1 N J;by_cases E:K l=K t[i]
   ·rw[show dV l.1=dV t[i].1 from E,amy]at A;simp only[jG];rw[au E];by_cases d:IntKind.u64.wrap (t[i].2-l.2)=0
    ·have g:=s n B;rw[au d];refine aB ?_;simp[-List.getElem_cons_drop,-nI,h,c,D,A,L,d,z,g]
    ·have g:=u n (t[i].1,IntKind.u64.wrap (t[i].2-l.2)) B;rw[aj d];simp only[jg,ng,iC]at g;have x:GV.g [.l (t[i].1.map ent),.zu (IntKind.u64.wrap (t[i].2-l.2))]=row (t[i].1,IntKind.u64.wrap (t[i].2-l.2)):=rfl;refine aB ?_;simp[-List.getElem_cons_drop,-nI,h,c,D,A,L,d,z,kc,x,p,q,g]
   ·have y:=amx E;generalize cmpK (dV l.1) (dV t[i].1)=v at A y;simp only[jG];rw[aj E];by_cases d:t[i].2=0
    ·have g:=s (l::n) o;simp only[iC]at g;rw[au d];have w:(t[i].2=0)=True:=eq_true d;clear d;refine aB ?_;simp[-List.getElem_cons_drop,-nI,h,c,D,A,y,w,z,g]
    ·have g:=u (l::n) t[i] o;simp only[jg,ng,iC]at g;rw[aj d];refine aB ?_;simp[-List.getElem_cons_drop,-nI,h,c,D,A,y,d,z,kc,k,p,q,g]
def TJ:∀(t b:List Row),kS t->kS b->Pos t->Pos b->(∀l∈b,∃r∈t,K r=K l/\l.2<=r.2)->
 kS (jG t b)/\(∀k,val (jG t b) k=val t k-val b k)/\(∀r∈jG t b,∃s∈t,s.1=r.1)/\Pos (jG t b)
 |[],[],_,_,_,_,_=>⟨List.Pairwise.nil,λk=>rfl,by simp[jG],by simp[jG,Pos]⟩
 |[],l::b,_,_,_,_,h=>by obtain⟨r,o,_⟩:=h l aA;simp at o
 |r::t,[],y,z,j,p,h=>by
  have d:=jm.1 y;obtain⟨m,q,f,n⟩:=TJ t [] d.2 z (λx a=>j x (by simp[a])) p aA;have o:=j r aA;simp only[jG];rw[eX];refine⟨List.Pairwise.cons (λx a=>?_) m,λk=>?_,λx a=>?_,λx a=>?_⟩
  ·obtain⟨s,c,e⟩:=f x a;show K r<dV x.1
   rw[<-e];exact d.1 s c
  ·show(if K r=k then r.2 else val (jG t []) k)=(if K r=k then r.2 else val t k)-val [] k
   split
   ·simp[val]
   ·exact q k
  ·rcases bJ.1 a with rfl|a
   ·exact⟨x,aA,rfl⟩
   ·obtain⟨s,c,e⟩:=f x a;exact⟨s,by simp[c],e⟩
  ·rcases bJ.1 a with rfl|a
   ·exact o
   ·exact n x a
 |r::t,l::b,y,z,j,p,h=>by
  have d:=jm.1 y;have g:=jm.1 z;have o:=j r aA;have I:=p l aA;simp only[jG];by_cases i:K l=K r
  ·rw[au i];have E:l.2<=r.2:=by obtain⟨s,c,e,u⟩:=h l aA;have:s=r:=axG y c aA (e.trans i);rw[<-this];exact u
   have F:=jD (r.2-l.2);rw[F];obtain⟨m,q,f,n⟩:=TJ t b d.2 g.2 (λx a=>j x (by simp[a])) (λx a=>p x (by simp[a])) (λx a=>by
    obtain⟨s,c,e,u⟩:=h x (by simp[a]);rcases bJ.1 c with rfl|c
    ·have:=g.1 x a;rw[i,<-e]at this;exact absurd this (oU _)
    ·exact⟨s,c,e,u⟩)
   have v:∀x∈jG t b,∃s∈r::t,s.1=x.1:=λx a=>by obtain⟨s,c,e⟩:=f x a;exact⟨s,by simp[c],e⟩
   have D:∀k,(if K r=k then r.2-l.2 else val (jG t b) k)=val (r::t) k-val (l::b) k:=λk=>by
    show _=(if K r=k then r.2 else val t k)-(if K l=k then l.2 else val b k)
    rw[i];split
    ·rfl
    ·exact q k
   by_cases A:r.2-l.2=0
   ·rw[au A];refine⟨m,λk=>?_,v,n⟩;rw[<-D k];split
    ·next e=>
     rw[A];subst e;refine JW λx a=>?_;obtain⟨s,c,e⟩:=f x a;show K r<dV x.1
     rw[<-e];exact d.1 s c
    ·rfl
   ·rw[aj A];refine⟨List.Pairwise.cons (λx a=>?_) m,D,λx a=>?_,λx a=>?_⟩
    ·obtain⟨s,c,e⟩:=f x a;show dV r.1<dV x.1
     rw[<-e];exact d.1 s c
    ·rcases bJ.1 a with rfl|a
     ·exact⟨r,aA,rfl⟩
     ·exact v x a
    ·rcases bJ.1 a with rfl|a
     ·exact⟨by simp only;omega,by simp only;omega⟩
     ·exact n x a
  ·rw[aj i,eX];have w:∀x∈l::b,∃s∈t,K s=K x/\x.2<=s.2:=by
    have B:K r<K l:=by
     obtain⟨s,c,e,_⟩:=h l aA;rcases bJ.1 c with rfl|c
     ·exact absurd e.symm i
     ·rw[<-e];exact d.1 s c
    intro x a;obtain⟨s,c,e,u⟩:=h x a;rcases bJ.1 c with rfl|c
    ·exfalso;rcases bJ.1 a with rfl|a
     ·exact i e.symm
     ·have:=zJ B (g.1 x a);rw[e]at this;exact oU _ this
    ·exact⟨s,c,e,u⟩
   obtain⟨m,q,f,n⟩:=TJ t (l::b) d.2 z (λx a=>j x (by simp[a])) p w;refine⟨List.Pairwise.cons (λx a=>?_) m,λk=>?_,λx a=>?_,λx a=>?_⟩
   ·obtain⟨s,c,e⟩:=f x a;show K r<dV x.1
    rw[<-e];exact d.1 s c
   ·show(if K r=k then r.2 else val (jG t (l::b)) k)=(if K r=k then r.2 else val t k)-val (l::b) k
    split
    ·next e=>
     rw[QS (t:=l::b) λx a G=>by obtain⟨s,c,H,_⟩:=w x a;have:=d.1 s c;rw[H,G,e]at this;exact oU _ this]
     omega
    ·exact q k
   ·rcases bJ.1 a with rfl|a
    ·exact⟨x,aA,rfl⟩
    ·obtain⟨s,c,e⟩:=f x a;exact⟨s,by simp[c],e⟩
   ·rcases bJ.1 a with rfl|a
    ·exact o
    ·exact n x a
abbrev Sn:=Int×List Row
def sn(s:Sn):GV:=.g [.zu s.1,.l (s.2.map row)]
@[simp] theorem aEP(s:Sn):(sn s).cells=[.zu s.1,.l (s.2.map row)]:=rfl
@[simp] theorem aEQ(s:Sn):(sn s).scalar=false:=rfl
def zS:Sn:=(0,[])
def Yl(s:Sn)(h:gV s.2):TT.lim 37 [sn s]=some [.zq (qh s.2)]:=by have k:=Ti s.2 h.rows h.few;refine aQ ?_;simp[k]
def oZ(s n:Sn):Dl×Int:=
 if qh s.2≠0 then(zD,qh s.2)else if qh n.2≠0 then(zD,qh n.2)else if n.1<=s.1 then(zD,20)
 else if sD n.2 s.2=false then(zD,21)else((s.1,n.1,jG n.2 s.2),0)
def oG(s:Sn)(d:Dl):Sn×Int:=
 if qh s.2≠0 then(zS,qh s.2)else if yc d≠0 then(zS,yc d)else if s.1≠d.1 then(zS,19)
 else if(tog s.2 d.2.2).2≠0 then(zS,(tog s.2 d.2.2).2)else((d.2.1,(tog s.2 d.2.2).1),0)
def apL(s n:Sn)(j:gV s.2)(e:gV n.2):TT.lim 36 [sn s,sn n]=some [dl (oZ s n).1,.zq (oZ s n).2]:=by
 have b:=Yl s j;have f:=Yl n e;have c:GV.g [.zu s.1,.l (s.2.map row)]=sn s:=rfl;have g:GV.g [.zu n.1,.l (n.2.map row)]=sn n:=rfl;have h:GV.g [.zu 0,.zu 0,.l []]=dl zD:=rfl;have o:GV.g [.zu s.1,.zu n.1,.l ((jG n.2 s.2).map row)]=dl (s.1,n.1,jG n.2 s.2):=rfl;have l:TT.lim 47 [.l (s.2.map row),.l (n.2.map row),.zq n.2.length,.zq 0,.zu s.1,.zu n.1,.l []]=_:=aad n.2 s.1 n.1 e.len e.few n.2.length 0 s.2 [] ah aA j.few;rw[dD,bf]at l;unfold oZ;by_cases a:qh s.2=0;rotate_left
 ·refine aQ ?_;simp[c,b,a,h]
 by_cases d:qh n.2=0;rotate_left
 ·refine aQ ?_;simp[c,b,a,g,f,d,h]
 by_cases k:n.1<=s.1
 ·refine aQ ?_;simp[c,b,a,g,f,d,h,k]
 have i:=alq n.2 s.2 ((yR _).1 d).1 ((yR _).1 a).1 e.few j.few;cases m:sD n.2 s.2 with
 |false=>rw[m]at i;refine aQ ?_;simp[c,b,a,g,f,d,h,k,i]
 |true=>rw[m]at i;refine aQ ?_;simp[c,b,a,g,f,d,o,k,i,l]
def alm(s:Sn)(d:Dl)(k:gV s.2)(l:gV d.2.2):TT.lim 172 [sn s,dl d]=some [sn (oG s d).1,.zq (oG s d).2]:=by
 have a:=Yl s k;have f:=al8 d l;have m:=aBq _ _ k l;have b:GV.g [.zu s.1,.l (s.2.map row)]=sn s:=rfl;have g:GV.g [.zu d.1,.zu d.2.1,.l (d.2.2.map row)]=dl d:=rfl;have h:GV.g [.zu 0,.l []]=sn zS:=rfl;have o:GV.g [.zu d.2.1,.l ((tog s.2 d.2.2).1.map row)]=sn (d.2.1,(tog s.2 d.2.2).1):=rfl;unfold oG;by_cases c:qh s.2=0;rotate_left
 ·refine aQ ?_;simp[b,a,c,h]
 by_cases i:yc d=0;rotate_left
 ·refine aQ ?_;simp[b,a,c,g,f,i,h]
 by_cases j:s.1=d.1;rotate_left
 ·refine aQ ?_;simp[b,a,c,g,f,i,h,j]
 have e:(s.1=d.1)=True:=eq_true j;clear j;by_cases n:(tog s.2 d.2.2).2=0;rotate_left
 ·refine aQ ?_;simp[b,a,c,g,f,i,h,e,m,n]
 ·refine aQ ?_;simp[b,a,c,g,f,i,o,e,m,n]
def ae4{s n:Sn}(h:(oZ s n).2=0):Ok s.2/\Ok n.2/\s.1<n.1/\sD n.2 s.2=true/\(oZ s n).1=(s.1,n.1,jG n.2 s.2):=by
 unfold oZ at h⊢;split at h
 ·next a=>exact absurd h a
 next a=>
 split at h
 ·next b=>exact absurd h b
 next b=>
 split at h
 ·cases h
 next d=>
 split at h
 ·cases h
 next c=>
 rw[aj a,aj b,aj d,aj c];exact⟨(yR _).1 (by simpa using a),(yR _).1 (by simpa using b),ah,by simpa using c,rfl⟩
def apM{s n:Sn}(h1:Ok s.2)(a:Ok n.2)(c:s.1<n.1)(b:sD n.2 s.2=true):oZ s n=((s.1,n.1,jG n.2 s.2),0):=by unfold oZ;rw[aj (by simp[(yR _).2 h1]),aj (by simp[(yR _).2 a]),eX,aj (by simp[b])]
def adT{s:Sn}{d:Dl}(h:(oG s d).2=0):Ok s.2/\yc d=0/\s.1=d.1/\(tog s.2 d.2.2).2=0/\(oG s d).1=(d.2.1,(tog s.2 d.2.2).1):=by
 unfold oG at h⊢;split at h
 ·next a=>exact absurd h a
 next a=>
 split at h
 ·next b=>exact absurd h b
 next b=>
 split at h
 ·cases h
 next e=>
 split at h
 ·next c=>exact absurd h c
 next c=>
 rw[aj a,aj b,aj e,aj c];exact⟨(yR _).1 (by simpa using a),by simpa using b,by simpa using e,by simpa using c,rfl⟩
def aln{s:Sn}{d:Dl}(h1:Ok s.2)(a:yc d=0)(b:s.1=d.1):oG s d=if(tog s.2 d.2.2).2≠0 then(zS,(tog s.2 d.2.2).2)else((d.2.1,(tog s.2 d.2.2).1),0):=by unfold oG;rw[aj (by simp[(yR _).2 h1]),aj (by simp[a]),aj (by simp[b])]
def apN{s n:List Row}(b:Tb s)(a:Tb n)(h:sD n s=true):Tb (jG n s)/\∀k,val (jG n s) k=val n k-val s k:=by
 have i:=(adV _ _ a.rise b.rise).1 h;obtain⟨f,j,g,l⟩:=TJ n s a.rise b.rise a.pos b.pos i;have m:(jG n s).length<=n.length:=ai4 f a.rise λr c=>by obtain⟨x,d,e⟩:=g r c;exact⟨x,d,by show dV x.1=dV r.1;rw[e]⟩
 exact⟨aj6 a a (kR m a.ok.1) f (λr c=>by obtain⟨x,d,e⟩:=g r c;exact⟨x,.inl d,e⟩) l,j⟩
def aBo{t:List Row}(a:Tb t):tog t []=(t,0):=by
 have h:gI t []=some t:=by cases t<;>rw[gI]
 unfold tog;rw[h];simp only;rw[aj (by have:=a.ok.1;omega)]
def als{s n:Sn}(g:gV s.2)(i:gV n.2)(h:(oZ s n).2=0):yc (oZ s n).1=0/\oG s (oZ s n).1=(n,0)/\gV (oZ s n).1.2.2:=by
 obtain⟨c,j,l,m,o⟩:=ae4 h;have d:=g.tb c;have a:=i.tb j;obtain⟨b,p⟩:=apN d a m;rw[o];have e:yc (s.1,n.1,jG n.2 s.2)=0:=amb l b.ok;have f:tog s.2 (jG n.2 s.2)=tog n.2 []:=aBp d b a GX λk=>by rw[p];simp[val];omega
 rw[aBo a]at f;refine⟨e,?_,b.good⟩;rw[aln c e rfl];simp only[f];rfl
def alo{s:Sn}{d:Dl}(a:gV s.2)(b:gV d.2.2)(h:(oG s d).2=0):Tb (oG s d).1.2/\∀k,val (oG s d).1.2 k=val s.2 k+val d.2.2 k:=by obtain⟨c,e,i,f,g⟩:=adT h;rw[g];exact aBn (a.tb c) (b.tb (amc e).2) f
def Bh(p x:Q0):Int:=if x=p then 14 else if Op.bytesLess x p=true then 7 else 0
def ZQ{d:List eP}(a:iL d=true):(dV d).length<=30000:=by unfold iL at a;rw[aO,decide_eq_true_iff]at a;have b:=nN (n:=d.length) ah;have:=Y1 d a.1;unfold dV;simp only[gu];omega
def common:Q0->List UInt8->Nat
 |a::x,b::y=>if a=b then common x y+1 else 0
 |_,_=>0
def YC(b:Q0):common [] b=0:=by unfold common;rfl
def amI(a:Q0):common a []=0:=by cases a<;>rfl
def YB:∀a b:Q0,common a b<=a.length/\common a b<=b.length
 |[],b=>by simp[common]
 |_::_,[]=>by simp[common]
 |a::x,b::y=>by
  unfold common;have:=YB x y;split
  ·simp only[iF];omega
  ·omega
def aeL(a b:Q0)(j:a.length<=140737488351232)(k:b.length<=140737488351232):∀m i:Nat,i+m=a.length->TT.lim 103 [.s a,.s b,.zq i]=some [.zq 0,.zq ((i+common (a.drop i) (b.drop i):Nat):Int)]
 |0,i,hi=>by have h0:a.drop i=[]:=gJ;have h:¬((i:Int)<a.length):=ah;refine aB ?_;simp[h,h0,YC]
 |m+1,i,hi=>by
  have c:i<a.length:=ah;have h:((i:Int)<a.length):=ah;by_cases d:i<b.length;rotate_left
  ·have h0:b.drop i=[]:=gJ;have l:¬((i:Int)<b.length):=ah;refine aB ?_;simp[h,h0,l,amI]
  have f:((i:Int)<b.length):=ah;have n:TT.lim 103 [.s a,.s b,.zq ((i:Int)+1)]=_:=aeL a b j k m (i+1) ah;have o:=bD ((i:Int)+1);rw[gW c,gW d];unfold common;by_cases e:a[i]=b[i]
  ·rw[au e];have g:((a[i].toNat:Int)=(b[i].toNat:Int))=True:=eq_true (by rw[e]);have p:((i+(common (a.drop (i+1)) (b.drop (i+1))+1):Nat):Int)=((i+1+common (a.drop (i+1)) (b.drop (i+1)):Nat):Int):=ah;rw[p];refine aB ?_;simp[h,c,d,f,g,o,n]
  ·rw[aj e];have g:¬(a[i].toNat:Int)=(b[i].toNat:Int):=λh=>e (XM.1 ah);refine aB ?_;simp[h,c,d,f,g]
def Yt(a b:Q0)(c:a.length<=140737488351232)(d:b.length<=140737488351232):TT.lim 102 [.s a,.s b]=some [.zq (common a b)]:=by have k:TT.lim 103 [.s a,.s b,.zq 0]=_:=aeL a b c d a.length 0 ah;rw[dD,dD,kX]at k;refine aQ ?_;simp[k]
def Ce(a s:Q0):Q0:=bg (common a s)++bg (s.length-common a s)++s.drop (common a s)
def avs(a s:Q0)(o:a.length<=100000000)(p:s.length<=100000000):TT.lim 101 [.s a,.s s]=some [.s (Ce a s)]:=by
 have k:=Yt a s ah ah;have q:=YB a s;have g:=yA (common a s) ah;have f:=yA (s.length-common a s) ah;have r:=nN (n:=common a s) ah;have t:=nN (n:=s.length-common a s) ah;have w1:=jD ((common a s:Int));have b:=jD ((s.length:Int)-(common a s:Int));have d:=bD ((s.length:Int)-(common a s:Int));have e:(s.length:Int)-(common a s:Int)=((s.length-common a s:Nat):Int):=ah;rw[e]at b d;refine aQ ?_;unfold Ce;generalize common a s=c at *;have h:((bg c).length:Int)+((bg (s.length-c)).length:Int)<=9223372036854775807:=ah;have i:((bg c).length:Int)+((bg (s.length-c)).length:Int)+((s.length:Int)-(c:Int))<=9223372036854775807:=ah;have j:(c:Int)<=s.length:=ah;have l:((s.length-c:Nat):Int)=(s.length:Int)-c:=ah;have m:(s.take s.length).drop c=s.drop c:=by rw[zL]
 rw[<-e]at b d;rw[<-e]at f;simp[k,g,f,w1,b,d,h,i,j,l,m]
def lS:Q0->Nat
 |[]=>0
 |b::r=>b.toNat%128+128*lS r
def oO:Nat->List UInt8->Option Nat
 |0,_=>none
 |_+1,[]=>none
 |n+1,b::r=>if b.toNat<128 then some 1 else(oO n r).map (· +1)
def tV(k:Nat)(b:Nat):Int:=if k=10/\1<b then 3 else if 1<k/\b=0 then 2 else 0
def aF(s:Q0):Nat×Nat×Int:=match oO 10 s with
 |none=>(0,0,if 10<=s.length then 3 else 1)
 |some k=>if tV k (s.getD (k-1) 0).toNat≠0 then(0,0,tV k (s.getD (k-1) 0).toNat)else(lS (s.take k),k,0)
def Xc:∀{n:Nat}{s:Q0}{k:Nat},oO n s=some k->1<=k/\k<=n/\k<=s.length/\(s.getD (k-1) 0).toNat<128
 |0,s,k,h=>by simp[oO]at h
 |n+1,[],k,h=>by simp[oO]at h
 |n+1,b::r,k,h=>by
  unfold oO at h;split at h
  ·next a=>cases h;simpa using a
  ·obtain⟨j,c,rfl⟩:=bn.1 h;obtain⟨e,f,g,d⟩:=Xc c;obtain⟨i,rfl⟩:∃i,j=i+1:=⟨j-1,ah⟩
   refine⟨ah,ah,by simp;omega,?_⟩;simpa using d
def aky:∀(s:Q0),lS s<128^s.length
 |[]=>by simp[lS]
 |b::r=>by have:=aky r;simp only[lS,iF,KF];omega
def aju(b i:Nat)(g:b<128)(hi:i<=9)(c:i=9->b<=1):jQ .shl .u64 (b:Int) ((7*i:Nat):Int)=some (.zu ((b*128^i:Nat):Int)):=by
 have e:min ((7*i:Nat):Int).toNat 64=7*i:=by simp;omega
 have d:(2:Int)^(7*i)=((128^i:Nat):Int):=by rw[Int.pow_mul];simp
 have f:b*128^i<18446744073709551616:=by
  rcases zM i 9 with h|h
  ·have:(128:Nat)^i<=128^8:=Rq ah ah;have j:b*128^i<=127*128^8:=Nat.mul_le_mul ah this;omega
  ·have a:i=9:=ah;subst a;have:=c rfl;omega
 unfold jQ;rw[eX];show some (GV.zu (IntKind.u64.wrap ((b:Int)*2^(min ((7*i:Nat):Int).toNat 64))))=_
 rw[e,d,<-Int.natCast_mul,G7 ah ah]
def orI(a c i:Nat)(b:a<2^i)(h:a+c*2^i<18446744073709551616):bV .or .u64 (a:Int) ((c*2^i:Nat):Int)=some (.zu ((a+c*2^i:Nat):Int)):=by
 have d:((BitVec.ofInt 64 (a:Int) |||BitVec.ofInt 64 ((c*2^i:Nat):Int)).toNat:Nat)=a+c*2^i:=by rw[acR,tY,tY];generalize e:c*2^i=C at *;have f:((a:Int)%((2^64:Nat):Int)).toNat=a:=ah;have g:((C:Int)%((2^64:Nat):Int)).toNat=C:=ah;rw[f,g,<-e,Nat.or_comm,Hq,KC];exact(akT b c).symm
 show some (GV.zu (IntKind.u64.wrap (((BitVec.ofInt 64 (a:Int) |||BitVec.ofInt 64 ((c*2^i:Nat):Int)).toNat:Nat):Int)))=_
 rw[d,G7 ah ah]
def ML(i:Nat):128^i=2^(7*i):=by rw[Nat.pow_mul]
def ajv(a b:Int)(c:0<=b):∃r,jQ .shl .u64 a b=some (.zu r):=by unfold jQ;rw[eX];exact⟨_,rfl⟩
def or_some(a b:Int):∃r,bV .or .u64 a b=some (.zu r):=⟨_,rfl⟩
def DZ(s:Q0)(a:Int)(i:Nat):Q1:=match oO (10-i) (s.drop i)with
 |none=>[.zq 1,.s s]
 |some k=>if tV (i+k) (s.getD (i+k-1) 0).toNat≠0 then[.zq 0,.zu 0,.zq 0,.zq (tV (i+k) (s.getD (i+k-1) 0).toNat)]
  else[.zq 0,.zu (a+((128^i*lS ((s.drop i).take k):Nat):Int)),.zq ((i+k:Nat):Int),.zq 0]
def getLoop(s:Q0)(U:s.length<=140737488351232):∀(m i:Nat)(a:Int),i+m=min s.length 10->(i<=9->0<=a/\a<((128^i:Nat):Int))->
 TT.lim 130 [.s s,.zu a,.zq ((min s.length 10:Nat):Int),.zq i]=some (DZ s a i)
 |0,i,a,hi,G=>by
  have h:¬((i:Int)<((min s.length 10:Nat):Int)):=ah;have g:oO (10-i) (s.drop i)=none:=by
   rcases zM i 10 with h1|h1
   ·have:s.drop i=[]:=gJ;rw[this];obtain⟨j,q⟩:∃j,10-i=j+1:=⟨10-i-1,ah⟩
    rw[q];rfl
   ·have:10-i=0:=ah;rw[this];unfold oO;rfl
  unfold DZ;rw[g];generalize((min s.length 10:Nat):Int)=M at *;refine aB ?_;simp[h]
 |m+1,i,a,hi,G=>by
  have d:i<s.length:=ah;have W:i<=9:=ah;have h:((i:Int)<((min s.length 10:Nat):Int)):=ah;obtain⟨a1,a2⟩:=G W;obtain⟨n,rfl⟩:∃n:Nat,a=n:=⟨a.toNat,ah⟩
  have hb:=(s[i]).toNat_lt;have r:=adP (s[i]).toNat ah;have t:=jD ((((s[i]).toNat%128:Nat):Int));have H:=bD (7*(i:Int));have I:=bD ((i:Int)+1);have J:s.drop i=s[i]::s.drop (i+1):=gW d;obtain⟨j,q⟩:∃j,10-i=j+1:=⟨10-i-1,ah⟩
  have x:10-(i+1)=j:=ah;have L:(7*(i:Int))=((7*i:Nat):Int):=ah;have y:s.getD i 0=s[i]:=by simp[List.getD,d]
  by_cases hc:128<=(s[i]).toNat
  ·have f:((128:Int)<=((s[i]).toNat:Int)):=ah;have step:∃V:Int,(i+1<=9->0<=V/\V<((128^(i+1):Nat):Int)/\V=n+(((s[i]).toNat%128*128^i:Nat):Int))/\(∃S,jQ .shl .u64 ((((s[i]).toNat%128:Nat)):Int) (7*(i:Int))=some (.zu S)/\bV .or .u64 (n:Int) S=some (.zu V)):=by
    rcases zM i 9 with h1|h1
    ·have u:=aju ((s[i]).toNat%128) i ah ah ah;have X:(s[i]).toNat%128*128^i<=127*128^i:=uj _ ah;have z:128^(i+1)=128*128^i:=by rw[KF,Hq]
     have N:(128:Nat)^i<=128^8:=Rq ah ah;have l:=orI n ((s[i]).toNat%128) (7*i) (by rw[<-ML];omega) (by rw[<-ML];omega);rw[<-ML]at l;refine⟨_,λ_=>⟨ah,?_,rfl⟩,_,by rw[L];exact u,by rw[l];simp⟩;rw[z];omega
    ·obtain⟨S,e⟩:=ajv ((((s[i]).toNat%128:Nat)):Int) (7*(i:Int)) ah;obtain⟨V,b⟩:=or_some (n:Int) S;exact⟨V,λh=>ah,S,e,b⟩
   obtain⟨V,b,S,e,A⟩:=step;have Y:TT.lim 130 [.s s,.zu V,.zq ((min s.length 10:Nat):Int),.zq ((i:Int)+1)]=_:=getLoop s U m (i+1) V ah (λh=>⟨(b h).1,(b h).2.1⟩);have c:DZ s n i=DZ s V (i+1):=by
    unfold DZ;rw[J,q,x];have g:oO (j+1) (s[i]::s.drop (i+1))=(oO j (s.drop (i+1))).map (· +1):=by
     show(if(s[i]).toNat<128 then _ else _)=_
     rw[eX]
    rw[g];cases Z:oO j (s.drop (i+1))with
    |none=>rfl
    |some k=>
     obtain⟨v,q2,_,_⟩:=Xc Z;have B:=b ah;have D:i+(k+1)=i+1+k:=ah;simp only[gU,D];split
     ·rfl
     ·have E:(n:Int)+((128^i*lS ((s[i]::s.drop (i+1)).take (k+1)):Nat):Int)=V+((128^(i+1)*lS ((s.drop (i+1)).take k):Nat):Int):=by
       rw[B.2.2,Dn];have:128^i*lS (s[i]::(s.drop (i+1)).take k)=(s[i]).toNat%128*128^i+128^(i+1)*lS ((s.drop (i+1)).take k):=by
        show 128^i*((s[i]).toNat%128+128*lS _)=_
        rw[Nat.mul_add,KF,ads,Hq (128^i) ((s[i]).toNat%128)]
       rw[this];omega
      rw[E]
   rw[c];generalize DZ s V (i+1)=O,((min s.length 10:Nat):Int)=M at *;have em:(((s[i]).toNat%128:Nat):Int)=((s[i]).toNat:Int)%128:=ah;rw[em]at r t e;refine aB ?_;simp[h,d,f,r,t,H,I,e,A,Y]
  ·have f:¬((128:Int)<=((s[i]).toNat:Int)):=ah;have g:oO (j+1) (s[i]::s.drop (i+1))=some 1:=by
    show(if(s[i]).toNat<128 then _ else _)=_
    rw[mW]
   have c:DZ s n i=if tV (i+1) (s[i]).toNat≠0 then[.zq 0,.zu 0,.zq 0,.zq (tV (i+1) (s[i]).toNat)]else[.zq 0,.zu ((n+(s[i]).toNat*128^i:Nat):Int),.zq ((i:Int)+1),.zq 0]:=by
    unfold DZ;rw[J,q,g];have D:i+1-1=i:=ah;have E:128^i*lS ((s[i]::s.drop (i+1)).take 1)=(s[i]).toNat*128^i:=by simp only[Dn,Rl,lS];rw[N9 ah,Hq];simp
    simp only[D,y,E];congr 1
   rw[c];have step:∃S V,jQ .shl .u64 ((((s[i]).toNat%128:Nat)):Int) (7*(i:Int))=some (.zu S)/\bV .or .u64 (n:Int) S=some (.zu V)/\(tV (i+1) (s[i]).toNat=0->V=((n+(s[i]).toNat*128^i:Nat):Int)):=by
    by_cases P:i=9/\1<(s[i]).toNat
    ·obtain⟨S,e⟩:=ajv ((((s[i]).toNat%128:Nat)):Int) (7*(i:Int)) ah;obtain⟨V,b⟩:=or_some (n:Int) S;refine⟨S,V,e,b,λh=>?_⟩;unfold tV at h;rw[mW]at h;cases h
    ·have u:=aju ((s[i]).toNat%128) i ah ah ah;have em:(s[i]).toNat%128=(s[i]).toNat:=N9 ah;rw[em]at u;have X:(s[i]).toNat*128^i<=127*128^i:=uj _ ah;have T:n+(s[i]).toNat*128^i<18446744073709551616:=by
      rcases zM i 9 with h1|h1
      ·have N:(128:Nat)^i<=128^8:=Rq ah ah;omega
      ·have F:i=9:=ah;have h1:(s[i]).toNat<=1:=ah;have N:(128:Nat)^i=128^9:=by rw[F]
       have aa:(s[i]).toNat*128^i<=1*128^i:=uj _ h1;omega
     have l:=orI n (s[i]).toNat (7*i) (by rw[<-ML];omega) (by rw[<-ML];omega);rw[<-ML]at l;exact⟨_,_,by rw[L,em];exact u,l,λ_=>rfl⟩
   obtain⟨S,V,e,A,b⟩:=step;generalize((n+(s[i]).toNat*128^i:Nat):Int)=R,((min s.length 10:Nat):Int)=M at *;have bd:tV (i+1) (s[i]).toNat=if(i:Int)=9/\(1:Int)<((s[i]).toNat:Int)then 3 else if(0:Int)<(i:Int)/\((s[i]).toNat:Int)=0 then 2 else 0:=by
    unfold tV;congr 1
    ·apply propext;omega
    ·congr 1;apply propext;omega
   rw[bd]at b⊢;have em:(((s[i]).toNat%128:Nat):Int)=((s[i]).toNat:Int)%128:=ah;rw[em]at r t e;refine aB ?_
   rcases(Q7 ((i:Int)=9)).imp eq_true eq_false with v|v<;>rcases(Q7 ((1:Int)<((s[i]).toNat:Int))).imp eq_true eq_false with q2|q2<;>
    rcases(Q7 ((0:Int)<(i:Int))).imp eq_true eq_false with q3|q3<;>rcases(Q7 (((s[i]).toNat:Int)=0)).imp eq_true eq_false with w|w
   all_goals
    have o:(0<i)=((0:Int)<(i:Int)):=propext ah;have p:((s[i]).toNat=0)=(((s[i]).toNat:Int)=0):=propext ah;rw[q3]at o;rw[w]at p;simp only[v,q2,q3,w,and_self,and_true,and_false,false_and,true_and,if_true,if_false]at b⊢;first
    |(have b:=b trivial;subst b)
    |skip
    simp[h,d,f,r,t,H,I,e,A,v,q2,q3,w,o,p]
def uM(s:Q0)(f:s.length<=140737488351232):TT.lim 129 [.s s]=some [.zu ((aF s).1:Nat),.zq ((aF s).2.1:Nat),.zq (aF s).2.2]:=by
 have k:TT.lim 130 [.s s,.zu 0,.zq ((min s.length 10:Nat):Int),.zq 0]=_:=getLoop s f (min s.length 10) 0 0 ah aA;have b:(if(10:Int)<(s.length:Int)then(10:Int)else(s.length:Int))=((min s.length 10:Nat):Int):=by split<;>omega
 unfold DZ at k;rw[dD,Ht]at k;unfold aF;generalize((min s.length 10:Nat):Int)=M at *;refine aQ ?_;cases d:oO 10 s with
 |none=>
  rw[d]at k;by_cases a:10<=s.length
  ·have c:(10:Int)<=s.length:=ah;simp[b,k,a,c]
  ·have c:¬(10:Int)<=s.length:=ah;simp[b,k,a,c]
 |some j=>
  rw[d]at k;simp only[kX,Nat.pow_zero,Hr,ac0]at k;by_cases e:tV j (s.getD (j-1) 0).toNat=0
  ·simp only[e,ne_eq,not_true_eq_false,if_false]at k⊢;simp[b,k]
  ·simp only[e,ne_eq,not_false_eq_true,if_true]at k⊢;simp[b,k]
def EP{n:Nat}(h:n<256):(UInt8.ofNat n).toNat=n:=UInt8.toNat_ofNat_of_lt' h
def xJ(n:Nat):Nat:=if n<128 then n else xJ (n/128)
termination_by n
def akx{n:Nat}(h:n<128):xJ n=n:=by rw[xJ,au h]
def akw{n:Nat}(h:¬n<128):xJ n=xJ (n/128):=by rw[xJ,aj h]
def Xd{n:Nat}(h:n<128):fJ n=1:=by unfold fJ;rw[yI h];rfl
def aBZ:∀n:Nat,xJ n<128/\(0<n->0<xJ n)/\xJ n*128^(fJ n-1)<=n:=by
 intro n;induction n using Nat.strongRecOn with
 |_ n b=>
  by_cases h:n<128
  ·rw[akx h,Xd h];simp;omega
  ·obtain⟨c,d,a⟩:=b (n/128) ah;rw[akw h,JZ h];refine⟨c,λ_=>d ah,?_⟩;have f:=J3 (n/128);obtain⟨j,e⟩:∃j,fJ (n/128)=j+1:=⟨fJ (n/128)-1,ah⟩
   rw[e]at a⊢;simp only[Nat.add_sub_cancel]at a⊢;have:xJ (n/128)*128^(j+1)=xJ (n/128)*128^j*128:=by rw[KF,ads]
   rw[this];omega
def aBY:∀(n:Nat)(x:Q0),(bg n++x).getD (fJ n-1) 0=UInt8.ofNat (xJ n):=by
 intro n;induction n using Nat.strongRecOn with
 |_ n a=>
  intro x;by_cases h:n<128
  ·rw[akx h,Xd h,yI h];rfl
  ·have c:=J3 (n/128);obtain⟨j,b⟩:∃j,fJ (n/128)=j+1:=⟨fJ (n/128)-1,ah⟩
   have:=a (n/128) ah x;rw[akw h,JZ h,CZ h,<-this,b];simp
def aBX:∀(n k:Nat)(x:Q0),fJ n<=k->oO k (bg n++x)=some (fJ n):=by
 intro n;induction n using Nat.strongRecOn with
 |_ n a=>
  intro k x b;have c:=J3 n;obtain⟨j,rfl⟩:∃j,k=j+1:=⟨k-1,ah⟩
  by_cases h:n<128
  ·rw[Xd h,yI h];show(if(UInt8.ofNat n).toNat<128 then _ else _)=_
   rw[au (by rw[EP ah];exact h)]
  ·rw[JZ h]at b⊢;rw[CZ h];show(if(UInt8.ofNat (n%128+128)).toNat<128 then _ else(oO j (bg (n/128)++x)).map (· +1))=_
   rw[aj (by rw[EP ah];omega),a (n/128) ah j x ah];rfl
def aB0:∀n:Nat,lS (bg n)=n:=by
 intro n;induction n using Nat.strongRecOn with
 |_ n a=>
  by_cases h:n<128
  ·rw[yI h];simp only[lS];rw[EP ah];omega
  ·rw[CZ h];simp only[lS];rw[a (n/128) ah,EP ah];omega
def aku(n:Nat)(x:Q0)(d:n<18446744073709551616):aF (bg n++x)=(n,(bg n).length,0):=by
 have e:=aBX n 10 x (G5 d);obtain⟨j,f,b⟩:=aBZ n;have g:=aBY n x;have i:tV (fJ n) (UInt8.ofNat (xJ n)).toNat=0:=by
  rw[EP ah];unfold tV;rw[aj,aj]
  ·rintro⟨a,c⟩
   by_cases h:n<128
   ·rw[Xd h]at a;omega
   ·have:=f ah;omega
  ·rintro⟨a,c⟩
   rw[a]at b;have:2*128^9<=xJ n*128^9:=uj _ c;simp only[show 10-1=9 from rfl]at b;omega
 unfold aF;rw[e];simp only[g,i,ne_eq,not_true_eq_false,if_false];have:(bg n++x).take (fJ n)=bg n:=by unfold fJ;simp
 rw[this,aB0];rfl
def aB1(a:Q0)(b:UInt8):lS (a++[b])=lS a+128^a.length*(b.toNat%128):=by
 induction a with
 |nil=>simp[lS]
 |cons c a d=>simp only[bI,lS,d,iF,KF,Nat.mul_add,jY];rw[Hq (128^a.length) 128,ads]
def aiT:∀(j k:Nat)(s:Q0),oO j s=some k->(1<k->(s.getD (k-1) 0)≠0)->bg (lS (s.take k))=s.take k/\(1<k\/s.getD (k-1) 0≠0->lS (s.take k)≠0)
 |0,k,s,h,_=>by simp[oO]at h
 |j+1,k,[],h,_=>by simp[oO]at h
 |j+1,k,b::r,h,g=>by
  unfold oO at h;split at h
  ·next d=>
   cases h;simp only[Dn,Rl,lS,Nat.mul_zero,nR];rw[N9 d];refine⟨by rw[yI d];simp,λc=>?_⟩;rcases c with c|c
   ·omega
   ·intro e;apply c;simp only[AY,List.getD_cons_zero];exact XM.1 (by simpa using e)
  ·next d=>
   obtain⟨i,hi,rfl⟩:=bn.1 h;obtain⟨q,t,u,v⟩:=Xc hi;obtain⟨l,rfl⟩:∃l,i=l+1:=⟨i-1,ah⟩
   have a:r.getD l 0≠0:=by have:=g ah;simpa using this
   obtain⟨m,f⟩:=aiT j (l+1) r hi (λ_=>by simpa using a);have f:=f (.inr (by simpa using a));have n:=b.toNat_lt;rw[Dn];simp only[lS];refine⟨?_,λ_=>ah⟩;rw[CZ ah];have o:(b.toNat%128+128*lS (r.take (l+1)))%128+128=b.toNat:=ah;have p:(b.toNat%128+128*lS (r.take (l+1)))/128=lS (r.take (l+1)):=ah;rw[o,p,m];simp
structure VOk(s:Q0)(n k:Nat):Prop where
 pos:1<=k
 ten:k<=10
 len:k<=s.length
 lt:n<18446744073709551616
 put:bg n=s.take k
def kF{s:Q0}(h:(aF s).2.2=0):VOk s (aF s).1 (aF s).2.1:=by
 unfold aF at h⊢;cases c:oO 10 s with
 |none=>rw[c]at h;simp only at h;split at h<;>cases h
 |some k=>
  rw[c]at h;simp only at h⊢;obtain⟨g,i,l,r⟩:=Xc c;by_cases a:tV k (s.getD (k-1) 0).toNat=0
  ·simp only[a,ne_eq,not_true_eq_false,if_false];have m:1<k->s.getD (k-1) 0≠0:=by
    intro n d;unfold tV at a;rw[d]at a;split at a
    ·cases a
    ·rw[au ⟨n,rfl⟩]at a;cases a
   refine⟨g,i,l,?_,(aiT 10 k s c m).1⟩;have e:s.take k=s.take (k-1)++[s.getD (k-1) 0]:=by
    obtain⟨j,rfl⟩:∃j,k=j+1:=⟨k-1,ah⟩
    have:j<s.length:=ah;simp[List.getD,this]
   have d:=aky (s.take (k-1));rw[e,aB1,kG,KE ah];rw[kG,KE ah]at d;rcases zM k 10 with o|o
   ·have p:(128:Nat)^(k-1)<=128^8:=Rq ah ah;have f:128^(k-1)*((s.getD (k-1) 0).toNat%128)<=128^(k-1)*127:=XH _ ah;omega
   ·have b:k=10:=ah;have q:(s.getD (k-1) 0).toNat<=1:=by
     unfold tV at a;split at a
     ·cases a
     ·next h=>omega
    have p:(128:Nat)^(k-1)=128^9:=by rw[b]
    have f:128^(k-1)*((s.getD (k-1) 0).toNat%128)<=128^(k-1)*1:=XH _ ah;omega
  ·simp only[a,ne_eq,not_false_eq_true,if_true]at h
def JX{s:Q0}(h:(aF s).2.2≠0):(aF s).1=0/\(aF s).2.1=0:=by
 unfold aF at h⊢;cases b:oO 10 s with
 |none=>exact⟨rfl,rfl⟩
 |some k=>
  rw[b]at h;simp only at h⊢;by_cases a:tV k (s.getD (k-1) 0).toNat=0
  ·simp only[a,ne_eq,not_true_eq_false,if_false]at h
  ·simp only[a,ne_eq,not_false_eq_true,if_true];exact⟨trivial,trivial⟩
def CY(t:Q0)(a:Nat)(h:a<=t.length)(v:t.length<=140737488351232):
 TT.lim 139 [.s t,.zq a]=some [.zq 0,.zu ((aF (t.drop a)).1:Nat),.zq (aF (t.drop a)).2.2,.s t,.zq ((a+(aF (t.drop a)).2.1:Nat):Int)]:=by
 have k:=uM (t.drop a) (by rw[fF];omega);have c:(t.take t.length).drop a=t.drop a:=by rw[zL]
 have d:(a:Int)<=t.length:=ah;refine aB ?_;by_cases b:(aF (t.drop a)).2.2=0
 ·have f:=kF b;have g:=f.len;have i:=f.ten;rw[fF]at g;generalize(aF (t.drop a)).1=n,(aF (t.drop a)).2.1=j,(aF (t.drop a)).2.2=e at *;have w1:=jD ((j:Int));have l:=bD ((t.length:Int)-(a:Int));have m:=jD ((t.length:Int)-(a:Int));have o:=bD ((j:Int));have p:=bD ((a:Int)+(j:Int));have q:¬((t.length:Int)-(a:Int)<(j:Int)):=ah;have r:(a:Int)<=(a:Int)+(j:Int)/\(a:Int)+(j:Int)<=t.length:=ah;subst b;simp[c,d,k,w1,l,m,o,p,q,r]
 ·obtain⟨s,u⟩:=JX b;rw[s,u]at k⊢;generalize(aF (t.drop a)).2.2=e at *;simp[c,d,k,b]
def mQ(e:Int):Q0×Nat×Int:=([],0,e)
def bK(s a0:Q0)(first:Bool):Q0×Nat×Int:=
 let a:=if first=true then[]else a0
 let v:=aF s
 if v.2.2≠0 then mQ v.2.2 else
 if a.length<v.1 then mQ 23 else
 let b:=aF (s.drop v.2.1)
 if b.2.2≠0 then mQ b.2.2 else
 if s.length-(v.2.1+b.2.1)<b.1 then mQ 1 else
 let t:=a.take v.1++(s.drop (v.2.1+b.2.1)).take b.1
 if first=false/\Op.bytesLess a t=false then mQ 7 else
 if v.1<common a t then mQ 23 else(t,v.2.1+b.2.1+b.1,0)
def atG(a t:Q0):(Op.bytesLess t a ||t==a) = !(Op.bytesLess a t):=by
 rw[KW,KW,xK];simp only[nO,decide_eq_true_iff,beq_iff_eq,zG,decide_eq_false_iff_not];constructor
 ·rintro(h|h) b
  ·exact oU _ (zJ h b)
  ·subst h;exact oU _ b
 ·intro h;by_cases c:t<a
  ·exact .inl c
  ·exact .inr (Rh (AU.1 h) (AU.1 c))
def aeO:∀(k:Nat)(a x:Q0),k<=a.length->k<=common a (a.take k++x)
 |0,a,x,h=>ah
 |k+1,[],x,h=>by simp at h
 |k+1,b::a,x,h=>by rw[Dn,bI];unfold common;rw[au rfl];have:=aeO k a x (by simpa using h);omega
def awH(t a:Q0)(first:Bool)(b:Nat)(h:b<=t.length)(ht:t.length<=100000000)(ha:a.length<=100000000):
 ∃at2:Nat,TT.lim 163 [.s t,.zq b,.s a,.b first]=some [.zq 0,.s (bK (t.drop b) a first).1,.zq (bK (t.drop b) a first).2.2,.s t,.zq at2]/\
  ((bK (t.drop b) a first).2.2=0->at2=b+(bK (t.drop b) a first).2.1):=by
 have f:=CY t b h ah;by_cases u:(aF (t.drop b)).2.2=0;rotate_left
 ·obtain⟨e1,E⟩:=JX u;have w:bK (t.drop b) a first=mQ (aF (t.drop b)).2.2:=by unfold bK;simp only;rw[au u]
  rw[e1,E]at f;rw[w];clear e1 E w;generalize(aF (t.drop b)).2.2=e at *;refine⟨b,jd rfl rfl ?_,λh=>absurd h u⟩;cases first<;>simp[f,u,mQ]
 have T:=kF u;have hl:=T.len;have aa:=T.lt;have ab:=T.ten;rw[fF]at hl
 have p:∀x:Q0,x=(if first=true then[]else a)->bK (t.drop b) a first=(if x.length<(aF (t.drop b)).1 then mQ 23 else
  if(aF (t.drop (b+(aF (t.drop b)).2.1))).2.2≠0 then mQ (aF (t.drop (b+(aF (t.drop b)).2.1))).2.2 else
  if(t.length-b)-((aF (t.drop b)).2.1+(aF (t.drop (b+(aF (t.drop b)).2.1))).2.1)<(aF (t.drop (b+(aF (t.drop b)).2.1))).1 then mQ 1 else
  if first=false/\Op.bytesLess x (x.take (aF (t.drop b)).1++(t.drop (b+((aF (t.drop b)).2.1+(aF (t.drop (b+(aF (t.drop b)).2.1))).2.1))).take (aF (t.drop (b+(aF (t.drop b)).2.1))).1)=false then mQ 7 else
  if(aF (t.drop b)).1<common x (x.take (aF (t.drop b)).1++(t.drop (b+((aF (t.drop b)).2.1+(aF (t.drop (b+(aF (t.drop b)).2.1))).2.1))).take (aF (t.drop (b+(aF (t.drop b)).2.1))).1)then mQ 23 else
  (x.take (aF (t.drop b)).1++(t.drop (b+((aF (t.drop b)).2.1+(aF (t.drop (b+(aF (t.drop b)).2.1))).2.1))).take (aF (t.drop (b+(aF (t.drop b)).2.1))).1,(aF (t.drop b)).2.1+(aF (t.drop (b+(aF (t.drop b)).2.1))).2.1+(aF (t.drop (b+(aF (t.drop b)).2.1))).1,0)):=by
  intro x U;unfold bK;simp only[uf,fF,<-U,u,ne_eq,not_true_eq_false,if_false]
 rw[u]at f;have q:=CY t (b+(aF (t.drop b)).2.1) ah ah;have F:=λh=>kF (s:=t.drop (b+(aF (t.drop b)).2.1)) h;have G:=λh=>JX (s:=t.drop (b+(aF (t.drop b)).2.1)) h;generalize V:aF (t.drop b)=v at *;obtain⟨n,i,e⟩:=v;simp only at *;generalize W:aF (t.drop (b+i))=v2 at *;obtain⟨m,j,E⟩:=v2;simp only at *;clear V W T;subst u;simp only[EX]at f q;cases first with
 |true=>
  have w:=p [] rfl;rw[w];clear w p;by_cases k:0<n
  ·have c:(0:Int)<n:=ah;rw[au (by simpa using k)];refine⟨b+i,jd rfl rfl ?_,λh=>by cases h⟩;simp[f,k,c,mQ]
  have c:¬(0:Int)<n:=ah;rw[aj (by simpa using k)];by_cases l:E=0;rotate_left
  ·obtain⟨H,I⟩:=G l;subst H;subst I;rw[au l];refine⟨b+i,jd rfl rfl ?_,λh=>absurd h l⟩;simp[f,q,k,c,l,mQ]
  subst l;obtain⟨H,I,Y,q4,_⟩:=F rfl;rw[fF]at Y;rw[aj aA];have y:=bD ((t.length:Int)-((b:Int)+(i:Int)+(j:Int)));have z:=jD ((t.length:Int)-((b:Int)+(i:Int)+(j:Int)));by_cases J:t.length-b-(i+j)<m
  ·have d:(t.length:Int)-((b:Int)+(i:Int)+(j:Int))<(m:Int):=ah;rw[au J];refine⟨b+i+j,jd rfl rfl ?_,λh=>by cases h⟩;simp[f,q,k,c,y,z,d,mQ]
  have d:¬(t.length:Int)-((b:Int)+(i:Int)+(j:Int))<(m:Int):=ah;rw[aj J,aj aA];have n0:n=0:=ah;subst n0;have hc:common [] ([]++(t.drop (b+(i+j))).take m)=0:=YC _;have L:=bD ((m:Int));have M:=bD ((b:Int)+(i:Int)+(j:Int)+(m:Int));have w0:=bD ((0:Int));have N:((t.take (b+i+j+m)).drop (b+i+j))=(t.drop (b+(i+j))).take m:=by rw[<-jY,Ku];congr 1;omega
  have kc:=Yt [] ((t.drop (b+(i+j))).take m) aA (by simp;omega);rw[YC]at kc;have O:(b:Int)+(i:Int)+(j:Int)<=(b:Int)+(i:Int)+(j:Int)+(m:Int)/\(b:Int)+(i:Int)+(j:Int)+(m:Int)<=t.length:=ah;have P:(0:Int)<=(b:Int)+(i:Int)+(j:Int):=ah;have R:((b:Int)+(i:Int)+(j:Int)+(m:Int)).toNat=b+i+j+m:=ah;have S:((b:Int)+(i:Int)+(j:Int)).toNat=b+i+j:=ah;rw[List.take_nil,aj (by rw[hc];omega)];have o:(((t.drop (b+(i+j))).take m).length:Int)<=9223372036854775807:=by
   have:((t.drop (b+(i+j))).take m).length<=t.length:=by rw[kG,fF];omega
   omega
  refine⟨b+i+j+m,jd rfl rfl ?_,λ_=>by simp only;omega⟩;rw[bf];generalize(t.drop (b+(i+j))).take m=X at *;simp[f,q,w0,y,z,L,M,d,O,P,R,S,N,kc,o]
 |false=>
  have w:=p a rfl;rw[w];clear w p;have B:=jD ((a.length:Int));by_cases k:a.length<n
  ·have c:(a.length:Int)<n:=ah;rw[au k];refine⟨b+i,jd rfl rfl ?_,λh=>by cases h⟩;simp[f,k,c,B,mQ]
  have c:¬(a.length:Int)<n:=ah;rw[aj k];by_cases l:E=0;rotate_left
  ·obtain⟨H,I⟩:=G l;subst H;subst I;rw[au l];refine⟨b+i,jd rfl rfl ?_,λh=>absurd h l⟩;simp[f,q,k,c,l,B,mQ]
  subst l;obtain⟨H,I,Y,q4,_⟩:=F rfl;rw[fF]at Y;rw[aj aA];have y:=bD ((t.length:Int)-((b:Int)+(i:Int)+(j:Int)));have z:=jD ((t.length:Int)-((b:Int)+(i:Int)+(j:Int)));by_cases J:t.length-b-(i+j)<m
  ·have d:(t.length:Int)-((b:Int)+(i:Int)+(j:Int))<(m:Int):=ah;rw[au J];refine⟨b+i+j,jd rfl rfl ?_,λh=>by cases h⟩;simp[f,q,k,c,y,z,d,B,mQ]
  have d:¬(t.length:Int)-((b:Int)+(i:Int)+(j:Int))<(m:Int):=ah;rw[aj J];have L:=bD ((m:Int));have M:=bD ((b:Int)+(i:Int)+(j:Int)+(m:Int));have Z:=bD ((n:Int));have N:((t.take (b+i+j+m)).drop (b+i+j))=(t.drop (b+(i+j))).take m:=by rw[<-jY,Ku];congr 1;omega
  have ac:((t.drop (b+(i+j))).take m).length<=t.length:=by rw[kG,fF];omega
  have kc:=Yt a (a.take n++(t.drop (b+(i+j))).take m) ah (by rw[gu,kG];omega);have O:(b:Int)+(i:Int)+(j:Int)<=(b:Int)+(i:Int)+(j:Int)+(m:Int)/\(b:Int)+(i:Int)+(j:Int)+(m:Int)<=t.length:=ah;have P:(0:Int)<=(b:Int)+(i:Int)+(j:Int):=ah;have c6:(n:Int)<=a.length:=ah;have R:((b:Int)+(i:Int)+(j:Int)+(m:Int)).toNat=b+i+j+m:=ah;have S:((b:Int)+(i:Int)+(j:Int)).toNat=b+i+j:=ah;have A:(min n a.length:Nat)=n:=ah;have o:(n:Int)+(((t.drop (b+(i+j))).take m).length:Int)<=9223372036854775807:=ah;have r:=atG a (a.take n++(t.drop (b+(i+j))).take m);generalize(t.drop (b+(i+j))).take m=X at *;by_cases D:Op.bytesLess a (a.take n++X)=false
  ·rw[au ⟨rfl,D⟩];rw[D]at r;refine⟨b+i+j+m,jd rfl rfl ?_,λh=>by cases h⟩;have g:(Op.bytesLess (a.take n++X) a=true\/a.take n++X=a)=True:=eq_true (by simpa using r);simp[f,q,B,Z,y,z,L,M,c,d,O,P,c6,R,S,N,o,A,g,mQ]
  ·rw[aj (λh=>D h.2)];have D:Op.bytesLess a (a.take n++X)=true:=by simpa using D
   rw[D]at r;have g:(Op.bytesLess (a.take n++X) a=true\/a.take n++X=a)=False:=eq_false (by simpa using r);by_cases c8:n<common a (a.take n++X)
   ·have Ih:(n:Int)<(common a (a.take n++X):Int):=ah;rw[au c8];refine⟨b+i+j+m,jd rfl rfl ?_,λh=>by cases h⟩;simp[f,q,B,Z,y,z,L,M,c,d,O,P,c6,R,S,N,o,A,g,kc,Ih,mQ]
   ·have Ih:¬(n:Int)<(common a (a.take n++X):Int):=ah;rw[aj c8];refine⟨b+i+j+m,jd rfl rfl ?_,λ_=>by simp only;omega⟩;simp[f,q,B,Z,y,z,L,M,c,d,O,P,c6,R,S,N,o,A,g,kc,Ih]
def abn{s a:Q0}{first:Bool}(h:(bK s a first).2.2=0):2<=(bK s a first).2.1/\(bK s a first).2.1<=s.length/\(bK s a first).1.length<=(if first=true then 0 else a.length)+(bK s a first).2.1:=by
 have b:(if first=true then 0 else a.length)=(if first=true then[]else a).length:=by cases first<;>rfl
 rw[b];clear b;unfold bK at h⊢;simp only at h⊢;generalize(if first=true then[]else a)=n at h⊢;split at h
 ·next c=>exact absurd h c
 next d=>
 rw[aj d];split at h
 ·cases h
 next i=>
 rw[aj i];split at h
 ·next c=>exact absurd h c
 next e=>
 rw[aj e];split at h
 ·cases h
 next j=>
 rw[aj j];split at h
 ·cases h
 next k=>
 rw[aj k];split at h
 ·cases h
 next l=>
 rw[aj l];have f:=kF (s:=s) (by simpa using d);have g:=kF (s:=s.drop (aF s).2.1) (by simpa using e);have o:=f.pos;have p:=g.pos;have q:=f.len;have m:=g.len;rw[fF]at m;refine⟨by simp only;omega,by simp only;omega,?_⟩;simp only[gu,kG,fF];omega
def ah1(a s:Q0)(b:s.length<=100000000):(Ce a s).length<=20+s.length:=by have c:=YB a s;have d:=nN (n:=common a s) ah;have e:=nN (n:=s.length-common a s) ah;unfold Ce;simp only[gu,fF];omega
def ar5{g:GV}(h:bW.bool.has g):∃b,g=.b b:=by simpa only[bW.has]using h
