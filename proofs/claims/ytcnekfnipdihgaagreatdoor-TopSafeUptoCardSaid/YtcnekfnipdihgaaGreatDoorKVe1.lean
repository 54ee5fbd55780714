/- What the trees compute: plain laws. -/
import Derived.Test.YtcnekfnipdihgaaGreatDoorKVT
import Derived.Lib.TrimUEq
import Derived.Lib.MapLaws
set_option linter.all false
namespace Go.Proofs.YtcnekfnipdihgaaGreatDoor
open Go Go.aP
set_option maxRecDepth 100000
namespace V
def MZ:∀a b:Q2,Op.bytesLess a b=decide (a<b)
 |_,[]=>by simp[Op.bytesLess]
 |[],_::_=>by simp[Op.bytesLess]
 |a::x,b::y=>by rw[Op.bytesLess,MZ x y,yR];simp[aeC]
abbrev dU:=Q2×Q2
abbrev Row:=List dU×Int
def ent(x:dU):GV:=.g [.s x.1,.s x.2]
def row(r:Row):GV:=.g [.l (r.1.map ent),.zu r.2]
@[simp] theorem aGO(x:dU):(ent x).cells=[.s x.1,.s x.2]:=rfl
@[simp] theorem aAR(r:Row):(row r).cells=[.l (r.1.map ent),.zu r.2]:=rfl
@[simp] theorem aGP(x:dU):(ent x).scalar=false:=rfl
@[simp] theorem aIe(r:Row):(row r).scalar=false:=rfl
def tX(d:List dU):Prop:=d.length<=140737488351232/\∀x∈d,x.1.length<=140737488351232/\x.2.length<=140737488351232
def Rows(l:List Row):Prop:=l.length<=140737488351232/\∀r∈l,tX r.1/\0<=r.2/\r.2<18446744073709551616
def wB(x:dU):Bool:=decide (x.1.length+x.2.length<=600)
def ajj(d:List dU)(e:tX d):∀m i:Nat,i+m=d.length->TT.lim 13 [.l (d.map ent),.zq d.length,.zq i]=some (if(d.drop i).all wB=true then[.zq 1]else[.zq 0])
 |0,i,hi=>by have h0:d.drop i=[]:=iE;refine aB ?_;have h:¬((i:Int)<d.length):=ah;simp[h,h0]
 |m+1,i,hi=>by
  have a:i<d.length:=ah;have g:TT.lim 13 [.l (d.map ent),.zq d.length,.zq ((i:Int)+1)]=_:=ajj d e m (i+1) ah;refine aB ?_;have h:((i:Int)<d.length):=ah;have j:=wrap64 (n:=(i:Int)+1) ah (by have:=e.1;omega);have k:=e.2 d[i] (gY a);have b:=bI ((d[i].1.length:Int)+(d[i].2.length:Int));have c:(d.drop i).all wB=(wB d[i]&&(d.drop (i+1)).all wB):=by rw[iG a,qZ]
  by_cases f:(600:Int)<(d[i].1.length:Int)+(d[i].2.length:Int)
  ·have:wB d[i]=false:=by unfold wB;simp;omega
   simp[h,a,b,f,c,this]
  ·have:wB d[i]=true:=by unfold wB;simp;omega
   rw[c,this,FY];simp[h,a,j,b,f,g]
def iY(d:List dU):Bool:=d.all wB&&decide (d.length<=40)
def atP(d:List dU)(c:tX d):TT.lim 12 [.l (d.map ent)]=some [.b (iY d)]:=by
 refine aV ?_;have a:TT.lim 13 [.l (d.map ent),.zq d.length,.zq 0]=_:=ajj d c d.length 0 ah;rw[dY]at a;cases b:d.all wB with
 |false=>rw[b]at a;simp[a,iY,b]
 |true=>
  rw[b]at a;simp only[if_true]at a;have:(decide ((d.length:Int)<=40))=decide (d.length<=40):=by rw[yR];simp;omega
  simp[a,iY,b,this]
def aS(n:Nat):Q2:=if n<128 then[UInt8.ofNat n]else UInt8.ofNat (n%128+128)::aS (n/128)
termination_by n
decreasing_by omega
def zK{n:Nat}(h:n<128):aS n=[UInt8.ofNat n]:=by rw[aS,au h]
def D5{n:Nat}(h:¬n<128):aS n=UInt8.ofNat (n%128+128)::aS (n/128):=by rw[aS,aj h]
def YI{a b:Nat}(c:a<256)(d:b<256)(h:UInt8.ofNat a=UInt8.ofNat b):a=b:=by have:=uD UInt8.toNat h;simp at this;omega
def ad6:∀(n m:Nat)(x y:Q2),aS n++x=aS m++y->n=m/\x=y:=by
 intro n;induction n using Nat.strongRecOn with
 |_ n c=>
  intro m x y h;by_cases a:n<128<;>by_cases b:m<128
  ·rw[zK a,zK b]at h;simp only[bg,aW,xU]at h;exact⟨YI ah ah h.1,h.2⟩
  ·rw[zK a,D5 b]at h;simp only[bg,aW,xU]at h;have:=YI ah ah h.1;omega
  ·rw[D5 a,zK b]at h;simp only[bg,aW,xU]at h;have:=YI ah ah h.1;omega
  ·rw[D5 a,D5 b]at h;simp only[bg,xU]at h;have e:=YI ah ah h.1;obtain⟨f,d⟩:=c (n/128) ah (m/128) x y h.2;exact⟨ah,d⟩
def fZ(n:Nat):Nat:=(aS n).length
def aDv{n:Int}(h0:0<=n):n.fdiv (2^(7:Nat))=n/128:=by rw[F5 _ aU];rfl
def alS{n:Nat}:kM .shr .u64 (n:Int) 7=some (.zu ((n/128:Nat):Int)):=by
 have:((n:Int)).fdiv (2^(7:Nat))=((n/128:Nat):Int):=by rw[aDv ah];omega
 simp[kM,IntKind.bits];exact this
def D6(n:Nat):0<fZ n:=by unfold fZ;rw[aS];split<;>simp
def LD{n:Nat}(h:¬n<128):fZ n=fZ (n/128)+1:=by unfold fZ;rw[D5 h];rfl
def Pj:∀(k n:Nat),0<k->n<128^k->fZ n<=k
 |0,_,h,_=>ah
 |k+1,n,_,h=>by
  by_cases a:n<128
  ·unfold fZ;rw[zK a];simp
  ·rw[LD a];cases k with
   |zero=>simp at h;omega
   |succ k=>
    have:n/128<128^(k+1):=by rw[Md]at h;omega
    have:=Pj (k+1) (n/128) ah this;omega
def Ir{n:Nat}(h:n<18446744073709551616):fZ n<=10:=Pj 10 n ah ah
def aw0:∀(n s:Nat),s+fZ n<=1000->n<18446744073709551616->TT.lim 17 [.zu n,.zq s]=some [.zq 0,.zq ((s+fZ n-1:Nat):Int)]:=by
 intro n;induction n using Nat.strongRecOn with
 |_ n e=>
  intro s g i;refine aB ?_;by_cases h:n<128
  ·have b:¬(128:Int)<=n:=ah;simp[b,fZ,zK h]
  ·have b:(128:Int)<=n:=ah;have j:=LD h;have k:=D6 (n/128);have f:=bI ((s:Int)+1);have a:TT.lim 17 [.zu ((n/128:Nat):Int),.zq ((s:Int)+1)]=_:=e (n/128) ah (s+1) ah ah;have c:s+fZ n-1=s+1+fZ (n/128)-1:=ah;rw[c];have d:kM .shr .u64 (n:Int) 7=some (.zu ((n/128:Nat):Int)):=alS;generalize((n/128:Nat):Int)=q at d a;simp[b,f,d,a]
def O0(n:Nat)(a:n<18446744073709551616):TT.lim 16 [.zu n]=some [.zq (fZ n)]:=by have c:=D6 n;have b:TT.lim 17 [.zu n,.zq 1]=_:=aw0 n 1 (by have:=Ir a;omega) a;rw[(ah:1+fZ n-1=fZ n)]at b;refine aV ?_;simp[b]
def mP:Nat->Nat->List Nat
 |0,_=>[]
 |k+1,n=>(n%128+128)::mP k (n/128)
def jW(n:Nat):GV:=.i .u8 n
def anJ(n:Nat)(d:n<18446744073709551616):dh .and .u64 (n:Int) 127=some (.zu ((n%128:Nat):Int)):=by
 have a:((BitVec.ofInt 64 (n:Int) &&& BitVec.ofInt 64 127).toNat:Nat)=n%128:=by rw[Y0,vS,vS];have b:((n:Int)%((2^64:Nat):Int)).toNat=n:=ah;have c:((127:Int)%((2^64:Nat):Int)).toNat=2^7-1:=aU;rw[b,c,aeR]
 show some (GV.zu (IntKind.u64.wrap (((BitVec.ofInt 64 (n:Int) &&& BitVec.ofInt 64 127).toNat:Nat):Int)))=_
 rw[a,Iw ah ah]
def afj(n:Nat)(a:n<256):dh .and .u8 (n:Int) 127=some (.i .u8 ((n%128:Nat):Int)):=by
 have:∀x:Fin 256,IntKind.u8.wrap (((BitVec.ofInt IntKind.u8.bits ((x.val:Nat):Int) &&& BitVec.ofInt IntKind.u8.bits 127).toNat:Nat):Int)=((x.val%128:Nat):Int):=by decide +kernel
 show some (GV.i .u8 _)=some (GV.i .u8 _)
 exact uD (λz=>some (GV.i .u8 z)) (this ⟨n,a⟩)
def ayr(n:Nat)(a:n<128):dh .or .u8 (n:Int) 128=some (.i .u8 ((n+128:Nat):Int)):=by
 have:∀x:Fin 128,IntKind.u8.wrap (((BitVec.ofInt IntKind.u8.bits ((x.val:Nat):Int) |||BitVec.ofInt IntKind.u8.bits 128).toNat:Nat):Int)=((x.val+128:Nat):Int):=by decide +kernel
 show some (GV.i .u8 _)=some (GV.i .u8 _)
 exact uD (λz=>some (GV.i .u8 z)) (this ⟨n,a⟩)
def aFE{n:Int}(h0:0<=n)(h1:n<256):IntKind.u8.wrap n=n:=by
 have:IntKind.u8.wrap n=n%256:=by simp[IntKind.wrap,IntKind.signed,IntKind.bits]
 rw[this];omega
@[simp] theorem aGA(n:Nat):(jW n).cells=[jW n]:=rfl
@[simp] theorem aGC(n:Nat):(jW n).scalar=true:=rfl
@[simp] theorem aGB(n:Nat)(v:GV):(jW n).put 0 [v]=some v:=rfl
def afO:∀l:Q4,(∀x∈l,x<256)->oJ (l.map jW)=some (l.map UInt8.ofNat)
 |[],_=>rfl
 |a::l,h=>by have h1:=h a aA;have b:=afO l λx c=>h x (by simp[c]);simp only[iU,jW,oJ]at b⊢;rw[lM];have:(λn:Nat=>GV.i .u8 (n:Int))=jW:=rfl;rw[b];simp
def aja:∀(m n:Nat)(done:Q4),n<18446744073709551616->done.length+m<1000->
 TT.lim 18 [.zu n,.l ((done++List.replicate m 0).map jW),.zq ((done.length+m:Nat):Int),.zq done.length]=some [.zq 0,.l ((done++mP m n).map jW)]
 |0,n,done,l,r=>by refine aB ?_;simp[mP]
 |m+1,n,done,l,r=>by
  have c:(done.length:Int)<((done.length+(m+1):Nat):Int):=ah;have s:=bI ((done.length:Int)+1);have d:=aFE (n:=((n%128:Nat):Int)) ah ah;have o:kM .shr .u64 (n:Int) 7=some (.zu ((n/128:Nat):Int)):=alS;have p:=anJ n l;have h:=ayr (n%128) ah;have a:=aja m (n/128) (done++[n%128+128]) ah (by simp;omega);have e:(done++[n%128+128]).length+m=done.length+(m+1):=by simp;omega
  rw[e]at a;have i:(((done++[n%128+128]).length:Nat):Int)=(done.length:Int)+1:=aA;rw[i]at a;have f:((done++List.replicate (m+1) 0).map jW).set done.length (jW (n%128+128))=(done++[n%128+128]++List.replicate m 0).map jW:=by rw[PE,<-Zb,List.set_append_right _ _ (dK _),Ci];simp
  have g:((done++List.replicate (m+1) 0).map jW)[done.length]? =some (jW 0):=by rw[iO,xW (dK _),Ci,PE];rfl
  have j:((done++List.replicate (m+1) 0).map jW).length=done.length+(m+1):=aA;have t:done++mP (m+1) n=done++[n%128+128]++mP m (n/128):=by simp[mP]
  rw[t];generalize v:(done++List.replicate (m+1) 0).map jW=L at *;refine aB ?_;have k:(0:Int)<=(done.length:Int)/\(done.length:Int)<(L.length:Int):=by rw[j];omega
  have u:GV.i IntKind.u8 ((n%128+128:Nat):Int)=jW (n%128+128):=rfl;have b:L.set done.length (GV.i IntKind.u8 ((n%128+128:Nat):Int))=(done++[n%128+128]++List.replicate m 0).map jW:=f;generalize(done++[n%128+128]++List.replicate m 0).map jW=w at a b;generalize(done++[n%128+128]++mP m (n/128)).map jW=x at a⊢;generalize((n/128:Nat):Int)=q at o a;generalize((n%128+128:Nat):Int)=z at h b;generalize((n%128:Nat):Int)=y at p d h;generalize((done.length+(m+1):Nat):Int)=N at c a⊢;simp[c,p,d,h,k,g,o,s,b,a]
def ad7:∀m n,(mP m n).length=m
 |0,_=>rfl
 |m+1,n=>by simp[mP,ad7 m]
def ad8:∀m n,∀x∈mP m n,x<256
 |0,_,x,h=>by simp[mP]at h
 |m+1,n,x,h=>by
  simp only[mP,bJ]at h;rcases h with rfl|h
  ·omega
  ·exact ad8 m _ x h
def amP:∀(s n:Nat),fZ n=s+1->∃x,(mP (s+1) n)[s]? =some x/\((mP (s+1) n).set s (x%128)).map UInt8.ofNat=aS n
 |0,n,h=>by
  have a:n<128:=by
   by_cases a:n<128
   ·exact a
   ·rw[LD a]at h;have:=D6 (n/128);omega
  refine⟨n%128+128,by simp[mP],?_⟩;rw[zK a];simp[mP];rw[PN a]
 |s+1,n,h=>by
  have a:¬n<128:=by intro a;unfold fZ at h;rw[zK a]at h;simp at h
  rw[LD a]at h;obtain⟨x,b,c⟩:=amP s (n/128) ah;refine⟨x,by simp only[mP,vT]at b⊢;exact b,?_⟩;rw[D5 a,<-c];simp[mP]
def zC(n:Nat)(o:n<18446744073709551616):TT.lim 15 [.zu n]=some [.s (aS n)]:=by
 have p:=O0 n o;have L:=D6 n;have N:=Ir o;obtain⟨s,h⟩:∃s,fZ n=s+1:=⟨fZ n-1,ah⟩
 obtain⟨x,D,F⟩:=amP s n h;rw[h]at p;have c:TT.lim 18 [.zu n,.l ((List.replicate (s+1) 0).map jW),.zq ((s+1:Nat):Int),.zq 0]=some [.zq 0,.l ((mP (s+1) n).map jW)]:=by have:=aja (s+1) n [] o (by simp;omega);simpa using this
 have G:(List.replicate (s+1) 0).map jW=List.replicate (s+1) (GV.i .u8 0):=by rw[List.map_replicate];rfl
 rw[G]at c;have H:x<256:=ad8 _ _ x (sD D);have E:=afj x H;have d:((mP (s+1) n).map jW)[s]? =some (jW x):=by rw[iO,D];rfl
 have b:((mP (s+1) n).map jW).set s (GV.i .u8 ((x%128:Nat):Int))=((mP (s+1) n).set s (x%128)).map jW:=(Zb (f:=jW) (l:=mP (s+1) n) (i:=s) (a:=x%128)).symm;have q:=afO ((mP (s+1) n).set s (x%128)) (λy r=>by
  rcases aeN r with r|rfl
  ·exact ad8 _ _ y r
  ·omega)
 rw[F]at q;have e:(((mP (s+1) n).set s (x%128)).map jW).length=s+1:=by simp[ad7]
 have j:(List.replicate (s+1) (GV.i .u8 0)).length=s+1:=aA;have k:((mP (s+1) n).map jW).length=s+1:=by simp[ad7]
 generalize((mP (s+1) n).set s (x%128)).map jW=O at b q e;generalize(mP (s+1) n).map jW=I at c d b k;generalize m:List.replicate (s+1) (GV.i .u8 0)=P at c j;refine aV ?_;have J:=bI ((s:Int));have g:((s+1:Nat):Int)=(s:Int)+1:=ah;rw[g]at p c;have t:(0:Int)<=(s:Int)+1/\(s:Int)+1<=281474976710656/\(s:Int)+1<=1152921504606846976:=ah;have u:((s:Int)+1).toNat=s+1:=ah;have v:(s:Int)<(s:Int)+1:=ah;have w:(s:Int)+1-1=(s:Int):=ah;generalize Q:((x%128:Nat):Int)=M at E b;have z:jW x=.i .u8 x:=rfl;have A:s+1<=281474976710656:=ah;have B:I[s]'(by omega)=jW x:=by have:=d;rw[bV ah]at this;exact IZ this
 simp[p,t,u,m,j,c,k,w,J,v,d,B,E,b,z,e,q,A,GV.gu]
def ZN(a b:Q2):dH (a++b)=dH a++dH b:=by simp[dH]
@[simp] theorem afM(a:Q2):(dH a).length=a.length:=by simp[dH]
def Qn(a:Q2):(dH a).all (GV.gu 1)=true:=by rw[List.all_eq_true];intro x c;obtain⟨b,_,rfl⟩:=su.1 c;rfl
def ZQ:∀a:Q2,oJ (dH a)=some a
 |[]=>rfl
 |x::a=>by have b:=ZQ a;simp only[dH,iU,oJ]at b⊢;have:=x.toNat_lt;rw[lM,b];simp
def jq(x:dU):Q2:=aS x.1.length++x.1++aS x.2.length++x.2
def dN(d:List dU):Q2:=aS d.length++d.flatMap jq
def oU{n:Nat}(h:n<18446744073709551616):(aS n).length<=10:=Ir h
def as6(x:dU)(h1:x.1.length<=140737488351232)(g:x.2.length<=140737488351232):TT.lim 20 [ent x]=some [.s (jq x)]:=by have a:=zC x.1.length ah;have b:=zC x.2.length ah;have h:=oU (n:=x.1.length) ah;have i:=oU (n:=x.2.length) ah;have w1:=jL ((x.1.length:Int));have c:=jL ((x.2.length:Int));refine aV ?_;have d:((aS x.1.length).length:Int)+(x.1.length:Int)<=9223372036854775807:=ah;have e:((aS x.1.length).length:Int)+((x.1.length:Int)+((aS x.2.length).length:Int))<=9223372036854775807:=ah;have f:((aS x.1.length).length:Int)+((x.1.length:Int)+(((aS x.2.length).length:Int)+(x.2.length:Int)))<=9223372036854775807:=ah;simp[w1,c,a,b,d,e,f,jq,Int.add_assoc]
def ag6{x:dU}(h:wB x=true):(jq x).length<=620:=by unfold wB at h;simp only[decide_eq_true_iff]at h;have a:=oU (n:=x.1.length) ah;have b:=oU (n:=x.2.length) ah;simp only[jq,dM];omega
def aaK:∀d:List dU,d.all wB=true->(d.flatMap jq).length<=620*d.length
 |[],_=>aA
 |x::d,h=>by rw[qZ,aO]at h;have:=ag6 h.1;have:=aaK d h.2;simp only[kP,dM,ig];omega
def ajb(d:List dU)(f:d.all wB=true)(k:d.length<=40):∀(m i:Nat)(a:Q2),i+m=d.length->a.length<=10+620*i->
 TT.lim 19 [.l (d.map ent),.zq d.length,.zq i,.l (dH a)]=some [.zq 0,.l (dH (a++(d.drop i).flatMap jq))]
 |0,i,a,hi,l=>by have h0:d.drop i=[]:=iE;refine aB ?_;have h:¬((i:Int)<d.length):=ah;simp[h,h0]
 |m+1,i,a,hi,l=>by
  have b:i<d.length:=ah;have g:=List.all_eq_true.1 f d[i] (gY b);have c:=g;unfold wB at c;simp only[decide_eq_true_iff]at c;have n:=as6 d[i] ah ah;have o:=ag6 g;have j:TT.lim 19 [.l (d.map ent),.zq d.length,.zq ((i:Int)+1),.l (dH (a++jq d[i]))]=_:=ajb d f k m (i+1) (a++jq d[i]) ah (by simp;omega);rw[ZN]at j;have p:(d.drop i).flatMap jq=jq d[i]++(d.drop (i+1)).flatMap jq:=by rw[iG b,kP]
  rw[p,<-List.append_assoc];refine aB ?_;have h:((i:Int)<d.length):=ah;have q:=bI ((i:Int)+1);have e:=Qn (jq d[i]);have r:2*(a.length+(jq d[i]).length)<=281474976710656/\a.length+(jq d[i]).length<=281474976710656:=ah;have s:GV.g [GV.s d[i].1,GV.s d[i].2]=ent d[i]:=rfl;simp[-List.all_eq_true,h,b,s,n,e,r,q,j]
def Dj(d:List dU)(a:iY d=true):TT.lim 14 [.l (d.map ent)]=some [.s (dN d)]:=by unfold iY at a;rw[aO,decide_eq_true_iff]at a;have k:=zC d.length ah;have i:=oU (n:=d.length) ah;have w1:=jL ((d.length:Int));have b:TT.lim 19 [.l (d.map ent),.zq d.length,.zq 0,.l (dH (aS d.length))]=_:=ajb d a.1 a.2 d.length 0 (aS d.length) ah ah;rw[dY]at b;have f:2*(aS d.length).length<=281474976710656/\(aS d.length).length<=281474976710656:=ah;have c:=Qn (aS d.length);have g:=aaK d a.1;have h:(aS d.length).length+(List.flatMap jq d).length<=281474976710656:=ah;have e:=ZQ (aS d.length++d.flatMap jq);refine aV ?_;unfold dN;generalize d.flatMap jq=j at *;simp[-List.all_eq_true,w1,k,f,c,b,h,e]
def as4{x y:dU}{a b:Q2}(h:jq x++a=jq y++b):x=y/\a=b:=by unfold jq at h;simp only[List.append_assoc]at h;obtain⟨c,d⟩:=ad6 _ _ _ _ h;obtain⟨e,f⟩:=List.append_inj d c;obtain⟨g,i⟩:=ad6 _ _ _ _ f;obtain⟨j,k⟩:=List.append_inj i g;exact⟨Prod.ext e j,k⟩
def ahu:∀{d e:List dU}{a b:Q2},d.length=e.length->d.flatMap jq++a=e.flatMap jq++b->d=e/\a=b
 |[],[],a,b,_,h=>⟨rfl,by simpa using h⟩
 |x::d,y::e,a,b,c,h=>by simp only[kP,List.append_assoc]at h;obtain⟨h1,f⟩:=as4 h;obtain⟨g,i⟩:=ahu (by simpa using c) f;exact⟨by rw[h1,g],i⟩
 |[],_::_,_,_,c,_=>by simp at c
 |_::_,[],_,_,c,_=>by simp at c
def aww{d e:List dU}{a b:Q2}(h:dN d++a=dN e++b):d=e/\a=b:=by unfold dN at h;simp only[List.append_assoc]at h;obtain⟨c,f⟩:=ad6 _ _ _ _ h;exact ahu c f
def awv{d e:List dU}(h:dN d=dN e):d=e:=(aww (a:=[]) (b:=[]) (by simpa using h)).1
def qX(s:Q2)(lo hi:Int):Int:=if(s.length:Int)<lo then 13 else if hi<(s.length:Int)then 13 else if Lib.validD s=true then 0 else 11
def au1(s:Q2)(h:s.length<=140737488351232):TT.lim 27 [.s s]=some [.b (Lib.validD s)]:=by have a:TT.lim 28 [.s s]=some [.b (Lib.validD s)]:=BN (Ds:=Ds) (k:=28) (f:=Pe) rfl (by simp only[Pe];rw[lM]);refine aV ?_;simp[a]
def Gz(s:Q2)(lo hi:Int)(h:s.length<=140737488351232):TT.lim 26 [.s s,.zq lo,.zq hi]=some [.zq (qX s lo hi)]:=by
 have a:=au1 s h;refine aV ?_;unfold qX;by_cases b:(s.length:Int)<lo
 ·simp[b]
 ·by_cases c:hi<(s.length:Int)
  ·simp[b,c]
  ·cases d:Lib.validD s<;>rw[d]at a<;>simp[b,c,a,d]
def uF(x:dU):Int:=if qX x.1 1 64≠0 then qX x.1 1 64 else qX x.2 0 256
def ag7(x:dU)(h1:x.1.length<=140737488351232)(b:x.2.length<=140737488351232):TT.lim 41 [ent x]=some [.zq (uF x)]:=by
 have a:=Gz x.1 1 64 h1;have c:=Gz x.2 0 256 b;refine aV ?_;unfold uF;by_cases h:qX x.1 1 64=0
 ·simp[a,h,c]
 ·simp[a,h]
def uz:Option Q2->List dU->Int
 |_,[]=>0
 |p,x::xs=>if uF x≠0 then uF x else match p with
  |none=>uz (some x.1) xs
  |some k=>if x.1=k then 14 else if Op.bytesLess x.1 k=true then 7 else uz (some x.1) xs
def tagged(r:Int):Q3:=if r=0 then[.zq 1]else[.zq 0,.zq r]
def prevK(d:List dU)(i:Nat):Option Q2:=if i=0 then none else(d[i-1]?).map (·.1)
def ajc(d:List dU)(o:tX d):∀m i:Nat,i+m=d.length->TT.lim 40 [.l (d.map ent),.zq d.length,.zq i]=some (tagged (uz (prevK d i) (d.drop i)))
 |0,i,hi=>by have h0:d.drop i=[]:=iE;refine aB ?_;have h:¬((i:Int)<d.length):=ah;simp[h,h0,uz,tagged]
 |m+1,i,hi=>by
  have a:i<d.length:=ah;have w:=o.2 d[i] (gY a);have g:=ag7 d[i] w.1 w.2;have p:TT.lim 40 [.l (d.map ent),.zq d.length,.zq ((i:Int)+1)]=_:=ajc d o m (i+1) ah;have r:prevK d (i+1)=some d[i].1:=by unfold prevK;rw[dL];simp[a]
  rw[r]at p;have s:d.drop i=d[i]::d.drop (i+1):=iG a;rw[s];refine aB ?_;have h:((i:Int)<d.length):=ah;have t:=wrap64 (n:=(i:Int)+1) ah (by have:=o.1;omega);have j:GV.g [GV.s d[i].1,GV.s d[i].2]=ent d[i]:=rfl;by_cases k:uF d[i]=0;rotate_left
  ·simp[h,a,j,g,k,uz,tagged]
  by_cases h0:i=0
  ·subst h0;simp only[rY,aew]at t p;simp[h,a,j,g,k,uz,prevK,t];simpa using p
  ·have b:i-1<d.length:=ah;have l:prevK d i=some d[i-1].1:=by unfold prevK;rw[aj h0];simp[b]
   have c:=wrap64 (n:=(i:Int)-1) ah (by have:=o.1;omega);have e:¬((i:Int)=0):=ah;have y:(0:Int)<=(i:Int)-1:=ah;have u:((i:Int)-1).toNat=i-1:=ah;have f:(1:Int)<=(i:Int):=ah;rw[l];by_cases q:d[i].1=d[i-1].1
   ·have v:(d[i].1=d[i-1].1)=True:=eq_true q;clear q;simp[h,a,j,g,k,e,h0,c,u,b,v,uz,tagged,f]
   ·cases x:Op.bytesLess d[i].1 d[i-1].1 with
    |true=>simp[h,a,j,g,k,e,h0,c,u,b,q,x,uz,tagged,f]
    |false=>simp[h,a,j,g,k,e,h0,c,u,b,q,x,uz,t,p,f]
def yA(d:List dU):Int:=if d.length=0 then 12 else if 16<d.length then 13 else uz none d
def af7(d:List dU)(i:tX d):TT.lim 39 [.l (d.map ent)]=some [.zq (yA d)]:=by
 have a:TT.lim 40 [.l (d.map ent),.zq d.length,.zq 0]=_:=ajc d i d.length 0 ah;have f:prevK d 0=none:=rfl;rw[f,dY]at a;have w1:=Iw (n:=(d.length:Int)) ah (by have:=i.1;omega);refine aV ?_;unfold yA;by_cases e:d.length=0
 ·have b:(d.length:Int)=0:=ah;have:d=[]:=jT e;subst this;simp[IntKind.wrap,IntKind.signed]
 ·have b:¬(d.length:Int)=0:=ah;by_cases g:16<d.length
  ·have c:(16:Int)<(d.length:Int):=ah;simp[w1,e,g,b,c]
  ·have c:¬(16:Int)<(d.length:Int):=ah;by_cases h:uz none d=0
   ·simp only[tagged,h,if_true]at a;simp[w1,e,g,b,c,a,h]
   ·simp only[tagged,h,if_false]at a;simp[w1,e,g,b,c,a]
def yL(r:Row):Int:=if yA r.1≠0 then yA r.1 else if r.2=0 then 18 else 0
def aoC(r:Row)(b:tX r.1):TT.lim 38 [row r]=some [.zq (yL r)]:=by
 have k:=af7 r.1 b;refine aV ?_;unfold yL;by_cases h:yA r.1=0
 ·by_cases a:r.2=0
  ·simp[k,h,a]
  ·simp[k,h,a]
 ·simp[k,h]
def uX(long:Bool)(r:Row):Bool:=decide (r.1.length<=18)&&iY r.1&&(!long ||decide ((dN r.1).length<=100))
def ajg(l:List Row)(j:Rows l):∀m i:Nat,i+m=l.length->TT.lim 11 [.l (l.map row),.zq l.length,.zq i]=some (if(l.drop i).all (uX (decide (40<l.length)))=true then[.zq 1]else[.zq 0])
 |0,i,hi=>by have h0:l.drop i=[]:=iE;refine aB ?_;have h:¬((i:Int)<l.length):=ah;simp[h,h0]
 |m+1,i,hi=>by
  have a:i<l.length:=ah;have s:=j.2 l[i] (gY a);have p:TT.lim 11 [.l (l.map row),.zq l.length,.zq ((i:Int)+1)]=_:=ajg l j m (i+1) ah;have k:(l.drop i).all (uX (decide (40<l.length)))=(uX (decide (40<l.length)) l[i]&&(l.drop (i+1)).all (uX (decide (40<l.length)))):=by rw[iG a,qZ]
  rw[k];refine aB ?_;have h:((i:Int)<l.length):=ah;have q:=wrap64 (n:=(i:Int)+1) ah (by have:=j.1;omega);have e:=atP l[i].1 s.1;by_cases t:18<l[i].1.length
  ·have b:(18:Int)<(l[i].1.length:Int):=ah;have:uX (decide (40<l.length)) l[i]=false:=by unfold uX;simp;omega
   rw[this];simp[h,a,b]
  have b:¬(18:Int)<(l[i].1.length:Int):=ah;have g:l[i].1.length<=18:=ah;cases f:iY l[i].1 with
  |false=>
   rw[f]at e;have:uX (decide (40<l.length)) l[i]=false:=by unfold uX;simp[f]
   rw[this];simp[h,a,b,e]
  |true=>
   rw[f]at e;have r:=Dj l[i].1 f;by_cases o:40<l.length
   ·have c:(40:Int)<(l.length:Int):=ah;by_cases u:100<(dN l[i].1).length
    ·have d:(100:Int)<((dN l[i].1).length:Int):=ah;have:uX (decide (40<l.length)) l[i]=false:=by unfold uX;simp[o];omega
     rw[this];simp[h,a,b,e,c,r,d]
    ·have d:¬(100:Int)<((dN l[i].1).length:Int):=ah;have:uX (decide (40<l.length)) l[i]=true:=by unfold uX;simp[o,f,g];omega
     rw[this,FY];simp[h,a,b,e,c,r,d,q,p]
   ·have c:¬(40:Int)<(l.length:Int):=ah;have:uX (decide (40<l.length)) l[i]=true:=by unfold uX;simp[o,f,g]
    rw[this,FY];simp[h,a,b,e,c,q,p]
def G6(l:List Row):Bool:=l.all (uX (decide (40<l.length)))&&decide (l.length<=300)
def atN(l:List Row)(c:Rows l):TT.lim 10 [.l (l.map row)]=some [.b (G6 l)]:=by
 refine aV ?_;have a:TT.lim 11 [.l (l.map row),.zq l.length,.zq 0]=_:=ajg l c l.length 0 ah;rw[dY]at a;unfold G6;cases b:l.all (uX (decide (40<l.length)))with
 |false=>rw[b]at a;simp[a]
 |true=>
  rw[b]at a;simp only[if_true]at a;have:(decide ((l.length:Int)<=300))=decide (l.length<=300):=by rw[yR];simp;omega
  simp[a,this]
def atM{l:List Row}(h:G6 l=true):∀r∈l,iY r.1=true:=by unfold G6 at h;rw[aO]at h;intro r a;have:=List.all_eq_true.1 h.1 r a;unfold uX at this;simp only[aO]at this;exact this.1.2
def GH(d:List dU)(h:d.length<=40):TT.lim 47 [.l (d.map ent)]=some [.l (d.map ent)]:=by
 refine BN (Ds:=Ds) (k:=47) (f:=xw 32 2) rfl ?_;have a:(d.map ent).all (GV.gu 2)=true:=by rw[List.all_eq_true];intro x b;obtain⟨r,_,rfl⟩:=su.1 b;rfl
 simp only[xw];rw[au ⟨by rw[gG];omega,a⟩]
abbrev K(r:Row):Q2:=dN r.1
def rD(k:Q2):List Row->Nat
 |[]=>0
 |r::rs=>if Op.bytesLess (K r) k=true then rD k rs+1 else 0
def agW(k:Q2):∀t:List Row,t.drop (rD k t)=t.dropWhile λr=>Op.bytesLess (K r) k
 |[]=>rfl
 |r::rs=>by
  unfold rD;cases h:Op.bytesLess (K r) k with
  |true=>simp[h,agW k rs]
  |false=>simp[h]
def afc(k:Q2):∀t:List Row,rD k t<=t.length
 |[]=>by simp[rD]
 |r::rs=>by unfold rD;have:=afc k rs;split<;>simp;omega
def Sz(t:List Row)(i:Nat)(k:GV)(b n j a c:GV):Q3:=match t[i]? with
 |some r=>[.zq 0,.zq i,row r,.l (r.1.map ent),.s (dN r.1)]
 |none=>[.zq 1,.zq i]
def aje(t:List Row)(p:t.length<=256)(f:∀r∈t,iY r.1=true)(k:Q2)(b n j d e:GV):∀m i:Nat,i+m=t.length->
 TT.lim 44 [.l (t.map row),.zq i,.s k,b,n,j,d,e]=some (Sz t (i+rD k (t.drop i)) (.s k) b n j d e)
 |0,i,hi=>by have h0:t.drop i=[]:=iE;have g:t[i]? =none:=wV ah;refine aB ?_;have h:¬((i:Int)<t.length):=ah;simp[h,h0,rD,Sz,g]
 |m+1,i,hi=>by
  have a:i<t.length:=ah;have q:TT.lim 44 [.l (t.map row),.zq ((i:Int)+1),.s k,b,n,j,d,e]=_:=aje t p f k b n j d e m (i+1) ah;have l:=Dj t[i].1 (f _ (gY a));have s:rD k (t.drop i)=if Op.bytesLess (K t[i]) k=true then rD k (t.drop (i+1))+1 else 0:=by rw[iG a];rfl
  refine aB ?_;have h:((i:Int)<t.length):=ah;have u:=bI ((i:Int)+1);rw[s];cases o:Op.bytesLess (K t[i]) k with
  |true=>have c:Op.bytesLess (dN t[i].1) k=true:=o;rw[au rfl,(ah:i+(rD k (t.drop (i+1))+1)=i+1+rD k (t.drop (i+1)))];simp[h,a,l,c,u,q]
  |false=>have c:Op.bytesLess (dN t[i].1) k=false:=o;have g:t[i]? =some t[i]:=bV a;rw[aj aA,oW];simp[h,a,l,c,Sz]
def kT:List Row->List Row->Bool
 |_,[]=>true
 |t,r::rs=>match t.drop (rD (K r) t)with
  |[]=>false
  |s::a=>decide (K s=K r)&&decide (r.2<=s.2)&&kT (s::a) rs
def ajd(t b:List Row)(z:t.length<=256)(E:b.length<=256)(o:∀r∈t,iY r.1=true)(A:∀r∈b,iY r.1=true):∀m j i:Nat,j+m=b.length->i<=t.length->
 TT.lim 43 [.l (t.map row),.zq i,.l (b.map row),.zq b.length,.zq j]=some (if kT (t.drop i) (b.drop j)=true then[.zq 1]else[.zq 0])
 |0,j,i,F,hi=>by have h0:b.drop j=[]:=iE;refine aB ?_;have h:¬((j:Int)<b.length):=ah;simp[h,h0,kT]
 |m+1,j,i,F,hi=>by
  have d:j<b.length:=ah;have n:=Dj b[j].1 (A _ (gY d));have f:=aje t z o (dN b[j].1) (.l (b.map row)) (.zq b.length) (.zq j) (.l (b[j].1.map ent)) (.zu b[j].2) (t.length-i) i ah;have p:=afc (dN b[j].1) (t.drop i);rw[fP]at p;have q:b.drop j=b[j]::b.drop (j+1):=iG d
  have u:kT (t.drop i) (b.drop j)=match t.drop (i+rD (dN b[j].1) (t.drop i))with
   |[]=>false
   |s::G=>decide (K s=K b[j])&&decide (b[j].2<=s.2)&&kT (s::G) (b.drop (j+1)):=by
   rw[q];simp only[kT,rZ]
  rw[u];generalize H:i+rD (dN b[j].1) (t.drop i)=c at f⊢;have v:c<=t.length:=ah;refine aB ?_;have h:((j:Int)<b.length):=ah;have I:=bI ((j:Int)+1);by_cases a:c<t.length
  ·have g:¬((c:Int)=(t.length:Int)):=ah;have w:t[c]? =some t[c]:=bV a;have e:t.drop c=t[c]::t.drop (c+1):=iG a;have x:=Dj t[c].1 (o _ (gY a));have B:TT.lim 43 [.l (t.map row),.zq c,.l (b.map row),.zq b.length,.zq ((j:Int)+1)]=_:=ajd t b z E o A m (j+1) c ah v;simp only[Sz,w]at f;rw[e];rw[e]at B;by_cases y:dN t[c].1=dN b[j].1
   ·have l:(dN t[c].1=dN b[j].1)=True:=eq_true y;clear y;by_cases D:t[c].2<b[j].2
    ·have k:¬b[j].2<=t[c].2:=ah;simp[h,d,n,f,g,a,x,l,D,k]
    ·have k:b[j].2<=t[c].2:=ah;simp[h,d,n,f,g,a,x,l,D,k,I,B]
   ·simp[h,d,n,f,g,a,x,y]
  ·have J:(c:Int)=(t.length:Int):=ah;have w:t[c]? =none:=wV ah;have e:t.drop c=[]:=iE;simp only[Sz,w]at f;rw[e];simp[h,d,n,f,J]
def ZI(t b:List Row)(c:t.length<=256)(d:b.length<=256)(e:∀r∈t,iY r.1=true)(f:∀r∈b,iY r.1=true):TT.lim 42 [.l (t.map row),.l (b.map row)]=some [.b (kT t b)]:=by have a:TT.lim 43 [.l (t.map row),.zq 0,.l (b.map row),.zq b.length,.zq 0]=_:=ajd t b c d e f b.length 0 0 ah ah;rw[dY,dY]at a;refine aV ?_;cases g:kT t b<;>rw[g]at a<;>simp at a<;>simp[a]
def as8(x y:dU):oM [1,1] [.s x.1,.s x.2] [.s y.1,.s y.2]=some (decide (x=y)):=by simp only[oM,iH,TU];congr 1;rw[yR];simp[Prod.ext_iff]
def ajh(d e:List dU)(l:d.length=e.length)(n:d.length<=140737488351232):∀m i:Nat,i+m=d.length->
 TT.lim 211 [.l (d.map ent),.l (e.map ent),.zq d.length,.zq i]=some (if d.drop i=e.drop i then[.zq 1]else[.zq 0])
 |0,i,hi=>by have h0:d.drop i=[]:=iE;have f:e.drop i=[]:=iE;refine aB ?_;have h:¬((i:Int)<d.length):=ah;simp[h,h0,f]
 |m+1,i,hi=>by
  have b:i<d.length:=ah;have a:i<e.length:=ah;have o:TT.lim 211 [.l (d.map ent),.l (e.map ent),.zq d.length,.zq ((i:Int)+1)]=_:=ajh d e l n m (i+1) ah;have j:(d.drop i=e.drop i)↔(d[i]=e[i]/\d.drop (i+1)=e.drop (i+1)):=by rw[iG b,iG a,xU]
  have k:=as8 d[i] e[i];refine aB ?_;have h:((i:Int)<d.length):=ah;have p:=bI ((i:Int)+1);by_cases f:d[i]=e[i]
  ·have g:(d.drop i=e.drop i)↔(d.drop (i+1)=e.drop (i+1)):=by rw[j];simp[f]
   have c:oM [1,1] [.s d[i].1,.s d[i].2] [.s e[i].1,.s e[i].2]=some true:=by rw[k];simp[f]
   simp only[g];simp[h,b,a,c,p,o]
  ·have g:¬(d.drop i=e.drop i):=by rw[j];simp[f]
   have c:oM [1,1] [.s d[i].1,.s d[i].2] [.s e[i].1,.s e[i].2]=some false:=by rw[k];simp[f]
   rw[aj g];simp[h,b,a,c]
def ahi(d e:List dU)(f:d.length<=140737488351232)(g:e.length<=140737488351232):TT.lim 210 [.l (d.map ent),.l (e.map ent)]=some [.b (decide (d=e))]:=by
 refine aV ?_;by_cases c:d.length=e.length
 ·have b:(d.length:Int)=(e.length:Int):=ah;have a:TT.lim 211 [.l (d.map ent),.l (e.map ent),.zq d.length,.zq 0]=_:=ajh d e c f d.length 0 ah;rw[dY,dY]at a;by_cases h:d=e
  ·rw[au h]at a;have i:(d=e)=True:=eq_true h;clear h;rw[b]at a;simp[b,a,i]
  ·rw[aj h]at a;rw[b]at a;simp[b,a,h]
 ·have b:¬(d.length:Int)=(e.length:Int):=ah;have h:¬d=e:=λh=>c (by rw[h]);simp[b,c,h]
def aAQ(r s:Row)(b:r.1.length<=140737488351232)(a:s.1.length<=140737488351232):TT.lim 215 [row r,row s]=some [.b (decide (r=s))]:=by
 have k:=ahi r.1 s.1 b a;refine aV ?_;by_cases h:r.2=s.2
 ·have:decide (r=s)=decide (r.1=s.1):=by rw[yR];simp[Prod.ext_iff,h]
  rw[this];simp[h,k]
 ·have:decide (r=s)=false:=by rw[decide_eq_false_iff_not];intro e;exact h (by rw[e])
  rw[this];simp[h]
def ajf(a b:List Row)(n:a.length=b.length)(o:a.length<=140737488351232)(h1:∀r∈a,r.1.length<=140737488351232)(j:∀r∈b,r.1.length<=140737488351232):∀m i:Nat,i+m=a.length->
 TT.lim 214 [.l (b.map row),.l (a.map row),.zq a.length,.zq i]=some (if a.drop i=b.drop i then[.zq 1]else[.zq 0])
 |0,i,hi=>by have h0:a.drop i=[]:=iE;have h1:b.drop i=[]:=iE;refine aB ?_;have h:¬((i:Int)<a.length):=ah;simp[h,h0,h1]
 |m+1,i,hi=>by
  have d:i<a.length:=ah;have c:i<b.length:=ah;have p:TT.lim 214 [.l (b.map row),.l (a.map row),.zq a.length,.zq ((i:Int)+1)]=_:=ajf a b n o h1 j m (i+1) ah;have l:(a.drop i=b.drop i)↔(a[i]=b[i]/\a.drop (i+1)=b.drop (i+1)):=by rw[iG d,iG c,xU]
  have k:=aAQ a[i] b[i] (h1 _ (gY d)) (j _ (gY c));have r1:GV.g [.l (a[i].1.map ent),.zu a[i].2]=row a[i]:=rfl;have r2:GV.g [.l (b[i].1.map ent),.zu b[i].2]=row b[i]:=rfl;refine aB ?_;have h:((i:Int)<a.length):=ah;have q:=bI ((i:Int)+1);by_cases e:a[i]=b[i]
  ·have f:(a.drop i=b.drop i)↔(a.drop (i+1)=b.drop (i+1)):=by rw[l];simp[e]
   simp only[f];have g:TT.lim 215 [row a[i],row b[i]]=some [.b true]:=by rw[k];simp[e]
   simp[h,d,c,r1,r2,g,q,p]
  ·have f:¬(a.drop i=b.drop i):=by rw[l];simp[e]
   rw[aj f];have g:TT.lim 215 [row a[i],row b[i]]=some [.b false]:=by rw[k];simp[e]
   simp[h,d,c,r1,r2,g]
def aC7(a b:List Row)(g:a.length<=140737488351232)(i:b.length<=140737488351232)(h1:∀r∈a,r.1.length<=140737488351232)(j:∀r∈b,r.1.length<=140737488351232):TT.lim 212 [.l (a.map row),.l (b.map row)]=some [.b (decide (a=b))]:=by
 have e:TT.lim 213 [.l (a.map row),.l (b.map row)]=some [.b (decide (a=b))]:=by
  refine aV ?_;by_cases f:a.length=b.length
  ·have c:(a.length:Int)=(b.length:Int):=ah;have d:TT.lim 214 [.l (b.map row),.l (a.map row),.zq a.length,.zq 0]=_:=ajf a b f g h1 j a.length 0 ah;rw[dY,dY]at d;rw[c]at d;by_cases h:a=b
   ·rw[au h]at d;have k:(a=b)=True:=eq_true h;clear h;simp[c,d,k]
   ·rw[aj h]at d;simp[c,d,h]
  ·have c:¬(a.length:Int)=(b.length:Int):=ah;have h:¬a=b:=λh=>f (by rw[h]);simp[c,f,h]
 refine aV ?_;simp[e]
def MX(a b:Q2):Op.bytesLess a b=true↔a<b:=by rw[MZ];simp
def jO(l:List Row):Prop:=l.Pairwise λa b=>K a<K b
def MQ:∀(b t:List Row),jO t->jO b->(kT t b=true↔∀r∈b,∃s∈t,K s=K r/\r.2<=s.2)
 |[],t,_,_=>by simp[kT]
 |r::rs,t,E,F=>by
  have o:=jm.1 F;have i:=agW (K r) t;have d:jO (t.drop (rD (K r) t)):=E.sublist (Y5 _ _);have c:∀s∈t.drop (rD (K r) t),s∈t:=λs f=>(Y5 _ _).subset f;have j:∀(u:List Row),(∀s∈u,s∈t.dropWhile (λx=>Op.bytesLess (K x) (K r))\/K s<K r)->True:=λ_ _=>trivial;have g:∀s∈t,¬K s<K r->s∈t.drop (rD (K r) t):=by
   intro s f w;rw[i];clear j c d i E;induction t with
   |nil=>simp at f
   |cons a t G=>
    rw[List.dropWhile_cons];split
    ·next H=>
     rcases bJ.1 f with rfl|f
     ·exact absurd ((MX _ _).1 H) w
     ·exact G f
    ·exact f
  have k:∀s p,t.drop (rD (K r) t)=s::p->¬K s<K r:=by intro s p e;rw[i]at e;have:=List.head?_dropWhile_not (λx=>Op.bytesLess (K x) (K r)) t;rw[e]at this;simp only[Y8,Option.all_some,wU]at this;intro l;rw[(MX _ _).2 l]at this;cases this
  unfold kT;cases e:t.drop (rD (K r) t)with
  |nil=>simp only[iJ,false_iff];intro h;obtain⟨s,f,q,_⟩:=h r aA;have:=g s f (by rw[q];exact qF _);rw[e]at this;simp at this
  |cons s p=>
   simp only[aO,decide_eq_true_iff];rw[e]at d c g;rw[MQ rs (s::p) d o.2];have A:=jm.1 d;constructor
   ·rintro⟨⟨I,J⟩,L⟩ x n
    rcases bJ.1 n with rfl|n
    ·exact⟨s,c s aA,I,J⟩
    ·obtain⟨y,B,v⟩:=L x n;exact⟨y,c y B,v⟩
   ·intro h;obtain⟨y,B,q,w⟩:=h r aA;have m:=g y B (by rw[q];exact qF _);have D:y=s:=by
     rcases bJ.1 m with rfl|m
     ·rfl
     ·have:=A.1 y m;rw[q]at this;exact absurd this (k s p e)
    subst D;refine⟨⟨q,w⟩,λx n=>?_⟩;obtain⟨z,M,v,N⟩:=h x (by simp[n]);refine⟨z,g z M ?_,v,N⟩;rw[v];exact λl=>qF _ (AL l (o.1 x n))
def anS{t:List Row}(h:jO t):kT t t=true:=(MQ t t h h).2 λr a=>⟨r,a,rfl,gZ _⟩
def afr(t:List Row):kT t []=true:=by simp[kT]
def afs{a b c:List Row}(d:jO a)(e:jO b)(f:jO c)(h1:kT a b=true)(g:kT b c=true):kT a c=true:=by rw[MQ _ _ d e]at h1;rw[MQ _ _ e f]at g;rw[MQ _ _ d f];intro r h;obtain⟨s,i,j,k⟩:=g r h;obtain⟨u,l,m,n⟩:=h1 s i;exact⟨u,l,m.trans j,yT k n⟩
def ale:∀{a b:List Row},jO a->jO b->(∀r∈a,r∈b)->(∀r∈b,r∈a)->a=b
 |[],[],_,_,_,_=>rfl
 |[],b::_,_,_,_,h=>absurd (h b aA) aA
 |a::_,[],_,_,h,_=>absurd (h a aA) aA
 |x::a,y::b,j,k,h1,i=>by
  have c:=jm.1 j;have d:=jm.1 k;have g:x=y:=by
   rcases bJ.1 (h1 x aA)with e|l
   ·exact e
   ·rcases bJ.1 (i y aA)with e|m
    ·exact e.symm
    ·exact absurd (AL (d.1 x l) (c.1 y m)) (qF _)
  subst g;rw[ale c.2 d.2 (λr f=>?_) (λr f=>?_)]
  ·rcases bJ.1 (h1 r (by simp[f]))with e|h
   ·subst e;exact absurd (c.1 _ f) (qF _)
   ·exact h
  ·rcases bJ.1 (i r (by simp[f]))with e|h
   ·subst e;exact absurd (d.1 _ f) (qF _)
   ·exact h
def aAN{a:List Row}(i:jO a){r s:Row}(e:r∈a)(j:s∈a)(f:K r=K s):r=s:=by
 induction a with
 |nil=>simp at e
 |cons x a k=>
  have b:=jm.1 i;rcases bJ.1 e with g|c<;>rcases bJ.1 j with h|d
  ·rw[g,h]
  ·have:=b.1 s d;rw[<-g,f]at this;exact absurd this (qF _)
  ·have:=b.1 r c;rw[<-h,f]at this;exact absurd this (qF _)
  ·exact k b.2 c d
def as7{cs:Q3}{r0:Q3}(h:cO.jD [.list true [.str,.str],.int .u64] cs):∃r:Row,(tX r.1/\0<=r.2/\r.2<18446744073709551616)/\GV.g cs=row r:=by
 obtain⟨g,l,rfl,f,h⟩:=qL h;obtain⟨n,l,rfl,i,h⟩:=qL h;obtain rfl:=NV h;obtain⟨n,rfl,j,k⟩:=JH i;obtain⟨m,rfl,o,p⟩:=Wy f;obtain⟨d,q,rfl⟩:∃d:List dU,(∀x∈d,x.1.length<=140737488351232/\x.2.length<=140737488351232)/\m=d.map ent:=RH λx t=>by
  obtain⟨c,v⟩:=p x t;cases x<;>simp[GV.scalar]at v
  obtain⟨a,l,e,w,c⟩:=qL c;obtain⟨b,l,rfl,y,c⟩:=qL c;obtain rfl:=NV c;obtain⟨s,rfl,z⟩:=aic w;obtain⟨u,rfl,A⟩:=aic y;simp only[aoA]at e;subst e;exact⟨(s,u),⟨Nat.le_trans z aU,kR A aU⟩,rfl⟩
 exact⟨(d,n),⟨⟨by have:=kR o (by decide:reachBytes<=140737488351232);simpa using this,q⟩,j,k⟩,rfl⟩
def aAT{g:GV}(h:(cO.list true [.list true [.str,.str],.int .u64]).has g):∃l:List Row,Rows l/\g=.l (l.map row):=by
 obtain⟨a,rfl,b,c⟩:=Wy h;obtain⟨l,d,rfl⟩:∃l:List Row,(∀r∈l,tX r.1/\0<=r.2/\r.2<18446744073709551616)/\a=l.map row:=RH λx f=>by
  obtain⟨i,j⟩:=c x f;cases x<;>simp[GV.scalar]at j
  obtain⟨r,k,e⟩:=as7 (r0:=[]) i;exact⟨r,k,e⟩
 exact⟨l,⟨by have:=kR b (by decide:reachBytes<=140737488351232);simpa using this,d⟩,rfl⟩
def vY:Option Q2->List Row->Int
 |_,[]=>0
 |p,r::rs=>if yL r≠0 then yL r else match p with
  |none=>vY (some (K r)) rs
  |some k=>if K r=k then 14 else if Op.bytesLess (K r) k=true then 7 else vY (some (K r)) rs
def aji(t:List Row)(k:Rows t)(q:∀r∈t,iY r.1=true):∀(m i:Nat)(p:Q2),i+m=t.length->
 TT.lim 37 [.s p,.l (t.map row),.zq t.length,.zq i]=some (tagged (vY (if i=0 then none else some p) (t.drop i)))
 |0,i,p,hi=>by have h0:t.drop i=[]:=iE;refine aB ?_;have h:¬((i:Int)<t.length):=ah;simp[h,h0,vY,tagged]
 |m+1,i,p,hi=>by
  have a:i<t.length:=ah;have u:=k.2 t[i] (gY a);have c:=aoC t[i] u.1;have f:=Dj t[i].1 (q _ (gY a));have b:GV.g [.l (t[i].1.map ent),.zu t[i].2]=row t[i]:=rfl;have g:TT.lim 37 [.s (dN t[i].1),.l (t.map row),.zq t.length,.zq ((i:Int)+1)]=_:=aji t k q m (i+1) (dN t[i].1) ah;rw[dL]at g;rw[iG a];refine aB ?_;have h:((i:Int)<t.length):=ah;have l:=wrap64 (n:=(i:Int)+1) ah (by have:=k.1;omega);by_cases e:yL t[i]=0;rotate_left
  ·simp[-List.getElem_cons_drop,h,a,b,c,e,vY,tagged]
  by_cases h0:i=0
  ·subst h0;simp only[rY,aew]at l g;simp[-List.getElem_cons_drop,h,a,b,c,e,f,l,vY];have v:(0:Int)<(t.length:Int):=ah;simpa using g
  ·have d:0<i:=ah;by_cases j:dN t[i].1=p
   ·have o:(dN t[i].1=p)=True:=eq_true j;clear j;simp[-List.getElem_cons_drop,h,a,b,c,e,f,d,h0,o,vY,tagged]
   ·cases s:Op.bytesLess (dN t[i].1) p with
    |true=>simp[-List.getElem_cons_drop,h,a,b,c,e,f,d,h0,j,s,vY,tagged]
    |false=>simp[-List.getElem_cons_drop,h,a,b,c,e,f,d,h0,j,s,l,g,vY]
def oK(t:List Row):Int:=if 256<t.length then 13 else vY none t
def Vh(t:List Row)(e:Rows t)(f:∀r∈t,iY r.1=true):TT.lim 36 [.l (t.map row)]=some [.zq (oK t)]:=by
 have a:TT.lim 37 [.s [],.l (t.map row),.zq t.length,.zq 0]=_:=aji t e f t.length 0 [] ah;rw[au rfl,dY]at a;refine aV ?_;unfold oK;by_cases d:256<t.length
 ·have b:(256:Int)<(t.length:Int):=ah;simp[d,b]
 ·have b:¬(256:Int)<(t.length:Int):=ah;by_cases c:vY none t=0
  ·simp only[tagged,c,if_true]at a;simp[d,b,a,c]
  ·simp only[tagged,c,if_false]at a;simp[d,b,a,c]
def aga:∀{t:List Row}(p:Option Q2),jO t->(∀r∈t,yL r=0)->(∀k,p=some k->∀r∈t,k<K r)->vY p t=0
 |[],p,_,_,_=>by cases p<;>rfl
 |r::t,p,g,d,h=>by
  have a:=jm.1 g;have f:=aga (t:=t) (some (K r)) a.2 (λx c=>d x (by simp[c])) (λk b x c=>by cases b;exact a.1 x c);unfold vY;rw[aj (by simp[d r aA])];cases p with
  |none=>exact f
  |some k=>
   have b:=h k rfl r aA;have i:¬K r=k:=λe=>by rw[e]at b;exact qF _ b
   have j:¬Op.bytesLess (K r) k=true:=λe=>qF _ (AL b ((MX _ _).1 e));simp only;rw[aj i,aj j];exact f
def Rows.perm{l m:List Row}(h:l.Perm m)(a:Rows l):Rows m:=⟨by rw[<-h.length_eq];exact a.1,λr b=>a.2 r (h.mem_iff.2 b)⟩
def cmpK(a b:Q2):Int:=if a<b then -1 else if b<a then 1 else 0
def agr:∀a b:Q2,Lib.compareBytes a b=cmpK a b
 |[],[]=>by simp[Lib.compareBytes,cmpK]
 |[],_::_=>by simp[Lib.compareBytes,cmpK]
 |_::_,[]=>by simp[Lib.compareBytes,cmpK]
 |x::a,y::b=>by
  unfold Lib.compareBytes;rw[agr a b];unfold cmpK;simp only[aeC];by_cases h1:x<y
  ·simp[h1]
  ·by_cases c:y<x
   ·have d:¬x=y:=λe=>by subst e;exact UInt8.lt_irrefl _ c
    simp[h1,c,d]
   ·have f:x=y:=UInt8.le_antisymm (UInt8.not_lt.1 c) (UInt8.not_lt.1 h1);subst f;simp[UInt8.lt_irrefl]
def ao0(a b:Q2):aad a b=cmpK a b:=(Lib.cmp_eq _ _).trans (agr a b)
def aoZ(a b:Q2):TT.lim 61 [.s a,.s b]=some [.zq (cmpK a b)]:=BN rfl (by rw[<-ao0];rfl)
def agf(d e:List dU)(a:iY d=true)(b:iY e=true):TT.lim 60 [.l (d.map ent),.l (e.map ent)]=some [.zq (cmpK (dN d) (dN e))]:=by have c:=Dj d a;have f:=Dj e b;have g:=aoZ (dN d) (dN e);refine aV ?_;simp[c,f,g]
def anB(x y:Int)(h1:0<=x)(a:0<=y):TT.lim 62 [.zu x,.zu y,.zu 0]=some [.zu ((x+y)%18446744073709551616),.zu ((x+y)/18446744073709551616)]:=BN rfl (by unfold P9;simp only;rw[au ⟨h1,a,ah,ah⟩];simp only[Int.add_zero])
def val:List Row->List UInt8->Int
 |[],_=>0
 |r::rs,k=>if K r=k then r.2 else val rs k
def Pos(t:List Row):Prop:=∀r∈t,0<r.2/\r.2<18446744073709551616
def TJ:∀{t:List Row}{k:Q2},(∀r∈t,K r≠k)->val t k=0
 |[],_,_=>rfl
 |r::t,k,h=>by unfold val;rw[aj (h r aA)];exact TJ λx a=>h x (by simp[a])
def amM:∀{t:List Row},jO t->∀r∈t,val t (K r)=r.2
 |[],_,r,h=>by simp at h
 |x::t,b,r,h=>by
  have a:=jm.1 b;unfold val;rcases bJ.1 h with rfl|h
  ·rw[au rfl]
  ·rw[aj λe=>by have:=a.1 r h;rw[e]at this;exact qF _ this];exact amM a.2 r h
def ad2:∀(t:List Row)(k:Q2),(∃r∈t,K r=k/\val t k=r.2)\/((∀r∈t,K r≠k)/\val t k=0)
 |[],k=>.inr ⟨aA,rfl⟩
 |x::t,k=>by
  unfold val;by_cases h:K x=k
  ·exact .inl ⟨x,aA,h,by rw[au h]⟩
  ·rw[aj h];rcases ad2 t k with⟨r,h1,a,c⟩|⟨h1,a⟩
   ·exact .inl ⟨r,by simp[h1],a,c⟩
   ·refine .inr ⟨λr b=>?_,a⟩;rcases bJ.1 b with rfl|b
    ·exact h
    ·exact h1 r b
def aFk{t:List Row}(b:Pos t)(k:Q2):0<=val t k/\val t k<18446744073709551616:=by
 rcases ad2 t k with⟨r,a,c,d⟩|⟨a,c⟩
 ·have:=b r a;omega
 ·omega
def aFl{t:List Row}(b:Pos t){k:Q2}(h:0<val t k):∃r∈t,K r=k/\val t k=r.2:=by
 rcases ad2 t k with a|⟨a,c⟩
 ·exact a
 ·omega
def aFj{a b:List Row}(c:jO a)(e:jO b)(pa:Pos a)(f:Pos b)(h:∀k,val a k=val b k):a=b:=by
 have d:∀{a b:List Row},jO a->jO b->Pos a->Pos b->(∀k,val a k=val b k)->∀r∈a,r∈b:=by intro a b c e pa f h r g;have i:=amM c r g;have n:=(pa r g).1;obtain⟨s,j,l,m⟩:=aFl f (k:=K r) (by rw[<-h];omega);have:s=r:=PU (awv l) (by rw[<-m,<-h,i]);rw[<-this];exact j
 exact ale c e (d c e pa f h) (d e c f pa λk=>(h k).symm)
def iw:List Row->List Row->Option (List Row)
 |[],b=>some b
 |x::a,[]=>some (x::a)
 |x::a,y::b=>
  if K x<K y then(iw a (y::b)).map (x::·)
  else if K y<K x then(iw (x::a) b).map (y::·)
  else if x.2+y.2<18446744073709551616 then(iw a b).map ((x.1,x.2+y.2)::·)else none
termination_by a b=>a.length+b.length
def Keys(a b m:List Row):Prop:=∀r∈m,∃s,(s∈a\/s∈b)/\s.1=r.1
def Xo:∀(a b:List Row){m:List Row},jO a->jO b->Pos a->Pos b->iw a b=some m->jO m/\(∀k,val m k=val a k+val b k)/\Keys a b m/\Pos m:=by
 intro a b;induction a,b using iw.induct with
 |case1 b=>intro m o p l n h;rw[iw]at h;cases h;exact⟨p,λk=>by simp[val],λr c=>⟨r,.inr c,rfl⟩,n⟩
 |case2 x a=>intro m o p l n h;rw[iw]at h;cases h;exact⟨o,λk=>by simp[val],λr c=>⟨r,.inl c,rfl⟩,l⟩
 |case3 x a y b f v=>
  intro m o p l n h;rw[iw,au f]at h;obtain⟨w,z,rfl⟩:=bG.1 h;have i:=jm.1 o;have j:=jm.1 p;obtain⟨A,B,q,D⟩:=v i.2 p (λr c=>l r (by simp[c])) n z;have u:∀s,s∈a\/s∈y::b->K x<K s:=by
   rintro s (d|d)
   ·exact i.1 s d
   ·rcases bJ.1 d with rfl|d
    ·exact f
    ·exact AL f (j.1 s d)
  refine⟨List.Pairwise.cons (λr c=>?_) A,λk=>?_,λr c=>?_,λr c=>?_⟩
  ·obtain⟨s,d,e⟩:=q r c;have:=u s d;show K x<dN r.1
   rw[<-e];exact this
  ·show(if K x=k then x.2 else val w k)=(if K x=k then x.2 else val a k)+val (y::b) k
   split
   ·next e=>
    rw[TJ (t:=y::b) λr c E=>by have:=u r (.inr c);rw[e,E]at this;exact qF _ this];omega
   ·exact B k
  ·rcases bJ.1 c with rfl|c
   ·exact⟨r,.inl aA,rfl⟩
   ·obtain⟨s,d,e⟩:=q r c;exact⟨s,d.imp (λh=>by simp[h]) id,e⟩
  ·rcases bJ.1 c with rfl|c
   ·exact l r aA
   ·exact D r c
 |case4 x a y b f g v=>
  intro m o p l n h;rw[iw,aj f,au g]at h;obtain⟨w,z,rfl⟩:=bG.1 h;have i:=jm.1 o;have j:=jm.1 p;obtain⟨A,B,q,D⟩:=v o j.2 l (λr c=>n r (by simp[c])) z;have u:∀s,s∈x::a\/s∈b->K y<K s:=by
   rintro s (d|d)
   ·rcases bJ.1 d with rfl|d
    ·exact g
    ·exact AL g (i.1 s d)
   ·exact j.1 s d
  refine⟨List.Pairwise.cons (λr c=>?_) A,λk=>?_,λr c=>?_,λr c=>?_⟩
  ·obtain⟨s,d,e⟩:=q r c;have:=u s d;show K y<dN r.1
   rw[<-e];exact this
  ·show(if K y=k then y.2 else val w k)=val (x::a) k+(if K y=k then y.2 else val b k)
   split
   ·next e=>
    rw[TJ (t:=x::a) λr c E=>by have:=u r (.inl c);rw[e,E]at this;exact qF _ this];omega
   ·exact B k
  ·rcases bJ.1 c with rfl|c
   ·exact⟨r,.inr aA,rfl⟩
   ·obtain⟨s,d,e⟩:=q r c;exact⟨s,d.imp id (λh=>by simp[h]),e⟩
  ·rcases bJ.1 c with rfl|c
   ·exact n r aA
   ·exact D r c
 |case5 x a y b f g d v=>
  intro m o p l n h;rw[iw,aj f,aj g,au d]at h;obtain⟨w,z,rfl⟩:=bG.1 h;have i:=jm.1 o;have j:=jm.1 p;have F:K x=K y:=Uc (Cb.1 g) (Cb.1 f);obtain⟨A,B,q,D⟩:=v i.2 j.2 (λr c=>l r (by simp[c])) (λr c=>n r (by simp[c])) z;have u:∀s,s∈a\/s∈b->K x<K s:=by
   rintro s (d|d)
   ·exact i.1 s d
   ·rw[F];exact j.1 s d
  refine⟨List.Pairwise.cons (λr c=>?_) A,λk=>?_,λr c=>?_,λr c=>?_⟩
  ·obtain⟨s,d,e⟩:=q r c;have:=u s d;show dN x.1<dN r.1
   rw[<-e];exact this
  ·show(if K x=k then x.2+y.2 else val w k)=(if K x=k then x.2 else val a k)+(if K y=k then y.2 else val b k)
   rw[F];split
   ·rfl
   ·exact B k
  ·rcases bJ.1 c with rfl|c
   ·exact⟨x,.inl aA,rfl⟩
   ·obtain⟨s,d,e⟩:=q r c;exact⟨s,d.imp (λh=>by simp[h]) (λh=>by simp[h]),e⟩
  ·rcases bJ.1 c with rfl|c
   ·have G:=l x aA;have H:=n y aA;exact⟨by simp only;omega,d⟩
   ·exact D r c
 |case6 x a y b f g d=>intro m o p l n h;rw[iw,aj f,aj g,aj d]at h;cases h
def Lu{t:List Row}{k:Q2}(h:∀r∈t,k<K r):val t k=0:=TJ λr a e=>by have:=h r a;rw[e]at this;exact qF _ this
def axm:∀(a b:List Row),jO a->jO b->iw a b=none->∃k,18446744073709551616<=val a k+val b k:=by
 intro a b;induction a,b using iw.induct with
 |case1 b=>intro i j h;rw[iw]at h;cases h
 |case2 x a=>intro i j h;rw[iw]at h;cases h
 |case3 x a y b c n=>
  intro i j h;rw[iw,au c]at h;have f:=jm.1 i;have g:=jm.1 j;obtain⟨k,m⟩:=n f.2 j (aeY.1 h);refine⟨k,?_⟩;by_cases e:K x=k
  ·exfalso;subst e;rw[Lu f.1,Lu (t:=y::b) λr l=>?_]at m
   ·omega
   ·rcases bJ.1 l with rfl|l
    ·exact c
    ·exact AL c (g.1 r l)
  ·show _<=(if K x=k then x.2 else val a k)+_
   rw[aj e];exact m
 |case4 x a y b c d n=>
  intro i j h;rw[iw,aj c,au d]at h;have f:=jm.1 i;have g:=jm.1 j;obtain⟨k,m⟩:=n i g.2 (aeY.1 h);refine⟨k,?_⟩;by_cases e:K y=k
  ·exfalso;subst e;rw[Lu g.1,Lu (t:=x::a) λr l=>?_]at m
   ·omega
   ·rcases bJ.1 l with rfl|l
    ·exact d
    ·exact AL d (f.1 r l)
  ·show _<=_+(if K y=k then y.2 else val b k)
   rw[aj e];exact m
 |case5 x a y b c d p n=>
  intro i j h;rw[iw,aj c,aj d,au p]at h;have f:=jm.1 i;have g:=jm.1 j;have o:K x=K y:=Uc (Cb.1 d) (Cb.1 c);obtain⟨k,m⟩:=n f.2 g.2 (aeY.1 h);refine⟨k,?_⟩;by_cases e:K x=k
  ·exfalso;subst e;rw[Lu f.1,Lu (t:=b) λr l=>by rw[o];exact g.1 r l]at m;omega
  ·show _<=(if K x=k then x.2 else val a k)+(if K y=k then y.2 else val b k)
   rw[aj e,<-o,aj e];exact m
 |case6 x a y b c d p=>
  intro i j h;have o:K x=K y:=Uc (Cb.1 d) (Cb.1 c);refine⟨K x,?_⟩;show _<=(if K x=K x then x.2 else val a _)+(if K y=K x then y.2 else val b _)
  rw[au rfl,au o.symm];omega
def alf:∀{a b:List Row},jO a->jO b->(∀r∈a,∃s∈b,K s=K r)->a.length<=b.length
 |[],_,_,_,_=>sG _
 |_::_,[],_,_,h=>by obtain⟨s,c,_⟩:=h _ (PD ..);simp at c
 |x::a,y::b,l,m,h=>by
  have d:=jm.1 l;have f:=jm.1 m;have i:K y=K x\/K y<K x:=by
   obtain⟨s,c,e⟩:=h x aA;rcases bJ.1 c with rfl|c
   ·exact .inl e
   ·right;rw[<-e];exact f.1 s c
  have:=alf d.2 f.2 λr k=>by
   obtain⟨s,c,e⟩:=h r (by simp[k]);rcases bJ.1 c with rfl|c
   ·have g:=d.1 r k;rw[<-e]at g;rcases i with j|j
    ·rw[j]at g;exact absurd g (qF _)
    ·exact absurd (AL g j) (qF _)
   ·exact⟨s,c,e⟩
  simp only[ig];omega
def RQ(x:GV)(l:List Row)(n:Int)(a:x.cells.length=2)(b:n=l.length+1):Oe 2 (some (.l (x::l.map row))) (some (.zq 1)) (some (.zq n))=some (.l (l.map row)):=by
 subst b;rw[nI,au ⟨ah,ah,aA,by rw[qZ];simp[a,aAR]⟩]
 ·congr 2;have c:((l.length:Int)+1).toNat=l.length+1:=ah;rw[c,lS aA];rfl
def rU(a:List Row):Option (List Row)->List GV
 |some m=>[.zq 1,.l ((a++m).map row)]
 |none=>[.zq 0]
def EC{d:List dU}(h:iY d=true):d.length<=40:=by unfold iY at h;simp at h;omega
def ao3{a b:Q2}(h:a<b):cmpK a b = -1:=by unfold cmpK;rw[au h]
def ao2{a b:Q2}(h1:¬a<b)(h:b<a):cmpK a b=1:=by unfold cmpK;rw[aj h1,au h]
def ao1{a b:Q2}(h1:¬a<b)(h:¬b<a):cmpK a b=0:=by unfold cmpK;rw[aj h1,aj h]
def yS(t:List Row):Prop:=∀r∈t,iY r.1=true
set_option maxHeartbeats 4000000 in
def awZ:∀(n:Nat)(a b c:List Row),a.length+b.length<=n->c.length+a.length+b.length<=1000->yS a->yS b->(∀r∈a,0<=r.2/\r.2<18446744073709551616)->(∀r∈b,0<=r.2/\r.2<18446744073709551616)->
 TT.lim 59 [.l (a.map row),.l (b.map row),.l (c.map row)]=some (rU c (iw a b)):=by
 intro n;induction n with
 |zero=>intro a b c A B o p q s;obtain rfl:a=[]:=jT ah;obtain rfl:b=[]:=jT ah;rw[iw];refine aB ?_;simp[rU]
 |succ n w=>
  intro a b c A B o p q s;cases a with
  |nil=>
   cases b with
   |nil=>rw[iw];refine aB ?_;simp[rU]
   |cons y b=>simp only[kF,ig,l9]at A B;have d:=w [] b (c++[y]) (by simp;omega) (by simp;omega) o (λr f=>p r (by simp[f])) q (λr f=>s r (by simp[f]));rw[iw]at d⊢;simp only[rU,List.append_assoc,PK,nP,iU,jU]at d⊢;have kc:=GH y.1 (EC (p y aA));have j:GV.g [.l (y.1.map ent),.zu y.2]=row y:=rfl;have g:(row y).gu 2=true:=rfl;have L:=RQ (row y) b ((b.length:Int)+1) rfl rfl;have h:2*(c.length+1)*32<=281474976710656/\c.length+1<=281474976710656:=ah;have t:(0:Int)<(b.length:Int)+1:=ah;have i:¬((b.length:Int)+1=0):=ah;refine aB ?_;simp[-nI,kc,j,g,L,h,t,i,d]
  |cons x a=>
   cases b with
   |nil=>
    simp only[kF,ig,oW]at A B;have d:=w a [] (c++[x]) (by simp;omega) (by simp;omega) (λr f=>o r (by simp[f])) p (λr f=>q r (by simp[f])) s;have Q:iw a []=some a:=by cases a<;>rw[iw]
    rw[Q]at d;rw[iw];simp only[rU,List.append_assoc,PK,nP,iU,jU]at d⊢;have kc:=GH x.1 (EC (o x aA));have j:GV.g [.l (x.1.map ent),.zu x.2]=row x:=rfl;have g:(row x).gu 2=true:=rfl;have L:=RQ (row x) a ((a.length:Int)+1) rfl rfl;have h:2*(c.length+1)*32<=281474976710656/\c.length+1<=281474976710656:=ah;have t:(0:Int)<(a.length:Int)+1:=ah;have i:¬((a.length:Int)+1=0):=ah;refine aB ?_;simp[-nI,kc,j,g,L,h,t,i,d]
   |cons y b=>
    simp only[ig]at A B;have N:=o x aA;have O:=p y aA;have D:=GH x.1 (EC N);have E:=GH y.1 (EC O);have k:GV.g [.l (x.1.map ent),.zu x.2]=row x:=rfl;have F:GV.g [.l (y.1.map ent),.zu y.2]=row y:=rfl;have M:GV.g [.l (x.1.map ent),.zu (x.2+y.2)]=row (x.1,x.2+y.2):=rfl;have g:∀r:Row,(row r).gu 2=true:=λr=>rfl;have l:=RQ (row x) a ((a.length:Int)+1) rfl rfl;have G:=RQ (row y) b ((b.length:Int)+1) rfl rfl;have h:2*(c.length+1)*32<=281474976710656/\c.length+1<=281474976710656:=ah;have t:(0:Int)<(a.length:Int)+1:=ah;have i:¬((a.length:Int)+1=0):=ah;have H:(0:Int)<(b.length:Int)+1:=ah;have m:¬((b.length:Int)+1=0):=ah;have u:=agf x.1 y.1 N O;have I:=anB x.2 y.2 (q x aA).1 (s y aA).1;have R:=q x aA;have S:=s y aA;by_cases v:K x<K y
    ·have d:=w a (y::b) (c++[x]) (by simp;omega) (by simp;omega) (λr f=>o r (by simp[f])) p (λr f=>q r (by simp[f])) s;rw[iw,au v];rw[ao3 v]at u;have e:rU (c++[x]) (iw a (y::b))=rU c ((iw a (y::b)).map (x::·)):=by cases iw a (y::b)<;>simp[rU]
     rw[e]at d;generalize rU c ((iw a (y::b)).map (x::·))=z at d⊢;simp only[nP,iU,jU]at d;refine aB ?_;simp[-nI,D,E,k,F,g,l,G,h,t,i,H,m,u,d]
    by_cases J:K y<K x
    ·have d:=w (x::a) b (c++[y]) (by simp;omega) (by simp;omega) o (λr f=>p r (by simp[f])) q (λr f=>s r (by simp[f]));rw[iw,aj v,au J];rw[ao2 v J]at u;have e:rU (c++[y]) (iw (x::a) b)=rU c ((iw (x::a) b).map (y::·)):=by cases iw (x::a) b<;>simp[rU]
     rw[e]at d;generalize rU c ((iw (x::a) b).map (y::·))=z at d⊢;simp only[nP,iU,jU]at d;refine aB ?_;simp[-nI,D,E,k,F,g,l,G,h,t,i,H,m,u,d]
    rw[iw,aj v,aj J];rw[ao1 v J]at u;by_cases P:x.2+y.2<18446744073709551616
    ·have d:=w a b (c++[(x.1,x.2+y.2)]) ah (by simp;omega) (λr f=>o r (by simp[f])) (λr f=>p r (by simp[f])) (λr f=>q r (by simp[f])) (λr f=>s r (by simp[f]));rw[au P];have e:rU (c++[(x.1,x.2+y.2)]) (iw a b)=rU c ((iw a b).map ((x.1,x.2+y.2)::·)):=by cases iw a b<;>simp[rU]
     rw[e]at d;generalize rU c ((iw a b).map ((x.1,x.2+y.2)::·))=z at d⊢;simp only[nP,iU,jU]at d;rw[(ah:(x.2+y.2)%18446744073709551616=x.2+y.2),(ah:(x.2+y.2)/18446744073709551616=0)]at I;refine aB ?_;simp[-nI,D,E,k,F,M,g,l,G,h,t,i,H,m,u,I,d]
    ·rw[aj P];rw[(ah:(x.2+y.2)/18446744073709551616=1)]at I;refine aB ?_;simp[-nI,D,E,k,F,g,l,G,h,t,i,H,m,u,I,rU]
def Ok(t:List Row):Prop:=t.length<=256/\jO t/\∀r∈t,yL r=0
def af9:∀{t:List Row}(p:Option Q2),vY p t=0->jO t/\(∀r∈t,yL r=0)/\∀k,p=some k->∀r∈t,k<K r
 |[],p,_=>⟨List.Pairwise.nil,aA,aA⟩
 |r::t,p,h=>by
  unfold vY at h;by_cases h1:yL r=0;rotate_left
  ·rw[au h1]at h;exact absurd h h1
  rw[aj (by simp[h1])]at h;have a:∀(h:vY (some (K r)) t=0),jO (r::t)/\∀x∈r::t,yL x=0:=by
   intro h;obtain⟨d,f,g⟩:=af9 (some (K r)) h;refine⟨List.Pairwise.cons (g _ rfl) d,λx b=>?_⟩;rcases bJ.1 b with rfl|b
   ·exact h1
   ·exact f x b
  cases p with
  |none=>exact⟨(a h).1,(a h).2,aA⟩
  |some k=>
   simp only at h;split at h
   ·cases h
   next i=>
   split at h
   ·cases h
   next j=>
   refine⟨(a h).1,(a h).2,?_⟩;rintro _ ⟨⟩ x b
   have c:k<K r:=by
    rcases List.le_iff_lt_or_eq.1 (Cb.1 λe=>j ((MX _ _).2 e))with e|e
    ·exact e
    ·exact absurd e.symm i
   rcases bJ.1 b with rfl|b
   ·exact c
   ·exact AL c ((jm.1 (a h).1).1 x b)
def xu(t:List Row):oK t=0↔Ok t:=by
 unfold oK Ok;constructor
 ·intro h;split at h
  ·cases h
  ·obtain⟨b,a,_⟩:=af9 none h;exact⟨ah,b,a⟩
 ·rintro⟨b,a,c⟩
  rw[dL];exact aga none a c aA
def OM(r:Row):yL r=0↔yA r.1=0/\r.2≠0:=by
 unfold yL;by_cases h:yA r.1=0
 ·simp[h]
 ·simp[h]
structure Tb(t:List Row):Prop where
 ok:Ok t
 rows:Rows t
 few:yS t
def Tb.pos{t:List Row}(h:Tb t):Pos t:=λr a=>by have b:=((OM r).1 (h.ok.2.2 r a)).2;have c:=(h.rows.2 r a).2;omega
def Tb.rise{t:List Row}(h:Tb t):jO t:=h.ok.2.1
def DW:Tb []:=⟨⟨aA,List.Pairwise.nil,aA⟩,⟨aA,aA⟩,λr a=>by simp at a⟩
def aml{a b m:List Row}(f:Tb a)(g:Tb b)(i:m.length<=256)(c:jO m)(j:Keys a b m)(h:Pos m):Tb m:=by
 have src:∀r∈m,yA r.1=0/\tX r.1/\iY r.1=true:=by
  intro r c;obtain⟨s,d,e⟩:=j r c;rw[<-e];rcases d with d|d
  ·exact⟨((OM s).1 (f.ok.2.2 s d)).1,(f.rows.2 s d).1,f.few s d⟩
  ·exact⟨((OM s).1 (g.ok.2.2 s d)).1,(g.rows.2 s d).1,g.few s d⟩
 refine⟨⟨i,c,λr c=>(OM r).2 ⟨(src r c).1,by have:=h r c;omega⟩⟩,⟨ah,λr c=>⟨(src r c).2.1,?_⟩⟩,λr c=>(src r c).2.2⟩;have:=h r c;omega
def tog(a b:List Row):List Row×Int:=match iw a b with
 |none=>([],3)
 |some m=>if 256<m.length then([],13)else(m,0)
structure bZ(t:List Row):Prop where
 len:t.length<=300
 few:yS t
 rows:Rows t
def Tb.good{t:List Row}(h:Tb t):bZ t:=⟨Nat.le_trans h.ok.1 aU,h.few,h.rows⟩
def aEM(a b:List Row)(d:bZ a)(e:bZ b):TT.lim 58 [.l (a.map row),.l (b.map row)]=some [.l ((tog a b).1.map row),.zq (tog a b).2]:=by
 have k:=awZ (a.length+b.length) a b [] (dK _) (by have:=d.len;have:=e.len;simp;omega) d.few e.few (λr f=>(d.rows.2 r f).2) (λr f=>(e.rows.2 r f).2);have n:=d.len;have o:=e.len;have g:=bI ((a.length:Int)+(b.length:Int));have c:(GV.g [.l [],.zu 0]).gu 2=true:=rfl;have i:(0:Int)<=(a.length:Int)+(b.length:Int)/\32*((a.length:Int)+(b.length:Int))<=281474976710656/\(a.length:Int)+(b.length:Int)<=1152921504606846976:=ah;unfold tog;cases l:iw a b with
 |none=>rw[l]at k;simp only[rU,jU]at k;refine aV ?_;simp[g,c,i,k]
 |some m=>
  rw[l]at k;simp only[rU,jU,aW]at k;by_cases h:256<m.length
  ·have j:(256:Int)<(m.length:Int):=ah;refine aV ?_;simp[g,c,i,k,h,j]
  ·have j:¬(256:Int)<(m.length:Int):=ah;simp only[aj h];refine aV ?_;simp[g,c,i,k,j]
def aEJ{a b:List Row}(c:Tb a)(d:Tb b)(h:(tog a b).2=0):Tb (tog a b).1/\∀k,val (tog a b).1 k=val a k+val b k:=by
 unfold tog at h⊢;cases e:iw a b with
 |none=>rw[e]at h;cases h
 |some m=>
  rw[e]at h;simp only at h⊢;split at h
  ·cases h
  next f=>
  rw[aj f];obtain⟨g,i,j,l⟩:=Xo a b c.rise d.rise c.pos d.pos e;exact⟨aml c d (Nat.not_lt.1 f) g j l,i⟩
def aEL{a b c d:List Row}(g:Tb a)(i:Tb b)(e:Tb c)(f:Tb d)(h:∀k,val a k+val b k=val c k+val d k):tog a b=tog c d:=by
 have l:∀{a b c d:List Row},Tb a->Tb b->Tb c->Tb d->(∀k,val a k+val b k=val c k+val d k)->iw a b=none->∀m,iw c d=some m->False:=by intro a b c d g i e f h n m j;obtain⟨k,u⟩:=axm a b g.rise i.rise n;obtain⟨_,o,_,p⟩:=Xo c d e.rise f.rise e.pos f.pos j;have:=aFk p k;rw[o,<-h]at this;omega
 unfold tog;cases n:iw a b with
 |none=>
  cases j:iw c d with
  |none=>rfl
  |some m=>exact(l g i e f h n m j).elim
 |some m=>
  cases j:iw c d with
  |none=>exact(l e f g i (λk=>(h k).symm) j m n).elim
  |some v=>obtain⟨q,r,_,s⟩:=Xo a b g.rise i.rise g.pos i.pos n;obtain⟨t,o,_,p⟩:=Xo c d e.rise f.rise e.pos f.pos j;rw[aFj q t s p λk=>by rw[r,o,h]]
abbrev Dl:=Int×Int×List Row
def dl(d:Dl):GV:=.g [.zu d.1,.zu d.2.1,.l (d.2.2.map row)]
@[simp] theorem aGL(d:Dl):(dl d).cells=[.zu d.1,.zu d.2.1,.l (d.2.2.map row)]:=rfl
@[simp] theorem aGM(d:Dl):(dl d).scalar=false:=rfl
def zD:Dl:=(0,0,[])
def zh(d:Dl):Int:=if d.2.1<=d.1 then 20 else oK d.2.2
def aoD(d:Dl)(h:bZ d.2.2):TT.lim 57 [dl d]=some [.zq (zh d)]:=by
 have k:=Vh d.2.2 h.rows h.few;unfold zh;refine aV ?_;by_cases a:d.2.1<=d.1
 ·simp[a]
 ·simp[a,k]
def aoI{d:Dl}(h:zh d=0):d.1<d.2.1/\Ok d.2.2:=by
 unfold zh at h;split at h
 ·cases h
 ·exact⟨ah,(xu _).1 h⟩
def aoH{d:Dl}(h1:d.1<d.2.1)(a:Ok d.2.2):zh d=0:=by unfold zh;rw[dL];exact(xu _).2 a
def bZ.tb{t:List Row}(h:bZ t)(a:Ok t):Tb t:=⟨a,h.rows,h.few⟩
def ahV{l:List Row}(a:Rows l)(h:G6 l=true):bZ l:=by refine⟨?_,λr b=>atM h r b,a⟩;unfold G6 at h;rw[aO,decide_eq_true_iff]at h;exact h.2
def X9(a b:List Row)(d:bZ a)(e:bZ b):TT.lim 212 [.l (a.map row),.l (b.map row)]=some [.b (decide (a=b))]:=
 aC7 a b (by have:=d.len;omega) (by have:=e.len;omega) (λr c=>(d.rows.2 r c).1.1) (λr c=>(e.rows.2 r c).1.1)
def jY:List Row->List Row->List Row
 |[],_=>[]
 |r::rs,[]=>if r.2=0 then jY rs []else r::jY rs []
 |r::rs,l::a=>if K l=K r then(if IntKind.u64.wrap (r.2-l.2)=0 then jY rs a else(r.1,IntKind.u64.wrap (r.2-l.2))::jY rs a)else if r.2=0 then jY rs (l::a)else r::jY rs (l::a)
def ao5(a:Q2):cmpK a a=0:=by unfold cmpK;simp[qF]
def ao4{a b:Q2}(h:a≠b):cmpK a b≠0:=by
 unfold cmpK;split
 ·omega
 next c=>
 split
 ·omega
 next d=>exact absurd (Uc (Cb.1 d) (Cb.1 c)) h
set_option maxHeartbeats 4000000 in
def abI(t:List Row)(e f:Int)(I:t.length<=300)(G:yS t):∀(m i:Nat)(b a:List Row),i+m=t.length->a.length<=i->yS b->
 TT.lim 69 [.l (b.map row),.l (t.map row),.zq t.length,.zq i,.zu e,.zu f,.l (a.map row)]=some [.zq 0,.l ((a++jY (t.drop i) b).map row)]
 |0,i,b,a,hi,M,o=>by have h0:t.drop i=[]:=iE;refine aB ?_;have h:¬((i:Int)<t.length):=ah;simp[h,h0,jY]
 |m+1,i,b,a,hi,M,o=>by
  have c:i<t.length:=ah;have J:=G t[i] (gY c);have kc:=GH t[i].1 (EC J);have k:GV.g [.l (t[i].1.map ent),.zu t[i].2]=row t[i]:=rfl;have p:∀r:Row,(row r).gu 2=true:=λr=>rfl;have q:2*(a.length+1)*32<=281474976710656/\a.length+1<=281474976710656:=ah;have h:((i:Int)<t.length):=ah;have A:=bI ((i:Int)+1);have s:∀j,yS j->TT.lim 69 [.l (j.map row),.l (t.map row),.zq t.length,.zq ((i:Int)+1),.zu e,.zu f,.l (a.map row)]=_:=λj u=>abI t e f I G m (i+1) j a ah ah u;have w:∀j r,yS j->TT.lim 69 [.l (j.map row),.l (t.map row),.zq t.length,.zq ((i:Int)+1),.zu e,.zu f,.l ((a++[r]).map row)]=_:=λj r u=>abI t e f I G m (i+1) j (a++[r]) ah (by simp;omega) u;have H:t.drop i=t[i]::t.drop (i+1):=iG c;rw[H];cases b with
  |nil=>
   by_cases d:t[i].2=0
   ·have g:=s [] o;simp only[jU]at g;simp only[jY];rw[au d];have x:(t[i].2=0)=True:=eq_true d;clear d;refine aB ?_;simp[-List.getElem_cons_drop,h,c,x,A,g]
   ·have g:=w [] t[i] o;simp only[jU,nP,iU]at g;simp only[jY];rw[aj d];refine aB ?_;simp[-List.getElem_cons_drop,h,c,d,A,kc,k,p,q,g]
  |cons l n=>
   have N:=o l aA;have D:yS n:=λr O=>o r (by simp[O]);have L:=RQ (row l) n ((n.length:Int)+1) rfl rfl;have E:(0:Int)<(n.length:Int)+1:=ah;have B:=agf l.1 t[i].1 N J;by_cases F:K l=K t[i]
   ·rw[show dN l.1=dN t[i].1 from F,ao5]at B;simp only[jY];rw[au F];by_cases d:IntKind.u64.wrap (t[i].2-l.2)=0
    ·have g:=s n D;rw[au d];refine aB ?_;simp[-List.getElem_cons_drop,-nI,h,c,E,B,L,d,A,g]
    ·have g:=w n (t[i].1,IntKind.u64.wrap (t[i].2-l.2)) D;rw[aj d];simp only[jU,nP,iU]at g;have y:GV.g [.l (t[i].1.map ent),.zu (IntKind.u64.wrap (t[i].2-l.2))]=row (t[i].1,IntKind.u64.wrap (t[i].2-l.2)):=rfl;refine aB ?_;simp[-List.getElem_cons_drop,-nI,h,c,E,B,L,d,A,kc,y,p,q,g]
   ·have z:=ao4 F;generalize cmpK (dN l.1) (dN t[i].1)=v at B z;simp only[jY];rw[aj F];by_cases d:t[i].2=0
    ·have g:=s (l::n) o;simp only[iU]at g;rw[au d];have x:(t[i].2=0)=True:=eq_true d;clear d;refine aB ?_;simp[-List.getElem_cons_drop,-nI,h,c,E,B,z,x,A,g]
    ·have g:=w (l::n) t[i] o;simp only[jU,nP,iU]at g;rw[aj d];refine aB ?_;simp[-List.getElem_cons_drop,-nI,h,c,E,B,z,d,A,kc,k,p,q,g]
def Vx:∀(t b:List Row),jO t->jO b->Pos t->Pos b->(∀l∈b,∃r∈t,K r=K l/\l.2<=r.2)->
 jO (jY t b)/\(∀k,val (jY t b) k=val t k-val b k)/\(∀r∈jY t b,∃s∈t,s.1=r.1)/\Pos (jY t b)
 |[],[],_,_,_,_,_=>⟨List.Pairwise.nil,λk=>rfl,by simp[jY],by simp[jY,Pos]⟩
 |[],l::b,_,_,_,_,h=>by obtain⟨r,o,_⟩:=h l aA;simp at o
 |r::t,[],y,z,j,p,h=>by
  have d:=jm.1 y;obtain⟨m,q,f,n⟩:=Vx t [] d.2 z (λx a=>j x (by simp[a])) p aA;have o:=j r aA;simp only[jY];rw[dL];refine⟨List.Pairwise.cons (λx a=>?_) m,λk=>?_,λx a=>?_,λx a=>?_⟩
  ·obtain⟨s,c,e⟩:=f x a;show K r<dN x.1
   rw[<-e];exact d.1 s c
  ·show(if K r=k then r.2 else val (jY t []) k)=(if K r=k then r.2 else val t k)-val [] k
   split
   ·simp[val]
   ·exact q k
  ·rcases bJ.1 a with rfl|a
   ·exact⟨x,aA,rfl⟩
   ·obtain⟨s,c,e⟩:=f x a;exact⟨s,by simp[c],e⟩
  ·rcases bJ.1 a with rfl|a
   ·exact o
   ·exact n x a
 |r::t,l::b,y,z,j,p,h=>by
  have d:=jm.1 y;have g:=jm.1 z;have o:=j r aA;have I:=p l aA;simp only[jY];by_cases i:K l=K r
  ·rw[au i];have E:l.2<=r.2:=by obtain⟨s,c,e,u⟩:=h l aA;have:s=r:=aAN y c aA (e.trans i);rw[<-this];exact u
   have F:=jL (r.2-l.2);rw[F];obtain⟨m,q,f,n⟩:=Vx t b d.2 g.2 (λx a=>j x (by simp[a])) (λx a=>p x (by simp[a])) (λx a=>by
    obtain⟨s,c,e,u⟩:=h x (by simp[a]);rcases bJ.1 c with rfl|c
    ·have:=g.1 x a;rw[i,<-e]at this;exact absurd this (qF _)
    ·exact⟨s,c,e,u⟩)
   have v:∀x∈jY t b,∃s∈r::t,s.1=x.1:=λx a=>by obtain⟨s,c,e⟩:=f x a;exact⟨s,by simp[c],e⟩
   have D:∀k,(if K r=k then r.2-l.2 else val (jY t b) k)=val (r::t) k-val (l::b) k:=λk=>by
    show _=(if K r=k then r.2 else val t k)-(if K l=k then l.2 else val b k)
    rw[i];split
    ·rfl
    ·exact q k
   by_cases A:r.2-l.2=0
   ·rw[au A];refine⟨m,λk=>?_,v,n⟩;rw[<-D k];split
    ·next e=>
     rw[A];subst e;refine Lu λx a=>?_;obtain⟨s,c,e⟩:=f x a;show K r<dN x.1
     rw[<-e];exact d.1 s c
    ·rfl
   ·rw[aj A];refine⟨List.Pairwise.cons (λx a=>?_) m,D,λx a=>?_,λx a=>?_⟩
    ·obtain⟨s,c,e⟩:=f x a;show dN r.1<dN x.1
     rw[<-e];exact d.1 s c
    ·rcases bJ.1 a with rfl|a
     ·exact⟨r,aA,rfl⟩
     ·exact v x a
    ·rcases bJ.1 a with rfl|a
     ·exact⟨by simp only;omega,by simp only;omega⟩
     ·exact n x a
  ·rw[aj i,dL];have w:∀x∈l::b,∃s∈t,K s=K x/\x.2<=s.2:=by
    have B:K r<K l:=by
     obtain⟨s,c,e,_⟩:=h l aA;rcases bJ.1 c with rfl|c
     ·exact absurd e.symm i
     ·rw[<-e];exact d.1 s c
    intro x a;obtain⟨s,c,e,u⟩:=h x a;rcases bJ.1 c with rfl|c
    ·exfalso;rcases bJ.1 a with rfl|a
     ·exact i e.symm
     ·have:=AL B (g.1 x a);rw[e]at this;exact qF _ this
    ·exact⟨s,c,e,u⟩
   obtain⟨m,q,f,n⟩:=Vx t (l::b) d.2 z (λx a=>j x (by simp[a])) p w;refine⟨List.Pairwise.cons (λx a=>?_) m,λk=>?_,λx a=>?_,λx a=>?_⟩
   ·obtain⟨s,c,e⟩:=f x a;show K r<dN x.1
    rw[<-e];exact d.1 s c
   ·show(if K r=k then r.2 else val (jY t (l::b)) k)=(if K r=k then r.2 else val t k)-val (l::b) k
    split
    ·next e=>
     rw[TJ (t:=l::b) λx a G=>by obtain⟨s,c,H,_⟩:=w x a;have:=d.1 s c;rw[H,G,e]at this;exact qF _ this]
     omega
    ·exact q k
   ·rcases bJ.1 a with rfl|a
    ·exact⟨x,aA,rfl⟩
    ·obtain⟨s,c,e⟩:=f x a;exact⟨s,by simp[c],e⟩
   ·rcases bJ.1 a with rfl|a
    ·exact o
    ·exact n x a
abbrev Sn:=Int×List Row
def sn(s:Sn):GV:=.g [.zu s.1,.l (s.2.map row)]
@[simp] theorem aIm(s:Sn):(sn s).cells=[.zu s.1,.l (s.2.map row)]:=rfl
@[simp] theorem aIn(s:Sn):(sn s).scalar=false:=rfl
def zS:Sn:=(0,[])
def Vj(s:Sn)(h:bZ s.2):TT.lim 35 [sn s]=some [.zq (oK s.2)]:=by have k:=Vh s.2 h.rows h.few;refine aV ?_;simp[k]
def qI(s n:Sn):Dl×Int:=
 if oK s.2≠0 then(zD,oK s.2)else if oK n.2≠0 then(zD,oK n.2)else if n.1<=s.1 then(zD,20)
 else if kT n.2 s.2=false then(zD,21)else((s.1,n.1,jY n.2 s.2),0)
def ny(s:Sn)(d:Dl):Sn×Int:=
 if oK s.2≠0 then(zS,oK s.2)else if zh d≠0 then(zS,zh d)else if s.1≠d.1 then(zS,19)
 else if(tog s.2 d.2.2).2≠0 then(zS,(tog s.2 d.2.2).2)else((d.2.1,(tog s.2 d.2.2).1),0)
def asH(s n:Sn)(j:bZ s.2)(e:bZ n.2):TT.lim 68 [sn s,sn n]=some [dl (qI s n).1,.zq (qI s n).2]:=by
 have b:=Vj s j;have f:=Vj n e;have c:GV.g [.zu s.1,.l (s.2.map row)]=sn s:=rfl;have g:GV.g [.zu n.1,.l (n.2.map row)]=sn n:=rfl;have h:GV.g [.zu 0,.zu 0,.l []]=dl zD:=rfl;have o:GV.g [.zu s.1,.zu n.1,.l ((jY n.2 s.2).map row)]=dl (s.1,n.1,jY n.2 s.2):=rfl;have l:TT.lim 69 [.l (s.2.map row),.l (n.2.map row),.zq n.2.length,.zq 0,.zu s.1,.zu n.1,.l []]=_:=abI n.2 s.1 n.1 e.len e.few n.2.length 0 s.2 [] ah aA j.few;rw[dY,aW]at l;unfold qI;by_cases a:oK s.2=0;rotate_left
 ·refine aV ?_;simp[c,b,a,h]
 by_cases d:oK n.2=0;rotate_left
 ·refine aV ?_;simp[c,b,a,g,f,d,h]
 by_cases k:n.1<=s.1
 ·refine aV ?_;simp[c,b,a,g,f,d,h,k]
 have i:=ZI n.2 s.2 ((xu _).1 d).1 ((xu _).1 a).1 e.few j.few;cases m:kT n.2 s.2 with
 |false=>rw[m]at i;refine aV ?_;simp[c,b,a,g,f,d,h,k,i]
 |true=>rw[m]at i;refine aV ?_;simp[c,b,a,g,f,d,o,k,i,l]
def afo(s:Sn)(d:Dl)(k:bZ s.2)(l:bZ d.2.2):TT.lim 56 [sn s,dl d]=some [sn (ny s d).1,.zq (ny s d).2]:=by
 have a:=Vj s k;have f:=aoD d l;have m:=aEM _ _ k l;have b:GV.g [.zu s.1,.l (s.2.map row)]=sn s:=rfl;have g:GV.g [.zu d.1,.zu d.2.1,.l (d.2.2.map row)]=dl d:=rfl;have h:GV.g [.zu 0,.l []]=sn zS:=rfl;have o:GV.g [.zu d.2.1,.l ((tog s.2 d.2.2).1.map row)]=sn (d.2.1,(tog s.2 d.2.2).1):=rfl;unfold ny;by_cases c:oK s.2=0;rotate_left
 ·refine aV ?_;simp[b,a,c,h]
 by_cases i:zh d=0;rotate_left
 ·refine aV ?_;simp[b,a,c,g,f,i,h]
 by_cases j:s.1=d.1;rotate_left
 ·refine aV ?_;simp[b,a,c,g,f,i,h,j]
 have e:(s.1=d.1)=True:=eq_true j;clear j;by_cases n:(tog s.2 d.2.2).2=0;rotate_left
 ·refine aV ?_;simp[b,a,c,g,f,i,h,e,m,n]
 ·refine aV ?_;simp[b,a,c,g,f,i,o,e,m,n]
def aat{s n:Sn}(h:(qI s n).2=0):Ok s.2/\Ok n.2/\s.1<n.1/\kT n.2 s.2=true/\(qI s n).1=(s.1,n.1,jY n.2 s.2):=by
 unfold qI at h⊢;split at h
 ·next a=>exact absurd h a
 next a=>
 split at h
 ·next b=>exact absurd h b
 next b=>
 split at h
 ·cases h
 next d=>
 split at h
 ·cases h
 next c=>
 rw[aj a,aj b,aj d,aj c];exact⟨(xu _).1 (by simpa using a),(xu _).1 (by simpa using b),ah,by simpa using c,rfl⟩
def asI{s n:Sn}(h1:Ok s.2)(a:Ok n.2)(c:s.1<n.1)(b:kT n.2 s.2=true):qI s n=((s.1,n.1,jY n.2 s.2),0):=by unfold qI;rw[aj (by simp[(xu _).2 h1]),aj (by simp[(xu _).2 a]),dL,aj (by simp[b])]
def UY{s:Sn}{d:Dl}(h:(ny s d).2=0):Ok s.2/\zh d=0/\s.1=d.1/\(tog s.2 d.2.2).2=0/\(ny s d).1=(d.2.1,(tog s.2 d.2.2).1):=by
 unfold ny at h⊢;split at h
 ·next a=>exact absurd h a
 next a=>
 split at h
 ·next b=>exact absurd h b
 next b=>
 split at h
 ·cases h
 next e=>
 split at h
 ·next c=>exact absurd h c
 next c=>
 rw[aj a,aj b,aj e,aj c];exact⟨(xu _).1 (by simpa using a),by simpa using b,by simpa using e,by simpa using c,rfl⟩
def anP{s:Sn}{d:Dl}(h1:Ok s.2)(a:zh d=0)(b:s.1=d.1):ny s d=if(tog s.2 d.2.2).2≠0 then(zS,(tog s.2 d.2.2).2)else((d.2.1,(tog s.2 d.2.2).1),0):=by unfold ny;rw[aj (by simp[(xu _).2 h1]),aj (by simp[a]),aj (by simp[b])]
def agH{s n:List Row}(b:Tb s)(a:Tb n)(h:kT n s=true):Tb (jY n s)/\∀k,val (jY n s) k=val n k-val s k:=by
 have i:=(MQ _ _ a.rise b.rise).1 h;obtain⟨f,j,g,l⟩:=Vx n s a.rise b.rise a.pos b.pos i;have m:(jY n s).length<=n.length:=alf f a.rise λr c=>by obtain⟨x,d,e⟩:=g r c;exact⟨x,d,by show dN x.1=dN r.1;rw[e]⟩
 exact⟨aml a a (kR m a.ok.1) f (λr c=>by obtain⟨x,d,e⟩:=g r c;exact⟨x,.inl d,e⟩) l,j⟩
def aEK{t:List Row}(a:Tb t):tog t []=(t,0):=by
 have h:iw t []=some t:=by cases t<;>rw[iw]
 unfold tog;rw[h];simp only;rw[aj (by have:=a.ok.1;omega)]
def afw{s n:Sn}(g:bZ s.2)(i:bZ n.2)(h:(qI s n).2=0):zh (qI s n).1=0/\ny s (qI s n).1=(n,0)/\bZ (qI s n).1.2.2:=by
 obtain⟨c,j,l,m,o⟩:=aat h;have d:=g.tb c;have a:=i.tb j;obtain⟨b,p⟩:=agH d a m;rw[o];have e:zh (s.1,n.1,jY n.2 s.2)=0:=aoH l b.ok;have f:tog s.2 (jY n.2 s.2)=tog n.2 []:=aEL d b a DW λk=>by rw[p];simp[val];omega
 rw[aEK a]at f;refine⟨e,?_,b.good⟩;rw[anP c e rfl];simp only[f];rfl
def afp{s:Sn}{d:Dl}(a:bZ s.2)(b:bZ d.2.2)(h:(ny s d).2=0):Tb (ny s d).1.2/\∀k,val (ny s d).1.2 k=val s.2 k+val d.2.2 k:=by obtain⟨c,e,i,f,g⟩:=UY h;rw[g];exact aEJ (a.tb c) (b.tb (aoI e).2) f
def zV(p x:Q2):Int:=if x=p then 14 else if Op.bytesLess x p=true then 7 else 0
def Ry{d:List dU}(a:iY d=true):(dN d).length<=30000:=by unfold iY at a;rw[aO,decide_eq_true_iff]at a;have b:=oU (n:=d.length) ah;have:=aaK d a.1;unfold dN;simp only[dM];omega
def common:Q2->List UInt8->Nat
 |a::x,b::y=>if a=b then common x y+1 else 0
 |_,_=>0
def aam(b:Q2):common [] b=0:=by unfold common;rfl
def apg(a:Q2):common a []=0:=by cases a<;>rfl
def Vs:∀a b:Q2,common a b<=a.length/\common a b<=b.length
 |[],b=>by simp[common]
 |_::_,[]=>by simp[common]
 |a::x,b::y=>by
  unfold common;have:=Vs x y;split
  ·simp only[ig];omega
  ·omega
def agq:∀a b:Q2,a.take (common a b)=b.take (common a b)
 |[],b=>by simp[common]
 |_::_,[]=>by simp[common]
 |a::x,b::y=>by
  unfold common;split
  ·next e=>subst e;rw[AQ,AQ,agq x y]
  ·simp
def agl(a b:Q2)(j:a.length<=140737488351232)(k:b.length<=140737488351232):∀m i:Nat,i+m=a.length->TT.lim 123 [.s a,.s b,.zq i]=some [.zq 0,.zq ((i+common (a.drop i) (b.drop i):Nat):Int)]
 |0,i,hi=>by have h0:a.drop i=[]:=iE;have h:¬((i:Int)<a.length):=ah;refine aB ?_;simp[h,h0,aam]
 |m+1,i,hi=>by
  have c:i<a.length:=ah;have h:((i:Int)<a.length):=ah;by_cases d:i<b.length;rotate_left
  ·have h0:b.drop i=[]:=iE;have l:¬((i:Int)<b.length):=ah;refine aB ?_;simp[h,h0,l,apg]
  have f:((i:Int)<b.length):=ah;have n:TT.lim 123 [.s a,.s b,.zq ((i:Int)+1)]=_:=agl a b j k m (i+1) ah;have o:=bI ((i:Int)+1);rw[iG c,iG d];unfold common;by_cases e:a[i]=b[i]
  ·rw[au e];have g:((a[i].toNat:Int)=(b[i].toNat:Int))=True:=eq_true (by rw[e]);have p:((i+(common (a.drop (i+1)) (b.drop (i+1))+1):Nat):Int)=((i+1+common (a.drop (i+1)) (b.drop (i+1)):Nat):Int):=ah;rw[p];refine aB ?_;simp[h,c,d,f,g,o,n]
  ·rw[aj e];have g:¬(a[i].toNat:Int)=(b[i].toNat:Int):=λh=>e (Zm.1 ah);refine aB ?_;simp[h,c,d,f,g]
def aae(a b:Q2)(c:a.length<=140737488351232)(d:b.length<=140737488351232):TT.lim 122 [.s a,.s b]=some [.zq (common a b)]:=by have k:TT.lim 123 [.s a,.s b,.zq 0]=_:=agl a b c d a.length 0 ah;rw[dY,dY,l9]at k;refine aV ?_;simp[k]
def tJ(a s:Q2):Q2:=aS (common a s)++aS (s.length-common a s)++s.drop (common a s)
def ayo(a s:Q2)(o:a.length<=100000000)(p:s.length<=100000000):TT.lim 121 [.s a,.s s]=some [.s (tJ a s)]:=by
 have k:=aae a s ah ah;have q:=Vs a s;have g:=zC (common a s) ah;have f:=zC (s.length-common a s) ah;have r:=oU (n:=common a s) ah;have t:=oU (n:=s.length-common a s) ah;have w1:=jL ((common a s:Int));have b:=jL ((s.length:Int)-(common a s:Int));have d:=bI ((s.length:Int)-(common a s:Int));have e:(s.length:Int)-(common a s:Int)=((s.length-common a s:Nat):Int):=ah;rw[e]at b d;refine aV ?_;unfold tJ;generalize common a s=c at *;have h:((aS c).length:Int)+((aS (s.length-c)).length:Int)<=9223372036854775807:=ah;have i:((aS c).length:Int)+((aS (s.length-c)).length:Int)+((s.length:Int)-(c:Int))<=9223372036854775807:=ah;have j:(c:Int)<=s.length:=ah;have l:((s.length-c:Nat):Int)=(s.length:Int)-c:=ah;have m:(s.take s.length).drop c=s.drop c:=by rw[AP]
 rw[<-e]at b d;rw[<-e]at f;simp[k,g,f,w1,b,d,h,i,j,l,m]
def nN:Q2->Nat
 |[]=>0
 |b::r=>b.toNat%128+128*nN r
def qB:Nat->List UInt8->Option Nat
 |0,_=>none
 |_+1,[]=>none
 |n+1,b::r=>if b.toNat<128 then some 1 else(qB n r).map (· +1)
def vO(k:Nat)(b:Nat):Int:=if k=10/\1<b then 3 else if 1<k/\b=0 then 2 else 0
def aF(s:Q2):Nat×Nat×Int:=match qB 10 s with
 |none=>(0,0,if 10<=s.length then 3 else 1)
 |some k=>if vO k (s.getD (k-1) 0).toNat≠0 then(0,0,vO k (s.getD (k-1) 0).toNat)else(nN (s.take k),k,0)
def YP:∀{n:Nat}{s:Q2}{k:Nat},qB n s=some k->1<=k/\k<=n/\k<=s.length/\(s.getD (k-1) 0).toNat<128
 |0,s,k,h=>by simp[qB]at h
 |n+1,[],k,h=>by simp[qB]at h
 |n+1,b::r,k,h=>by
  unfold qB at h;split at h
  ·next a=>cases h;simpa using a
  ·obtain⟨j,c,rfl⟩:=bG.1 h;obtain⟨e,f,g,d⟩:=YP c;obtain⟨i,rfl⟩:∃i,j=i+1:=⟨j-1,ah⟩
   refine⟨ah,ah,by simp;omega,?_⟩;simpa using d
def amS:∀(s:Q2),nN s<128^s.length
 |[]=>by simp[nN]
 |b::r=>by have:=amS r;simp only[nN,ig,Md];omega
def alP(b i:Nat)(g:b<128)(hi:i<=9)(c:i=9->b<=1):kM .shl .u64 (b:Int) ((7*i:Nat):Int)=some (.zu ((b*128^i:Nat):Int)):=by
 have e:min ((7*i:Nat):Int).toNat 64=7*i:=by simp;omega
 have d:(2:Int)^(7*i)=((128^i:Nat):Int):=by rw[Int.pow_mul];simp
 have f:b*128^i<18446744073709551616:=by
  rcases xY i 9 with h|h
  ·have:(128:Nat)^i<=128^8:=Ul ah ah;have j:b*128^i<=127*128^8:=Nat.mul_le_mul ah this;omega
  ·have a:i=9:=ah;subst a;have:=c rfl;omega
 unfold kM;rw[dL];show some (GV.zu (IntKind.u64.wrap ((b:Int)*2^(min ((7*i:Nat):Int).toNat 64))))=_
 rw[e,d,<-Int.natCast_mul,Iw ah ah]
def orI(a c i:Nat)(b:a<2^i)(h:a+c*2^i<18446744073709551616):dh .or .u64 (a:Int) ((c*2^i:Nat):Int)=some (.zu ((a+c*2^i:Nat):Int)):=by
 have d:((BitVec.ofInt 64 (a:Int) |||BitVec.ofInt 64 ((c*2^i:Nat):Int)).toNat:Nat)=a+c*2^i:=by rw[aej,vS,vS];generalize e:c*2^i=C at *;have f:((a:Int)%((2^64:Nat):Int)).toNat=a:=ah;have g:((C:Int)%((2^64:Nat):Int)).toNat=C:=ah;rw[f,g,<-e,Nat.or_comm,IW,L8];exact(ani b c).symm
 show some (GV.zu (IntKind.u64.wrap (((BitVec.ofInt 64 (a:Int) |||BitVec.ofInt 64 ((c*2^i:Nat):Int)).toNat:Nat):Int)))=_
 rw[d,Iw ah ah]
def Ou(i:Nat):128^i=2^(7*i):=by rw[Nat.pow_mul]
def alQ(a b:Int)(c:0<=b):∃r,kM .shl .u64 a b=some (.zu r):=by unfold kM;rw[dL];exact⟨_,rfl⟩
def or_some(a b:Int):∃r,dh .or .u64 a b=some (.zu r):=⟨_,rfl⟩
def EG(s:Q2)(a:Int)(i:Nat):Q3:=match qB (10-i) (s.drop i)with
 |none=>[.zq 1,.s s]
 |some k=>if vO (i+k) (s.getD (i+k-1) 0).toNat≠0 then[.zq 0,.zu 0,.zq 0,.zq (vO (i+k) (s.getD (i+k-1) 0).toNat)]
  else[.zq 0,.zu (a+((128^i*nN ((s.drop i).take k):Nat):Int)),.zq ((i+k:Nat):Int),.zq 0]
def getLoop(s:Q2)(T:s.length<=140737488351232):∀(m i:Nat)(a:Int),i+m=min s.length 10->(i<=9->0<=a/\a<((128^i:Nat):Int))->
 TT.lim 166 [.s s,.zu a,.zq ((min s.length 10:Nat):Int),.zq i]=some (EG s a i)
 |0,i,a,hi,G=>by
  have h:¬((i:Int)<((min s.length 10:Nat):Int)):=ah;have g:qB (10-i) (s.drop i)=none:=by
   rcases xY i 10 with h1|h1
   ·have:s.drop i=[]:=iE;rw[this];obtain⟨j,q⟩:∃j,10-i=j+1:=⟨10-i-1,ah⟩
    rw[q];rfl
   ·have:10-i=0:=ah;rw[this];unfold qB;rfl
  unfold EG;rw[g];generalize((min s.length 10:Nat):Int)=M at *;refine aB ?_;simp[h]
 |m+1,i,a,hi,G=>by
  have d:i<s.length:=ah;have U:i<=9:=ah;have h:((i:Int)<((min s.length 10:Nat):Int)):=ah;obtain⟨a1,a2⟩:=G U;obtain⟨n,rfl⟩:∃n:Nat,a=n:=⟨a.toNat,ah⟩
  have hb:=(s[i]).toNat_lt;have r:=afj (s[i]).toNat ah;have t:=jL ((((s[i]).toNat%128:Nat):Int));have H:=bI (7*(i:Int));have I:=bI ((i:Int)+1);have J:s.drop i=s[i]::s.drop (i+1):=iG d;obtain⟨j,q⟩:∃j,10-i=j+1:=⟨10-i-1,ah⟩
  have x:10-(i+1)=j:=ah;have L:(7*(i:Int))=((7*i:Nat):Int):=ah;have y:s.getD i 0=s[i]:=by simp[List.getD,d]
  by_cases hc:128<=(s[i]).toNat
  ·have f:((128:Int)<=((s[i]).toNat:Int)):=ah;have step:∃V:Int,(i+1<=9->0<=V/\V<((128^(i+1):Nat):Int)/\V=n+(((s[i]).toNat%128*128^i:Nat):Int))/\(∃S,kM .shl .u64 ((((s[i]).toNat%128:Nat)):Int) (7*(i:Int))=some (.zu S)/\dh .or .u64 (n:Int) S=some (.zu V)):=by
    rcases xY i 9 with h1|h1
    ·have u:=alP ((s[i]).toNat%128) i ah ah ah;have W:(s[i]).toNat%128*128^i<=127*128^i:=uQ _ ah;have z:128^(i+1)=128*128^i:=by rw[Md,IW]
     have N:(128:Nat)^i<=128^8:=Ul ah ah;have l:=orI n ((s[i]).toNat%128) (7*i) (by rw[<-Ou];omega) (by rw[<-Ou];omega);rw[<-Ou]at l;refine⟨_,λ_=>⟨ah,?_,rfl⟩,_,by rw[L];exact u,by rw[l];simp⟩;rw[z];omega
    ·obtain⟨S,e⟩:=alQ ((((s[i]).toNat%128:Nat)):Int) (7*(i:Int)) ah;obtain⟨V,b⟩:=or_some (n:Int) S;exact⟨V,λh=>ah,S,e,b⟩
   obtain⟨V,b,S,e,A⟩:=step;have X:TT.lim 166 [.s s,.zu V,.zq ((min s.length 10:Nat):Int),.zq ((i:Int)+1)]=_:=getLoop s T m (i+1) V ah (λh=>⟨(b h).1,(b h).2.1⟩);have c:EG s n i=EG s V (i+1):=by
    unfold EG;rw[J,q,x];have g:qB (j+1) (s[i]::s.drop (i+1))=(qB j (s.drop (i+1))).map (· +1):=by
     show(if(s[i]).toNat<128 then _ else _)=_
     rw[dL]
    rw[g];cases Y:qB j (s.drop (i+1))with
    |none=>rfl
    |some k=>
     obtain⟨v,q2,_,_⟩:=YP Y;have B:=b ah;have D:i+(k+1)=i+1+k:=ah;simp only[iH,D];split
     ·rfl
     ·have E:(n:Int)+((128^i*nN ((s[i]::s.drop (i+1)).take (k+1)):Nat):Int)=V+((128^(i+1)*nN ((s.drop (i+1)).take k):Nat):Int):=by
       rw[B.2.2,AQ];have:128^i*nN (s[i]::(s.drop (i+1)).take k)=(s[i]).toNat%128*128^i+128^(i+1)*nN ((s.drop (i+1)).take k):=by
        show 128^i*((s[i]).toNat%128+128*nN _)=_
        rw[Nat.mul_add,Md,aeV,IW (128^i) ((s[i]).toNat%128)]
       rw[this];omega
      rw[E]
   rw[c];generalize EG s V (i+1)=O,((min s.length 10:Nat):Int)=M at *;have em:(((s[i]).toNat%128:Nat):Int)=((s[i]).toNat:Int)%128:=ah;rw[em]at r t e;refine aB ?_;simp[h,d,f,r,t,H,I,e,A,X]
  ·have f:¬((128:Int)<=((s[i]).toNat:Int)):=ah;have g:qB (j+1) (s[i]::s.drop (i+1))=some 1:=by
    show(if(s[i]).toNat<128 then _ else _)=_
    rw[lM]
   have c:EG s n i=if vO (i+1) (s[i]).toNat≠0 then[.zq 0,.zu 0,.zq 0,.zq (vO (i+1) (s[i]).toNat)]else[.zq 0,.zu ((n+(s[i]).toNat*128^i:Nat):Int),.zq ((i:Int)+1),.zq 0]:=by
    unfold EG;rw[J,q,g];have D:i+1-1=i:=ah;have E:128^i*nN ((s[i]::s.drop (i+1)).take 1)=(s[i]).toNat*128^i:=by simp only[AQ,Uh,nN];rw[PN ah,IW];simp
    simp only[D,y,E];congr 1
   rw[c];have step:∃S V,kM .shl .u64 ((((s[i]).toNat%128:Nat)):Int) (7*(i:Int))=some (.zu S)/\dh .or .u64 (n:Int) S=some (.zu V)/\(vO (i+1) (s[i]).toNat=0->V=((n+(s[i]).toNat*128^i:Nat):Int)):=by
    by_cases P:i=9/\1<(s[i]).toNat
    ·obtain⟨S,e⟩:=alQ ((((s[i]).toNat%128:Nat)):Int) (7*(i:Int)) ah;obtain⟨V,b⟩:=or_some (n:Int) S;refine⟨S,V,e,b,λh=>?_⟩;unfold vO at h;rw[lM]at h;cases h
    ·have u:=alP ((s[i]).toNat%128) i ah ah ah;have em:(s[i]).toNat%128=(s[i]).toNat:=PN ah;rw[em]at u;have W:(s[i]).toNat*128^i<=127*128^i:=uQ _ ah;have Q:n+(s[i]).toNat*128^i<18446744073709551616:=by
      rcases xY i 9 with h1|h1
      ·have N:(128:Nat)^i<=128^8:=Ul ah ah;omega
      ·have F:i=9:=ah;have h1:(s[i]).toNat<=1:=ah;have N:(128:Nat)^i=128^9:=by rw[F]
       have Z:(s[i]).toNat*128^i<=1*128^i:=uQ _ h1;omega
     have l:=orI n (s[i]).toNat (7*i) (by rw[<-Ou];omega) (by rw[<-Ou];omega);rw[<-Ou]at l;exact⟨_,_,by rw[L,em];exact u,l,λ_=>rfl⟩
   obtain⟨S,V,e,A,b⟩:=step;generalize((n+(s[i]).toNat*128^i:Nat):Int)=R,((min s.length 10:Nat):Int)=M at *;have bd:vO (i+1) (s[i]).toNat=if(i:Int)=9/\(1:Int)<((s[i]).toNat:Int)then 3 else if(0:Int)<(i:Int)/\((s[i]).toNat:Int)=0 then 2 else 0:=by
    unfold vO;congr 1
    ·apply propext;omega
    ·congr 1;apply propext;omega
   rw[bd]at b⊢;have em:(((s[i]).toNat%128:Nat):Int)=((s[i]).toNat:Int)%128:=ah;rw[em]at r t e;refine aB ?_
   rcases(TV ((i:Int)=9)).imp eq_true eq_false with v|v<;>rcases(TV ((1:Int)<((s[i]).toNat:Int))).imp eq_true eq_false with q2|q2<;>
    rcases(TV ((0:Int)<(i:Int))).imp eq_true eq_false with q3|q3<;>rcases(TV (((s[i]).toNat:Int)=0)).imp eq_true eq_false with w|w
   all_goals
    have o:(0<i)=((0:Int)<(i:Int)):=propext ah;have p:((s[i]).toNat=0)=(((s[i]).toNat:Int)=0):=propext ah;rw[q3]at o;rw[w]at p;simp only[v,q2,q3,w,and_self,and_true,and_false,false_and,true_and,if_true,if_false]at b⊢;first
    |(have b:=b trivial;subst b)
    |skip
    simp[h,d,f,r,t,H,I,e,A,v,q2,q3,w,o,p]
def wC(s:Q2)(f:s.length<=140737488351232):TT.lim 165 [.s s]=some [.zu ((aF s).1:Nat),.zq ((aF s).2.1:Nat),.zq (aF s).2.2]:=by
 have k:TT.lim 166 [.s s,.zu 0,.zq ((min s.length 10:Nat):Int),.zq 0]=_:=getLoop s f (min s.length 10) 0 0 ah aA;have b:(if(10:Int)<(s.length:Int)then(10:Int)else(s.length:Int))=((min s.length 10:Nat):Int):=by split<;>omega
 unfold EG at k;rw[dY,IY]at k;unfold aF;generalize((min s.length 10:Nat):Int)=M at *;refine aV ?_;cases d:qB 10 s with
 |none=>
  rw[d]at k;by_cases a:10<=s.length
  ·have c:(10:Int)<=s.length:=ah;simp[b,k,a,c]
  ·have c:¬(10:Int)<=s.length:=ah;simp[b,k,a,c]
 |some j=>
  rw[d]at k;simp only[l9,Nat.pow_zero,IX,aew]at k;by_cases e:vO j (s.getD (j-1) 0).toNat=0
  ·simp only[e,ne_eq,not_true_eq_false,if_false]at k⊢;simp[b,k]
  ·simp only[e,ne_eq,not_false_eq_true,if_true]at k⊢;simp[b,k]
def FQ{n:Nat}(h:n<256):(UInt8.ofNat n).toNat=n:=UInt8.toNat_ofNat_of_lt' h
def yQ(n:Nat):Nat:=if n<128 then n else yQ (n/128)
termination_by n
def amR{n:Nat}(h:n<128):yQ n=n:=by rw[yQ,au h]
def amQ{n:Nat}(h:¬n<128):yQ n=yQ (n/128):=by rw[yQ,aj h]
def YQ{n:Nat}(h:n<128):fZ n=1:=by unfold fZ;rw[zK h];rfl
def aFv:∀n:Nat,yQ n<128/\(0<n->0<yQ n)/\yQ n*128^(fZ n-1)<=n:=by
 intro n;induction n using Nat.strongRecOn with
 |_ n b=>
  by_cases h:n<128
  ·rw[amR h,YQ h];simp;omega
  ·obtain⟨c,d,a⟩:=b (n/128) ah;rw[amQ h,LD h];refine⟨c,λ_=>d ah,?_⟩;have f:=D6 (n/128);obtain⟨j,e⟩:∃j,fZ (n/128)=j+1:=⟨fZ (n/128)-1,ah⟩
   rw[e]at a⊢;simp only[Nat.add_sub_cancel]at a⊢;have:yQ (n/128)*128^(j+1)=yQ (n/128)*128^j*128:=by rw[Md,aeV]
   rw[this];omega
def aFt:∀(n:Nat)(x:Q2),(aS n++x).getD (fZ n-1) 0=UInt8.ofNat (yQ n):=by
 intro n;induction n using Nat.strongRecOn with
 |_ n a=>
  intro x;by_cases h:n<128
  ·rw[amR h,YQ h,zK h];rfl
  ·have c:=D6 (n/128);obtain⟨j,b⟩:∃j,fZ (n/128)=j+1:=⟨fZ (n/128)-1,ah⟩
   have:=a (n/128) ah x;rw[amQ h,LD h,D5 h,<-this,b];simp
def aFs:∀(n k:Nat)(x:Q2),fZ n<=k->qB k (aS n++x)=some (fZ n):=by
 intro n;induction n using Nat.strongRecOn with
 |_ n a=>
  intro k x b;have c:=D6 n;obtain⟨j,rfl⟩:∃j,k=j+1:=⟨k-1,ah⟩
  by_cases h:n<128
  ·rw[YQ h,zK h];show(if(UInt8.ofNat n).toNat<128 then _ else _)=_
   rw[au (by rw[FQ ah];exact h)]
  ·rw[LD h]at b⊢;rw[D5 h];show(if(UInt8.ofNat (n%128+128)).toNat<128 then _ else(qB j (aS (n/128)++x)).map (· +1))=_
   rw[aj (by rw[FQ ah];omega),a (n/128) ah j x ah];rfl
def aFw:∀n:Nat,nN (aS n)=n:=by
 intro n;induction n using Nat.strongRecOn with
 |_ n a=>
  by_cases h:n<128
  ·rw[zK h];simp only[nN];rw[FQ ah];omega
  ·rw[D5 h];simp only[nN];rw[a (n/128) ah,FQ ah];omega
def FV(n:Nat)(x:Q2)(d:n<18446744073709551616):aF (aS n++x)=(n,(aS n).length,0):=by
 have e:=aFs n 10 x (Ir d);obtain⟨j,f,b⟩:=aFv n;have g:=aFt n x;have i:vO (fZ n) (UInt8.ofNat (yQ n)).toNat=0:=by
  rw[FQ ah];unfold vO;rw[aj,aj]
  ·rintro⟨a,c⟩
   by_cases h:n<128
   ·rw[YQ h]at a;omega
   ·have:=f ah;omega
  ·rintro⟨a,c⟩
   rw[a]at b;have:2*128^9<=yQ n*128^9:=uQ _ c;simp only[show 10-1=9 from rfl]at b;omega
 unfold aF;rw[e];simp only[g,i,ne_eq,not_true_eq_false,if_false];have:(aS n++x).take (fZ n)=aS n:=by unfold fZ;simp
 rw[this,aFw];rfl
def aFx(a:Q2)(b:UInt8):nN (a++[b])=nN a+128^a.length*(b.toNat%128):=by
 induction a with
 |nil=>simp[nN]
 |cons c a d=>simp only[bg,nN,d,ig,Md,Nat.mul_add,jV];rw[IW (128^a.length) 128,aeV]
def ak3:∀(j k:Nat)(s:Q2),qB j s=some k->(1<k->(s.getD (k-1) 0)≠0)->aS (nN (s.take k))=s.take k/\(1<k\/s.getD (k-1) 0≠0->nN (s.take k)≠0)
 |0,k,s,h,_=>by simp[qB]at h
 |j+1,k,[],h,_=>by simp[qB]at h
 |j+1,k,b::r,h,g=>by
  unfold qB at h;split at h
  ·next d=>
   cases h;simp only[AQ,Uh,nN,Nat.mul_zero,oW];rw[PN d];refine⟨by rw[zK d];simp,λc=>?_⟩;rcases c with c|c
   ·omega
   ·intro e;apply c;simp only[Ci,List.getD_cons_zero];exact Zm.1 (by simpa using e)
  ·next d=>
   obtain⟨i,hi,rfl⟩:=bG.1 h;obtain⟨q,t,u,v⟩:=YP hi;obtain⟨l,rfl⟩:∃l,i=l+1:=⟨i-1,ah⟩
   have a:r.getD l 0≠0:=by have:=g ah;simpa using this
   obtain⟨m,f⟩:=ak3 j (l+1) r hi (λ_=>by simpa using a);have f:=f (.inr (by simpa using a));have n:=b.toNat_lt;rw[AQ];simp only[nN];refine⟨?_,λ_=>ah⟩;rw[D5 ah];have o:(b.toNat%128+128*nN (r.take (l+1)))%128+128=b.toNat:=ah;have p:(b.toNat%128+128*nN (r.take (l+1)))/128=nN (r.take (l+1)):=ah;rw[o,p,m];simp
structure VOk(s:Q2)(n k:Nat):Prop where
 pos:1<=k
 ten:k<=10
 len:k<=s.length
 lt:n<18446744073709551616
 put:aS n=s.take k
def lN{s:Q2}(h:(aF s).2.2=0):VOk s (aF s).1 (aF s).2.1:=by
 unfold aF at h⊢;cases c:qB 10 s with
 |none=>rw[c]at h;simp only at h;split at h<;>cases h
 |some k=>
  rw[c]at h;simp only at h⊢;obtain⟨g,i,l,r⟩:=YP c;by_cases a:vO k (s.getD (k-1) 0).toNat=0
  ·simp only[a,ne_eq,not_true_eq_false,if_false];have m:1<k->s.getD (k-1) 0≠0:=by
    intro n d;unfold vO at a;rw[d]at a;split at a
    ·cases a
    ·rw[au ⟨n,rfl⟩]at a;cases a
   refine⟨g,i,l,?_,(ak3 10 k s c m).1⟩;have e:s.take k=s.take (k-1)++[s.getD (k-1) 0]:=by
    obtain⟨j,rfl⟩:∃j,k=j+1:=⟨k-1,ah⟩
    have:j<s.length:=ah;simp[List.getD,this]
   have d:=amS (s.take (k-1));rw[e,aFx,lZ,Mc ah];rw[lZ,Mc ah]at d;rcases xY k 10 with o|o
   ·have p:(128:Nat)^(k-1)<=128^8:=Ul ah ah;have f:128^(k-1)*((s.getD (k-1) 0).toNat%128)<=128^(k-1)*127:=Zh _ ah;omega
   ·have b:k=10:=ah;have q:(s.getD (k-1) 0).toNat<=1:=by
     unfold vO at a;split at a
     ·cases a
     ·next h=>omega
    have p:(128:Nat)^(k-1)=128^9:=by rw[b]
    have f:128^(k-1)*((s.getD (k-1) 0).toNat%128)<=128^(k-1)*1:=Zh _ ah;omega
  ·simp only[a,ne_eq,not_false_eq_true,if_true]at h
def LC{s:Q2}(h:(aF s).2.2≠0):(aF s).1=0/\(aF s).2.1=0:=by
 unfold aF at h⊢;cases b:qB 10 s with
 |none=>exact⟨rfl,rfl⟩
 |some k=>
  rw[b]at h;simp only at h⊢;by_cases a:vO k (s.getD (k-1) 0).toNat=0
  ·simp only[a,ne_eq,not_true_eq_false,if_false]at h
  ·simp only[a,ne_eq,not_false_eq_true,if_true];exact⟨trivial,trivial⟩
def DZ(t:Q2)(a:Nat)(h:a<=t.length)(v:t.length<=140737488351232):
 TT.lim 175 [.s t,.zq a]=some [.zq 0,.zu ((aF (t.drop a)).1:Nat),.zq (aF (t.drop a)).2.2,.s t,.zq ((a+(aF (t.drop a)).2.1:Nat):Int)]:=by
 have k:=wC (t.drop a) (by rw[fP];omega);have c:(t.take t.length).drop a=t.drop a:=by rw[AP]
 have d:(a:Int)<=t.length:=ah;refine aB ?_;by_cases b:(aF (t.drop a)).2.2=0
 ·have f:=lN b;have g:=f.len;have i:=f.ten;rw[fP]at g;generalize(aF (t.drop a)).1=n,(aF (t.drop a)).2.1=j,(aF (t.drop a)).2.2=e at *;have w1:=jL ((j:Int));have l:=bI ((t.length:Int)-(a:Int));have m:=jL ((t.length:Int)-(a:Int));have o:=bI ((j:Int));have p:=bI ((a:Int)+(j:Int));have q:¬((t.length:Int)-(a:Int)<(j:Int)):=ah;have r:(a:Int)<=(a:Int)+(j:Int)/\(a:Int)+(j:Int)<=t.length:=ah;subst b;simp[c,d,k,w1,l,m,o,p,q,r]
 ·obtain⟨s,u⟩:=LC b;rw[s,u]at k⊢;generalize(aF (t.drop a)).2.2=e at *;simp[c,d,k,b]
def oC(e:Int):Q2×Nat×Int:=([],0,e)
def bT(s a0:Q2)(first:Bool):Q2×Nat×Int:=
 let a:=if first=true then[]else a0
 let v:=aF s
 if v.2.2≠0 then oC v.2.2 else
 if a.length<v.1 then oC 23 else
 let b:=aF (s.drop v.2.1)
 if b.2.2≠0 then oC b.2.2 else
 if s.length-(v.2.1+b.2.1)<b.1 then oC 1 else
 let t:=a.take v.1++(s.drop (v.2.1+b.2.1)).take b.1
 if first=false/\Op.bytesLess a t=false then oC 7 else
 if v.1<common a t then oC 23 else(t,v.2.1+b.2.1+b.1,0)
def awO(a t:Q2):(Op.bytesLess t a ||t==a) = !(Op.bytesLess a t):=by
 rw[MZ,MZ,yR];simp only[oV,decide_eq_true_iff,beq_iff_eq,wU,decide_eq_false_iff_not];constructor
 ·rintro(h|h) b
  ·exact qF _ (AL h b)
  ·subst h;exact qF _ b
 ·intro h;by_cases c:t<a
  ·exact .inl c
  ·exact .inr (Uc (Cb.1 h) (Cb.1 c))
def agp:∀(k:Nat)(a x:Q2),k<=a.length->k<=common a (a.take k++x)
 |0,a,x,h=>ah
 |k+1,[],x,h=>by simp at h
 |k+1,b::a,x,h=>by rw[AQ,bg];unfold common;rw[au rfl];have:=agp k a x (by simpa using h);omega
def azx(t a:Q2)(first:Bool)(b:Nat)(h:b<=t.length)(ht:t.length<=100000000)(ha:a.length<=100000000):
 ∃at2:Nat,TT.lim 199 [.s t,.zq b,.s a,.b first]=some [.zq 0,.s (bT (t.drop b) a first).1,.zq (bT (t.drop b) a first).2.2,.s t,.zq at2]/\
  ((bT (t.drop b) a first).2.2=0->at2=b+(bT (t.drop b) a first).2.1):=by
 have f:=DZ t b h ah;by_cases u:(aF (t.drop b)).2.2=0;rotate_left
 ·obtain⟨e1,E⟩:=LC u;have w:bT (t.drop b) a first=oC (aF (t.drop b)).2.2:=by unfold bT;simp only;rw[au u]
  rw[e1,E]at f;rw[w];clear e1 E w;generalize(aF (t.drop b)).2.2=e at *;refine⟨b,jC rfl rfl ?_,λh=>absurd h u⟩;cases first<;>simp[f,u,oC]
 have S:=lN u;have hl:=S.len;have aa:=S.lt;have ab:=S.ten;rw[fP]at hl
 have p:∀x:Q2,x=(if first=true then[]else a)->bT (t.drop b) a first=(if x.length<(aF (t.drop b)).1 then oC 23 else
  if(aF (t.drop (b+(aF (t.drop b)).2.1))).2.2≠0 then oC (aF (t.drop (b+(aF (t.drop b)).2.1))).2.2 else
  if(t.length-b)-((aF (t.drop b)).2.1+(aF (t.drop (b+(aF (t.drop b)).2.1))).2.1)<(aF (t.drop (b+(aF (t.drop b)).2.1))).1 then oC 1 else
  if first=false/\Op.bytesLess x (x.take (aF (t.drop b)).1++(t.drop (b+((aF (t.drop b)).2.1+(aF (t.drop (b+(aF (t.drop b)).2.1))).2.1))).take (aF (t.drop (b+(aF (t.drop b)).2.1))).1)=false then oC 7 else
  if(aF (t.drop b)).1<common x (x.take (aF (t.drop b)).1++(t.drop (b+((aF (t.drop b)).2.1+(aF (t.drop (b+(aF (t.drop b)).2.1))).2.1))).take (aF (t.drop (b+(aF (t.drop b)).2.1))).1)then oC 23 else
  (x.take (aF (t.drop b)).1++(t.drop (b+((aF (t.drop b)).2.1+(aF (t.drop (b+(aF (t.drop b)).2.1))).2.1))).take (aF (t.drop (b+(aF (t.drop b)).2.1))).1,(aF (t.drop b)).2.1+(aF (t.drop (b+(aF (t.drop b)).2.1))).2.1+(aF (t.drop (b+(aF (t.drop b)).2.1))).1,0)):=by
  intro x T;unfold bT;simp only[rZ,fP,<-T,u,ne_eq,not_true_eq_false,if_false]
 rw[u]at f;have q:=DZ t (b+(aF (t.drop b)).2.1) ah ah;have F:=λh=>lN (s:=t.drop (b+(aF (t.drop b)).2.1)) h;have G:=λh=>LC (s:=t.drop (b+(aF (t.drop b)).2.1)) h;generalize U:aF (t.drop b)=v at *;obtain⟨n,i,e⟩:=v;simp only at *;generalize W:aF (t.drop (b+i))=v2 at *;obtain⟨m,j,E⟩:=v2;simp only at *;clear U W S;subst u;simp only[F6]at f q;cases first with
 |true=>
  have w:=p [] rfl;rw[w];clear w p;by_cases k:0<n
  ·have c:(0:Int)<n:=ah;rw[au (by simpa using k)];refine⟨b+i,jC rfl rfl ?_,λh=>by cases h⟩;simp[f,k,c,oC]
  have c:¬(0:Int)<n:=ah;rw[aj (by simpa using k)];by_cases l:E=0;rotate_left
  ·obtain⟨H,I⟩:=G l;subst H;subst I;rw[au l];refine⟨b+i,jC rfl rfl ?_,λh=>absurd h l⟩;simp[f,q,k,c,l,oC]
  subst l;obtain⟨H,I,Y,q4,_⟩:=F rfl;rw[fP]at Y;rw[aj aA];have y:=bI ((t.length:Int)-((b:Int)+(i:Int)+(j:Int)));have z:=jL ((t.length:Int)-((b:Int)+(i:Int)+(j:Int)));by_cases J:t.length-b-(i+j)<m
  ·have d:(t.length:Int)-((b:Int)+(i:Int)+(j:Int))<(m:Int):=ah;rw[au J];refine⟨b+i+j,jC rfl rfl ?_,λh=>by cases h⟩;simp[f,q,k,c,y,z,d,oC]
  have d:¬(t.length:Int)-((b:Int)+(i:Int)+(j:Int))<(m:Int):=ah;rw[aj J,aj aA];have n0:n=0:=ah;subst n0;have hc:common [] ([]++(t.drop (b+(i+j))).take m)=0:=aam _;have L:=bI ((m:Int));have M:=bI ((b:Int)+(i:Int)+(j:Int)+(m:Int));have w0:=bI ((0:Int));have N:((t.take (b+i+j+m)).drop (b+i+j))=(t.drop (b+(i+j))).take m:=by rw[<-jV,LW];congr 1;omega
  have kc:=aae [] ((t.drop (b+(i+j))).take m) aA (by simp;omega);rw[aam]at kc;have O:(b:Int)+(i:Int)+(j:Int)<=(b:Int)+(i:Int)+(j:Int)+(m:Int)/\(b:Int)+(i:Int)+(j:Int)+(m:Int)<=t.length:=ah;have P:(0:Int)<=(b:Int)+(i:Int)+(j:Int):=ah;have Q:((b:Int)+(i:Int)+(j:Int)+(m:Int)).toNat=b+i+j+m:=ah;have R:((b:Int)+(i:Int)+(j:Int)).toNat=b+i+j:=ah;rw[List.take_nil,aj (by rw[hc];omega)];have o:(((t.drop (b+(i+j))).take m).length:Int)<=9223372036854775807:=by
   have:((t.drop (b+(i+j))).take m).length<=t.length:=by rw[lZ,fP];omega
   omega
  refine⟨b+i+j+m,jC rfl rfl ?_,λ_=>by simp only;omega⟩;rw[aW];generalize(t.drop (b+(i+j))).take m=X at *;simp[f,q,w0,y,z,L,M,d,O,P,Q,R,N,kc,o]
 |false=>
  have w:=p a rfl;rw[w];clear w p;have B:=jL ((a.length:Int));by_cases k:a.length<n
  ·have c:(a.length:Int)<n:=ah;rw[au k];refine⟨b+i,jC rfl rfl ?_,λh=>by cases h⟩;simp[f,k,c,B,oC]
  have c:¬(a.length:Int)<n:=ah;rw[aj k];by_cases l:E=0;rotate_left
  ·obtain⟨H,I⟩:=G l;subst H;subst I;rw[au l];refine⟨b+i,jC rfl rfl ?_,λh=>absurd h l⟩;simp[f,q,k,c,l,B,oC]
  subst l;obtain⟨H,I,Y,q4,_⟩:=F rfl;rw[fP]at Y;rw[aj aA];have y:=bI ((t.length:Int)-((b:Int)+(i:Int)+(j:Int)));have z:=jL ((t.length:Int)-((b:Int)+(i:Int)+(j:Int)));by_cases J:t.length-b-(i+j)<m
  ·have d:(t.length:Int)-((b:Int)+(i:Int)+(j:Int))<(m:Int):=ah;rw[au J];refine⟨b+i+j,jC rfl rfl ?_,λh=>by cases h⟩;simp[f,q,k,c,y,z,d,B,oC]
  have d:¬(t.length:Int)-((b:Int)+(i:Int)+(j:Int))<(m:Int):=ah;rw[aj J];have L:=bI ((m:Int));have M:=bI ((b:Int)+(i:Int)+(j:Int)+(m:Int));have Z:=bI ((n:Int));have N:((t.take (b+i+j+m)).drop (b+i+j))=(t.drop (b+(i+j))).take m:=by rw[<-jV,LW];congr 1;omega
  have ac:((t.drop (b+(i+j))).take m).length<=t.length:=by rw[lZ,fP];omega
  have kc:=aae a (a.take n++(t.drop (b+(i+j))).take m) ah (by rw[dM,lZ];omega);have O:(b:Int)+(i:Int)+(j:Int)<=(b:Int)+(i:Int)+(j:Int)+(m:Int)/\(b:Int)+(i:Int)+(j:Int)+(m:Int)<=t.length:=ah;have P:(0:Int)<=(b:Int)+(i:Int)+(j:Int):=ah;have c6:(n:Int)<=a.length:=ah;have Q:((b:Int)+(i:Int)+(j:Int)+(m:Int)).toNat=b+i+j+m:=ah;have R:((b:Int)+(i:Int)+(j:Int)).toNat=b+i+j:=ah;have A:(min n a.length:Nat)=n:=ah;have o:(n:Int)+(((t.drop (b+(i+j))).take m).length:Int)<=9223372036854775807:=ah;have r:=awO a (a.take n++(t.drop (b+(i+j))).take m);generalize(t.drop (b+(i+j))).take m=X at *;by_cases D:Op.bytesLess a (a.take n++X)=false
  ·rw[au ⟨rfl,D⟩];rw[D]at r;refine⟨b+i+j+m,jC rfl rfl ?_,λh=>by cases h⟩;have g:(Op.bytesLess (a.take n++X) a=true\/a.take n++X=a)=True:=eq_true (by simpa using r);simp[f,q,B,Z,y,z,L,M,c,d,O,P,c6,Q,R,N,o,A,g,oC]
  ·rw[aj (λh=>D h.2)];have D:Op.bytesLess a (a.take n++X)=true:=by simpa using D
   rw[D]at r;have g:(Op.bytesLess (a.take n++X) a=true\/a.take n++X=a)=False:=eq_false (by simpa using r);by_cases c8:n<common a (a.take n++X)
   ·have Jh:(n:Int)<(common a (a.take n++X):Int):=ah;rw[au c8];refine⟨b+i+j+m,jC rfl rfl ?_,λh=>by cases h⟩;simp[f,q,B,Z,y,z,L,M,c,d,O,P,c6,Q,R,N,o,A,g,kc,Jh,oC]
   ·have Jh:¬(n:Int)<(common a (a.take n++X):Int):=ah;rw[aj c8];refine⟨b+i+j+m,jC rfl rfl ?_,λ_=>by simp only;omega⟩;simp[f,q,B,Z,y,z,L,M,c,d,O,P,c6,Q,R,N,o,A,g,kc,Jh]
def acZ{s a:Q2}{first:Bool}(h:(bT s a first).2.2=0):2<=(bT s a first).2.1/\(bT s a first).2.1<=s.length/\(bT s a first).1.length<=(if first=true then 0 else a.length)+(bT s a first).2.1:=by
 have b:(if first=true then 0 else a.length)=(if first=true then[]else a).length:=by cases first<;>rfl
 rw[b];clear b;unfold bT at h⊢;simp only at h⊢;generalize(if first=true then[]else a)=n at h⊢;split at h
 ·next c=>exact absurd h c
 next d=>
 rw[aj d];split at h
 ·cases h
 next i=>
 rw[aj i];split at h
 ·next c=>exact absurd h c
 next e=>
 rw[aj e];split at h
 ·cases h
 next j=>
 rw[aj j];split at h
 ·cases h
 next k=>
 rw[aj k];split at h
 ·cases h
 next l=>
 rw[aj l];have f:=lN (s:=s) (by simpa using d);have g:=lN (s:=s.drop (aF s).2.1) (by simpa using e);have o:=f.pos;have p:=g.pos;have q:=f.len;have m:=g.len;rw[fP]at m;refine⟨by simp only;omega,by simp only;omega,?_⟩;simp only[dM,lZ,fP];omega
def aj1(a s:Q2)(b:s.length<=100000000):(tJ a s).length<=20+s.length:=by have c:=Vs a s;have d:=oU (n:=common a s) ah;have e:=oU (n:=s.length-common a s) ah;unfold tJ;simp only[dM,fP];omega
def avi{g:GV}(h:cO.bool.has g):∃b,g=.b b:=by simpa only[cO.has]using h
