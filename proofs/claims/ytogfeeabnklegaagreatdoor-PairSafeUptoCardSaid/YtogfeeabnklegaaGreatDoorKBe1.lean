/- What the trees compute: plain laws. -/
import Derived.Test.YtogfeeabnklegaaGreatDoorKBT
import Derived.Lib.TrimUEq
import Derived.Lib.MapLaws
set_option linter.all false
namespace Go.Proofs.YtogfeeabnklegaaGreatDoor
open Go Go.aP
set_option maxRecDepth 100000
namespace B
def Ny:∀a b:Q0,Op.bytesLess a b=decide (a<b)
 |_,[]=>by simp[Op.bytesLess]
 |[],_::_=>by simp[Op.bytesLess]
 |a::x,b::y=>by rw[Op.bytesLess,Ny x y,zx];simp[aeJ]
abbrev dS:=Q0×Q0
abbrev Row:=List dS×Int
def ent(x:dS):GV:=.g [.s x.1,.s x.2]
def row(r:Row):GV:=.g [.l (r.1.map ent),.zu r.2]
@[simp] theorem aGW(x:dS):(ent x).cells=[.s x.1,.s x.2]:=rfl
@[simp] theorem aBb(r:Row):(row r).cells=[.l (r.1.map ent),.zu r.2]:=rfl
@[simp] theorem aGX(x:dS):(ent x).scalar=false:=rfl
@[simp] theorem aIn(r:Row):(row r).scalar=false:=rfl
def uF(d:List dS):Prop:=d.length<=140737488351232/\∀x∈d,x.1.length<=140737488351232/\x.2.length<=140737488351232
def Rows(l:List Row):Prop:=l.length<=140737488351232/\∀r∈l,uF r.1/\0<=r.2/\r.2<18446744073709551616
def wP(x:dS):Bool:=decide (x.1.length+x.2.length<=600)
def ajp(d:List dS)(e:uF d):∀m i:Nat,i+m=d.length->TT.lim 12 [.l (d.map ent),.zq d.length,.zq i]=some (if(d.drop i).all wP=true then[.zq 1]else[.zq 0])
 |0,i,hi=>by have h0:d.drop i=[]:=iK;refine aB ?_;have h:¬((i:Int)<d.length):=ah;simp[h,h0]
 |m+1,i,hi=>by
  have a:i<d.length:=ah;have g:TT.lim 12 [.l (d.map ent),.zq d.length,.zq ((i:Int)+1)]=_:=ajp d e m (i+1) ah;refine aB ?_;have h:((i:Int)<d.length):=ah;have j:=wrap64 (n:=(i:Int)+1) ah (by have:=e.1;omega);have k:=e.2 d[i] (iT a);have b:=bH ((d[i].1.length:Int)+(d[i].2.length:Int));have c:(d.drop i).all wP=(wP d[i]&&(d.drop (i+1)).all wP):=by rw[iR a,uG]
  by_cases f:(600:Int)<(d[i].1.length:Int)+(d[i].2.length:Int)
  ·have:wP d[i]=false:=by unfold wP;simp;omega
   simp[h,a,b,f,c,this]
  ·have:wP d[i]=true:=by unfold wP;simp;omega
   rw[c,this,Gw];simp[h,a,j,b,f,g]
def jf(d:List dS):Bool:=d.all wP&&decide (d.length<=40)
def at6(d:List dS)(c:uF d):TT.lim 11 [.l (d.map ent)]=some [.b (jf d)]:=by
 refine aW ?_;have a:TT.lim 12 [.l (d.map ent),.zq d.length,.zq 0]=_:=ajp d c d.length 0 ah;rw[dY]at a;cases b:d.all wP with
 |false=>rw[b]at a;simp[a,jf,b]
 |true=>
  rw[b]at a;simp only[if_true]at a;have:(decide ((d.length:Int)<=40))=decide (d.length<=40):=by rw[zx];simp;omega
  simp[a,jf,b,this]
def aS(n:Nat):Q0:=if n<128 then[UInt8.ofNat n]else UInt8.ofNat (n%128+128)::aS (n/128)
termination_by n
decreasing_by omega
def Ah{n:Nat}(h:n<128):aS n=[UInt8.ofNat n]:=by rw[aS,au h]
def Em{n:Nat}(h:¬n<128):aS n=UInt8.ofNat (n%128+128)::aS (n/128):=by rw[aS,aj h]
def YS{a b:Nat}(c:a<256)(d:b<256)(h:UInt8.ofNat a=UInt8.ofNat b):a=b:=by have:=uS UInt8.toNat h;simp at this;omega
def aed:∀(n m:Nat)(x y:Q0),aS n++x=aS m++y->n=m/\x=y:=by
 intro n;induction n using Nat.strongRecOn with
 |_ n c=>
  intro m x y h;by_cases a:n<128<;>by_cases b:m<128
  ·rw[Ah a,Ah b]at h;simp only[bD,aX,yA]at h;exact⟨YS ah ah h.1,h.2⟩
  ·rw[Ah a,Em b]at h;simp only[bD,aX,yA]at h;have:=YS ah ah h.1;omega
  ·rw[Em a,Ah b]at h;simp only[bD,aX,yA]at h;have:=YS ah ah h.1;omega
  ·rw[Em a,Em b]at h;simp only[bD,yA]at h;have e:=YS ah ah h.1;obtain⟨f,d⟩:=c (n/128) ah (m/128) x y h.2;exact⟨ah,d⟩
def fZ(n:Nat):Nat:=(aS n).length
def aDO{n:Int}(h0:0<=n):n.fdiv (2^(7:Nat))=n/128:=by rw[Gy _ aV];rfl
def al6{n:Nat}:kT .shr .u64 (n:Int) 7=some (.zu ((n/128:Nat):Int)):=by
 have:((n:Int)).fdiv (2^(7:Nat))=((n/128:Nat):Int):=by rw[aDO ah];omega
 simp[kT,IntKind.bits];exact this
def En(n:Nat):0<fZ n:=by unfold fZ;rw[aS];split<;>simp
def Mc{n:Nat}(h:¬n<128):fZ n=fZ (n/128)+1:=by unfold fZ;rw[Em h];rfl
def PX:∀(k n:Nat),0<k->n<128^k->fZ n<=k
 |0,_,h,_=>ah
 |k+1,n,_,h=>by
  by_cases a:n<128
  ·unfold fZ;rw[Ah a];simp
  ·rw[Mc a];cases k with
   |zero=>simp at h;omega
   |succ k=>
    have:n/128<128^(k+1):=by rw[MZ]at h;omega
    have:=PX (k+1) (n/128) ah this;omega
def I7{n:Nat}(h:n<18446744073709551616):fZ n<=10:=PX 10 n ah ah
def axi:∀(n s:Nat),s+fZ n<=1000->n<18446744073709551616->TT.lim 16 [.zu n,.zq s]=some [.zq 0,.zq ((s+fZ n-1:Nat):Int)]:=by
 intro n;induction n using Nat.strongRecOn with
 |_ n e=>
  intro s g i;refine aB ?_;by_cases h:n<128
  ·have b:¬(128:Int)<=n:=ah;simp[b,fZ,Ah h]
  ·have b:(128:Int)<=n:=ah;have j:=Mc h;have k:=En (n/128);have f:=bH ((s:Int)+1);have a:TT.lim 16 [.zu ((n/128:Nat):Int),.zq ((s:Int)+1)]=_:=e (n/128) ah (s+1) ah ah;have c:s+fZ n-1=s+1+fZ (n/128)-1:=ah;rw[c];have d:kT .shr .u64 (n:Int) 7=some (.zu ((n/128:Nat):Int)):=al6;generalize((n/128:Nat):Int)=q at d a;simp[b,f,d,a]
def Pz(n:Nat)(a:n<18446744073709551616):TT.lim 15 [.zu n]=some [.zq (fZ n)]:=by have c:=En n;have b:TT.lim 16 [.zu n,.zq 1]=_:=axi n 1 (by have:=I7 a;omega) a;rw[(ah:1+fZ n-1=fZ n)]at b;refine aW ?_;simp[b]
def nD:Nat->Nat->List Nat
 |0,_=>[]
 |k+1,n=>(n%128+128)::nD k (n/128)
def kE(n:Nat):GV:=.i .u8 n
def anW(n:Nat)(d:n<18446744073709551616):dw .and .u64 (n:Int) 127=some (.zu ((n%128:Nat):Int)):=by
 have a:((BitVec.ofInt 64 (n:Int) &&& BitVec.ofInt 64 127).toNat:Nat)=n%128:=by rw[Zb,wo,wo];have b:((n:Int)%((2^64:Nat):Int)).toNat=n:=ah;have c:((127:Int)%((2^64:Nat):Int)).toNat=2^7-1:=aV;rw[b,c,ae0]
 show some (GV.zu (IntKind.u64.wrap (((BitVec.ofInt 64 (n:Int) &&& BitVec.ofInt 64 127).toNat:Nat):Int)))=_
 rw[a,I9 ah ah]
def afp(n:Nat)(a:n<256):dw .and .u8 (n:Int) 127=some (.i .u8 ((n%128:Nat):Int)):=by
 have:∀x:Fin 256,IntKind.u8.wrap (((BitVec.ofInt IntKind.u8.bits ((x.val:Nat):Int) &&& BitVec.ofInt IntKind.u8.bits 127).toNat:Nat):Int)=((x.val%128:Nat):Int):=by decide +kernel
 show some (GV.i .u8 _)=some (GV.i .u8 _)
 exact uS (λz=>some (GV.i .u8 z)) (this ⟨n,a⟩)
def ayO(n:Nat)(a:n<128):dw .or .u8 (n:Int) 128=some (.i .u8 ((n+128:Nat):Int)):=by
 have:∀x:Fin 128,IntKind.u8.wrap (((BitVec.ofInt IntKind.u8.bits ((x.val:Nat):Int) |||BitVec.ofInt IntKind.u8.bits 128).toNat:Nat):Int)=((x.val+128:Nat):Int):=by decide +kernel
 show some (GV.i .u8 _)=some (GV.i .u8 _)
 exact uS (λz=>some (GV.i .u8 z)) (this ⟨n,a⟩)
def aFN{n:Int}(h0:0<=n)(h1:n<256):IntKind.u8.wrap n=n:=by
 have:IntKind.u8.wrap n=n%256:=by simp[IntKind.wrap,IntKind.signed,IntKind.bits]
 rw[this];omega
@[simp] theorem aGI(n:Nat):(kE n).cells=[kE n]:=rfl
@[simp] theorem aGK(n:Nat):(kE n).scalar=true:=rfl
@[simp] theorem aGJ(n:Nat)(v:GV):(kE n).put 0 [v]=some v:=rfl
def afS:∀l:Q2,(∀x∈l,x<256)->pR (l.map kE)=some (l.map UInt8.ofNat)
 |[],_=>rfl
 |a::l,h=>by have h1:=h a aA;have b:=afS l λx c=>h x (by simp[c]);simp only[iU,kE,pR]at b⊢;rw[lV];have:(λn:Nat=>GV.i .u8 (n:Int))=kE:=rfl;rw[b];simp
def ajg:∀(m n:Nat)(done:Q2),n<18446744073709551616->done.length+m<1000->
 TT.lim 17 [.zu n,.l ((done++List.replicate m 0).map kE),.zq ((done.length+m:Nat):Int),.zq done.length]=some [.zq 0,.l ((done++nD m n).map kE)]
 |0,n,done,l,r=>by refine aB ?_;simp[nD]
 |m+1,n,done,l,r=>by
  have c:(done.length:Int)<((done.length+(m+1):Nat):Int):=ah;have s:=bH ((done.length:Int)+1);have d:=aFN (n:=((n%128:Nat):Int)) ah ah;have o:kT .shr .u64 (n:Int) 7=some (.zu ((n/128:Nat):Int)):=al6;have p:=anW n l;have h:=ayO (n%128) ah;have a:=ajg m (n/128) (done++[n%128+128]) ah (by simp;omega);have e:(done++[n%128+128]).length+m=done.length+(m+1):=by simp;omega
  rw[e]at a;have i:(((done++[n%128+128]).length:Nat):Int)=(done.length:Int)+1:=aA;rw[i]at a;have f:((done++List.replicate (m+1) 0).map kE).set done.length (kE (n%128+128))=(done++[n%128+128]++List.replicate m 0).map kE:=by rw[Qb,<-Zl,List.set_append_right _ _ (dP _),Dh];simp
  have g:((done++List.replicate (m+1) 0).map kE)[done.length]? =some (kE 0):=by rw[jy,yB (dP _),Dh,Qb];rfl
  have j:((done++List.replicate (m+1) 0).map kE).length=done.length+(m+1):=aA;have t:done++nD (m+1) n=done++[n%128+128]++nD m (n/128):=by simp[nD]
  rw[t];generalize v:(done++List.replicate (m+1) 0).map kE=L at *;refine aB ?_;have k:(0:Int)<=(done.length:Int)/\(done.length:Int)<(L.length:Int):=by rw[j];omega
  have u:GV.i IntKind.u8 ((n%128+128:Nat):Int)=kE (n%128+128):=rfl;have b:L.set done.length (GV.i IntKind.u8 ((n%128+128:Nat):Int))=(done++[n%128+128]++List.replicate m 0).map kE:=f;generalize(done++[n%128+128]++List.replicate m 0).map kE=w at a b;generalize(done++[n%128+128]++nD m (n/128)).map kE=x at a⊢;generalize((n/128:Nat):Int)=q at o a;generalize((n%128+128:Nat):Int)=z at h b;generalize((n%128:Nat):Int)=y at p d h;generalize((done.length+(m+1):Nat):Int)=N at c a⊢;simp[c,p,d,h,k,g,o,s,b,a]
def aee:∀m n,(nD m n).length=m
 |0,_=>rfl
 |m+1,n=>by simp[nD,aee m]
def aef:∀m n,∀x∈nD m n,x<256
 |0,_,x,h=>by simp[nD]at h
 |m+1,n,x,h=>by
  simp only[nD,bI]at h;rcases h with rfl|h
  ·omega
  ·exact aef m _ x h
def amZ:∀(s n:Nat),fZ n=s+1->∃x,(nD (s+1) n)[s]? =some x/\((nD (s+1) n).set s (x%128)).map UInt8.ofNat=aS n
 |0,n,h=>by
  have a:n<128:=by
   by_cases a:n<128
   ·exact a
   ·rw[Mc a]at h;have:=En (n/128);omega
  refine⟨n%128+128,by simp[nD],?_⟩;rw[Ah a];simp[nD];rw[Qc a]
 |s+1,n,h=>by
  have a:¬n<128:=by intro a;unfold fZ at h;rw[Ah a]at h;simp at h
  rw[Mc a]at h;obtain⟨x,b,c⟩:=amZ s (n/128) ah;refine⟨x,by simp only[nD,xw]at b⊢;exact b,?_⟩;rw[Em a,<-c];simp[nD]
def zY(n:Nat)(o:n<18446744073709551616):TT.lim 14 [.zu n]=some [.s (aS n)]:=by
 have p:=Pz n o;have N:=En n;have O:=I7 o;obtain⟨s,h⟩:∃s,fZ n=s+1:=⟨fZ n-1,ah⟩
 obtain⟨x,E,G⟩:=amZ s n h;rw[h]at p;have c:TT.lim 17 [.zu n,.l ((List.replicate (s+1) 0).map kE),.zq ((s+1:Nat):Int),.zq 0]=some [.zq 0,.l ((nD (s+1) n).map kE)]:=by have:=ajg (s+1) n [] o (by simp;omega);simpa using this
 have H:(List.replicate (s+1) 0).map kE=List.replicate (s+1) (GV.i .u8 0):=by rw[List.map_replicate];rfl
 rw[H]at c;have I:x<256:=aef _ _ x (tN E);have F:=afp x I;have d:((nD (s+1) n).map kE)[s]? =some (kE x):=by rw[jy,E];rfl
 have b:((nD (s+1) n).map kE).set s (GV.i .u8 ((x%128:Nat):Int))=((nD (s+1) n).set s (x%128)).map kE:=(Zl (f:=kE) (l:=nD (s+1) n) (i:=s) (a:=x%128)).symm;have q:=afS ((nD (s+1) n).set s (x%128)) (λy r=>by
  rcases aeW r with r|rfl
  ·exact aef _ _ y r
  ·omega)
 rw[G]at q;have e:(((nD (s+1) n).set s (x%128)).map kE).length=s+1:=by simp[aee]
 have j:(List.replicate (s+1) (GV.i .u8 0)).length=s+1:=aA;have k:((nD (s+1) n).map kE).length=s+1:=by simp[aee]
 generalize((nD (s+1) n).set s (x%128)).map kE=P at b q e;generalize(nD (s+1) n).map kE=J at c d b k;generalize m:List.replicate (s+1) (GV.i .u8 0)=Q at c j;refine aW ?_;have L:=bH ((s:Int));have g:((s+1:Nat):Int)=(s:Int)+1:=ah;rw[g]at p c;have t:(0:Int)<=(s:Int)+1/\(s:Int)+1<=281474976710656/\(s:Int)+1<=1152921504606846976:=ah;have u:((s:Int)+1).toNat=s+1:=ah;have v:(s:Int)<(s:Int)+1:=ah;have w:(s:Int)+1-1=(s:Int):=ah;generalize R:((x%128:Nat):Int)=M at F b;have z:kE x=.i .u8 x:=rfl;have A:s+1<=281474976710656:=ah;have D:J[s]'(by omega)=kE x:=by have:=d;rw[bZ ah]at this;exact Jo this
 simp[p,t,u,m,j,c,k,w,L,v,d,D,F,b,z,e,q,A,GV.gQ]
def ZU(a b:Q0):dK (a++b)=dK a++dK b:=by simp[dK]
@[simp] theorem afQ(a:Q0):(dK a).length=a.length:=by simp[dK]
def Qz(a:Q0):(dK a).all (GV.gQ 1)=true:=by rw[List.all_eq_true];intro x c;obtain⟨b,_,rfl⟩:=rZ.1 c;rfl
def ZX:∀a:Q0,pR (dK a)=some a
 |[]=>rfl
 |x::a=>by have b:=ZX a;simp only[dK,iU,pR]at b⊢;have:=x.toNat_lt;rw[lV,b];simp
def jv(x:dS):Q0:=aS x.1.length++x.1++aS x.2.length++x.2
def dN(d:List dS):Q0:=aS d.length++d.flatMap jv
def nY{n:Nat}(h:n<18446744073709551616):(aS n).length<=10:=I7 h
def ath(x:dS)(h1:x.1.length<=140737488351232)(g:x.2.length<=140737488351232):TT.lim 19 [ent x]=some [.s (jv x)]:=by have a:=zY x.1.length ah;have b:=zY x.2.length ah;have h:=nY (n:=x.1.length) ah;have i:=nY (n:=x.2.length) ah;have w1:=jV ((x.1.length:Int));have c:=jV ((x.2.length:Int));refine aW ?_;have d:((aS x.1.length).length:Int)+(x.1.length:Int)<=9223372036854775807:=ah;have e:((aS x.1.length).length:Int)+((x.1.length:Int)+((aS x.2.length).length:Int))<=9223372036854775807:=ah;have f:((aS x.1.length).length:Int)+((x.1.length:Int)+(((aS x.2.length).length:Int)+(x.2.length:Int)))<=9223372036854775807:=ah;simp[w1,c,a,b,d,e,f,jv,Int.add_assoc]
def ahb{x:dS}(h:wP x=true):(jv x).length<=620:=by unfold wP at h;simp only[decide_eq_true_iff]at h;have a:=nY (n:=x.1.length) ah;have b:=nY (n:=x.2.length) ah;simp only[jv,eH];omega
def aaO:∀d:List dS,d.all wP=true->(d.flatMap jv).length<=620*d.length
 |[],_=>aA
 |x::d,h=>by rw[uG,aO]at h;have:=ahb h.1;have:=aaO d h.2;simp only[kV,eH,iD];omega
def ajh(d:List dS)(f:d.all wP=true)(k:d.length<=40):∀(m i:Nat)(a:Q0),i+m=d.length->a.length<=10+620*i->
 TT.lim 18 [.l (d.map ent),.zq d.length,.zq i,.l (dK a)]=some [.zq 0,.l (dK (a++(d.drop i).flatMap jv))]
 |0,i,a,hi,l=>by have h0:d.drop i=[]:=iK;refine aB ?_;have h:¬((i:Int)<d.length):=ah;simp[h,h0]
 |m+1,i,a,hi,l=>by
  have b:i<d.length:=ah;have g:=List.all_eq_true.1 f d[i] (iT b);have c:=g;unfold wP at c;simp only[decide_eq_true_iff]at c;have n:=ath d[i] ah ah;have o:=ahb g;have j:TT.lim 18 [.l (d.map ent),.zq d.length,.zq ((i:Int)+1),.l (dK (a++jv d[i]))]=_:=ajh d f k m (i+1) (a++jv d[i]) ah (by simp;omega);rw[ZU]at j;have p:(d.drop i).flatMap jv=jv d[i]++(d.drop (i+1)).flatMap jv:=by rw[iR b,kV]
  rw[p,<-List.append_assoc];refine aB ?_;have h:((i:Int)<d.length):=ah;have q:=bH ((i:Int)+1);have e:=Qz (jv d[i]);have r:2*(a.length+(jv d[i]).length)<=281474976710656/\a.length+(jv d[i]).length<=281474976710656:=ah;have s:GV.g [GV.s d[i].1,GV.s d[i].2]=ent d[i]:=rfl;simp[-List.all_eq_true,h,b,s,n,e,r,q,j]
def DN(d:List dS)(a:jf d=true):TT.lim 13 [.l (d.map ent)]=some [.s (dN d)]:=by unfold jf at a;rw[aO,decide_eq_true_iff]at a;have k:=zY d.length ah;have i:=nY (n:=d.length) ah;have w1:=jV ((d.length:Int));have b:TT.lim 18 [.l (d.map ent),.zq d.length,.zq 0,.l (dK (aS d.length))]=_:=ajh d a.1 a.2 d.length 0 (aS d.length) ah ah;rw[dY]at b;have f:2*(aS d.length).length<=281474976710656/\(aS d.length).length<=281474976710656:=ah;have c:=Qz (aS d.length);have g:=aaO d a.1;have h:(aS d.length).length+(List.flatMap jv d).length<=281474976710656:=ah;have e:=ZX (aS d.length++d.flatMap jv);refine aW ?_;unfold dN;generalize d.flatMap jv=j at *;simp[-List.all_eq_true,w1,k,f,c,b,h,e]
def atf{x y:dS}{a b:Q0}(h:jv x++a=jv y++b):x=y/\a=b:=by unfold jv at h;simp only[List.append_assoc]at h;obtain⟨c,d⟩:=aed _ _ _ _ h;obtain⟨e,f⟩:=List.append_inj d c;obtain⟨g,i⟩:=aed _ _ _ _ f;obtain⟨j,k⟩:=List.append_inj i g;exact⟨Prod.ext e j,k⟩
def ahz:∀{d e:List dS}{a b:Q0},d.length=e.length->d.flatMap jv++a=e.flatMap jv++b->d=e/\a=b
 |[],[],a,b,_,h=>⟨rfl,by simpa using h⟩
 |x::d,y::e,a,b,c,h=>by simp only[kV,List.append_assoc]at h;obtain⟨h1,f⟩:=atf h;obtain⟨g,i⟩:=ahz (by simpa using c) f;exact⟨by rw[h1,g],i⟩
 |[],_::_,_,_,c,_=>by simp at c
 |_::_,[],_,_,c,_=>by simp at c
def awO{d e:List dS}{a b:Q0}(h:dN d++a=dN e++b):d=e/\a=b:=by unfold dN at h;simp only[List.append_assoc]at h;obtain⟨c,f⟩:=aed _ _ _ _ h;exact ahz c f
def awN{d e:List dS}(h:dN d=dN e):d=e:=(awO (a:=[]) (b:=[]) (by simpa using h)).1
def pF(s:Q0)(lo hi:Int):Int:=if(s.length:Int)<lo then 13 else if hi<(s.length:Int)then 13 else if Lib.validD s=true then 0 else 11
def avh(s:Q0)(h:s.length<=140737488351232):TT.lim 28 [.s s]=some [.b (Lib.validD s)]:=by have a:TT.lim 29 [.s s]=some [.b (Lib.validD s)]:=D7 (Ds:=Ds) (k:=29) (f:=PW) rfl (by simp only[PW];rw[lV]);refine aW ?_;simp[a]
def Hr(s:Q0)(lo hi:Int)(h:s.length<=140737488351232):TT.lim 27 [.s s,.zq lo,.zq hi]=some [.zq (pF s lo hi)]:=by
 have a:=avh s h;refine aW ?_;unfold pF;by_cases b:(s.length:Int)<lo
 ·simp[b]
 ·by_cases c:hi<(s.length:Int)
  ·simp[b,c]
  ·cases d:Lib.validD s<;>rw[d]at a<;>simp[b,c,a,d]
def uT(x:dS):Int:=if pF x.1 1 64≠0 then pF x.1 1 64 else pF x.2 0 256
def ahc(x:dS)(h1:x.1.length<=140737488351232)(b:x.2.length<=140737488351232):TT.lim 53 [ent x]=some [.zq (uT x)]:=by
 have a:=Hr x.1 1 64 h1;have c:=Hr x.2 0 256 b;refine aW ?_;unfold uT;by_cases h:pF x.1 1 64=0
 ·simp[a,h,c]
 ·simp[a,h]
def uQ:Option Q0->List dS->Int
 |_,[]=>0
 |p,x::xs=>if uT x≠0 then uT x else match p with
  |none=>uQ (some x.1) xs
  |some k=>if x.1=k then 14 else if Op.bytesLess x.1 k=true then 7 else uQ (some x.1) xs
def tagged(r:Int):Q1:=if r=0 then[.zq 1]else[.zq 0,.zq r]
def prevK(d:List dS)(i:Nat):Option Q0:=if i=0 then none else(d[i-1]?).map (·.1)
def aji(d:List dS)(o:uF d):∀m i:Nat,i+m=d.length->TT.lim 52 [.l (d.map ent),.zq d.length,.zq i]=some (tagged (uQ (prevK d i) (d.drop i)))
 |0,i,hi=>by have h0:d.drop i=[]:=iK;refine aB ?_;have h:¬((i:Int)<d.length):=ah;simp[h,h0,uQ,tagged]
 |m+1,i,hi=>by
  have a:i<d.length:=ah;have w:=o.2 d[i] (iT a);have g:=ahc d[i] w.1 w.2;have p:TT.lim 52 [.l (d.map ent),.zq d.length,.zq ((i:Int)+1)]=_:=aji d o m (i+1) ah;have r:prevK d (i+1)=some d[i].1:=by unfold prevK;rw[bU];simp[a]
  rw[r]at p;have s:d.drop i=d[i]::d.drop (i+1):=iR a;rw[s];refine aB ?_;have h:((i:Int)<d.length):=ah;have t:=wrap64 (n:=(i:Int)+1) ah (by have:=o.1;omega);have j:GV.g [GV.s d[i].1,GV.s d[i].2]=ent d[i]:=rfl;by_cases k:uT d[i]=0;rotate_left
  ·simp[h,a,j,g,k,uQ,tagged]
  by_cases h0:i=0
  ·subst h0;simp only[tJ,aeD]at t p;simp[h,a,j,g,k,uQ,prevK,t];simpa using p
  ·have b:i-1<d.length:=ah;have l:prevK d i=some d[i-1].1:=by unfold prevK;rw[aj h0];simp[b]
   have c:=wrap64 (n:=(i:Int)-1) ah (by have:=o.1;omega);have e:¬((i:Int)=0):=ah;have y:(0:Int)<=(i:Int)-1:=ah;have u:((i:Int)-1).toNat=i-1:=ah;have f:(1:Int)<=(i:Int):=ah;rw[l];by_cases q:d[i].1=d[i-1].1
   ·have v:(d[i].1=d[i-1].1)=True:=eq_true q;clear q;simp[h,a,j,g,k,e,h0,c,u,b,v,uQ,tagged,f]
   ·cases x:Op.bytesLess d[i].1 d[i-1].1 with
    |true=>simp[h,a,j,g,k,e,h0,c,u,b,q,x,uQ,tagged,f]
    |false=>simp[h,a,j,g,k,e,h0,c,u,b,q,x,uQ,t,p,f]
def yL(d:List dS):Int:=if d.length=0 then 12 else if 16<d.length then 13 else uQ none d
def aga(d:List dS)(i:uF d):TT.lim 51 [.l (d.map ent)]=some [.zq (yL d)]:=by
 have a:TT.lim 52 [.l (d.map ent),.zq d.length,.zq 0]=_:=aji d i d.length 0 ah;have f:prevK d 0=none:=rfl;rw[f,dY]at a;have w1:=I9 (n:=(d.length:Int)) ah (by have:=i.1;omega);refine aW ?_;unfold yL;by_cases e:d.length=0
 ·have b:(d.length:Int)=0:=ah;have:d=[]:=kK e;subst this;simp[IntKind.wrap,IntKind.signed]
 ·have b:¬(d.length:Int)=0:=ah;by_cases g:16<d.length
  ·have c:(16:Int)<(d.length:Int):=ah;simp[w1,e,g,b,c]
  ·have c:¬(16:Int)<(d.length:Int):=ah;by_cases h:uQ none d=0
   ·simp only[tagged,h,if_true]at a;simp[w1,e,g,b,c,a,h]
   ·simp only[tagged,h,if_false]at a;simp[w1,e,g,b,c,a]
def yY(r:Row):Int:=if yL r.1≠0 then yL r.1 else if r.2=0 then 18 else 0
def aoN(r:Row)(b:uF r.1):TT.lim 50 [row r]=some [.zq (yY r)]:=by
 have k:=aga r.1 b;refine aW ?_;unfold yY;by_cases h:yL r.1=0
 ·by_cases a:r.2=0
  ·simp[k,h,a]
  ·simp[k,h,a]
 ·simp[k,h]
def vJ(long:Bool)(r:Row):Bool:=decide (r.1.length<=18)&&jf r.1&&(!long ||decide ((dN r.1).length<=100))
def ajm(l:List Row)(j:Rows l):∀m i:Nat,i+m=l.length->TT.lim 10 [.l (l.map row),.zq l.length,.zq i]=some (if(l.drop i).all (vJ (decide (40<l.length)))=true then[.zq 1]else[.zq 0])
 |0,i,hi=>by have h0:l.drop i=[]:=iK;refine aB ?_;have h:¬((i:Int)<l.length):=ah;simp[h,h0]
 |m+1,i,hi=>by
  have a:i<l.length:=ah;have s:=j.2 l[i] (iT a);have p:TT.lim 10 [.l (l.map row),.zq l.length,.zq ((i:Int)+1)]=_:=ajm l j m (i+1) ah;have k:(l.drop i).all (vJ (decide (40<l.length)))=(vJ (decide (40<l.length)) l[i]&&(l.drop (i+1)).all (vJ (decide (40<l.length)))):=by rw[iR a,uG]
  rw[k];refine aB ?_;have h:((i:Int)<l.length):=ah;have q:=wrap64 (n:=(i:Int)+1) ah (by have:=j.1;omega);have e:=at6 l[i].1 s.1;by_cases t:18<l[i].1.length
  ·have b:(18:Int)<(l[i].1.length:Int):=ah;have:vJ (decide (40<l.length)) l[i]=false:=by unfold vJ;simp;omega
   rw[this];simp[h,a,b]
  have b:¬(18:Int)<(l[i].1.length:Int):=ah;have g:l[i].1.length<=18:=ah;cases f:jf l[i].1 with
  |false=>
   rw[f]at e;have:vJ (decide (40<l.length)) l[i]=false:=by unfold vJ;simp[f]
   rw[this];simp[h,a,b,e]
  |true=>
   rw[f]at e;have r:=DN l[i].1 f;by_cases o:40<l.length
   ·have c:(40:Int)<(l.length:Int):=ah;by_cases u:100<(dN l[i].1).length
    ·have d:(100:Int)<((dN l[i].1).length:Int):=ah;have:vJ (decide (40<l.length)) l[i]=false:=by unfold vJ;simp[o];omega
     rw[this];simp[h,a,b,e,c,r,d]
    ·have d:¬(100:Int)<((dN l[i].1).length:Int):=ah;have:vJ (decide (40<l.length)) l[i]=true:=by unfold vJ;simp[o,f,g];omega
     rw[this,Gw];simp[h,a,b,e,c,r,d,q,p]
   ·have c:¬(40:Int)<(l.length:Int):=ah;have:vJ (decide (40<l.length)) l[i]=true:=by unfold vJ;simp[o,f,g]
    rw[this,Gw];simp[h,a,b,e,c,q,p]
def H9(l:List Row):Bool:=l.all (vJ (decide (40<l.length)))&&decide (l.length<=300)
def atZ(l:List Row)(c:Rows l):TT.lim 9 [.l (l.map row)]=some [.b (H9 l)]:=by
 refine aW ?_;have a:TT.lim 10 [.l (l.map row),.zq l.length,.zq 0]=_:=ajm l c l.length 0 ah;rw[dY]at a;unfold H9;cases b:l.all (vJ (decide (40<l.length)))with
 |false=>rw[b]at a;simp[a]
 |true=>
  rw[b]at a;simp only[if_true]at a;have:(decide ((l.length:Int)<=300))=decide (l.length<=300):=by rw[zx];simp;omega
  simp[a,this]
def atY{l:List Row}(h:H9 l=true):∀r∈l,jf r.1=true:=by unfold H9 at h;rw[aO]at h;intro r a;have:=List.all_eq_true.1 h.1 r a;unfold vJ at this;simp only[aO]at this;exact this.1.2
def Hu(d:List dS)(h:d.length<=40):TT.lim 41 [.l (d.map ent)]=some [.l (d.map ent)]:=by
 refine D7 (Ds:=Ds) (k:=41) (f:=EP 32 2) rfl ?_;have a:(d.map ent).all (GV.gQ 2)=true:=by rw[List.all_eq_true];intro x b;obtain⟨r,_,rfl⟩:=rZ.1 b;rfl
 simp only[EP];rw[au ⟨by rw[gB];omega,a⟩]
abbrev K(r:Row):Q0:=dN r.1
def sF(k:Q0):List Row->Nat
 |[]=>0
 |r::rs=>if Op.bytesLess (K r) k=true then sF k rs+1 else 0
def agY(k:Q0):∀t:List Row,t.drop (sF k t)=t.dropWhile λr=>Op.bytesLess (K r) k
 |[]=>rfl
 |r::rs=>by
  unfold sF;cases h:Op.bytesLess (K r) k with
  |true=>simp[h,agY k rs]
  |false=>simp[h]
def afl(k:Q0):∀t:List Row,sF k t<=t.length
 |[]=>by simp[sF]
 |r::rs=>by unfold sF;have:=afl k rs;split<;>simp;omega
def SE(t:List Row)(i:Nat)(k:GV)(b n j a c:GV):Q1:=match t[i]? with
 |some r=>[.zq 0,.zq i,row r,.l (r.1.map ent),.s (dN r.1)]
 |none=>[.zq 1,.zq i]
def ajk(t:List Row)(p:t.length<=256)(f:∀r∈t,jf r.1=true)(k:Q0)(b n j d e:GV):∀m i:Nat,i+m=t.length->
 TT.lim 65 [.l (t.map row),.zq i,.s k,b,n,j,d,e]=some (SE t (i+sF k (t.drop i)) (.s k) b n j d e)
 |0,i,hi=>by have h0:t.drop i=[]:=iK;have g:t[i]? =none:=xA ah;refine aB ?_;have h:¬((i:Int)<t.length):=ah;simp[h,h0,sF,SE,g]
 |m+1,i,hi=>by
  have a:i<t.length:=ah;have q:TT.lim 65 [.l (t.map row),.zq ((i:Int)+1),.s k,b,n,j,d,e]=_:=ajk t p f k b n j d e m (i+1) ah;have l:=DN t[i].1 (f _ (iT a));have s:sF k (t.drop i)=if Op.bytesLess (K t[i]) k=true then sF k (t.drop (i+1))+1 else 0:=by rw[iR a];rfl
  refine aB ?_;have h:((i:Int)<t.length):=ah;have u:=bH ((i:Int)+1);rw[s];cases o:Op.bytesLess (K t[i]) k with
  |true=>have c:Op.bytesLess (dN t[i].1) k=true:=o;rw[au rfl,(ah:i+(sF k (t.drop (i+1))+1)=i+1+sF k (t.drop (i+1)))];simp[h,a,l,c,u,q]
  |false=>have c:Op.bytesLess (dN t[i].1) k=false:=o;have g:t[i]? =some t[i]:=bZ a;rw[aj aA,pY];simp[h,a,l,c,SE]
def pO:List Row->List Row->Bool
 |_,[]=>true
 |t,r::rs=>match t.drop (sF (K r) t)with
  |[]=>false
  |s::a=>decide (K s=K r)&&decide (r.2<=s.2)&&pO (s::a) rs
def ajj(t b:List Row)(z:t.length<=256)(F:b.length<=256)(o:∀r∈t,jf r.1=true)(A:∀r∈b,jf r.1=true):∀m j i:Nat,j+m=b.length->i<=t.length->
 TT.lim 64 [.l (t.map row),.zq i,.l (b.map row),.zq b.length,.zq j]=some (if pO (t.drop i) (b.drop j)=true then[.zq 1]else[.zq 0])
 |0,j,i,G,hi=>by have h0:b.drop j=[]:=iK;refine aB ?_;have h:¬((j:Int)<b.length):=ah;simp[h,h0,pO]
 |m+1,j,i,G,hi=>by
  have d:j<b.length:=ah;have n:=DN b[j].1 (A _ (iT d));have f:=ajk t z o (dN b[j].1) (.l (b.map row)) (.zq b.length) (.zq j) (.l (b[j].1.map ent)) (.zu b[j].2) (t.length-i) i ah;have p:=afl (dN b[j].1) (t.drop i);rw[fU]at p;have q:b.drop j=b[j]::b.drop (j+1):=iR d
  have u:pO (t.drop i) (b.drop j)=match t.drop (i+sF (dN b[j].1) (t.drop i))with
   |[]=>false
   |s::H=>decide (K s=K b[j])&&decide (b[j].2<=s.2)&&pO (s::H) (b.drop (j+1)):=by
   rw[q];simp only[pO,tK]
  rw[u];generalize I:i+sF (dN b[j].1) (t.drop i)=c at f⊢;have v:c<=t.length:=ah;refine aB ?_;have h:((j:Int)<b.length):=ah;have J:=bH ((j:Int)+1);by_cases a:c<t.length
  ·have g:¬((c:Int)=(t.length:Int)):=ah;have w:t[c]? =some t[c]:=bZ a;have e:t.drop c=t[c]::t.drop (c+1):=iR a;have x:=DN t[c].1 (o _ (iT a));have D:TT.lim 64 [.l (t.map row),.zq c,.l (b.map row),.zq b.length,.zq ((j:Int)+1)]=_:=ajj t b z F o A m (j+1) c ah v;simp only[SE,w]at f;rw[e];rw[e]at D;by_cases y:dN t[c].1=dN b[j].1
   ·have l:(dN t[c].1=dN b[j].1)=True:=eq_true y;clear y;by_cases E:t[c].2<b[j].2
    ·have k:¬b[j].2<=t[c].2:=ah;simp[h,d,n,f,g,a,x,l,E,k]
    ·have k:b[j].2<=t[c].2:=ah;simp[h,d,n,f,g,a,x,l,E,k,J,D]
   ·simp[h,d,n,f,g,a,x,y]
  ·have L:(c:Int)=(t.length:Int):=ah;have w:t[c]? =none:=xA ah;have e:t.drop c=[]:=iK;simp only[SE,w]at f;rw[e];simp[h,d,n,f,L]
def afx(t b:List Row)(c:t.length<=256)(d:b.length<=256)(e:∀r∈t,jf r.1=true)(f:∀r∈b,jf r.1=true):TT.lim 63 [.l (t.map row),.l (b.map row)]=some [.b (pO t b)]:=by have a:TT.lim 64 [.l (t.map row),.zq 0,.l (b.map row),.zq b.length,.zq 0]=_:=ajj t b c d e f b.length 0 0 ah ah;rw[dY,dY]at a;refine aW ?_;cases g:pO t b<;>rw[g]at a<;>simp at a<;>simp[a]
def atj(x y:dS):pV [1,1] [.s x.1,.s x.2] [.s y.1,.s y.2]=some (decide (x=y)):=by simp only[pV,iJ,Uk];congr 1;rw[zx];simp[Prod.ext_iff]
def ajn(d e:List dS)(l:d.length=e.length)(n:d.length<=140737488351232):∀m i:Nat,i+m=d.length->
 TT.lim 76 [.l (d.map ent),.l (e.map ent),.zq d.length,.zq i]=some (if d.drop i=e.drop i then[.zq 1]else[.zq 0])
 |0,i,hi=>by have h0:d.drop i=[]:=iK;have f:e.drop i=[]:=iK;refine aB ?_;have h:¬((i:Int)<d.length):=ah;simp[h,h0,f]
 |m+1,i,hi=>by
  have b:i<d.length:=ah;have a:i<e.length:=ah;have o:TT.lim 76 [.l (d.map ent),.l (e.map ent),.zq d.length,.zq ((i:Int)+1)]=_:=ajn d e l n m (i+1) ah;have j:(d.drop i=e.drop i)↔(d[i]=e[i]/\d.drop (i+1)=e.drop (i+1)):=by rw[iR b,iR a,yA]
  have k:=atj d[i] e[i];refine aB ?_;have h:((i:Int)<d.length):=ah;have p:=bH ((i:Int)+1);by_cases f:d[i]=e[i]
  ·have g:(d.drop i=e.drop i)↔(d.drop (i+1)=e.drop (i+1)):=by rw[j];simp[f]
   have c:pV [1,1] [.s d[i].1,.s d[i].2] [.s e[i].1,.s e[i].2]=some true:=by rw[k];simp[f]
   simp only[g];simp[h,b,a,c,p,o]
  ·have g:¬(d.drop i=e.drop i):=by rw[j];simp[f]
   have c:pV [1,1] [.s d[i].1,.s d[i].2] [.s e[i].1,.s e[i].2]=some false:=by rw[k];simp[f]
   rw[aj g];simp[h,b,a,c]
def ahn(d e:List dS)(f:d.length<=140737488351232)(g:e.length<=140737488351232):TT.lim 75 [.l (d.map ent),.l (e.map ent)]=some [.b (decide (d=e))]:=by
 refine aW ?_;by_cases c:d.length=e.length
 ·have b:(d.length:Int)=(e.length:Int):=ah;have a:TT.lim 76 [.l (d.map ent),.l (e.map ent),.zq d.length,.zq 0]=_:=ajn d e c f d.length 0 ah;rw[dY,dY]at a;by_cases h:d=e
  ·rw[au h]at a;have i:(d=e)=True:=eq_true h;clear h;rw[b]at a;simp[b,a,i]
  ·rw[aj h]at a;rw[b]at a;simp[b,a,h]
 ·have b:¬(d.length:Int)=(e.length:Int):=ah;have h:¬d=e:=λh=>c (by rw[h]);simp[b,c,h]
def aBa(r s:Row)(b:r.1.length<=140737488351232)(a:s.1.length<=140737488351232):TT.lim 74 [row r,row s]=some [.b (decide (r=s))]:=by
 have k:=ahn r.1 s.1 b a;refine aW ?_;by_cases h:r.2=s.2
 ·have:decide (r=s)=decide (r.1=s.1):=by rw[zx];simp[Prod.ext_iff,h]
  rw[this];simp[h,k]
 ·have:decide (r=s)=false:=by rw[decide_eq_false_iff_not];intro e;exact h (by rw[e])
  rw[this];simp[h]
def ajl(a b:List Row)(n:a.length=b.length)(o:a.length<=140737488351232)(h1:∀r∈a,r.1.length<=140737488351232)(j:∀r∈b,r.1.length<=140737488351232):∀m i:Nat,i+m=a.length->
 TT.lim 73 [.l (b.map row),.l (a.map row),.zq a.length,.zq i]=some (if a.drop i=b.drop i then[.zq 1]else[.zq 0])
 |0,i,hi=>by have h0:a.drop i=[]:=iK;have h1:b.drop i=[]:=iK;refine aB ?_;have h:¬((i:Int)<a.length):=ah;simp[h,h0,h1]
 |m+1,i,hi=>by
  have d:i<a.length:=ah;have c:i<b.length:=ah;have p:TT.lim 73 [.l (b.map row),.l (a.map row),.zq a.length,.zq ((i:Int)+1)]=_:=ajl a b n o h1 j m (i+1) ah;have l:(a.drop i=b.drop i)↔(a[i]=b[i]/\a.drop (i+1)=b.drop (i+1)):=by rw[iR d,iR c,yA]
  have k:=aBa a[i] b[i] (h1 _ (iT d)) (j _ (iT c));have r1:GV.g [.l (a[i].1.map ent),.zu a[i].2]=row a[i]:=rfl;have r2:GV.g [.l (b[i].1.map ent),.zu b[i].2]=row b[i]:=rfl;refine aB ?_;have h:((i:Int)<a.length):=ah;have q:=bH ((i:Int)+1);by_cases e:a[i]=b[i]
  ·have f:(a.drop i=b.drop i)↔(a.drop (i+1)=b.drop (i+1)):=by rw[l];simp[e]
   simp only[f];have g:TT.lim 74 [row a[i],row b[i]]=some [.b true]:=by rw[k];simp[e]
   simp[h,d,c,r1,r2,g,q,p]
  ·have f:¬(a.drop i=b.drop i):=by rw[l];simp[e]
   rw[aj f];have g:TT.lim 74 [row a[i],row b[i]]=some [.b false]:=by rw[k];simp[e]
   simp[h,d,c,r1,r2,g]
def aDq(a b:List Row)(g:a.length<=140737488351232)(i:b.length<=140737488351232)(h1:∀r∈a,r.1.length<=140737488351232)(j:∀r∈b,r.1.length<=140737488351232):TT.lim 71 [.l (a.map row),.l (b.map row)]=some [.b (decide (a=b))]:=by
 have e:TT.lim 72 [.l (a.map row),.l (b.map row)]=some [.b (decide (a=b))]:=by
  refine aW ?_;by_cases f:a.length=b.length
  ·have c:(a.length:Int)=(b.length:Int):=ah;have d:TT.lim 73 [.l (b.map row),.l (a.map row),.zq a.length,.zq 0]=_:=ajl a b f g h1 j a.length 0 ah;rw[dY,dY]at d;rw[c]at d;by_cases h:a=b
   ·rw[au h]at d;have k:(a=b)=True:=eq_true h;clear h;simp[c,d,k]
   ·rw[aj h]at d;simp[c,d,h]
  ·have c:¬(a.length:Int)=(b.length:Int):=ah;have h:¬a=b:=λh=>f (by rw[h]);simp[c,f,h]
 refine aW ?_;simp[e]
def Nw(a b:Q0):Op.bytesLess a b=true↔a<b:=by rw[Ny];simp
def kL(l:List Row):Prop:=l.Pairwise λa b=>K a<K b
def Qr:∀(b t:List Row),kL t->kL b->(pO t b=true↔∀r∈b,∃s∈t,K s=K r/\r.2<=s.2)
 |[],t,_,_=>by simp[pO]
 |r::rs,t,F,G=>by
  have o:=jA.1 G;have i:=agY (K r) t;have d:kL (t.drop (sF (K r) t)):=F.sublist (aeM _ _);have c:∀s∈t.drop (sF (K r) t),s∈t:=λs f=>(aeM _ _).subset f;have j:∀(u:List Row),(∀s∈u,s∈t.dropWhile (λx=>Op.bytesLess (K x) (K r))\/K s<K r)->True:=λ_ _=>trivial;have g:∀s∈t,¬K s<K r->s∈t.drop (sF (K r) t):=by
   intro s f w;rw[i];clear j c d i F;induction t with
   |nil=>simp at f
   |cons a t H=>
    rw[List.dropWhile_cons];split
    ·next I=>
     rcases bI.1 f with rfl|f
     ·exact absurd ((Nw _ _).1 I) w
     ·exact H f
    ·exact f
  have k:∀s p,t.drop (sF (K r) t)=s::p->¬K s<K r:=by intro s p e;rw[i]at e;have:=List.head?_dropWhile_not (λx=>Op.bytesLess (K x) (K r)) t;rw[e]at this;simp only[Zi,Option.all_some,yx]at this;intro l;rw[(Nw _ _).2 l]at this;cases this
  unfold pO;cases e:t.drop (sF (K r) t)with
  |nil=>simp only[iZ,false_iff];intro h;obtain⟨s,f,q,_⟩:=h r aA;have:=g s f (by rw[q];exact qZ _);rw[e]at this;simp at this
  |cons s p=>
   simp only[aO,decide_eq_true_iff];rw[e]at d c g;rw[Qr rs (s::p) d o.2];have A:=jA.1 d;constructor
   ·rintro⟨⟨J,L⟩,M⟩ x n
    rcases bI.1 n with rfl|n
    ·exact⟨s,c s aA,J,L⟩
    ·obtain⟨y,D,v⟩:=M x n;exact⟨y,c y D,v⟩
   ·intro h;obtain⟨y,D,q,w⟩:=h r aA;have m:=g y D (by rw[q];exact qZ _);have E:y=s:=by
     rcases bI.1 m with rfl|m
     ·rfl
     ·have:=A.1 y m;rw[q]at this;exact absurd this (k s p e)
    subst E;refine⟨⟨q,w⟩,λx n=>?_⟩;obtain⟨z,N,v,O⟩:=h x (by simp[n]);refine⟨z,g z N ?_,v,O⟩;rw[v];exact λl=>qZ _ (Bq l (o.1 x n))
def an8{a b c:List Row}(d:kL a)(e:kL b)(f:kL c)(h1:pO a b=true)(g:pO b c=true):pO a c=true:=by rw[Qr _ _ d e]at h1;rw[Qr _ _ e f]at g;rw[Qr _ _ d f];intro r h;obtain⟨s,i,j,k⟩:=g r h;obtain⟨u,l,m,n⟩:=h1 s i;exact⟨u,l,m.trans j,xu k n⟩
def alu:∀{a b:List Row},kL a->kL b->(∀r∈a,r∈b)->(∀r∈b,r∈a)->a=b
 |[],[],_,_,_,_=>rfl
 |[],b::_,_,_,_,h=>absurd (h b aA) aA
 |a::_,[],_,_,h,_=>absurd (h a aA) aA
 |x::a,y::b,j,k,h1,i=>by
  have c:=jA.1 j;have d:=jA.1 k;have g:x=y:=by
   rcases bI.1 (h1 x aA)with e|l
   ·exact e
   ·rcases bI.1 (i y aA)with e|m
    ·exact e.symm
    ·exact absurd (Bq (d.1 x l) (c.1 y m)) (qZ _)
  subst g;rw[alu c.2 d.2 (λr f=>?_) (λr f=>?_)]
  ·rcases bI.1 (h1 r (by simp[f]))with e|h
   ·subst e;exact absurd (c.1 _ f) (qZ _)
   ·exact h
  ·rcases bI.1 (i r (by simp[f]))with e|h
   ·subst e;exact absurd (d.1 _ f) (qZ _)
   ·exact h
def aA4{a:List Row}(h:kL a){r s:Row}(d:r∈a)(i:s∈a)(e:K r=K s):r=s:=by
 induction a with
 |nil=>simp at d
 |cons x a j=>
  have b:=jA.1 h;rcases bI.1 d with f|hr1<;>rcases bI.1 i with g|c
  ·rw[f,g]
  ·have:=b.1 s c;rw[<-f,e]at this;exact absurd this (qZ _)
  ·have:=b.1 r hr1;rw[<-g,e]at this;exact absurd this (qZ _)
  ·exact j b.2 hr1 c
def ati{cs:Q1}{r0:Q1}(h:dh.jI [.list true [.str,.str],.int .u64] cs):∃r:Row,(uF r.1/\0<=r.2/\r.2<18446744073709551616)/\GV.g cs=row r:=by
 obtain⟨g,l,rfl,f,h⟩:=rE h;obtain⟨n,l,rfl,i,h⟩:=rE h;obtain rfl:=Oo h;obtain⟨n,rfl,j,k⟩:=Ko i;obtain⟨m,rfl,o,p⟩:=WH f;obtain⟨d,q,rfl⟩:∃d:List dS,(∀x∈d,x.1.length<=140737488351232/\x.2.length<=140737488351232)/\m=d.map ent:=RS λx t=>by
  obtain⟨c,v⟩:=p x t;cases x<;>simp[GV.scalar]at v
  obtain⟨a,l,e,w,c⟩:=rE c;obtain⟨b,l,rfl,y,c⟩:=rE c;obtain rfl:=Oo c;obtain⟨s,rfl,z⟩:=aij w;obtain⟨u,rfl,A⟩:=aij y;simp only[aoL]at e;subst e;exact⟨(s,u),⟨Nat.le_trans z aV,kW A aV⟩,rfl⟩
 exact⟨(d,n),⟨⟨by have:=kW o (by decide:reachBytes<=140737488351232);simpa using this,q⟩,j,k⟩,rfl⟩
def aBe{g:GV}(h:(dh.list true [.list true [.str,.str],.int .u64]).has g):∃l:List Row,Rows l/\g=.l (l.map row):=by
 obtain⟨a,rfl,b,c⟩:=WH h;obtain⟨l,d,rfl⟩:∃l:List Row,(∀r∈l,uF r.1/\0<=r.2/\r.2<18446744073709551616)/\a=l.map row:=RS λx f=>by
  obtain⟨i,j⟩:=c x f;cases x<;>simp[GV.scalar]at j
  obtain⟨r,k,e⟩:=ati (r0:=[]) i;exact⟨r,k,e⟩
 exact⟨l,⟨by have:=kW b (by decide:reachBytes<=140737488351232);simpa using this,d⟩,rfl⟩
def wK:Option Q0->List Row->Int
 |_,[]=>0
 |p,r::rs=>if yY r≠0 then yY r else match p with
  |none=>wK (some (K r)) rs
  |some k=>if K r=k then 14 else if Op.bytesLess (K r) k=true then 7 else wK (some (K r)) rs
def ajo(t:List Row)(k:Rows t)(q:∀r∈t,jf r.1=true):∀(m i:Nat)(p:Q0),i+m=t.length->
 TT.lim 49 [.s p,.l (t.map row),.zq t.length,.zq i]=some (tagged (wK (if i=0 then none else some p) (t.drop i)))
 |0,i,p,hi=>by have h0:t.drop i=[]:=iK;refine aB ?_;have h:¬((i:Int)<t.length):=ah;simp[h,h0,wK,tagged]
 |m+1,i,p,hi=>by
  have a:i<t.length:=ah;have u:=k.2 t[i] (iT a);have c:=aoN t[i] u.1;have f:=DN t[i].1 (q _ (iT a));have b:GV.g [.l (t[i].1.map ent),.zu t[i].2]=row t[i]:=rfl;have g:TT.lim 49 [.s (dN t[i].1),.l (t.map row),.zq t.length,.zq ((i:Int)+1)]=_:=ajo t k q m (i+1) (dN t[i].1) ah;rw[bU]at g;rw[iR a];refine aB ?_;have h:((i:Int)<t.length):=ah;have l:=wrap64 (n:=(i:Int)+1) ah (by have:=k.1;omega);by_cases e:yY t[i]=0;rotate_left
  ·simp[-List.getElem_cons_drop,h,a,b,c,e,wK,tagged]
  by_cases h0:i=0
  ·subst h0;simp only[tJ,aeD]at l g;simp[-List.getElem_cons_drop,h,a,b,c,e,f,l,wK];have v:(0:Int)<(t.length:Int):=ah;simpa using g
  ·have d:0<i:=ah;by_cases j:dN t[i].1=p
   ·have o:(dN t[i].1=p)=True:=eq_true j;clear j;simp[-List.getElem_cons_drop,h,a,b,c,e,f,d,h0,o,wK,tagged]
   ·cases s:Op.bytesLess (dN t[i].1) p with
    |true=>simp[-List.getElem_cons_drop,h,a,b,c,e,f,d,h0,j,s,wK,tagged]
    |false=>simp[-List.getElem_cons_drop,h,a,b,c,e,f,d,h0,j,s,l,g,wK]
def nN(t:List Row):Int:=if 256<t.length then 13 else wK none t
def Vs(t:List Row)(e:Rows t)(f:∀r∈t,jf r.1=true):TT.lim 48 [.l (t.map row)]=some [.zq (nN t)]:=by
 have a:TT.lim 49 [.s [],.l (t.map row),.zq t.length,.zq 0]=_:=ajo t e f t.length 0 [] ah;rw[au rfl,dY]at a;refine aW ?_;unfold nN;by_cases d:256<t.length
 ·have b:(256:Int)<(t.length:Int):=ah;simp[d,b]
 ·have b:¬(256:Int)<(t.length:Int):=ah;by_cases c:wK none t=0
  ·simp only[tagged,c,if_true]at a;simp[d,b,a,c]
  ·simp only[tagged,c,if_false]at a;simp[d,b,a,c]
def agf:∀{t:List Row}(p:Option Q0),kL t->(∀r∈t,yY r=0)->(∀k,p=some k->∀r∈t,k<K r)->wK p t=0
 |[],p,_,_,_=>by cases p<;>rfl
 |r::t,p,g,d,h=>by
  have a:=jA.1 g;have f:=agf (t:=t) (some (K r)) a.2 (λx c=>d x (by simp[c])) (λk b x c=>by cases b;exact a.1 x c);unfold wK;rw[aj (by simp[d r aA])];cases p with
  |none=>exact f
  |some k=>
   have b:=h k rfl r aA;have i:¬K r=k:=λe=>by rw[e]at b;exact qZ _ b
   have j:¬Op.bytesLess (K r) k=true:=λe=>qZ _ (Bq b ((Nw _ _).1 e));simp only;rw[aj i,aj j];exact f
def Rows.perm{l m:List Row}(h:l.Perm m)(a:Rows l):Rows m:=⟨by rw[<-h.length_eq];exact a.1,λr b=>a.2 r (h.mem_iff.2 b)⟩
def cmpK(a b:Q0):Int:=if a<b then -1 else if b<a then 1 else 0
def agw:∀a b:Q0,Lib.compareBytes a b=cmpK a b
 |[],[]=>by simp[Lib.compareBytes,cmpK]
 |[],_::_=>by simp[Lib.compareBytes,cmpK]
 |_::_,[]=>by simp[Lib.compareBytes,cmpK]
 |x::a,y::b=>by
  unfold Lib.compareBytes;rw[agw a b];unfold cmpK;simp only[aeJ];by_cases h1:x<y
  ·simp[h1]
  ·by_cases c:y<x
   ·have d:¬x=y:=λe=>by subst e;exact UInt8.lt_irrefl _ c
    simp[h1,c,d]
   ·have f:x=y:=UInt8.le_antisymm (UInt8.not_lt.1 c) (UInt8.not_lt.1 h1);subst f;simp[UInt8.lt_irrefl]
def ao6(a b:Q0):aai a b=cmpK a b:=(Lib.cmp_eq _ _).trans (agw a b)
def ao5(a b:Q0):TT.lim 58 [.s a,.s b]=some [.zq (cmpK a b)]:=D7 rfl (by rw[<-ao6];rfl)
def agk(d e:List dS)(a:jf d=true)(b:jf e=true):TT.lim 57 [.l (d.map ent),.l (e.map ent)]=some [.zq (cmpK (dN d) (dN e))]:=by have c:=DN d a;have f:=DN e b;have g:=ao5 (dN d) (dN e);refine aW ?_;simp[c,f,g]
def anO(x y:Int)(h1:0<=x)(a:0<=y):TT.lim 59 [.zu x,.zu y,.zu 0]=some [.zu ((x+y)%18446744073709551616),.zu ((x+y)/18446744073709551616)]:=D7 rfl (by unfold Qm;simp only;rw[au ⟨h1,a,ah,ah⟩];simp only[Int.add_zero])
def val:List Row->List UInt8->Int
 |[],_=>0
 |r::rs,k=>if K r=k then r.2 else val rs k
def Pos(t:List Row):Prop:=∀r∈t,0<r.2/\r.2<18446744073709551616
def Ub:∀{t:List Row}{k:Q0},(∀r∈t,K r≠k)->val t k=0
 |[],_,_=>rfl
 |r::t,k,h=>by unfold val;rw[aj (h r aA)];exact Ub λx a=>h x (by simp[a])
def amW:∀{t:List Row},kL t->∀r∈t,val t (K r)=r.2
 |[],_,r,h=>by simp at h
 |x::t,b,r,h=>by
  have a:=jA.1 b;unfold val;rcases bI.1 h with rfl|h
  ·rw[au rfl]
  ·rw[aj λe=>by have:=a.1 r h;rw[e]at this;exact qZ _ this];exact amW a.2 r h
def ad9:∀(t:List Row)(k:Q0),(∃r∈t,K r=k/\val t k=r.2)\/((∀r∈t,K r≠k)/\val t k=0)
 |[],k=>.inr ⟨aA,rfl⟩
 |x::t,k=>by
  unfold val;by_cases h:K x=k
  ·exact .inl ⟨x,aA,h,by rw[au h]⟩
  ·rw[aj h];rcases ad9 t k with⟨r,h1,a,c⟩|⟨h1,a⟩
   ·exact .inl ⟨r,by simp[h1],a,c⟩
   ·refine .inr ⟨λr b=>?_,a⟩;rcases bI.1 b with rfl|b
    ·exact h
    ·exact h1 r b
def aFw{t:List Row}(b:Pos t)(k:Q0):0<=val t k/\val t k<18446744073709551616:=by
 rcases ad9 t k with⟨r,a,c,d⟩|⟨a,c⟩
 ·have:=b r a;omega
 ·omega
def aFx{t:List Row}(b:Pos t){k:Q0}(h:0<val t k):∃r∈t,K r=k/\val t k=r.2:=by
 rcases ad9 t k with a|⟨a,c⟩
 ·exact a
 ·omega
def aFv{a b:List Row}(c:kL a)(e:kL b)(pa:Pos a)(f:Pos b)(h:∀k,val a k=val b k):a=b:=by
 have d:∀{a b:List Row},kL a->kL b->Pos a->Pos b->(∀k,val a k=val b k)->∀r∈a,r∈b:=by intro a b c e pa f h r g;have i:=amW c r g;have n:=(pa r g).1;obtain⟨s,j,l,m⟩:=aFx f (k:=K r) (by rw[<-h];omega);have:s=r:=Jp (awN l) (by rw[<-m,<-h,i]);rw[<-this];exact j
 exact alu c e (d c e pa f h) (d e c f pa λk=>(h k).symm)
def iC:List Row->List Row->Option (List Row)
 |[],b=>some b
 |x::a,[]=>some (x::a)
 |x::a,y::b=>
  if K x<K y then(iC a (y::b)).map (x::·)
  else if K y<K x then(iC (x::a) b).map (y::·)
  else if x.2+y.2<18446744073709551616 then(iC a b).map ((x.1,x.2+y.2)::·)else none
termination_by a b=>a.length+b.length
def Keys(a b m:List Row):Prop:=∀r∈m,∃s,(s∈a\/s∈b)/\s.1=r.1
def Si:∀(a b:List Row){m:List Row},kL a->kL b->Pos a->Pos b->iC a b=some m->kL m/\(∀k,val m k=val a k+val b k)/\Keys a b m/\Pos m:=by
 intro a b;induction a,b using iC.induct with
 |case1 b=>intro m o p l n h;rw[iC]at h;cases h;exact⟨p,λk=>by simp[val],λr c=>⟨r,.inr c,rfl⟩,n⟩
 |case2 x a=>intro m o p l n h;rw[iC]at h;cases h;exact⟨o,λk=>by simp[val],λr c=>⟨r,.inl c,rfl⟩,l⟩
 |case3 x a y b f v=>
  intro m o p l n h;rw[iC,au f]at h;obtain⟨w,z,rfl⟩:=bJ.1 h;have i:=jA.1 o;have j:=jA.1 p;obtain⟨A,D,q,E⟩:=v i.2 p (λr c=>l r (by simp[c])) n z;have u:∀s,s∈a\/s∈y::b->K x<K s:=by
   rintro s (d|d)
   ·exact i.1 s d
   ·rcases bI.1 d with rfl|d
    ·exact f
    ·exact Bq f (j.1 s d)
  refine⟨List.Pairwise.cons (λr c=>?_) A,λk=>?_,λr c=>?_,λr c=>?_⟩
  ·obtain⟨s,d,e⟩:=q r c;have:=u s d;show K x<dN r.1
   rw[<-e];exact this
  ·show(if K x=k then x.2 else val w k)=(if K x=k then x.2 else val a k)+val (y::b) k
   split
   ·next e=>
    rw[Ub (t:=y::b) λr c F=>by have:=u r (.inr c);rw[e,F]at this;exact qZ _ this];omega
   ·exact D k
  ·rcases bI.1 c with rfl|c
   ·exact⟨r,.inl aA,rfl⟩
   ·obtain⟨s,d,e⟩:=q r c;exact⟨s,d.imp (λh=>by simp[h]) id,e⟩
  ·rcases bI.1 c with rfl|c
   ·exact l r aA
   ·exact E r c
 |case4 x a y b f g v=>
  intro m o p l n h;rw[iC,aj f,au g]at h;obtain⟨w,z,rfl⟩:=bJ.1 h;have i:=jA.1 o;have j:=jA.1 p;obtain⟨A,D,q,E⟩:=v o j.2 l (λr c=>n r (by simp[c])) z;have u:∀s,s∈x::a\/s∈b->K y<K s:=by
   rintro s (d|d)
   ·rcases bI.1 d with rfl|d
    ·exact g
    ·exact Bq g (i.1 s d)
   ·exact j.1 s d
  refine⟨List.Pairwise.cons (λr c=>?_) A,λk=>?_,λr c=>?_,λr c=>?_⟩
  ·obtain⟨s,d,e⟩:=q r c;have:=u s d;show K y<dN r.1
   rw[<-e];exact this
  ·show(if K y=k then y.2 else val w k)=val (x::a) k+(if K y=k then y.2 else val b k)
   split
   ·next e=>
    rw[Ub (t:=x::a) λr c F=>by have:=u r (.inl c);rw[e,F]at this;exact qZ _ this];omega
   ·exact D k
  ·rcases bI.1 c with rfl|c
   ·exact⟨r,.inr aA,rfl⟩
   ·obtain⟨s,d,e⟩:=q r c;exact⟨s,d.imp id (λh=>by simp[h]),e⟩
  ·rcases bI.1 c with rfl|c
   ·exact n r aA
   ·exact E r c
 |case5 x a y b f g d v=>
  intro m o p l n h;rw[iC,aj f,aj g,au d]at h;obtain⟨w,z,rfl⟩:=bJ.1 h;have i:=jA.1 o;have j:=jA.1 p;have G:K x=K y:=Ur (Dc.1 g) (Dc.1 f);obtain⟨A,D,q,E⟩:=v i.2 j.2 (λr c=>l r (by simp[c])) (λr c=>n r (by simp[c])) z;have u:∀s,s∈a\/s∈b->K x<K s:=by
   rintro s (d|d)
   ·exact i.1 s d
   ·rw[G];exact j.1 s d
  refine⟨List.Pairwise.cons (λr c=>?_) A,λk=>?_,λr c=>?_,λr c=>?_⟩
  ·obtain⟨s,d,e⟩:=q r c;have:=u s d;show dN x.1<dN r.1
   rw[<-e];exact this
  ·show(if K x=k then x.2+y.2 else val w k)=(if K x=k then x.2 else val a k)+(if K y=k then y.2 else val b k)
   rw[G];split
   ·rfl
   ·exact D k
  ·rcases bI.1 c with rfl|c
   ·exact⟨x,.inl aA,rfl⟩
   ·obtain⟨s,d,e⟩:=q r c;exact⟨s,d.imp (λh=>by simp[h]) (λh=>by simp[h]),e⟩
  ·rcases bI.1 c with rfl|c
   ·have H:=l x aA;have I:=n y aA;exact⟨by simp only;omega,d⟩
   ·exact E r c
 |case6 x a y b f g d=>intro m o p l n h;rw[iC,aj f,aj g,aj d]at h;cases h
def L8{t:List Row}{k:Q0}(h:∀r∈t,k<K r):val t k=0:=Ub λr a e=>by have:=h r a;rw[e]at this;exact qZ _ this
def axH:∀(a b:List Row),kL a->kL b->iC a b=none->∃k,18446744073709551616<=val a k+val b k:=by
 intro a b;induction a,b using iC.induct with
 |case1 b=>intro i j h;rw[iC]at h;cases h
 |case2 x a=>intro i j h;rw[iC]at h;cases h
 |case3 x a y b c n=>
  intro i j h;rw[iC,au c]at h;have f:=jA.1 i;have g:=jA.1 j;obtain⟨k,m⟩:=n f.2 j (ae6.1 h);refine⟨k,?_⟩;by_cases e:K x=k
  ·exfalso;subst e;rw[L8 f.1,L8 (t:=y::b) λr l=>?_]at m
   ·omega
   ·rcases bI.1 l with rfl|l
    ·exact c
    ·exact Bq c (g.1 r l)
  ·show _<=(if K x=k then x.2 else val a k)+_
   rw[aj e];exact m
 |case4 x a y b c d n=>
  intro i j h;rw[iC,aj c,au d]at h;have f:=jA.1 i;have g:=jA.1 j;obtain⟨k,m⟩:=n i g.2 (ae6.1 h);refine⟨k,?_⟩;by_cases e:K y=k
  ·exfalso;subst e;rw[L8 g.1,L8 (t:=x::a) λr l=>?_]at m
   ·omega
   ·rcases bI.1 l with rfl|l
    ·exact d
    ·exact Bq d (f.1 r l)
  ·show _<=_+(if K y=k then y.2 else val b k)
   rw[aj e];exact m
 |case5 x a y b c d p n=>
  intro i j h;rw[iC,aj c,aj d,au p]at h;have f:=jA.1 i;have g:=jA.1 j;have o:K x=K y:=Ur (Dc.1 d) (Dc.1 c);obtain⟨k,m⟩:=n f.2 g.2 (ae6.1 h);refine⟨k,?_⟩;by_cases e:K x=k
  ·exfalso;subst e;rw[L8 f.1,L8 (t:=b) λr l=>by rw[o];exact g.1 r l]at m;omega
  ·show _<=(if K x=k then x.2 else val a k)+(if K y=k then y.2 else val b k)
   rw[aj e,<-o,aj e];exact m
 |case6 x a y b c d p=>
  intro i j h;have o:K x=K y:=Ur (Dc.1 d) (Dc.1 c);refine⟨K x,?_⟩;show _<=(if K x=K x then x.2 else val a _)+(if K y=K x then y.2 else val b _)
  rw[au rfl,au o.symm];omega
def alv:∀{a b:List Row},kL a->kL b->(∀r∈a,∃s∈b,K s=K r)->a.length<=b.length
 |[],_,_,_,_=>vG _
 |_::_,[],_,_,h=>by obtain⟨s,c,_⟩:=h _ (Us ..);simp at c
 |x::a,y::b,l,m,h=>by
  have d:=jA.1 l;have f:=jA.1 m;have i:K y=K x\/K y<K x:=by
   obtain⟨s,c,e⟩:=h x aA;rcases bI.1 c with rfl|c
   ·exact .inl e
   ·right;rw[<-e];exact f.1 s c
  have:=alv d.2 f.2 λr k=>by
   obtain⟨s,c,e⟩:=h r (by simp[k]);rcases bI.1 c with rfl|c
   ·have g:=d.1 r k;rw[<-e]at g;rcases i with j|j
    ·rw[j]at g;exact absurd g (qZ _)
    ·exact absurd (Bq g j) (qZ _)
   ·exact⟨s,c,e⟩
  simp only[iD];omega
def RY(x:GV)(l:List Row)(n:Int)(a:x.cells.length=2)(b:n=l.length+1):OA 2 (some (.l (x::l.map row))) (some (.zq 1)) (some (.zq n))=some (.l (l.map row)):=by
 subst b;rw[nT,au ⟨ah,ah,aA,by rw[uG];simp[a,aBb]⟩]
 ·congr 2;have c:((l.length:Int)+1).toNat=l.length+1:=ah;rw[c,mg aA];rfl
def sZ(a:List Row):Option (List Row)->List GV
 |some m=>[.zq 1,.l ((a++m).map row)]
 |none=>[.zq 0]
def EX{d:List dS}(h:jf d=true):d.length<=40:=by unfold jf at h;simp at h;omega
def ao9{a b:Q0}(h:a<b):cmpK a b = -1:=by unfold cmpK;rw[au h]
def ao8{a b:Q0}(h1:¬a<b)(h:b<a):cmpK a b=1:=by unfold cmpK;rw[aj h1,au h]
def ao7{a b:Q0}(h1:¬a<b)(h:¬b<a):cmpK a b=0:=by unfold cmpK;rw[aj h1,aj h]
def zy(t:List Row):Prop:=∀r∈t,jf r.1=true
set_option maxHeartbeats 4000000 in
def axh:∀(n:Nat)(a b c:List Row),a.length+b.length<=n->c.length+a.length+b.length<=1000->zy a->zy b->(∀r∈a,0<=r.2/\r.2<18446744073709551616)->(∀r∈b,0<=r.2/\r.2<18446744073709551616)->
 TT.lim 56 [.l (a.map row),.l (b.map row),.l (c.map row)]=some (sZ c (iC a b)):=by
 intro n;induction n with
 |zero=>intro a b c A D o p q s;obtain rfl:a=[]:=kK ah;obtain rfl:b=[]:=kK ah;rw[iC];refine aB ?_;simp[sZ]
 |succ n w=>
  intro a b c A D o p q s;cases a with
  |nil=>
   cases b with
   |nil=>rw[iC];refine aB ?_;simp[sZ]
   |cons y b=>simp only[lK,iD,mQ]at A D;have d:=w [] b (c++[y]) (by simp;omega) (by simp;omega) o (λr f=>p r (by simp[f])) q (λr f=>s r (by simp[f]));rw[iC]at d⊢;simp only[sZ,List.append_assoc,MS,oK,iU,jH]at d⊢;have kc:=Hu y.1 (EX (p y aA));have j:GV.g [.l (y.1.map ent),.zu y.2]=row y:=rfl;have g:(row y).gQ 2=true:=rfl;have M:=RY (row y) b ((b.length:Int)+1) rfl rfl;have h:2*(c.length+1)*32<=281474976710656/\c.length+1<=281474976710656:=ah;have t:(0:Int)<(b.length:Int)+1:=ah;have i:¬((b.length:Int)+1=0):=ah;refine aB ?_;simp[-nT,kc,j,g,M,h,t,i,d]
  |cons x a=>
   cases b with
   |nil=>
    simp only[lK,iD,pY]at A D;have d:=w a [] (c++[x]) (by simp;omega) (by simp;omega) (λr f=>o r (by simp[f])) p (λr f=>q r (by simp[f])) s;have R:iC a []=some a:=by cases a<;>rw[iC]
    rw[R]at d;rw[iC];simp only[sZ,List.append_assoc,MS,oK,iU,jH]at d⊢;have kc:=Hu x.1 (EX (o x aA));have j:GV.g [.l (x.1.map ent),.zu x.2]=row x:=rfl;have g:(row x).gQ 2=true:=rfl;have M:=RY (row x) a ((a.length:Int)+1) rfl rfl;have h:2*(c.length+1)*32<=281474976710656/\c.length+1<=281474976710656:=ah;have t:(0:Int)<(a.length:Int)+1:=ah;have i:¬((a.length:Int)+1=0):=ah;refine aB ?_;simp[-nT,kc,j,g,M,h,t,i,d]
   |cons y b=>
    simp only[iD]at A D;have O:=o x aA;have P:=p y aA;have E:=Hu x.1 (EX O);have F:=Hu y.1 (EX P);have k:GV.g [.l (x.1.map ent),.zu x.2]=row x:=rfl;have G:GV.g [.l (y.1.map ent),.zu y.2]=row y:=rfl;have N:GV.g [.l (x.1.map ent),.zu (x.2+y.2)]=row (x.1,x.2+y.2):=rfl;have g:∀r:Row,(row r).gQ 2=true:=λr=>rfl;have l:=RY (row x) a ((a.length:Int)+1) rfl rfl;have H:=RY (row y) b ((b.length:Int)+1) rfl rfl;have h:2*(c.length+1)*32<=281474976710656/\c.length+1<=281474976710656:=ah;have t:(0:Int)<(a.length:Int)+1:=ah;have i:¬((a.length:Int)+1=0):=ah;have I:(0:Int)<(b.length:Int)+1:=ah;have m:¬((b.length:Int)+1=0):=ah;have u:=agk x.1 y.1 O P;have J:=anO x.2 y.2 (q x aA).1 (s y aA).1;have S:=q x aA;have T:=s y aA;by_cases v:K x<K y
    ·have d:=w a (y::b) (c++[x]) (by simp;omega) (by simp;omega) (λr f=>o r (by simp[f])) p (λr f=>q r (by simp[f])) s;rw[iC,au v];rw[ao9 v]at u;have e:sZ (c++[x]) (iC a (y::b))=sZ c ((iC a (y::b)).map (x::·)):=by cases iC a (y::b)<;>simp[sZ]
     rw[e]at d;generalize sZ c ((iC a (y::b)).map (x::·))=z at d⊢;simp only[oK,iU,jH]at d;refine aB ?_;simp[-nT,E,F,k,G,g,l,H,h,t,i,I,m,u,d]
    by_cases L:K y<K x
    ·have d:=w (x::a) b (c++[y]) (by simp;omega) (by simp;omega) o (λr f=>p r (by simp[f])) q (λr f=>s r (by simp[f]));rw[iC,aj v,au L];rw[ao8 v L]at u;have e:sZ (c++[y]) (iC (x::a) b)=sZ c ((iC (x::a) b).map (y::·)):=by cases iC (x::a) b<;>simp[sZ]
     rw[e]at d;generalize sZ c ((iC (x::a) b).map (y::·))=z at d⊢;simp only[oK,iU,jH]at d;refine aB ?_;simp[-nT,E,F,k,G,g,l,H,h,t,i,I,m,u,d]
    rw[iC,aj v,aj L];rw[ao7 v L]at u;by_cases Q:x.2+y.2<18446744073709551616
    ·have d:=w a b (c++[(x.1,x.2+y.2)]) ah (by simp;omega) (λr f=>o r (by simp[f])) (λr f=>p r (by simp[f])) (λr f=>q r (by simp[f])) (λr f=>s r (by simp[f]));rw[au Q];have e:sZ (c++[(x.1,x.2+y.2)]) (iC a b)=sZ c ((iC a b).map ((x.1,x.2+y.2)::·)):=by cases iC a b<;>simp[sZ]
     rw[e]at d;generalize sZ c ((iC a b).map ((x.1,x.2+y.2)::·))=z at d⊢;simp only[oK,iU,jH]at d;rw[(ah:(x.2+y.2)%18446744073709551616=x.2+y.2),(ah:(x.2+y.2)/18446744073709551616=0)]at J;refine aB ?_;simp[-nT,E,F,k,G,N,g,l,H,h,t,i,I,m,u,J,d]
    ·rw[aj Q];rw[(ah:(x.2+y.2)/18446744073709551616=1)]at J;refine aB ?_;simp[-nT,E,F,k,G,g,l,H,h,t,i,I,m,u,J,sZ]
def Ok(t:List Row):Prop:=t.length<=256/\kL t/\∀r∈t,yY r=0
def agd:∀{t:List Row}(p:Option Q0),wK p t=0->kL t/\(∀r∈t,yY r=0)/\∀k,p=some k->∀r∈t,k<K r
 |[],p,_=>⟨List.Pairwise.nil,aA,aA⟩
 |r::t,p,h=>by
  unfold wK at h;by_cases h1:yY r=0;rotate_left
  ·rw[au h1]at h;exact absurd h h1
  rw[aj (by simp[h1])]at h;have a:∀(h:wK (some (K r)) t=0),kL (r::t)/\∀x∈r::t,yY x=0:=by
   intro h;obtain⟨d,f,g⟩:=agd (some (K r)) h;refine⟨List.Pairwise.cons (g _ rfl) d,λx b=>?_⟩;rcases bI.1 b with rfl|b
   ·exact h1
   ·exact f x b
  cases p with
  |none=>exact⟨(a h).1,(a h).2,aA⟩
  |some k=>
   simp only at h;split at h
   ·cases h
   next i=>
   split at h
   ·cases h
   next j=>
   refine⟨(a h).1,(a h).2,?_⟩;rintro _ ⟨⟩ x b
   have c:k<K r:=by
    rcases List.le_iff_lt_or_eq.1 (Dc.1 λe=>j ((Nw _ _).2 e))with e|e
    ·exact e
    ·exact absurd e.symm i
   rcases bI.1 b with rfl|b
   ·exact c
   ·exact Bq c ((jA.1 (a h).1).1 x b)
def vI(t:List Row):nN t=0↔Ok t:=by
 unfold nN Ok;constructor
 ·intro h;split at h
  ·cases h
  ·obtain⟨b,a,_⟩:=agd none h;exact⟨ah,b,a⟩
 ·rintro⟨b,a,c⟩
  rw[bU];exact agf none a c aA
def Pg(r:Row):yY r=0↔yL r.1=0/\r.2≠0:=by
 unfold yY;by_cases h:yL r.1=0
 ·simp[h]
 ·simp[h]
structure Tb(t:List Row):Prop where
 ok:Ok t
 rows:Rows t
 few:zy t
def Tb.pos{t:List Row}(h:Tb t):Pos t:=λr a=>by have b:=((Pg r).1 (h.ok.2.2 r a)).2;have c:=(h.rows.2 r a).2;omega
def Tb.rise{t:List Row}(h:Tb t):kL t:=h.ok.2.1
def CW:Tb []:=⟨⟨aA,List.Pairwise.nil,aA⟩,⟨aA,aA⟩,λr a=>by simp at a⟩
def amB{a b m:List Row}(f:Tb a)(g:Tb b)(i:m.length<=256)(c:kL m)(j:Keys a b m)(h:Pos m):Tb m:=by
 have src:∀r∈m,yL r.1=0/\uF r.1/\jf r.1=true:=by
  intro r c;obtain⟨s,d,e⟩:=j r c;rw[<-e];rcases d with d|d
  ·exact⟨((Pg s).1 (f.ok.2.2 s d)).1,(f.rows.2 s d).1,f.few s d⟩
  ·exact⟨((Pg s).1 (g.ok.2.2 s d)).1,(g.rows.2 s d).1,g.few s d⟩
 refine⟨⟨i,c,λr c=>(Pg r).2 ⟨(src r c).1,by have:=h r c;omega⟩⟩,⟨ah,λr c=>⟨(src r c).2.1,?_⟩⟩,λr c=>(src r c).2.2⟩;have:=h r c;omega
def tog(a b:List Row):List Row×Int:=match iC a b with
 |none=>([],3)
 |some m=>if 256<m.length then([],13)else(m,0)
structure eF(t:List Row):Prop where
 len:t.length<=300
 few:zy t
 rows:Rows t
def Tb.good{t:List Row}(h:Tb t):eF t:=⟨Nat.le_trans h.ok.1 aV,h.few,h.rows⟩
def aE6(a b:List Row)(d:eF a)(e:eF b):TT.lim 55 [.l (a.map row),.l (b.map row)]=some [.l ((tog a b).1.map row),.zq (tog a b).2]:=by
 have k:=axh (a.length+b.length) a b [] (dP _) (by have:=d.len;have:=e.len;simp;omega) d.few e.few (λr f=>(d.rows.2 r f).2) (λr f=>(e.rows.2 r f).2);have n:=d.len;have o:=e.len;have g:=bH ((a.length:Int)+(b.length:Int));have c:(GV.g [.l [],.zu 0]).gQ 2=true:=rfl;have i:(0:Int)<=(a.length:Int)+(b.length:Int)/\32*((a.length:Int)+(b.length:Int))<=281474976710656/\(a.length:Int)+(b.length:Int)<=1152921504606846976:=ah;unfold tog;cases l:iC a b with
 |none=>rw[l]at k;simp only[sZ,jH]at k;refine aW ?_;simp[g,c,i,k]
 |some m=>
  rw[l]at k;simp only[sZ,jH,aX]at k;by_cases h:256<m.length
  ·have j:(256:Int)<(m.length:Int):=ah;refine aW ?_;simp[g,c,i,k,h,j]
  ·have j:¬(256:Int)<(m.length:Int):=ah;simp only[aj h];refine aW ?_;simp[g,c,i,k,j]
def aE3{a b:List Row}(c:Tb a)(d:Tb b)(h:(tog a b).2=0):Tb (tog a b).1/\∀k,val (tog a b).1 k=val a k+val b k:=by
 unfold tog at h⊢;cases e:iC a b with
 |none=>rw[e]at h;cases h
 |some m=>
  rw[e]at h;simp only at h⊢;split at h
  ·cases h
  next f=>
  rw[aj f];obtain⟨g,i,j,l⟩:=Si a b c.rise d.rise c.pos d.pos e;exact⟨amB c d (Nat.not_lt.1 f) g j l,i⟩
def aE5{a b c d:List Row}(g:Tb a)(i:Tb b)(e:Tb c)(f:Tb d)(h:∀k,val a k+val b k=val c k+val d k):tog a b=tog c d:=by
 have l:∀{a b c d:List Row},Tb a->Tb b->Tb c->Tb d->(∀k,val a k+val b k=val c k+val d k)->iC a b=none->∀m,iC c d=some m->False:=by intro a b c d g i e f h n m j;obtain⟨k,u⟩:=axH a b g.rise i.rise n;obtain⟨_,o,_,p⟩:=Si c d e.rise f.rise e.pos f.pos j;have:=aFw p k;rw[o,<-h]at this;omega
 unfold tog;cases n:iC a b with
 |none=>
  cases j:iC c d with
  |none=>rfl
  |some m=>exact(l g i e f h n m j).elim
 |some m=>
  cases j:iC c d with
  |none=>exact(l e f g i (λk=>(h k).symm) j m n).elim
  |some v=>obtain⟨q,r,_,s⟩:=Si a b g.rise i.rise g.pos i.pos n;obtain⟨t,o,_,p⟩:=Si c d e.rise f.rise e.pos f.pos j;rw[aFv q t s p λk=>by rw[r,o,h]]
abbrev Dl:=Int×Int×List Row
def dl(d:Dl):GV:=.g [.zu d.1,.zu d.2.1,.l (d.2.2.map row)]
@[simp] theorem aGT(d:Dl):(dl d).cells=[.zu d.1,.zu d.2.1,.l (d.2.2.map row)]:=rfl
@[simp] theorem aGU(d:Dl):(dl d).scalar=false:=rfl
def zD:Dl:=(0,0,[])
def zO(d:Dl):Int:=if d.2.1<=d.1 then 20 else nN d.2.2
def aoO(d:Dl)(h:eF d.2.2):TT.lim 54 [dl d]=some [.zq (zO d)]:=by
 have k:=Vs d.2.2 h.rows h.few;unfold zO;refine aW ?_;by_cases a:d.2.1<=d.1
 ·simp[a]
 ·simp[a,k]
def agc{d:Dl}(h:zO d=0):d.1<d.2.1/\Ok d.2.2:=by
 unfold zO at h;split at h
 ·cases h
 ·exact⟨ah,(vI _).1 h⟩
def aoS{d:Dl}(h1:d.1<d.2.1)(a:Ok d.2.2):zO d=0:=by unfold zO;rw[bU];exact(vI _).2 a
def eF.tb{t:List Row}(h:eF t)(a:Ok t):Tb t:=⟨a,h.rows,h.few⟩
def ahY{l:List Row}(a:Rows l)(h:H9 l=true):eF l:=by refine⟨?_,λr b=>atY h r b,a⟩;unfold H9 at h;rw[aO,decide_eq_true_iff]at h;exact h.2
def alP(a b:List Row)(d:eF a)(e:eF b):TT.lim 71 [.l (a.map row),.l (b.map row)]=some [.b (decide (a=b))]:=
 aDq a b (by have:=d.len;omega) (by have:=e.len;omega) (λr c=>(d.rows.2 r c).1.1) (λr c=>(e.rows.2 r c).1.1)
def jB:List Row->List Row->List Row
 |[],_=>[]
 |r::rs,[]=>if r.2=0 then jB rs []else r::jB rs []
 |r::rs,l::a=>if K l=K r then(if IntKind.u64.wrap (r.2-l.2)=0 then jB rs a else(r.1,IntKind.u64.wrap (r.2-l.2))::jB rs a)else if r.2=0 then jB rs (l::a)else r::jB rs (l::a)
def apb(a:Q0):cmpK a a=0:=by unfold cmpK;simp[qZ]
def apa{a b:Q0}(h:a≠b):cmpK a b≠0:=by
 unfold cmpK;split
 ·omega
 next c=>
 split
 ·omega
 next d=>exact absurd (Ur (Dc.1 d) (Dc.1 c)) h
set_option maxHeartbeats 4000000 in
def abP(t:List Row)(e f:Int)(J:t.length<=300)(H:zy t):∀(m i:Nat)(b a:List Row),i+m=t.length->a.length<=i->zy b->
 TT.lim 87 [.l (b.map row),.l (t.map row),.zq t.length,.zq i,.zu e,.zu f,.l (a.map row)]=some [.zq 0,.l ((a++jB (t.drop i) b).map row)]
 |0,i,b,a,hi,N,o=>by have h0:t.drop i=[]:=iK;refine aB ?_;have h:¬((i:Int)<t.length):=ah;simp[h,h0,jB]
 |m+1,i,b,a,hi,N,o=>by
  have c:i<t.length:=ah;have L:=H t[i] (iT c);have kc:=Hu t[i].1 (EX L);have k:GV.g [.l (t[i].1.map ent),.zu t[i].2]=row t[i]:=rfl;have p:∀r:Row,(row r).gQ 2=true:=λr=>rfl;have q:2*(a.length+1)*32<=281474976710656/\a.length+1<=281474976710656:=ah;have h:((i:Int)<t.length):=ah;have A:=bH ((i:Int)+1);have s:∀j,zy j->TT.lim 87 [.l (j.map row),.l (t.map row),.zq t.length,.zq ((i:Int)+1),.zu e,.zu f,.l (a.map row)]=_:=λj u=>abP t e f J H m (i+1) j a ah ah u;have w:∀j r,zy j->TT.lim 87 [.l (j.map row),.l (t.map row),.zq t.length,.zq ((i:Int)+1),.zu e,.zu f,.l ((a++[r]).map row)]=_:=λj r u=>abP t e f J H m (i+1) j (a++[r]) ah (by simp;omega) u;have I:t.drop i=t[i]::t.drop (i+1):=iR c;rw[I];cases b with
  |nil=>
   by_cases d:t[i].2=0
   ·have g:=s [] o;simp only[jH]at g;simp only[jB];rw[au d];have x:(t[i].2=0)=True:=eq_true d;clear d;refine aB ?_;simp[-List.getElem_cons_drop,h,c,x,A,g]
   ·have g:=w [] t[i] o;simp only[jH,oK,iU]at g;simp only[jB];rw[aj d];refine aB ?_;simp[-List.getElem_cons_drop,h,c,d,A,kc,k,p,q,g]
  |cons l n=>
   have O:=o l aA;have E:zy n:=λr P=>o r (by simp[P]);have M:=RY (row l) n ((n.length:Int)+1) rfl rfl;have F:(0:Int)<(n.length:Int)+1:=ah;have D:=agk l.1 t[i].1 O L;by_cases G:K l=K t[i]
   ·rw[show dN l.1=dN t[i].1 from G,apb]at D;simp only[jB];rw[au G];by_cases d:IntKind.u64.wrap (t[i].2-l.2)=0
    ·have g:=s n E;rw[au d];refine aB ?_;simp[-List.getElem_cons_drop,-nT,h,c,F,D,M,d,A,g]
    ·have g:=w n (t[i].1,IntKind.u64.wrap (t[i].2-l.2)) E;rw[aj d];simp only[jH,oK,iU]at g;have y:GV.g [.l (t[i].1.map ent),.zu (IntKind.u64.wrap (t[i].2-l.2))]=row (t[i].1,IntKind.u64.wrap (t[i].2-l.2)):=rfl;refine aB ?_;simp[-List.getElem_cons_drop,-nT,h,c,F,D,M,d,A,kc,y,p,q,g]
   ·have z:=apa G;generalize cmpK (dN l.1) (dN t[i].1)=v at D z;simp only[jB];rw[aj G];by_cases d:t[i].2=0
    ·have g:=s (l::n) o;simp only[iU]at g;rw[au d];have x:(t[i].2=0)=True:=eq_true d;clear d;refine aB ?_;simp[-List.getElem_cons_drop,-nT,h,c,F,D,z,x,A,g]
    ·have g:=w (l::n) t[i] o;simp only[jH,oK,iU]at g;rw[aj d];refine aB ?_;simp[-List.getElem_cons_drop,-nT,h,c,F,D,z,d,A,kc,k,p,q,g]
def VI:∀(t b:List Row),kL t->kL b->Pos t->Pos b->(∀l∈b,∃r∈t,K r=K l/\l.2<=r.2)->
 kL (jB t b)/\(∀k,val (jB t b) k=val t k-val b k)/\(∀r∈jB t b,∃s∈t,s.1=r.1)/\Pos (jB t b)
 |[],[],_,_,_,_,_=>⟨List.Pairwise.nil,λk=>rfl,by simp[jB],by simp[jB,Pos]⟩
 |[],l::b,_,_,_,_,h=>by obtain⟨r,o,_⟩:=h l aA;simp at o
 |r::t,[],y,z,j,p,h=>by
  have d:=jA.1 y;obtain⟨m,q,f,n⟩:=VI t [] d.2 z (λx a=>j x (by simp[a])) p aA;have o:=j r aA;simp only[jB];rw[bU];refine⟨List.Pairwise.cons (λx a=>?_) m,λk=>?_,λx a=>?_,λx a=>?_⟩
  ·obtain⟨s,c,e⟩:=f x a;show K r<dN x.1
   rw[<-e];exact d.1 s c
  ·show(if K r=k then r.2 else val (jB t []) k)=(if K r=k then r.2 else val t k)-val [] k
   split
   ·simp[val]
   ·exact q k
  ·rcases bI.1 a with rfl|a
   ·exact⟨x,aA,rfl⟩
   ·obtain⟨s,c,e⟩:=f x a;exact⟨s,by simp[c],e⟩
  ·rcases bI.1 a with rfl|a
   ·exact o
   ·exact n x a
 |r::t,l::b,y,z,j,p,h=>by
  have d:=jA.1 y;have g:=jA.1 z;have o:=j r aA;have J:=p l aA;simp only[jB];by_cases i:K l=K r
  ·rw[au i];have F:l.2<=r.2:=by obtain⟨s,c,e,u⟩:=h l aA;have:s=r:=aA4 y c aA (e.trans i);rw[<-this];exact u
   have G:=jV (r.2-l.2);rw[G];obtain⟨m,q,f,n⟩:=VI t b d.2 g.2 (λx a=>j x (by simp[a])) (λx a=>p x (by simp[a])) (λx a=>by
    obtain⟨s,c,e,u⟩:=h x (by simp[a]);rcases bI.1 c with rfl|c
    ·have:=g.1 x a;rw[i,<-e]at this;exact absurd this (qZ _)
    ·exact⟨s,c,e,u⟩)
   have v:∀x∈jB t b,∃s∈r::t,s.1=x.1:=λx a=>by obtain⟨s,c,e⟩:=f x a;exact⟨s,by simp[c],e⟩
   have E:∀k,(if K r=k then r.2-l.2 else val (jB t b) k)=val (r::t) k-val (l::b) k:=λk=>by
    show _=(if K r=k then r.2 else val t k)-(if K l=k then l.2 else val b k)
    rw[i];split
    ·rfl
    ·exact q k
   by_cases A:r.2-l.2=0
   ·rw[au A];refine⟨m,λk=>?_,v,n⟩;rw[<-E k];split
    ·next e=>
     rw[A];subst e;refine L8 λx a=>?_;obtain⟨s,c,e⟩:=f x a;show K r<dN x.1
     rw[<-e];exact d.1 s c
    ·rfl
   ·rw[aj A];refine⟨List.Pairwise.cons (λx a=>?_) m,E,λx a=>?_,λx a=>?_⟩
    ·obtain⟨s,c,e⟩:=f x a;show dN r.1<dN x.1
     rw[<-e];exact d.1 s c
    ·rcases bI.1 a with rfl|a
     ·exact⟨r,aA,rfl⟩
     ·exact v x a
    ·rcases bI.1 a with rfl|a
     ·exact⟨by simp only;omega,by simp only;omega⟩
     ·exact n x a
  ·rw[aj i,bU];have w:∀x∈l::b,∃s∈t,K s=K x/\x.2<=s.2:=by
    have D:K r<K l:=by
     obtain⟨s,c,e,_⟩:=h l aA;rcases bI.1 c with rfl|c
     ·exact absurd e.symm i
     ·rw[<-e];exact d.1 s c
    intro x a;obtain⟨s,c,e,u⟩:=h x a;rcases bI.1 c with rfl|c
    ·exfalso;rcases bI.1 a with rfl|a
     ·exact i e.symm
     ·have:=Bq D (g.1 x a);rw[e]at this;exact qZ _ this
    ·exact⟨s,c,e,u⟩
   obtain⟨m,q,f,n⟩:=VI t (l::b) d.2 z (λx a=>j x (by simp[a])) p w;refine⟨List.Pairwise.cons (λx a=>?_) m,λk=>?_,λx a=>?_,λx a=>?_⟩
   ·obtain⟨s,c,e⟩:=f x a;show K r<dN x.1
    rw[<-e];exact d.1 s c
   ·show(if K r=k then r.2 else val (jB t (l::b)) k)=(if K r=k then r.2 else val t k)-val (l::b) k
    split
    ·next e=>
     rw[Ub (t:=l::b) λx a H=>by obtain⟨s,c,I,_⟩:=w x a;have:=d.1 s c;rw[I,H,e]at this;exact qZ _ this]
     omega
    ·exact q k
   ·rcases bI.1 a with rfl|a
    ·exact⟨x,aA,rfl⟩
    ·obtain⟨s,c,e⟩:=f x a;exact⟨s,by simp[c],e⟩
   ·rcases bI.1 a with rfl|a
    ·exact o
    ·exact n x a
abbrev Sn:=Int×List Row
def sn(s:Sn):GV:=.g [.zu s.1,.l (s.2.map row)]
@[simp] theorem aIv(s:Sn):(sn s).cells=[.zu s.1,.l (s.2.map row)]:=rfl
@[simp] theorem aIw(s:Sn):(sn s).scalar=false:=rfl
def zS:Sn:=(0,[])
def Vt(s:Sn)(h:eF s.2):TT.lim 47 [sn s]=some [.zq (nN s.2)]:=by have k:=Vs s.2 h.rows h.few;refine aW ?_;simp[k]
def qg(s n:Sn):Dl×Int:=
 if nN s.2≠0 then(zD,nN s.2)else if nN n.2≠0 then(zD,nN n.2)else if n.1<=s.1 then(zD,20)
 else if pO n.2 s.2=false then(zD,21)else((s.1,n.1,jB n.2 s.2),0)
def lM(s:Sn)(d:Dl):Sn×Int:=
 if nN s.2≠0 then(zS,nN s.2)else if zO d≠0 then(zS,zO d)else if s.1≠d.1 then(zS,19)
 else if(tog s.2 d.2.2).2≠0 then(zS,(tog s.2 d.2.2).2)else((d.2.1,(tog s.2 d.2.2).1),0)
def asV(s n:Sn)(j:eF s.2)(e:eF n.2):TT.lim 86 [sn s,sn n]=some [dl (qg s n).1,.zq (qg s n).2]:=by
 have b:=Vt s j;have f:=Vt n e;have c:GV.g [.zu s.1,.l (s.2.map row)]=sn s:=rfl;have g:GV.g [.zu n.1,.l (n.2.map row)]=sn n:=rfl;have h:GV.g [.zu 0,.zu 0,.l []]=dl zD:=rfl;have o:GV.g [.zu s.1,.zu n.1,.l ((jB n.2 s.2).map row)]=dl (s.1,n.1,jB n.2 s.2):=rfl;have l:TT.lim 87 [.l (s.2.map row),.l (n.2.map row),.zq n.2.length,.zq 0,.zu s.1,.zu n.1,.l []]=_:=abP n.2 s.1 n.1 e.len e.few n.2.length 0 s.2 [] ah aA j.few;rw[dY,aX]at l;unfold qg;by_cases a:nN s.2=0;rotate_left
 ·refine aW ?_;simp[c,b,a,h]
 by_cases d:nN n.2=0;rotate_left
 ·refine aW ?_;simp[c,b,a,g,f,d,h]
 by_cases k:n.1<=s.1
 ·refine aW ?_;simp[c,b,a,g,f,d,h,k]
 have i:=afx n.2 s.2 ((vI _).1 d).1 ((vI _).1 a).1 e.few j.few;cases m:pO n.2 s.2 with
 |false=>rw[m]at i;refine aW ?_;simp[c,b,a,g,f,d,h,k,i]
 |true=>rw[m]at i;refine aW ?_;simp[c,b,a,g,f,d,o,k,i,l]
def afu(s:Sn)(d:Dl)(k:eF s.2)(l:eF d.2.2):TT.lim 46 [sn s,dl d]=some [sn (lM s d).1,.zq (lM s d).2]:=by
 have a:=Vt s k;have f:=aoO d l;have m:=aE6 _ _ k l;have b:GV.g [.zu s.1,.l (s.2.map row)]=sn s:=rfl;have g:GV.g [.zu d.1,.zu d.2.1,.l (d.2.2.map row)]=dl d:=rfl;have h:GV.g [.zu 0,.l []]=sn zS:=rfl;have o:GV.g [.zu d.2.1,.l ((tog s.2 d.2.2).1.map row)]=sn (d.2.1,(tog s.2 d.2.2).1):=rfl;unfold lM;by_cases c:nN s.2=0;rotate_left
 ·refine aW ?_;simp[b,a,c,h]
 by_cases i:zO d=0;rotate_left
 ·refine aW ?_;simp[b,a,c,g,f,i,h]
 by_cases j:s.1=d.1;rotate_left
 ·refine aW ?_;simp[b,a,c,g,f,i,h,j]
 have e:(s.1=d.1)=True:=eq_true j;clear j;by_cases n:(tog s.2 d.2.2).2=0;rotate_left
 ·refine aW ?_;simp[b,a,c,g,f,i,h,e,m,n]
 ·refine aW ?_;simp[b,a,c,g,f,i,o,e,m,n]
def aay{s n:Sn}(h:(qg s n).2=0):Ok s.2/\Ok n.2/\s.1<n.1/\pO n.2 s.2=true/\(qg s n).1=(s.1,n.1,jB n.2 s.2):=by
 unfold qg at h⊢;split at h
 ·next a=>exact absurd h a
 next a=>
 split at h
 ·next b=>exact absurd h b
 next b=>
 split at h
 ·cases h
 next d=>
 split at h
 ·cases h
 next c=>
 rw[aj a,aj b,aj d,aj c];exact⟨(vI _).1 (by simpa using a),(vI _).1 (by simpa using b),ah,by simpa using c,rfl⟩
def asW{s n:Sn}(h1:Ok s.2)(a:Ok n.2)(c:s.1<n.1)(b:pO n.2 s.2=true):qg s n=((s.1,n.1,jB n.2 s.2),0):=by unfold qg;rw[aj (by simp[(vI _).2 h1]),aj (by simp[(vI _).2 a]),bU,aj (by simp[b])]
def Nq{s:Sn}{d:Dl}(h:(lM s d).2=0):Ok s.2/\zO d=0/\s.1=d.1/\(tog s.2 d.2.2).2=0/\(lM s d).1=(d.2.1,(tog s.2 d.2.2).1):=by
 unfold lM at h⊢;split at h
 ·next a=>exact absurd h a
 next a=>
 split at h
 ·next b=>exact absurd h b
 next b=>
 split at h
 ·cases h
 next e=>
 split at h
 ·next c=>exact absurd h c
 next c=>
 rw[aj a,aj b,aj e,aj c];exact⟨(vI _).1 (by simpa using a),by simpa using b,by simpa using e,by simpa using c,rfl⟩
def an4{s:Sn}{d:Dl}(h1:Ok s.2)(a:zO d=0)(b:s.1=d.1):lM s d=if(tog s.2 d.2.2).2≠0 then(zS,(tog s.2 d.2.2).2)else((d.2.1,(tog s.2 d.2.2).1),0):=by unfold lM;rw[aj (by simp[(vI _).2 h1]),aj (by simp[a]),aj (by simp[b])]
def agK{s n:List Row}(b:Tb s)(a:Tb n)(h:pO n s=true):Tb (jB n s)/\∀k,val (jB n s) k=val n k-val s k:=by
 have i:=(Qr _ _ a.rise b.rise).1 h;obtain⟨f,j,g,l⟩:=VI n s a.rise b.rise a.pos b.pos i;have m:(jB n s).length<=n.length:=alv f a.rise λr c=>by obtain⟨x,d,e⟩:=g r c;exact⟨x,d,by show dN x.1=dN r.1;rw[e]⟩
 exact⟨amB a a (kW m a.ok.1) f (λr c=>by obtain⟨x,d,e⟩:=g r c;exact⟨x,.inl d,e⟩) l,j⟩
def aE4{t:List Row}(a:Tb t):tog t []=(t,0):=by
 have h:iC t []=some t:=by cases t<;>rw[iC]
 unfold tog;rw[h];simp only;rw[aj (by have:=a.ok.1;omega)]
def afB{s n:Sn}(g:eF s.2)(i:eF n.2)(h:(qg s n).2=0):zO (qg s n).1=0/\lM s (qg s n).1=(n,0)/\eF (qg s n).1.2.2:=by
 obtain⟨c,j,l,m,o⟩:=aay h;have d:=g.tb c;have a:=i.tb j;obtain⟨b,p⟩:=agK d a m;rw[o];have e:zO (s.1,n.1,jB n.2 s.2)=0:=aoS l b.ok;have f:tog s.2 (jB n.2 s.2)=tog n.2 []:=aE5 d b a CW λk=>by rw[p];simp[val];omega
 rw[aE4 a]at f;refine⟨e,?_,b.good⟩;rw[an4 c e rfl];simp only[f];rfl
def afv{s:Sn}{d:Dl}(a:eF s.2)(b:eF d.2.2)(h:(lM s d).2=0):Tb (lM s d).1.2/\∀k,val (lM s d).1.2 k=val s.2 k+val d.2.2 k:=by obtain⟨c,e,i,f,g⟩:=Nq h;rw[g];exact aE3 (a.tb c) (b.tb (agc e).2) f
def Aw(p x:Q0):Int:=if x=p then 14 else if Op.bytesLess x p=true then 7 else 0
def RI{d:List dS}(a:jf d=true):(dN d).length<=30000:=by unfold jf at a;rw[aO,decide_eq_true_iff]at a;have b:=nY (n:=d.length) ah;have:=aaO d a.1;unfold dN;simp only[eH];omega
def common:Q0->List UInt8->Nat
 |a::x,b::y=>if a=b then common x y+1 else 0
 |_,_=>0
def aar(b:Q0):common [] b=0:=by unfold common;rfl
def apq(a:Q0):common a []=0:=by cases a<;>rfl
def VD:∀a b:Q0,common a b<=a.length/\common a b<=b.length
 |[],b=>by simp[common]
 |_::_,[]=>by simp[common]
 |a::x,b::y=>by
  unfold common;have:=VD x y;split
  ·simp only[iD];omega
  ·omega
def agv:∀a b:Q0,a.take (common a b)=b.take (common a b)
 |[],b=>by simp[common]
 |_::_,[]=>by simp[common]
 |a::x,b::y=>by
  unfold common;split
  ·next e=>subst e;rw[BA,BA,agv x y]
  ·simp
def agq(a b:Q0)(j:a.length<=140737488351232)(k:b.length<=140737488351232):∀m i:Nat,i+m=a.length->TT.lim 141 [.s a,.s b,.zq i]=some [.zq 0,.zq ((i+common (a.drop i) (b.drop i):Nat):Int)]
 |0,i,hi=>by have h0:a.drop i=[]:=iK;have h:¬((i:Int)<a.length):=ah;refine aB ?_;simp[h,h0,aar]
 |m+1,i,hi=>by
  have c:i<a.length:=ah;have h:((i:Int)<a.length):=ah;by_cases d:i<b.length;rotate_left
  ·have h0:b.drop i=[]:=iK;have l:¬((i:Int)<b.length):=ah;refine aB ?_;simp[h,h0,l,apq]
  have f:((i:Int)<b.length):=ah;have n:TT.lim 141 [.s a,.s b,.zq ((i:Int)+1)]=_:=agq a b j k m (i+1) ah;have o:=bH ((i:Int)+1);rw[iR c,iR d];unfold common;by_cases e:a[i]=b[i]
  ·rw[au e];have g:((a[i].toNat:Int)=(b[i].toNat:Int))=True:=eq_true (by rw[e]);have p:((i+(common (a.drop (i+1)) (b.drop (i+1))+1):Nat):Int)=((i+1+common (a.drop (i+1)) (b.drop (i+1)):Nat):Int):=ah;rw[p];refine aB ?_;simp[h,c,d,f,g,o,n]
  ·rw[aj e];have g:¬(a[i].toNat:Int)=(b[i].toNat:Int):=λh=>e (Zw.1 ah);refine aB ?_;simp[h,c,d,f,g]
def aaj(a b:Q0)(c:a.length<=140737488351232)(d:b.length<=140737488351232):TT.lim 140 [.s a,.s b]=some [.zq (common a b)]:=by have k:TT.lim 141 [.s a,.s b,.zq 0]=_:=agq a b c d a.length 0 ah;rw[dY,dY,mQ]at k;refine aW ?_;simp[k]
def uw(a s:Q0):Q0:=aS (common a s)++aS (s.length-common a s)++s.drop (common a s)
def ayL(a s:Q0)(o:a.length<=100000000)(p:s.length<=100000000):TT.lim 139 [.s a,.s s]=some [.s (uw a s)]:=by
 have k:=aaj a s ah ah;have q:=VD a s;have g:=zY (common a s) ah;have f:=zY (s.length-common a s) ah;have r:=nY (n:=common a s) ah;have t:=nY (n:=s.length-common a s) ah;have w1:=jV ((common a s:Int));have b:=jV ((s.length:Int)-(common a s:Int));have d:=bH ((s.length:Int)-(common a s:Int));have e:(s.length:Int)-(common a s:Int)=((s.length-common a s:Nat):Int):=ah;rw[e]at b d;refine aW ?_;unfold uw;generalize common a s=c at *;have h:((aS c).length:Int)+((aS (s.length-c)).length:Int)<=9223372036854775807:=ah;have i:((aS c).length:Int)+((aS (s.length-c)).length:Int)+((s.length:Int)-(c:Int))<=9223372036854775807:=ah;have j:(c:Int)<=s.length:=ah;have l:((s.length-c:Nat):Int)=(s.length:Int)-c:=ah;have m:(s.take s.length).drop c=s.drop c:=by rw[Bz]
 rw[<-e]at b d;rw[<-e]at f;simp[k,g,f,w1,b,d,h,i,j,l,m]
def nZ:Q0->Nat
 |[]=>0
 |b::r=>b.toNat%128+128*nZ r
def qW:Nat->List UInt8->Option Nat
 |0,_=>none
 |_+1,[]=>none
 |n+1,b::r=>if b.toNat<128 then some 1 else(qW n r).map (· +1)
def vY(k:Nat)(b:Nat):Int:=if k=10/\1<b then 3 else if 1<k/\b=0 then 2 else 0
def aF(s:Q0):Nat×Nat×Int:=match qW 10 s with
 |none=>(0,0,if 10<=s.length then 3 else 1)
 |some k=>if vY k (s.getD (k-1) 0).toNat≠0 then(0,0,vY k (s.getD (k-1) 0).toNat)else(nZ (s.take k),k,0)
def Y1:∀{n:Nat}{s:Q0}{k:Nat},qW n s=some k->1<=k/\k<=n/\k<=s.length/\(s.getD (k-1) 0).toNat<128
 |0,s,k,h=>by simp[qW]at h
 |n+1,[],k,h=>by simp[qW]at h
 |n+1,b::r,k,h=>by
  unfold qW at h;split at h
  ·next a=>cases h;simpa using a
  ·obtain⟨j,c,rfl⟩:=bJ.1 h;obtain⟨e,f,g,d⟩:=Y1 c;obtain⟨i,rfl⟩:∃i,j=i+1:=⟨j-1,ah⟩
   refine⟨ah,ah,by simp;omega,?_⟩;simpa using d
def am2:∀(s:Q0),nZ s<128^s.length
 |[]=>by simp[nZ]
 |b::r=>by have:=am2 r;simp only[nZ,iD,MZ];omega
def al3(b i:Nat)(g:b<128)(hi:i<=9)(c:i=9->b<=1):kT .shl .u64 (b:Int) ((7*i:Nat):Int)=some (.zu ((b*128^i:Nat):Int)):=by
 have e:min ((7*i:Nat):Int).toNat 64=7*i:=by simp;omega
 have d:(2:Int)^(7*i)=((128^i:Nat):Int):=by rw[Int.pow_mul];simp
 have f:b*128^i<18446744073709551616:=by
  rcases zI i 9 with h|h
  ·have:(128:Nat)^i<=128^8:=UD ah ah;have j:b*128^i<=127*128^8:=Nat.mul_le_mul ah this;omega
  ·have a:i=9:=ah;subst a;have:=c rfl;omega
 unfold kT;rw[bU];show some (GV.zu (IntKind.u64.wrap ((b:Int)*2^(min ((7*i:Nat):Int).toNat 64))))=_
 rw[e,d,<-Int.natCast_mul,I9 ah ah]
def orI(a c i:Nat)(b:a<2^i)(h:a+c*2^i<18446744073709551616):dw .or .u64 (a:Int) ((c*2^i:Nat):Int)=some (.zu ((a+c*2^i:Nat):Int)):=by
 have d:((BitVec.ofInt 64 (a:Int) |||BitVec.ofInt 64 ((c*2^i:Nat):Int)).toNat:Nat)=a+c*2^i:=by rw[aer,wo,wo];generalize e:c*2^i=C at *;have f:((a:Int)%((2^64:Nat):Int)).toNat=a:=ah;have g:((C:Int)%((2^64:Nat):Int)).toNat=C:=ah;rw[f,g,<-e,Nat.or_comm,Jk,MV];exact(anx b c).symm
 show some (GV.zu (IntKind.u64.wrap (((BitVec.ofInt 64 (a:Int) |||BitVec.ofInt 64 ((c*2^i:Nat):Int)).toNat:Nat):Int)))=_
 rw[d,I9 ah ah]
def OU(i:Nat):128^i=2^(7*i):=by rw[Nat.pow_mul]
def al4(a b:Int)(c:0<=b):∃r,kT .shl .u64 a b=some (.zu r):=by unfold kT;rw[bU];exact⟨_,rfl⟩
def or_some(a b:Int):∃r,dw .or .u64 a b=some (.zu r):=⟨_,rfl⟩
def E8(s:Q0)(a:Int)(i:Nat):Q1:=match qW (10-i) (s.drop i)with
 |none=>[.zq 1,.s s]
 |some k=>if vY (i+k) (s.getD (i+k-1) 0).toNat≠0 then[.zq 0,.zu 0,.zq 0,.zq (vY (i+k) (s.getD (i+k-1) 0).toNat)]
  else[.zq 0,.zu (a+((128^i*nZ ((s.drop i).take k):Nat):Int)),.zq ((i+k:Nat):Int),.zq 0]
def getLoop(s:Q0)(U:s.length<=140737488351232):∀(m i:Nat)(a:Int),i+m=min s.length 10->(i<=9->0<=a/\a<((128^i:Nat):Int))->
 TT.lim 184 [.s s,.zu a,.zq ((min s.length 10:Nat):Int),.zq i]=some (E8 s a i)
 |0,i,a,hi,H=>by
  have h:¬((i:Int)<((min s.length 10:Nat):Int)):=ah;have g:qW (10-i) (s.drop i)=none:=by
   rcases zI i 10 with h1|h1
   ·have:s.drop i=[]:=iK;rw[this];obtain⟨j,q⟩:∃j,10-i=j+1:=⟨10-i-1,ah⟩
    rw[q];rfl
   ·have:10-i=0:=ah;rw[this];unfold qW;rfl
  unfold E8;rw[g];generalize((min s.length 10:Nat):Int)=M at *;refine aB ?_;simp[h]
 |m+1,i,a,hi,H=>by
  have d:i<s.length:=ah;have W:i<=9:=ah;have h:((i:Int)<((min s.length 10:Nat):Int)):=ah;obtain⟨a1,a2⟩:=H W;obtain⟨n,rfl⟩:∃n:Nat,a=n:=⟨a.toNat,ah⟩
  have hb:=(s[i]).toNat_lt;have r:=afp (s[i]).toNat ah;have t:=jV ((((s[i]).toNat%128:Nat):Int));have I:=bH (7*(i:Int));have J:=bH ((i:Int)+1);have L:s.drop i=s[i]::s.drop (i+1):=iR d;obtain⟨j,q⟩:∃j,10-i=j+1:=⟨10-i-1,ah⟩
  have x:10-(i+1)=j:=ah;have N:(7*(i:Int))=((7*i:Nat):Int):=ah;have y:s.getD i 0=s[i]:=by simp[List.getD,d]
  by_cases hc:128<=(s[i]).toNat
  ·have f:((128:Int)<=((s[i]).toNat:Int)):=ah;have step:∃V:Int,(i+1<=9->0<=V/\V<((128^(i+1):Nat):Int)/\V=n+(((s[i]).toNat%128*128^i:Nat):Int))/\(∃S,kT .shl .u64 ((((s[i]).toNat%128:Nat)):Int) (7*(i:Int))=some (.zu S)/\dw .or .u64 (n:Int) S=some (.zu V)):=by
    rcases zI i 9 with h1|h1
    ·have u:=al3 ((s[i]).toNat%128) i ah ah ah;have X:(s[i]).toNat%128*128^i<=127*128^i:=wC _ ah;have z:128^(i+1)=128*128^i:=by rw[MZ,Jk]
     have P:(128:Nat)^i<=128^8:=UD ah ah;have l:=orI n ((s[i]).toNat%128) (7*i) (by rw[<-OU];omega) (by rw[<-OU];omega);rw[<-OU]at l;refine⟨_,λ_=>⟨ah,?_,rfl⟩,_,by rw[N];exact u,by rw[l];simp⟩;rw[z];omega
    ·obtain⟨S,e⟩:=al4 ((((s[i]).toNat%128:Nat)):Int) (7*(i:Int)) ah;obtain⟨V,b⟩:=or_some (n:Int) S;exact⟨V,λh=>ah,S,e,b⟩
   obtain⟨V,b,S,e,A⟩:=step;have Y:TT.lim 184 [.s s,.zu V,.zq ((min s.length 10:Nat):Int),.zq ((i:Int)+1)]=_:=getLoop s U m (i+1) V ah (λh=>⟨(b h).1,(b h).2.1⟩);have c:E8 s n i=E8 s V (i+1):=by
    unfold E8;rw[L,q,x];have g:qW (j+1) (s[i]::s.drop (i+1))=(qW j (s.drop (i+1))).map (· +1):=by
     show(if(s[i]).toNat<128 then _ else _)=_
     rw[bU]
    rw[g];cases Z:qW j (s.drop (i+1))with
    |none=>rfl
    |some k=>
     obtain⟨v,q2,_,_⟩:=Y1 Z;have D:=b ah;have E:i+(k+1)=i+1+k:=ah;simp only[iJ,E];split
     ·rfl
     ·have F:(n:Int)+((128^i*nZ ((s[i]::s.drop (i+1)).take (k+1)):Nat):Int)=V+((128^(i+1)*nZ ((s.drop (i+1)).take k):Nat):Int):=by
       rw[D.2.2,BA];have:128^i*nZ (s[i]::(s.drop (i+1)).take k)=(s[i]).toNat%128*128^i+128^(i+1)*nZ ((s.drop (i+1)).take k):=by
        show 128^i*((s[i]).toNat%128+128*nZ _)=_
        rw[Nat.mul_add,MZ,ae3,Jk (128^i) ((s[i]).toNat%128)]
       rw[this];omega
      rw[F]
   rw[c];generalize E8 s V (i+1)=O,((min s.length 10:Nat):Int)=M at *;have em:(((s[i]).toNat%128:Nat):Int)=((s[i]).toNat:Int)%128:=ah;rw[em]at r t e;refine aB ?_;simp[h,d,f,r,t,I,J,e,A,Y]
  ·have f:¬((128:Int)<=((s[i]).toNat:Int)):=ah;have g:qW (j+1) (s[i]::s.drop (i+1))=some 1:=by
    show(if(s[i]).toNat<128 then _ else _)=_
    rw[lV]
   have c:E8 s n i=if vY (i+1) (s[i]).toNat≠0 then[.zq 0,.zu 0,.zq 0,.zq (vY (i+1) (s[i]).toNat)]else[.zq 0,.zu ((n+(s[i]).toNat*128^i:Nat):Int),.zq ((i:Int)+1),.zq 0]:=by
    unfold E8;rw[L,q,g];have E:i+1-1=i:=ah;have F:128^i*nZ ((s[i]::s.drop (i+1)).take 1)=(s[i]).toNat*128^i:=by simp only[BA,Uy,nZ];rw[Qc ah,Jk];simp
    simp only[E,y,F];congr 1
   rw[c];have step:∃S V,kT .shl .u64 ((((s[i]).toNat%128:Nat)):Int) (7*(i:Int))=some (.zu S)/\dw .or .u64 (n:Int) S=some (.zu V)/\(vY (i+1) (s[i]).toNat=0->V=((n+(s[i]).toNat*128^i:Nat):Int)):=by
    by_cases Q:i=9/\1<(s[i]).toNat
    ·obtain⟨S,e⟩:=al4 ((((s[i]).toNat%128:Nat)):Int) (7*(i:Int)) ah;obtain⟨V,b⟩:=or_some (n:Int) S;refine⟨S,V,e,b,λh=>?_⟩;unfold vY at h;rw[lV]at h;cases h
    ·have u:=al3 ((s[i]).toNat%128) i ah ah ah;have em:(s[i]).toNat%128=(s[i]).toNat:=Qc ah;rw[em]at u;have X:(s[i]).toNat*128^i<=127*128^i:=wC _ ah;have T:n+(s[i]).toNat*128^i<18446744073709551616:=by
      rcases zI i 9 with h1|h1
      ·have P:(128:Nat)^i<=128^8:=UD ah ah;omega
      ·have G:i=9:=ah;have h1:(s[i]).toNat<=1:=ah;have P:(128:Nat)^i=128^9:=by rw[G]
       have aa:(s[i]).toNat*128^i<=1*128^i:=wC _ h1;omega
     have l:=orI n (s[i]).toNat (7*i) (by rw[<-OU];omega) (by rw[<-OU];omega);rw[<-OU]at l;exact⟨_,_,by rw[N,em];exact u,l,λ_=>rfl⟩
   obtain⟨S,V,e,A,b⟩:=step;generalize((n+(s[i]).toNat*128^i:Nat):Int)=R,((min s.length 10:Nat):Int)=M at *;have bd:vY (i+1) (s[i]).toNat=if(i:Int)=9/\(1:Int)<((s[i]).toNat:Int)then 3 else if(0:Int)<(i:Int)/\((s[i]).toNat:Int)=0 then 2 else 0:=by
    unfold vY;congr 1
    ·apply propext;omega
    ·congr 1;apply propext;omega
   rw[bd]at b⊢;have em:(((s[i]).toNat%128:Nat):Int)=((s[i]).toNat:Int)%128:=ah;rw[em]at r t e;refine aB ?_
   rcases(Ul ((i:Int)=9)).imp eq_true eq_false with v|v<;>rcases(Ul ((1:Int)<((s[i]).toNat:Int))).imp eq_true eq_false with q2|q2<;>
    rcases(Ul ((0:Int)<(i:Int))).imp eq_true eq_false with q3|q3<;>rcases(Ul (((s[i]).toNat:Int)=0)).imp eq_true eq_false with w|w
   all_goals
    have o:(0<i)=((0:Int)<(i:Int)):=propext ah;have p:((s[i]).toNat=0)=(((s[i]).toNat:Int)=0):=propext ah;rw[q3]at o;rw[w]at p;simp only[v,q2,q3,w,and_self,and_true,and_false,false_and,true_and,if_true,if_false]at b⊢;first
    |(have b:=b trivial;subst b)
    |skip
    simp[h,d,f,r,t,I,J,e,A,v,q2,q3,w,o,p]
def wR(s:Q0)(f:s.length<=140737488351232):TT.lim 183 [.s s]=some [.zu ((aF s).1:Nat),.zq ((aF s).2.1:Nat),.zq (aF s).2.2]:=by
 have k:TT.lim 184 [.s s,.zu 0,.zq ((min s.length 10:Nat):Int),.zq 0]=_:=getLoop s f (min s.length 10) 0 0 ah aA;have b:(if(10:Int)<(s.length:Int)then(10:Int)else(s.length:Int))=((min s.length 10:Nat):Int):=by split<;>omega
 unfold E8 at k;rw[dY,Jm]at k;unfold aF;generalize((min s.length 10:Nat):Int)=M at *;refine aW ?_;cases d:qW 10 s with
 |none=>
  rw[d]at k;by_cases a:10<=s.length
  ·have c:(10:Int)<=s.length:=ah;simp[b,k,a,c]
  ·have c:¬(10:Int)<=s.length:=ah;simp[b,k,a,c]
 |some j=>
  rw[d]at k;simp only[mQ,Nat.pow_zero,Jl,aeD]at k;by_cases e:vY j (s.getD (j-1) 0).toNat=0
  ·simp only[e,ne_eq,not_true_eq_false,if_false]at k⊢;simp[b,k]
  ·simp only[e,ne_eq,not_false_eq_true,if_true]at k⊢;simp[b,k]
def Gp{n:Nat}(h:n<256):(UInt8.ofNat n).toNat=n:=UInt8.toNat_ofNat_of_lt' h
def zo(n:Nat):Nat:=if n<128 then n else zo (n/128)
termination_by n
def am1{n:Nat}(h:n<128):zo n=n:=by rw[zo,au h]
def am0{n:Nat}(h:¬n<128):zo n=zo (n/128):=by rw[zo,aj h]
def Y2{n:Nat}(h:n<128):fZ n=1:=by unfold fZ;rw[Ah h];rfl
def aFE:∀n:Nat,zo n<128/\(0<n->0<zo n)/\zo n*128^(fZ n-1)<=n:=by
 intro n;induction n using Nat.strongRecOn with
 |_ n b=>
  by_cases h:n<128
  ·rw[am1 h,Y2 h];simp;omega
  ·obtain⟨c,d,a⟩:=b (n/128) ah;rw[am0 h,Mc h];refine⟨c,λ_=>d ah,?_⟩;have f:=En (n/128);obtain⟨j,e⟩:∃j,fZ (n/128)=j+1:=⟨fZ (n/128)-1,ah⟩
   rw[e]at a⊢;simp only[Nat.add_sub_cancel]at a⊢;have:zo (n/128)*128^(j+1)=zo (n/128)*128^j*128:=by rw[MZ,ae3]
   rw[this];omega
def aFC:∀(n:Nat)(x:Q0),(aS n++x).getD (fZ n-1) 0=UInt8.ofNat (zo n):=by
 intro n;induction n using Nat.strongRecOn with
 |_ n a=>
  intro x;by_cases h:n<128
  ·rw[am1 h,Y2 h,Ah h];rfl
  ·have c:=En (n/128);obtain⟨j,b⟩:∃j,fZ (n/128)=j+1:=⟨fZ (n/128)-1,ah⟩
   have:=a (n/128) ah x;rw[am0 h,Mc h,Em h,<-this,b];simp
def aFB:∀(n k:Nat)(x:Q0),fZ n<=k->qW k (aS n++x)=some (fZ n):=by
 intro n;induction n using Nat.strongRecOn with
 |_ n a=>
  intro k x b;have c:=En n;obtain⟨j,rfl⟩:∃j,k=j+1:=⟨k-1,ah⟩
  by_cases h:n<128
  ·rw[Y2 h,Ah h];show(if(UInt8.ofNat n).toNat<128 then _ else _)=_
   rw[au (by rw[Gp ah];exact h)]
  ·rw[Mc h]at b⊢;rw[Em h];show(if(UInt8.ofNat (n%128+128)).toNat<128 then _ else(qW j (aS (n/128)++x)).map (· +1))=_
   rw[aj (by rw[Gp ah];omega),a (n/128) ah j x ah];rfl
def aFF:∀n:Nat,nZ (aS n)=n:=by
 intro n;induction n using Nat.strongRecOn with
 |_ n a=>
  by_cases h:n<128
  ·rw[Ah h];simp only[nZ];rw[Gp ah];omega
  ·rw[Em h];simp only[nZ];rw[a (n/128) ah,Gp ah];omega
def Gt(n:Nat)(x:Q0)(d:n<18446744073709551616):aF (aS n++x)=(n,(aS n).length,0):=by
 have e:=aFB n 10 x (I7 d);obtain⟨j,f,b⟩:=aFE n;have g:=aFC n x;have i:vY (fZ n) (UInt8.ofNat (zo n)).toNat=0:=by
  rw[Gp ah];unfold vY;rw[aj,aj]
  ·rintro⟨a,c⟩
   by_cases h:n<128
   ·rw[Y2 h]at a;omega
   ·have:=f ah;omega
  ·rintro⟨a,c⟩
   rw[a]at b;have:2*128^9<=zo n*128^9:=wC _ c;simp only[show 10-1=9 from rfl]at b;omega
 unfold aF;rw[e];simp only[g,i,ne_eq,not_true_eq_false,if_false];have:(aS n++x).take (fZ n)=aS n:=by unfold fZ;simp
 rw[this,aFF];rfl
def aFG(a:Q0)(b:UInt8):nZ (a++[b])=nZ a+128^a.length*(b.toNat%128):=by
 induction a with
 |nil=>simp[nZ]
 |cons c a d=>simp only[bD,nZ,d,iD,MZ,Nat.mul_add,kC];rw[Jk (128^a.length) 128,ae3]
def alg:∀(j k:Nat)(s:Q0),qW j s=some k->(1<k->(s.getD (k-1) 0)≠0)->aS (nZ (s.take k))=s.take k/\(1<k\/s.getD (k-1) 0≠0->nZ (s.take k)≠0)
 |0,k,s,h,_=>by simp[qW]at h
 |j+1,k,[],h,_=>by simp[qW]at h
 |j+1,k,b::r,h,g=>by
  unfold qW at h;split at h
  ·next d=>
   cases h;simp only[BA,Uy,nZ,Nat.mul_zero,pY];rw[Qc d];refine⟨by rw[Ah d];simp,λc=>?_⟩;rcases c with c|c
   ·omega
   ·intro e;apply c;simp only[Dh,List.getD_cons_zero];exact Zw.1 (by simpa using e)
  ·next d=>
   obtain⟨i,hi,rfl⟩:=bJ.1 h;obtain⟨q,t,u,v⟩:=Y1 hi;obtain⟨l,rfl⟩:∃l,i=l+1:=⟨i-1,ah⟩
   have a:r.getD l 0≠0:=by have:=g ah;simpa using this
   obtain⟨m,f⟩:=alg j (l+1) r hi (λ_=>by simpa using a);have f:=f (.inr (by simpa using a));have n:=b.toNat_lt;rw[BA];simp only[nZ];refine⟨?_,λ_=>ah⟩;rw[Em ah];have o:(b.toNat%128+128*nZ (r.take (l+1)))%128+128=b.toNat:=ah;have p:(b.toNat%128+128*nZ (r.take (l+1)))/128=nZ (r.take (l+1)):=ah;rw[o,p,m];simp
structure VOk(s:Q0)(n k:Nat):Prop where
 pos:1<=k
 ten:k<=10
 len:k<=s.length
 lt:n<18446744073709551616
 put:aS n=s.take k
def lZ{s:Q0}(h:(aF s).2.2=0):VOk s (aF s).1 (aF s).2.1:=by
 unfold aF at h⊢;cases c:qW 10 s with
 |none=>rw[c]at h;simp only at h;split at h<;>cases h
 |some k=>
  rw[c]at h;simp only at h⊢;obtain⟨g,i,l,r⟩:=Y1 c;by_cases a:vY k (s.getD (k-1) 0).toNat=0
  ·simp only[a,ne_eq,not_true_eq_false,if_false];have m:1<k->s.getD (k-1) 0≠0:=by
    intro n d;unfold vY at a;rw[d]at a;split at a
    ·cases a
    ·rw[au ⟨n,rfl⟩]at a;cases a
   refine⟨g,i,l,?_,(alg 10 k s c m).1⟩;have e:s.take k=s.take (k-1)++[s.getD (k-1) 0]:=by
    obtain⟨j,rfl⟩:∃j,k=j+1:=⟨k-1,ah⟩
    have:j<s.length:=ah;simp[List.getD,this]
   have d:=am2 (s.take (k-1));rw[e,aFG,mP,MX ah];rw[mP,MX ah]at d;rcases zI k 10 with o|o
   ·have p:(128:Nat)^(k-1)<=128^8:=UD ah ah;have f:128^(k-1)*((s.getD (k-1) 0).toNat%128)<=128^(k-1)*127:=UC _ ah;omega
   ·have b:k=10:=ah;have q:(s.getD (k-1) 0).toNat<=1:=by
     unfold vY at a;split at a
     ·cases a
     ·next h=>omega
    have p:(128:Nat)^(k-1)=128^9:=by rw[b]
    have f:128^(k-1)*((s.getD (k-1) 0).toNat%128)<=128^(k-1)*1:=UC _ ah;omega
  ·simp only[a,ne_eq,not_false_eq_true,if_true]at h
def L9{s:Q0}(h:(aF s).2.2≠0):(aF s).1=0/\(aF s).2.1=0:=by
 unfold aF at h⊢;cases b:qW 10 s with
 |none=>exact⟨rfl,rfl⟩
 |some k=>
  rw[b]at h;simp only at h⊢;by_cases a:vY k (s.getD (k-1) 0).toNat=0
  ·simp only[a,ne_eq,not_true_eq_false,if_false]at h
  ·simp only[a,ne_eq,not_false_eq_true,if_true];exact⟨trivial,trivial⟩
def Ej(t:Q0)(a:Nat)(h:a<=t.length)(v:t.length<=140737488351232):
 TT.lim 193 [.s t,.zq a]=some [.zq 0,.zu ((aF (t.drop a)).1:Nat),.zq (aF (t.drop a)).2.2,.s t,.zq ((a+(aF (t.drop a)).2.1:Nat):Int)]:=by
 have k:=wR (t.drop a) (by rw[fU];omega);have c:(t.take t.length).drop a=t.drop a:=by rw[Bz]
 have d:(a:Int)<=t.length:=ah;refine aB ?_;by_cases b:(aF (t.drop a)).2.2=0
 ·have f:=lZ b;have g:=f.len;have i:=f.ten;rw[fU]at g;generalize(aF (t.drop a)).1=n,(aF (t.drop a)).2.1=j,(aF (t.drop a)).2.2=e at *;have w1:=jV ((j:Int));have l:=bH ((t.length:Int)-(a:Int));have m:=jV ((t.length:Int)-(a:Int));have o:=bH ((j:Int));have p:=bH ((a:Int)+(j:Int));have q:¬((t.length:Int)-(a:Int)<(j:Int)):=ah;have r:(a:Int)<=(a:Int)+(j:Int)/\(a:Int)+(j:Int)<=t.length:=ah;subst b;simp[c,d,k,w1,l,m,o,p,q,r]
 ·obtain⟨s,u⟩:=L9 b;rw[s,u]at k⊢;generalize(aF (t.drop a)).2.2=e at *;simp[c,d,k,b]
def oZ(e:Int):Q0×Nat×Int:=([],0,e)
def bT(s a0:Q0)(first:Bool):Q0×Nat×Int:=
 let a:=if first=true then[]else a0
 let v:=aF s
 if v.2.2≠0 then oZ v.2.2 else
 if a.length<v.1 then oZ 23 else
 let b:=aF (s.drop v.2.1)
 if b.2.2≠0 then oZ b.2.2 else
 if s.length-(v.2.1+b.2.1)<b.1 then oZ 1 else
 let t:=a.take v.1++(s.drop (v.2.1+b.2.1)).take b.1
 if first=false/\Op.bytesLess a t=false then oZ 7 else
 if v.1<common a t then oZ 23 else(t,v.2.1+b.2.1+b.1,0)
def aw5(a t:Q0):(Op.bytesLess t a ||t==a) = !(Op.bytesLess a t):=by
 rw[Ny,Ny,zx];simp only[qF,decide_eq_true_iff,beq_iff_eq,yx,decide_eq_false_iff_not];constructor
 ·rintro(h|h) b
  ·exact qZ _ (Bq h b)
  ·subst h;exact qZ _ b
 ·intro h;by_cases c:t<a
  ·exact .inl c
  ·exact .inr (Ur (Dc.1 h) (Dc.1 c))
def agt:∀(k:Nat)(a x:Q0),k<=a.length->k<=common a (a.take k++x)
 |0,a,x,h=>ah
 |k+1,[],x,h=>by simp at h
 |k+1,b::a,x,h=>by rw[BA,bD];unfold common;rw[au rfl];have:=agt k a x (by simpa using h);omega
def azJ(t a:Q0)(first:Bool)(b:Nat)(h:b<=t.length)(ht:t.length<=100000000)(ha:a.length<=100000000):
 ∃at2:Nat,TT.lim 217 [.s t,.zq b,.s a,.b first]=some [.zq 0,.s (bT (t.drop b) a first).1,.zq (bT (t.drop b) a first).2.2,.s t,.zq at2]/\
  ((bT (t.drop b) a first).2.2=0->at2=b+(bT (t.drop b) a first).2.1):=by
 have f:=Ej t b h ah;by_cases u:(aF (t.drop b)).2.2=0;rotate_left
 ·obtain⟨e1,F⟩:=L9 u;have w:bT (t.drop b) a first=oZ (aF (t.drop b)).2.2:=by unfold bT;simp only;rw[au u]
  rw[e1,F]at f;rw[w];clear e1 F w;generalize(aF (t.drop b)).2.2=e at *;refine⟨b,jG rfl rfl ?_,λh=>absurd h u⟩;cases first<;>simp[f,u,oZ]
 have T:=lZ u;have hl:=T.len;have aa:=T.lt;have ab:=T.ten;rw[fU]at hl
 have p:∀x:Q0,x=(if first=true then[]else a)->bT (t.drop b) a first=(if x.length<(aF (t.drop b)).1 then oZ 23 else
  if(aF (t.drop (b+(aF (t.drop b)).2.1))).2.2≠0 then oZ (aF (t.drop (b+(aF (t.drop b)).2.1))).2.2 else
  if(t.length-b)-((aF (t.drop b)).2.1+(aF (t.drop (b+(aF (t.drop b)).2.1))).2.1)<(aF (t.drop (b+(aF (t.drop b)).2.1))).1 then oZ 1 else
  if first=false/\Op.bytesLess x (x.take (aF (t.drop b)).1++(t.drop (b+((aF (t.drop b)).2.1+(aF (t.drop (b+(aF (t.drop b)).2.1))).2.1))).take (aF (t.drop (b+(aF (t.drop b)).2.1))).1)=false then oZ 7 else
  if(aF (t.drop b)).1<common x (x.take (aF (t.drop b)).1++(t.drop (b+((aF (t.drop b)).2.1+(aF (t.drop (b+(aF (t.drop b)).2.1))).2.1))).take (aF (t.drop (b+(aF (t.drop b)).2.1))).1)then oZ 23 else
  (x.take (aF (t.drop b)).1++(t.drop (b+((aF (t.drop b)).2.1+(aF (t.drop (b+(aF (t.drop b)).2.1))).2.1))).take (aF (t.drop (b+(aF (t.drop b)).2.1))).1,(aF (t.drop b)).2.1+(aF (t.drop (b+(aF (t.drop b)).2.1))).2.1+(aF (t.drop (b+(aF (t.drop b)).2.1))).1,0)):=by
  intro x U;unfold bT;simp only[tK,fU,<-U,u,ne_eq,not_true_eq_false,if_false]
 rw[u]at f;have q:=Ej t (b+(aF (t.drop b)).2.1) ah ah;have G:=λh=>lZ (s:=t.drop (b+(aF (t.drop b)).2.1)) h;have H:=λh=>L9 (s:=t.drop (b+(aF (t.drop b)).2.1)) h;generalize V:aF (t.drop b)=v at *;obtain⟨n,i,e⟩:=v;simp only at *;generalize W:aF (t.drop (b+i))=v2 at *;obtain⟨m,j,F⟩:=v2;simp only at *;clear V W T;subst u;simp only[Gz]at f q;cases first with
 |true=>
  have w:=p [] rfl;rw[w];clear w p;by_cases k:0<n
  ·have c:(0:Int)<n:=ah;rw[au (by simpa using k)];refine⟨b+i,jG rfl rfl ?_,λh=>by cases h⟩;simp[f,k,c,oZ]
  have c:¬(0:Int)<n:=ah;rw[aj (by simpa using k)];by_cases l:F=0;rotate_left
  ·obtain⟨I,J⟩:=H l;subst I;subst J;rw[au l];refine⟨b+i,jG rfl rfl ?_,λh=>absurd h l⟩;simp[f,q,k,c,l,oZ]
  subst l;obtain⟨I,J,Y,q4,_⟩:=G rfl;rw[fU]at Y;rw[aj aA];have y:=bH ((t.length:Int)-((b:Int)+(i:Int)+(j:Int)));have z:=jV ((t.length:Int)-((b:Int)+(i:Int)+(j:Int)));by_cases L:t.length-b-(i+j)<m
  ·have d:(t.length:Int)-((b:Int)+(i:Int)+(j:Int))<(m:Int):=ah;rw[au L];refine⟨b+i+j,jG rfl rfl ?_,λh=>by cases h⟩;simp[f,q,k,c,y,z,d,oZ]
  have d:¬(t.length:Int)-((b:Int)+(i:Int)+(j:Int))<(m:Int):=ah;rw[aj L,aj aA];have n0:n=0:=ah;subst n0;have hc:common [] ([]++(t.drop (b+(i+j))).take m)=0:=aar _;have M:=bH ((m:Int));have N:=bH ((b:Int)+(i:Int)+(j:Int)+(m:Int));have w0:=bH ((0:Int));have O:((t.take (b+i+j+m)).drop (b+i+j))=(t.drop (b+(i+j))).take m:=by rw[<-kC,MN];congr 1;omega
  have kc:=aaj [] ((t.drop (b+(i+j))).take m) aA (by simp;omega);rw[aar]at kc;have P:(b:Int)+(i:Int)+(j:Int)<=(b:Int)+(i:Int)+(j:Int)+(m:Int)/\(b:Int)+(i:Int)+(j:Int)+(m:Int)<=t.length:=ah;have Q:(0:Int)<=(b:Int)+(i:Int)+(j:Int):=ah;have R:((b:Int)+(i:Int)+(j:Int)+(m:Int)).toNat=b+i+j+m:=ah;have S:((b:Int)+(i:Int)+(j:Int)).toNat=b+i+j:=ah;rw[List.take_nil,aj (by rw[hc];omega)];have o:(((t.drop (b+(i+j))).take m).length:Int)<=9223372036854775807:=by
   have:((t.drop (b+(i+j))).take m).length<=t.length:=by rw[mP,fU];omega
   omega
  refine⟨b+i+j+m,jG rfl rfl ?_,λ_=>by simp only;omega⟩;rw[aX];generalize(t.drop (b+(i+j))).take m=X at *;simp[f,q,w0,y,z,M,N,d,P,Q,R,S,O,kc,o]
 |false=>
  have w:=p a rfl;rw[w];clear w p;have D:=jV ((a.length:Int));by_cases k:a.length<n
  ·have c:(a.length:Int)<n:=ah;rw[au k];refine⟨b+i,jG rfl rfl ?_,λh=>by cases h⟩;simp[f,k,c,D,oZ]
  have c:¬(a.length:Int)<n:=ah;rw[aj k];by_cases l:F=0;rotate_left
  ·obtain⟨I,J⟩:=H l;subst I;subst J;rw[au l];refine⟨b+i,jG rfl rfl ?_,λh=>absurd h l⟩;simp[f,q,k,c,l,D,oZ]
  subst l;obtain⟨I,J,Y,q4,_⟩:=G rfl;rw[fU]at Y;rw[aj aA];have y:=bH ((t.length:Int)-((b:Int)+(i:Int)+(j:Int)));have z:=jV ((t.length:Int)-((b:Int)+(i:Int)+(j:Int)));by_cases L:t.length-b-(i+j)<m
  ·have d:(t.length:Int)-((b:Int)+(i:Int)+(j:Int))<(m:Int):=ah;rw[au L];refine⟨b+i+j,jG rfl rfl ?_,λh=>by cases h⟩;simp[f,q,k,c,y,z,d,D,oZ]
  have d:¬(t.length:Int)-((b:Int)+(i:Int)+(j:Int))<(m:Int):=ah;rw[aj L];have M:=bH ((m:Int));have N:=bH ((b:Int)+(i:Int)+(j:Int)+(m:Int));have Z:=bH ((n:Int));have O:((t.take (b+i+j+m)).drop (b+i+j))=(t.drop (b+(i+j))).take m:=by rw[<-kC,MN];congr 1;omega
  have ac:((t.drop (b+(i+j))).take m).length<=t.length:=by rw[mP,fU];omega
  have kc:=aaj a (a.take n++(t.drop (b+(i+j))).take m) ah (by rw[eH,mP];omega);have P:(b:Int)+(i:Int)+(j:Int)<=(b:Int)+(i:Int)+(j:Int)+(m:Int)/\(b:Int)+(i:Int)+(j:Int)+(m:Int)<=t.length:=ah;have Q:(0:Int)<=(b:Int)+(i:Int)+(j:Int):=ah;have c6:(n:Int)<=a.length:=ah;have R:((b:Int)+(i:Int)+(j:Int)+(m:Int)).toNat=b+i+j+m:=ah;have S:((b:Int)+(i:Int)+(j:Int)).toNat=b+i+j:=ah;have A:(min n a.length:Nat)=n:=ah;have o:(n:Int)+(((t.drop (b+(i+j))).take m).length:Int)<=9223372036854775807:=ah;have r:=aw5 a (a.take n++(t.drop (b+(i+j))).take m);generalize(t.drop (b+(i+j))).take m=X at *;by_cases E:Op.bytesLess a (a.take n++X)=false
  ·rw[au ⟨rfl,E⟩];rw[E]at r;refine⟨b+i+j+m,jG rfl rfl ?_,λh=>by cases h⟩;have g:(Op.bytesLess (a.take n++X) a=true\/a.take n++X=a)=True:=eq_true (by simpa using r);simp[f,q,D,Z,y,z,M,N,c,d,P,Q,c6,R,S,O,o,A,g,oZ]
  ·rw[aj (λh=>E h.2)];have E:Op.bytesLess a (a.take n++X)=true:=by simpa using E
   rw[E]at r;have g:(Op.bytesLess (a.take n++X) a=true\/a.take n++X=a)=False:=eq_false (by simpa using r);by_cases c8:n<common a (a.take n++X)
   ·have JD:(n:Int)<(common a (a.take n++X):Int):=ah;rw[au c8];refine⟨b+i+j+m,jG rfl rfl ?_,λh=>by cases h⟩;simp[f,q,D,Z,y,z,M,N,c,d,P,Q,c6,R,S,O,o,A,g,kc,JD,oZ]
   ·have JD:¬(n:Int)<(common a (a.take n++X):Int):=ah;rw[aj c8];refine⟨b+i+j+m,jG rfl rfl ?_,λ_=>by simp only;omega⟩;simp[f,q,D,Z,y,z,M,N,c,d,P,Q,c6,R,S,O,o,A,g,kc,JD]
def ac4{s a:Q0}{first:Bool}(h:(bT s a first).2.2=0):2<=(bT s a first).2.1/\(bT s a first).2.1<=s.length/\(bT s a first).1.length<=(if first=true then 0 else a.length)+(bT s a first).2.1:=by
 have b:(if first=true then 0 else a.length)=(if first=true then[]else a).length:=by cases first<;>rfl
 rw[b];clear b;unfold bT at h⊢;simp only at h⊢;generalize(if first=true then[]else a)=n at h⊢;split at h
 ·next c=>exact absurd h c
 next d=>
 rw[aj d];split at h
 ·cases h
 next i=>
 rw[aj i];split at h
 ·next c=>exact absurd h c
 next e=>
 rw[aj e];split at h
 ·cases h
 next j=>
 rw[aj j];split at h
 ·cases h
 next k=>
 rw[aj k];split at h
 ·cases h
 next l=>
 rw[aj l];have f:=lZ (s:=s) (by simpa using d);have g:=lZ (s:=s.drop (aF s).2.1) (by simpa using e);have o:=f.pos;have p:=g.pos;have q:=f.len;have m:=g.len;rw[fU]at m;refine⟨by simp only;omega,by simp only;omega,?_⟩;simp only[eH,mP,fU];omega
def aci(a s:Q0)(b:s.length<=100000000):(uw a s).length<=20+s.length:=by have c:=VD a s;have d:=nY (n:=common a s) ah;have e:=nY (n:=s.length-common a s) ah;unfold uw;simp only[eH,fU];omega
def avw{g:GV}(h:dh.bool.has g):∃b,g=.b b:=by simpa only[dh.has]using h
