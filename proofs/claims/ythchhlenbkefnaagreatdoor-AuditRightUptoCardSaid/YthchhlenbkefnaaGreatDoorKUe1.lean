/- What the trees compute: plain laws. -/
import Derived.Test.YthchhlenbkefnaaGreatDoorKUT
import Derived.Lib.TrimUEq
import Derived.Lib.MapLaws
set_option linter.all false
namespace Go.Proofs.YthchhlenbkefnaaGreatDoor
open Go Go.aN
set_option maxRecDepth 100000
namespace U
def MB:∀a b:Q0,Op.bytesLess a b=decide (a<b)
 |_,[]=>by simp[Op.bytesLess]
 |[],_::_=>by simp[Op.bytesLess]
 |a::x,b::y=>by rw[Op.bytesLess,MB x y,yI];simp[ad7]
abbrev dK:=Q0×Q0
abbrev Row:=List dK×Int
def ent(x:dK):GV:=.g [.s x.1,.s x.2]
def row(r:Row):GV:=.g [.l (r.1.map ent),.zu r.2]
@[simp] theorem aGZ(x:dK):(ent x).cells=[.s x.1,.s x.2]:=rfl
@[simp] theorem aAU(r:Row):(row r).cells=[.l (r.1.map ent),.zu r.2]:=rfl
@[simp] theorem aG0(x:dK):(ent x).scalar=false:=rfl
@[simp] theorem aIp(r:Row):(row r).scalar=false:=rfl
def sU(d:List dK):Prop:=d.length<=140737488351232/\∀x∈d,x.1.length<=140737488351232/\x.2.length<=140737488351232
def Rows(l:List Row):Prop:=l.length<=140737488351232/\∀r∈l,sU r.1/\0<=r.2/\r.2<18446744073709551616
def vO(x:dK):Bool:=decide (x.1.length+x.2.length<=600)
def aiP(d:List dK)(e:sU d):∀m i:Nat,i+m=d.length->TT.lim 13 [.l (d.map ent),.zq d.length,.zq i]=some (if(d.drop i).all vO=true then[.zq 1]else[.zq 0])
 |0,i,hi=>by
  have h0:d.drop i=[]:=ig;refine au ?_;have h:¬((i:Int)<d.length):=by omega
  simp[h,h0]
 |m+1,i,hi=>by
  have a:i<d.length:=by omega
  have g:TT.lim 13 [.l (d.map ent),.zq d.length,.zq ((i:Int)+1)]=_:=aiP d e m (i+1) (by omega);refine au ?_;have h:((i:Int)<d.length):=by omega
  have j:=wrap64 (n:=(i:Int)+1) (by omega) (by have:=e.1;omega);have k:=e.2 d[i] (gX a);have b:=bF ((d[i].1.length:Int)+(d[i].2.length:Int));have c:(d.drop i).all vO=(vO d[i]&&(d.drop (i+1)).all vO):=by rw[iC a,rH]
  by_cases f:(600:Int)<(d[i].1.length:Int)+(d[i].2.length:Int)
  ·have:vO d[i]=false:=by unfold vO;simp;omega
   simp[h,a,b,f,c,this]
  ·have:vO d[i]=true:=by unfold vO;simp;omega
   rw[c,this,FK];simp[h,a,j,b,f,g]
def iL(d:List dK):Bool:=d.all vO&&decide (d.length<=40)
def atA(d:List dK)(c:sU d):TT.lim 12 [.l (d.map ent)]=some [.b (iL d)]:=by
 refine aT ?_;have a:TT.lim 13 [.l (d.map ent),.zq d.length,.zq 0]=_:=aiP d c d.length 0 (by omega);rw[dN]at a;cases b:d.all vO with
 |false=>rw[b]at a;simp[a,iL,b]
 |true=>
  rw[b]at a;simp only[if_true]at a;have:(decide ((d.length:Int)<=40))=decide (d.length<=40):=by rw[yI];simp;omega
  simp[a,iL,b,this]
def aQ(n:Nat):Q0:=if n<128 then[UInt8.ofNat n]else UInt8.ofNat (n%128+128)::aQ (n/128)
termination_by n
decreasing_by omega
def zy{n:Nat}(h:n<128):aQ n=[UInt8.ofNat n]:=by rw[aQ,aj h]
def DJ{n:Nat}(h:¬n<128):aQ n=UInt8.ofNat (n%128+128)::aQ (n/128):=by rw[aQ,ah h]
def X5{a b:Nat}(c:a<256)(d:b<256)(h:UInt8.ofNat a=UInt8.ofNat b):a=b:=by have:=uf UInt8.toNat h;simp at this;omega
def adB:∀(n m:Nat)(x y:Q0),aQ n++x=aQ m++y->n=m/\x=y:=by
 intro n;induction n using Nat.strongRecOn with
 |_ n c=>
  intro m x y h;by_cases a:n<128<;>by_cases b:m<128
  ·rw[zy a,zy b]at h;simp only[bg,aX,xH]at h;exact⟨X5 (by omega) (by omega) h.1,h.2⟩
  ·rw[zy a,DJ b]at h;simp only[bg,aX,xH]at h;have:=X5 (by omega) (by omega) h.1;omega
  ·rw[DJ a,zy b]at h;simp only[bg,aX,xH]at h;have:=X5 (by omega) (by omega) h.1;omega
  ·rw[DJ a,DJ b]at h;simp only[bg,xH]at h;have e:=X5 (by omega) (by omega) h.1;obtain⟨f,d⟩:=c (n/128) (by omega) (m/128) x y h.2;exact⟨by omega,d⟩
def fO(n:Nat):Nat:=(aQ n).length
def aDM{n:Int}(h0:0<=n):n.fdiv (2^(7:Nat))=n/128:=by rw[FN _ (by decide)];rfl
def aln{n:Nat}:kD .shr .u64 (n:Int) 7=some (.zu ((n/128:Nat):Int)):=by
 have:((n:Int)).fdiv (2^(7:Nat))=((n/128:Nat):Int):=by rw[aDM (by omega)];omega
 simp[kD,IntKind.bits];exact this
def DK(n:Nat):0<fO n:=by unfold fO;rw[aQ];split<;>simp
def KY{n:Nat}(h:¬n<128):fO n=fO (n/128)+1:=by unfold fO;rw[DJ h];rfl
def OO:∀(k n:Nat),0<k->n<128^k->fO n<=k
 |0,_,h,_=>by omega
 |k+1,n,_,h=>by
  by_cases a:n<128
  ·unfold fO;rw[zy a];simp
  ·rw[KY a];cases k with
   |zero=>simp at h;omega
   |succ k=>
    have:n/128<128^(k+1):=by rw[LK]at h;omega
    have:=OO (k+1) (n/128) (by omega) this;omega
def Ib{n:Nat}(h:n<18446744073709551616):fO n<=10:=OO 10 n (by omega) (by omega)
def aw2:∀(n s:Nat),s+fO n<=1000->n<18446744073709551616->TT.lim 17 [.zu n,.zq s]=some [.zq 0,.zq ((s+fO n-1:Nat):Int)]:=by
 intro n;induction n using Nat.strongRecOn with
 |_ n e=>
  intro s g i;refine au ?_;by_cases h:n<128
  ·have b:¬(128:Int)<=n:=by omega
   simp[b,fO,zy h]
  ·have b:(128:Int)<=n:=by omega
   have j:=KY h;have k:=DK (n/128);have f:=bF ((s:Int)+1);have a:TT.lim 17 [.zu ((n/128:Nat):Int),.zq ((s:Int)+1)]=_:=e (n/128) (by omega) (s+1) (by omega) (by omega);have c:s+fO n-1=s+1+fO (n/128)-1:=by omega
   rw[c];have d:kD .shr .u64 (n:Int) 7=some (.zu ((n/128:Nat):Int)):=aln;generalize((n/128:Nat):Int)=q at d a;simp[b,f,d,a]
def Ox(n:Nat)(a:n<18446744073709551616):TT.lim 16 [.zu n]=some [.zq (fO n)]:=by have c:=DK n;have b:TT.lim 17 [.zu n,.zq 1]=_:=aw2 n 1 (by have:=Ib a;omega) a;rw[show 1+fO n-1=fO n by omega]at b;refine aT ?_;simp[b]
def lY:Nat->Nat->List Nat
 |0,_=>[]
 |k+1,n=>(n%128+128)::lY k (n/128)
def jM(n:Nat):GV:=.i .u8 n
def ana(n:Nat)(d:n<18446744073709551616):bV .and .u64 (n:Int) 127=some (.zu ((n%128:Nat):Int)):=by
 have a:((BitVec.ofInt 64 (n:Int) &&& BitVec.ofInt 64 127).toNat:Nat)=n%128:=by
  rw[Yn,vw,vw];have b:((n:Int)%((2^64:Nat):Int)).toNat=n:=by omega
  have c:((127:Int)%((2^64:Nat):Int)).toNat=2^7-1:=by decide
  rw[b,c,aen]
 show some (GV.zu (IntKind.u64.wrap (((BitVec.ofInt 64 (n:Int) &&& BitVec.ofInt 64 127).toNat:Nat):Int)))=_
 rw[a,Ig (by omega) (by omega)]
def aeP(n:Nat)(a:n<256):bV .and .u8 (n:Int) 127=some (.i .u8 ((n%128:Nat):Int)):=by
 have:∀x:Fin 256,IntKind.u8.wrap (((BitVec.ofInt IntKind.u8.bits ((x.val:Nat):Int) &&& BitVec.ofInt IntKind.u8.bits 127).toNat:Nat):Int)=((x.val%128:Nat):Int):=by decide +kernel
 show some (GV.i .u8 _)=some (GV.i .u8 _)
 exact uf (λz=>some (GV.i .u8 z)) (this ⟨n,a⟩)
def ayu(n:Nat)(a:n<128):bV .or .u8 (n:Int) 128=some (.i .u8 ((n+128:Nat):Int)):=by
 have:∀x:Fin 128,IntKind.u8.wrap (((BitVec.ofInt IntKind.u8.bits ((x.val:Nat):Int) |||BitVec.ofInt IntKind.u8.bits 128).toNat:Nat):Int)=((x.val+128:Nat):Int):=by decide +kernel
 show some (GV.i .u8 _)=some (GV.i .u8 _)
 exact uf (λz=>some (GV.i .u8 z)) (this ⟨n,a⟩)
def aFP{n:Int}(h0:0<=n)(h1:n<256):IntKind.u8.wrap n=n:=by
 have:IntKind.u8.wrap n=n%256:=by simp[IntKind.wrap,IntKind.signed,IntKind.bits]
 rw[this];omega
@[simp] theorem aGL(n:Nat):(jM n).cells=[jM n]:=rfl
@[simp] theorem aGN(n:Nat):(jM n).scalar=true:=rfl
@[simp] theorem aGM(n:Nat)(v:GV):(jM n).put 0 [v]=some v:=rfl
def afm:∀l:Q2,(∀x∈l,x<256)->ou (l.map jM)=some (l.map UInt8.ofNat)
 |[],_=>rfl
 |a::l,h=>by have h1:=h a (by simp);have b:=afm l λx c=>h x (by simp[c]);simp only[iP,jM,ou]at b⊢;rw[nI];have:(λn:Nat=>GV.i .u8 (n:Int))=jM:=rfl;rw[b];simp
def aiG:∀(m n:Nat)(done:Q2),n<18446744073709551616->done.length+m<1000->
 TT.lim 18 [.zu n,.l ((done++List.replicate m 0).map jM),.zq ((done.length+m:Nat):Int),.zq done.length]=some [.zq 0,.l ((done++lY m n).map jM)]
 |0,n,done,l,r=>by refine au ?_;simp[lY]
 |m+1,n,done,l,r=>by
  have c:(done.length:Int)<((done.length+(m+1):Nat):Int):=by omega
  have s:=bF ((done.length:Int)+1);have d:=aFP (n:=((n%128:Nat):Int)) (by omega) (by omega);have o:kD .shr .u64 (n:Int) 7=some (.zu ((n/128:Nat):Int)):=aln;have p:=ana n l;have h:=ayu (n%128) (by omega);have a:=aiG m (n/128) (done++[n%128+128]) (by omega) (by simp;omega);have e:(done++[n%128+128]).length+m=done.length+(m+1):=by simp;omega
  rw[e]at a;have i:(((done++[n%128+128]).length:Nat):Int)=(done.length:Int)+1:=by simp
  rw[i]at a;have f:((done++List.replicate (m+1) 0).map jM).set done.length (jM (n%128+128))=(done++[n%128+128]++List.replicate m 0).map jM:=by rw[O0,<-Yz,List.set_append_right _ _ (dD _),BP];simp
  have g:((done++List.replicate (m+1) 0).map jM)[done.length]? =some (jM 0):=by rw[iY,xI (dD _),BP,O0];rfl
  have j:((done++List.replicate (m+1) 0).map jM).length=done.length+(m+1):=by simp
  have t:done++lY (m+1) n=done++[n%128+128]++lY m (n/128):=by simp[lY]
  rw[t];generalize v:(done++List.replicate (m+1) 0).map jM=L at *;refine au ?_;have k:(0:Int)<=(done.length:Int)/\(done.length:Int)<(L.length:Int):=by rw[j];omega
  have u:GV.i IntKind.u8 ((n%128+128:Nat):Int)=jM (n%128+128):=rfl;have b:L.set done.length (GV.i IntKind.u8 ((n%128+128:Nat):Int))=(done++[n%128+128]++List.replicate m 0).map jM:=f;generalize(done++[n%128+128]++List.replicate m 0).map jM=w at a b;generalize(done++[n%128+128]++lY m (n/128)).map jM=x at a⊢;generalize((n/128:Nat):Int)=q at o a;generalize((n%128+128:Nat):Int)=z at h b;generalize((n%128:Nat):Int)=y at p d h;generalize((done.length+(m+1):Nat):Int)=N at c a⊢;simp[c,p,d,h,k,g,o,s,b,a]
def adC:∀m n,(lY m n).length=m
 |0,_=>rfl
 |m+1,n=>by simp[lY,adC m]
def adD:∀m n,∀x∈lY m n,x<256
 |0,_,x,h=>by simp[lY]at h
 |m+1,n,x,h=>by
  simp only[lY,bH]at h;rcases h with rfl|h
  ·omega
  ·exact adD m _ x h
def amh:∀(s n:Nat),fO n=s+1->∃x,(lY (s+1) n)[s]? =some x/\((lY (s+1) n).set s (x%128)).map UInt8.ofNat=aQ n
 |0,n,h=>by
  have a:n<128:=by
   by_cases a:n<128
   ·exact a
   ·rw[KY a]at h;have:=DK (n/128);omega
  refine⟨n%128+128,by simp[lY],?_⟩;rw[zy a];simp[lY];rw[O4 a]
 |s+1,n,h=>by
  have a:¬n<128:=by intro a;unfold fO at h;rw[zy a]at h;simp at h
  rw[KY a]at h;obtain⟨x,b,c⟩:=amh s (n/128) (by omega);refine⟨x,by simp only[lY,wE]at b⊢;exact b,?_⟩;rw[DJ a,<-c];simp[lY]
def zf(n:Nat)(o:n<18446744073709551616):TT.lim 15 [.zu n]=some [.s (aQ n)]:=by
 have p:=Ox n o;have L:=DK n;have N:=Ib o;obtain⟨s,h⟩:∃s,fO n=s+1:=⟨fO n-1,by omega⟩
 obtain⟨x,D,F⟩:=amh s n h;rw[h]at p;have c:TT.lim 18 [.zu n,.l ((List.replicate (s+1) 0).map jM),.zq ((s+1:Nat):Int),.zq 0]=some [.zq 0,.l ((lY (s+1) n).map jM)]:=by have:=aiG (s+1) n [] o (by simp;omega);simpa using this
 have G:(List.replicate (s+1) 0).map jM=List.replicate (s+1) (GV.i .u8 0):=by rw[List.map_replicate];rfl
 rw[G]at c;have H:x<256:=adD _ _ x (rQ D);have E:=aeP x H;have d:((lY (s+1) n).map jM)[s]? =some (jM x):=by rw[iY,D];rfl
 have b:((lY (s+1) n).map jM).set s (GV.i .u8 ((x%128:Nat):Int))=((lY (s+1) n).set s (x%128)).map jM:=(Yz (f:=jM) (l:=lY (s+1) n) (i:=s) (a:=x%128)).symm;have q:=afm ((lY (s+1) n).set s (x%128)) (λy r=>by
  rcases aej r with r|rfl
  ·exact adD _ _ y r
  ·omega)
 rw[F]at q;have e:(((lY (s+1) n).set s (x%128)).map jM).length=s+1:=by simp[adC]
 have j:(List.replicate (s+1) (GV.i .u8 0)).length=s+1:=by simp
 have k:((lY (s+1) n).map jM).length=s+1:=by simp[adC]
 generalize((lY (s+1) n).set s (x%128)).map jM=O at b q e;generalize(lY (s+1) n).map jM=I at c d b k;generalize m:List.replicate (s+1) (GV.i .u8 0)=P at c j;refine aT ?_;have J:=bF ((s:Int));have g:((s+1:Nat):Int)=(s:Int)+1:=by omega
 rw[g]at p c;have t:(0:Int)<=(s:Int)+1/\(s:Int)+1<=281474976710656/\(s:Int)+1<=1152921504606846976:=by omega
 have u:((s:Int)+1).toNat=s+1:=by omega
 have v:(s:Int)<(s:Int)+1:=by omega
 have w:(s:Int)+1-1=(s:Int):=by omega
 generalize Q:((x%128:Nat):Int)=M at E b;have z:jM x=.i .u8 x:=rfl;have A:s+1<=281474976710656:=by omega
 have B:I[s]'(by omega)=jM x:=by have:=d;rw[bT (by omega)]at this;exact IC this
 simp[p,t,u,m,j,c,k,w,J,v,d,B,E,b,z,e,q,A,GV.fP]
def Za(a b:Q0):dh (a++b)=dh a++dh b:=by simp[dh]
@[simp] theorem afk(a:Q0):(dh a).length=a.length:=by simp[dh]
def PK(a:Q0):(dh a).all (GV.fP 1)=true:=by rw[List.all_eq_true];intro x c;obtain⟨b,_,rfl⟩:=rM.1 c;rfl
def Zd:∀a:Q0,ou (dh a)=some a
 |[]=>rfl
 |x::a=>by have b:=Zd a;simp only[dh,iP,ou]at b⊢;have:=x.toNat_lt;rw[nI,b];simp
def jc(x:dK):Q0:=aQ x.1.length++x.1++aQ x.2.length++x.2
def dG(d:List dK):Q0:=aQ d.length++d.flatMap jc
def oJ{n:Nat}(h:n<18446744073709551616):(aQ n).length<=10:=Ib h
def asR(x:dK)(h1:x.1.length<=140737488351232)(g:x.2.length<=140737488351232):TT.lim 20 [ent x]=some [.s (jc x)]:=by
 have a:=zf x.1.length (by omega);have b:=zf x.2.length (by omega);have h:=oJ (n:=x.1.length) (by omega);have i:=oJ (n:=x.2.length) (by omega);have w1:=jA ((x.1.length:Int));have c:=jA ((x.2.length:Int));refine aT ?_;have d:((aQ x.1.length).length:Int)+(x.1.length:Int)<=9223372036854775807:=by omega
 have e:((aQ x.1.length).length:Int)+((x.1.length:Int)+((aQ x.2.length).length:Int))<=9223372036854775807:=by omega
 have f:((aQ x.1.length).length:Int)+((x.1.length:Int)+(((aQ x.2.length).length:Int)+(x.2.length:Int)))<=9223372036854775807:=by omega
 simp[w1,c,a,b,d,e,f,jc,Int.add_assoc]
def agB{x:dK}(h:vO x=true):(jc x).length<=620:=by unfold vO at h;simp only[decide_eq_true_iff]at h;have a:=oJ (n:=x.1.length) (by omega);have b:=oJ (n:=x.2.length) (by omega);simp only[jc,eP];omega
def aae:∀d:List dK,d.all vO=true->(d.flatMap jc).length<=620*d.length
 |[],_=>by simp
 |x::d,h=>by rw[rH,aK]at h;have:=agB h.1;have:=aae d h.2;simp only[kE,eP,gV];omega
def aiH(d:List dK)(f:d.all vO=true)(k:d.length<=40):∀(m i:Nat)(a:Q0),i+m=d.length->a.length<=10+620*i->
 TT.lim 19 [.l (d.map ent),.zq d.length,.zq i,.l (dh a)]=some [.zq 0,.l (dh (a++(d.drop i).flatMap jc))]
 |0,i,a,hi,l=>by
  have h0:d.drop i=[]:=ig;refine au ?_;have h:¬((i:Int)<d.length):=by omega
  simp[h,h0]
 |m+1,i,a,hi,l=>by
  have b:i<d.length:=by omega
  have g:=List.all_eq_true.1 f d[i] (gX b);have c:=g;unfold vO at c;simp only[decide_eq_true_iff]at c;have n:=asR d[i] (by omega) (by omega);have o:=agB g;have j:TT.lim 19 [.l (d.map ent),.zq d.length,.zq ((i:Int)+1),.l (dh (a++jc d[i]))]=_:=aiH d f k m (i+1) (a++jc d[i]) (by omega) (by simp;omega);rw[Za]at j;have p:(d.drop i).flatMap jc=jc d[i]++(d.drop (i+1)).flatMap jc:=by rw[iC b,kE]
  rw[p,<-List.append_assoc];refine au ?_;have h:((i:Int)<d.length):=by omega
  have q:=bF ((i:Int)+1);have e:=PK (jc d[i]);have r:2*(a.length+(jc d[i]).length)<=281474976710656/\a.length+(jc d[i]).length<=281474976710656:=by omega
  have s:GV.g [GV.s d[i].1,GV.s d[i].2]=ent d[i]:=rfl;simp[-List.all_eq_true,h,b,s,n,e,r,q,j]
def CY(d:List dK)(a:iL d=true):TT.lim 14 [.l (d.map ent)]=some [.s (dG d)]:=by
 unfold iL at a;rw[aK,decide_eq_true_iff]at a;have k:=zf d.length (by omega);have i:=oJ (n:=d.length) (by omega);have w1:=jA ((d.length:Int));have b:TT.lim 19 [.l (d.map ent),.zq d.length,.zq 0,.l (dh (aQ d.length))]=_:=aiH d a.1 a.2 d.length 0 (aQ d.length) (by omega) (by omega);rw[dN]at b;have f:2*(aQ d.length).length<=281474976710656/\(aQ d.length).length<=281474976710656:=by omega
 have c:=PK (aQ d.length);have g:=aae d a.1;have h:(aQ d.length).length+(List.flatMap jc d).length<=281474976710656:=by omega
 have e:=Zd (aQ d.length++d.flatMap jc);refine aT ?_;unfold dG;generalize d.flatMap jc=j at *;simp[-List.all_eq_true,w1,k,f,c,b,h,e]
def asP{x y:dK}{a b:Q0}(h:jc x++a=jc y++b):x=y/\a=b:=by unfold jc at h;simp only[List.append_assoc]at h;obtain⟨c,d⟩:=adB _ _ _ _ h;obtain⟨e,f⟩:=List.append_inj d c;obtain⟨g,i⟩:=adB _ _ _ _ f;obtain⟨j,k⟩:=List.append_inj i g;exact⟨Prod.ext e j,k⟩
def agZ:∀{d e:List dK}{a b:Q0},d.length=e.length->d.flatMap jc++a=e.flatMap jc++b->d=e/\a=b
 |[],[],a,b,_,h=>⟨rfl,by simpa using h⟩
 |x::d,y::e,a,b,c,h=>by simp only[kE,List.append_assoc]at h;obtain⟨h1,f⟩:=asP h;obtain⟨g,i⟩:=agZ (by simpa using c) f;exact⟨by rw[h1,g],i⟩
 |[],_::_,_,_,c,_=>by simp at c
 |_::_,[],_,_,c,_=>by simp at c
def aww{d e:List dK}{a b:Q0}(h:dG d++a=dG e++b):d=e/\a=b:=by unfold dG at h;simp only[List.append_assoc]at h;obtain⟨c,f⟩:=adB _ _ _ _ h;exact agZ c f
def awv{d e:List dK}(h:dG d=dG e):d=e:=(aww (a:=[]) (b:=[]) (by simpa using h)).1
def qP(s:Q0)(lo hi:Int):Int:=if(s.length:Int)<lo then 13 else if hi<(s.length:Int)then 13 else if Lib.validD s=true then 0 else 11
def auZ(s:Q0)(h:s.length<=140737488351232):TT.lim 27 [.s s]=some [.b (Lib.validD s)]:=by have a:TT.lim 28 [.s s]=some [.b (Lib.validD s)]:=Bz (Ds:=Ds) (k:=28) (f:=OJ) rfl (by simp only[OJ];rw[nI]);refine aT ?_;simp[a]
def Gl(s:Q0)(lo hi:Int)(h:s.length<=140737488351232):TT.lim 26 [.s s,.zq lo,.zq hi]=some [.zq (qP s lo hi)]:=by
 have a:=auZ s h;refine aT ?_;unfold qP;by_cases b:(s.length:Int)<lo
 ·simp[b]
 ·by_cases c:hi<(s.length:Int)
  ·simp[b,c]
  ·cases d:Lib.validD s<;>rw[d]at a<;>simp[b,c,a,d]
def uh(x:dK):Int:=if qP x.1 1 64≠0 then qP x.1 1 64 else qP x.2 0 256
def agC(x:dK)(h1:x.1.length<=140737488351232)(b:x.2.length<=140737488351232):TT.lim 41 [ent x]=some [.zq (uh x)]:=by
 have a:=Gl x.1 1 64 h1;have c:=Gl x.2 0 256 b;refine aT ?_;unfold uh;by_cases h:qP x.1 1 64=0
 ·simp[a,h,c]
 ·simp[a,h]
def tZ:Option Q0->List dK->Int
 |_,[]=>0
 |p,x::xs=>if uh x≠0 then uh x else match p with
  |none=>tZ (some x.1) xs
  |some k=>if x.1=k then 14 else if Op.bytesLess x.1 k=true then 7 else tZ (some x.1) xs
def tagged(r:Int):Q1:=if r=0 then[.zq 1]else[.zq 0,.zq r]
def prevK(d:List dK)(i:Nat):Option Q0:=if i=0 then none else(d[i-1]?).map (·.1)
def aiI(d:List dK)(o:sU d):∀m i:Nat,i+m=d.length->TT.lim 40 [.l (d.map ent),.zq d.length,.zq i]=some (tagged (tZ (prevK d i) (d.drop i)))
 |0,i,hi=>by
  have h0:d.drop i=[]:=ig;refine au ?_;have h:¬((i:Int)<d.length):=by omega
  simp[h,h0,tZ,tagged]
 |m+1,i,hi=>by
  have a:i<d.length:=by omega
  have w:=o.2 d[i] (gX a);have g:=agC d[i] w.1 w.2;have p:TT.lim 40 [.l (d.map ent),.zq d.length,.zq ((i:Int)+1)]=_:=aiI d o m (i+1) (by omega);have r:prevK d (i+1)=some d[i].1:=by unfold prevK;rw[dA];simp[a]
  rw[r]at p;have s:d.drop i=d[i]::d.drop (i+1):=iC a;rw[s];refine au ?_;have h:((i:Int)<d.length):=by omega
  have t:=wrap64 (n:=(i:Int)+1) (by omega) (by have:=o.1;omega);have j:GV.g [GV.s d[i].1,GV.s d[i].2]=ent d[i]:=rfl;by_cases k:uh d[i]=0;rotate_left
  ·simp[h,a,j,g,k,tZ,tagged]
  by_cases h0:i=0
  ·subst h0;simp only[sW,ad1]at t p;simp[h,a,j,g,k,tZ,prevK,t];simpa using p
  ·have b:i-1<d.length:=by omega
   have l:prevK d i=some d[i-1].1:=by unfold prevK;rw[ah h0];simp[b]
   have c:=wrap64 (n:=(i:Int)-1) (by omega) (by have:=o.1;omega);have e:¬((i:Int)=0):=by omega
   have y:(0:Int)<=(i:Int)-1:=by omega
   have u:((i:Int)-1).toNat=i-1:=by omega
   have f:(1:Int)<=(i:Int):=by omega
   rw[l];by_cases q:d[i].1=d[i-1].1
   ·have v:(d[i].1=d[i-1].1)=True:=eq_true q;clear q;simp[h,a,j,g,k,e,h0,c,u,b,v,tZ,tagged,f]
   ·cases x:Op.bytesLess d[i].1 d[i-1].1 with
    |true=>simp[h,a,j,g,k,e,h0,c,u,b,q,x,tZ,tagged,f]
    |false=>simp[h,a,j,g,k,e,h0,c,u,b,q,x,tZ,t,p,f]
def xY(d:List dK):Int:=if d.length=0 then 12 else if 16<d.length then 13 else tZ none d
def afC(d:List dK)(i:sU d):TT.lim 39 [.l (d.map ent)]=some [.zq (xY d)]:=by
 have a:TT.lim 40 [.l (d.map ent),.zq d.length,.zq 0]=_:=aiI d i d.length 0 (by omega);have f:prevK d 0=none:=rfl;rw[f,dN]at a;have w1:=Ig (n:=(d.length:Int)) (by omega) (by have:=i.1;omega);refine aT ?_;unfold xY;by_cases e:d.length=0
 ·have b:(d.length:Int)=0:=by omega
  have:d=[]:=jH e;subst this;simp[IntKind.wrap,IntKind.signed]
 ·have b:¬(d.length:Int)=0:=by omega
  by_cases g:16<d.length
  ·have c:(16:Int)<(d.length:Int):=by omega
   simp[w1,e,g,b,c]
  ·have c:¬(16:Int)<(d.length:Int):=by omega
   by_cases h:tZ none d=0
   ·simp only[tagged,h,if_true]at a;simp[w1,e,g,b,c,a,h]
   ·simp only[tagged,h,if_false]at a;simp[w1,e,g,b,c,a]
def yB(r:Row):Int:=if xY r.1≠0 then xY r.1 else if r.2=0 then 18 else 0
def aoa(r:Row)(b:sU r.1):TT.lim 38 [row r]=some [.zq (yB r)]:=by
 have k:=afC r.1 b;refine aT ?_;unfold yB;by_cases h:xY r.1=0
 ·by_cases a:r.2=0
  ·simp[k,h,a]
  ·simp[k,h,a]
 ·simp[k,h]
def uH(long:Bool)(r:Row):Bool:=decide (r.1.length<=18)&&iL r.1&&(!long ||decide ((dG r.1).length<=100))
def aiM(l:List Row)(j:Rows l):∀m i:Nat,i+m=l.length->TT.lim 11 [.l (l.map row),.zq l.length,.zq i]=some (if(l.drop i).all (uH (decide (40<l.length)))=true then[.zq 1]else[.zq 0])
 |0,i,hi=>by
  have h0:l.drop i=[]:=ig;refine au ?_;have h:¬((i:Int)<l.length):=by omega
  simp[h,h0]
 |m+1,i,hi=>by
  have a:i<l.length:=by omega
  have s:=j.2 l[i] (gX a);have p:TT.lim 11 [.l (l.map row),.zq l.length,.zq ((i:Int)+1)]=_:=aiM l j m (i+1) (by omega);have k:(l.drop i).all (uH (decide (40<l.length)))=(uH (decide (40<l.length)) l[i]&&(l.drop (i+1)).all (uH (decide (40<l.length)))):=by rw[iC a,rH]
  rw[k];refine au ?_;have h:((i:Int)<l.length):=by omega
  have q:=wrap64 (n:=(i:Int)+1) (by omega) (by have:=j.1;omega);have e:=atA l[i].1 s.1;by_cases t:18<l[i].1.length
  ·have b:(18:Int)<(l[i].1.length:Int):=by omega
   have:uH (decide (40<l.length)) l[i]=false:=by unfold uH;simp;omega
   rw[this];simp[h,a,b]
  have b:¬(18:Int)<(l[i].1.length:Int):=by omega
  have g:l[i].1.length<=18:=by omega
  cases f:iL l[i].1 with
  |false=>
   rw[f]at e;have:uH (decide (40<l.length)) l[i]=false:=by unfold uH;simp[f]
   rw[this];simp[h,a,b,e]
  |true=>
   rw[f]at e;have r:=CY l[i].1 f;by_cases o:40<l.length
   ·have c:(40:Int)<(l.length:Int):=by omega
    by_cases u:100<(dG l[i].1).length
    ·have d:(100:Int)<((dG l[i].1).length:Int):=by omega
     have:uH (decide (40<l.length)) l[i]=false:=by unfold uH;simp[o];omega
     rw[this];simp[h,a,b,e,c,r,d]
    ·have d:¬(100:Int)<((dG l[i].1).length:Int):=by omega
     have:uH (decide (40<l.length)) l[i]=true:=by unfold uH;simp[o,f,g];omega
     rw[this,FK];simp[h,a,b,e,c,r,d,q,p]
   ·have c:¬(40:Int)<(l.length:Int):=by omega
    have:uH (decide (40<l.length)) l[i]=true:=by unfold uH;simp[o,f,g]
    rw[this,FK];simp[h,a,b,e,c,q,p]
def Gy(l:List Row):Bool:=l.all (uH (decide (40<l.length)))&&decide (l.length<=300)
def aty(l:List Row)(c:Rows l):TT.lim 10 [.l (l.map row)]=some [.b (Gy l)]:=by
 refine aT ?_;have a:TT.lim 11 [.l (l.map row),.zq l.length,.zq 0]=_:=aiM l c l.length 0 (by omega);rw[dN]at a;unfold Gy;cases b:l.all (uH (decide (40<l.length)))with
 |false=>rw[b]at a;simp[a]
 |true=>
  rw[b]at a;simp only[if_true]at a;have:(decide ((l.length:Int)<=300))=decide (l.length<=300):=by rw[yI];simp;omega
  simp[a,this]
def atx{l:List Row}(h:Gy l=true):∀r∈l,iL r.1=true:=by unfold Gy at h;rw[aK]at h;intro r a;have:=List.all_eq_true.1 h.1 r a;unfold uH at this;simp only[aK]at this;exact this.1.2
def Gm(d:List dK)(h:d.length<=40):TT.lim 44 [.l (d.map ent)]=some [.l (d.map ent)]:=by
 refine Bz (Ds:=Ds) (k:=44) (f:=wP 32 2) rfl ?_;have a:(d.map ent).all (GV.fP 2)=true:=by rw[List.all_eq_true];intro x b;obtain⟨r,_,rfl⟩:=rM.1 b;rfl
 simp only[wP];rw[aj ⟨by rw[gG];omega,a⟩]
abbrev K(r:Row):Q0:=dG r.1
def qU(k:Q0):List Row->Nat
 |[]=>0
 |r::rs=>if Op.bytesLess (K r) k=true then qU k rs+1 else 0
def agt(k:Q0):∀t:List Row,t.drop (qU k t)=t.dropWhile λr=>Op.bytesLess (K r) k
 |[]=>rfl
 |r::rs=>by
  unfold qU;cases h:Op.bytesLess (K r) k with
  |true=>simp[h,agt k rs]
  |false=>simp[h]
def aeK(k:Q0):∀t:List Row,qU k t<=t.length
 |[]=>by simp[qU]
 |r::rs=>by unfold qU;have:=aeK k rs;split<;>simp;omega
def Rf(t:List Row)(i:Nat)(k:GV)(b n j a c:GV):Q1:=match t[i]? with
 |some r=>[.zq 0,.zq i,row r,.l (r.1.map ent),.s (dG r.1)]
 |none=>[.zq 1,.zq i]
def aiK(t:List Row)(p:t.length<=256)(f:∀r∈t,iL r.1=true)(k:Q0)(b n j d e:GV):∀m i:Nat,i+m=t.length->
 TT.lim 169 [.l (t.map row),.zq i,.s k,b,n,j,d,e]=some (Rf t (i+qU k (t.drop i)) (.s k) b n j d e)
 |0,i,hi=>by
  have h0:t.drop i=[]:=ig;have g:t[i]? =none:=wG (by omega);refine au ?_;have h:¬((i:Int)<t.length):=by omega
  simp[h,h0,qU,Rf,g]
 |m+1,i,hi=>by
  have a:i<t.length:=by omega
  have q:TT.lim 169 [.l (t.map row),.zq ((i:Int)+1),.s k,b,n,j,d,e]=_:=aiK t p f k b n j d e m (i+1) (by omega);have l:=CY t[i].1 (f _ (gX a));have s:qU k (t.drop i)=if Op.bytesLess (K t[i]) k=true then qU k (t.drop (i+1))+1 else 0:=by rw[iC a];rfl
  refine au ?_;have h:((i:Int)<t.length):=by omega
  have u:=bF ((i:Int)+1);rw[s];cases o:Op.bytesLess (K t[i]) k with
  |true=>have c:Op.bytesLess (dG t[i].1) k=true:=o;rw[aj rfl,show i+(qU k (t.drop (i+1))+1)=i+1+qU k (t.drop (i+1)) by omega];simp[h,a,l,c,u,q]
  |false=>have c:Op.bytesLess (dG t[i].1) k=false:=o;have g:t[i]? =some t[i]:=bT a;rw[ah (by simp),oL];simp[h,a,l,c,Rf]
def kH:List Row->List Row->Bool
 |_,[]=>true
 |t,r::rs=>match t.drop (qU (K r) t)with
  |[]=>false
  |s::a=>decide (K s=K r)&&decide (r.2<=s.2)&&kH (s::a) rs
def aiJ(t b:List Row)(z:t.length<=256)(E:b.length<=256)(o:∀r∈t,iL r.1=true)(A:∀r∈b,iL r.1=true):∀m j i:Nat,j+m=b.length->i<=t.length->
 TT.lim 168 [.l (t.map row),.zq i,.l (b.map row),.zq b.length,.zq j]=some (if kH (t.drop i) (b.drop j)=true then[.zq 1]else[.zq 0])
 |0,j,i,F,hi=>by
  have h0:b.drop j=[]:=ig;refine au ?_;have h:¬((j:Int)<b.length):=by omega
  simp[h,h0,kH]
 |m+1,j,i,F,hi=>by
  have d:j<b.length:=by omega
  have n:=CY b[j].1 (A _ (gX d));have f:=aiK t z o (dG b[j].1) (.l (b.map row)) (.zq b.length) (.zq j) (.l (b[j].1.map ent)) (.zu b[j].2) (t.length-i) i (by omega);have p:=aeK (dG b[j].1) (t.drop i);rw[fH]at p;have q:b.drop j=b[j]::b.drop (j+1):=iC d
  have u:kH (t.drop i) (b.drop j)=match t.drop (i+qU (dG b[j].1) (t.drop i))with
   |[]=>false
   |s::G=>decide (K s=K b[j])&&decide (b[j].2<=s.2)&&kH (s::G) (b.drop (j+1)):=by
   rw[q];simp only[kH,rJ]
  rw[u];generalize H:i+qU (dG b[j].1) (t.drop i)=c at f⊢;have v:c<=t.length:=by omega
  refine au ?_;have h:((j:Int)<b.length):=by omega
  have I:=bF ((j:Int)+1);by_cases a:c<t.length
  ·have g:¬((c:Int)=(t.length:Int)):=by omega
   have w:t[c]? =some t[c]:=bT a;have e:t.drop c=t[c]::t.drop (c+1):=iC a;have x:=CY t[c].1 (o _ (gX a));have B:TT.lim 168 [.l (t.map row),.zq c,.l (b.map row),.zq b.length,.zq ((j:Int)+1)]=_:=aiJ t b z E o A m (j+1) c (by omega) v;simp only[Rf,w]at f;rw[e];rw[e]at B;by_cases y:dG t[c].1=dG b[j].1
   ·have l:(dG t[c].1=dG b[j].1)=True:=eq_true y;clear y;by_cases D:t[c].2<b[j].2
    ·have k:¬b[j].2<=t[c].2:=by omega
     simp[h,d,n,f,g,a,x,l,D,k]
    ·have k:b[j].2<=t[c].2:=by omega
     simp[h,d,n,f,g,a,x,l,D,k,I,B]
   ·simp[h,d,n,f,g,a,x,y]
  ·have J:(c:Int)=(t.length:Int):=by omega
   have w:t[c]? =none:=wG (by omega);have e:t.drop c=[]:=ig;simp only[Rf,w]at f;rw[e];simp[h,d,n,f,J]
def Y5(t b:List Row)(c:t.length<=256)(d:b.length<=256)(e:∀r∈t,iL r.1=true)(f:∀r∈b,iL r.1=true):TT.lim 167 [.l (t.map row),.l (b.map row)]=some [.b (kH t b)]:=by have a:TT.lim 168 [.l (t.map row),.zq 0,.l (b.map row),.zq b.length,.zq 0]=_:=aiJ t b c d e f b.length 0 0 (by omega) (by omega);rw[dN,dN]at a;refine aT ?_;cases g:kH t b<;>rw[g]at a<;>simp at a<;>simp[a]
def asU(x y:dK):oD [1,1] [.s x.1,.s x.2] [.s y.1,.s y.2]=some (decide (x=y)):=by simp only[oD,gZ,SH];congr 1;rw[yI];simp[Prod.ext_iff]
def aiN(d e:List dK)(l:d.length=e.length)(n:d.length<=140737488351232):∀m i:Nat,i+m=d.length->
 TT.lim 179 [.l (d.map ent),.l (e.map ent),.zq d.length,.zq i]=some (if d.drop i=e.drop i then[.zq 1]else[.zq 0])
 |0,i,hi=>by
  have h0:d.drop i=[]:=ig;have f:e.drop i=[]:=ig;refine au ?_;have h:¬((i:Int)<d.length):=by omega
  simp[h,h0,f]
 |m+1,i,hi=>by
  have b:i<d.length:=by omega
  have a:i<e.length:=by omega
  have o:TT.lim 179 [.l (d.map ent),.l (e.map ent),.zq d.length,.zq ((i:Int)+1)]=_:=aiN d e l n m (i+1) (by omega);have j:(d.drop i=e.drop i)↔(d[i]=e[i]/\d.drop (i+1)=e.drop (i+1)):=by rw[iC b,iC a,xH]
  have k:=asU d[i] e[i];refine au ?_;have h:((i:Int)<d.length):=by omega
  have p:=bF ((i:Int)+1);by_cases f:d[i]=e[i]
  ·have g:(d.drop i=e.drop i)↔(d.drop (i+1)=e.drop (i+1)):=by rw[j];simp[f]
   have c:oD [1,1] [.s d[i].1,.s d[i].2] [.s e[i].1,.s e[i].2]=some true:=by rw[k];simp[f]
   simp only[g];simp[h,b,a,c,p,o]
  ·have g:¬(d.drop i=e.drop i):=by rw[j];simp[f]
   have c:oD [1,1] [.s d[i].1,.s d[i].2] [.s e[i].1,.s e[i].2]=some false:=by rw[k];simp[f]
   rw[ah g];simp[h,b,a,c]
def agN(d e:List dK)(f:d.length<=140737488351232)(g:e.length<=140737488351232):TT.lim 178 [.l (d.map ent),.l (e.map ent)]=some [.b (decide (d=e))]:=by
 refine aT ?_;by_cases c:d.length=e.length
 ·have b:(d.length:Int)=(e.length:Int):=by omega
  have a:TT.lim 179 [.l (d.map ent),.l (e.map ent),.zq d.length,.zq 0]=_:=aiN d e c f d.length 0 (by omega);rw[dN,dN]at a;by_cases h:d=e
  ·rw[aj h]at a;have i:(d=e)=True:=eq_true h;clear h;rw[b]at a;simp[b,a,i]
  ·rw[ah h]at a;rw[b]at a;simp[b,a,h]
 ·have b:¬(d.length:Int)=(e.length:Int):=by omega
  have h:¬d=e:=λh=>c (by rw[h]);simp[b,c,h]
def aAT(r s:Row)(b:r.1.length<=140737488351232)(a:s.1.length<=140737488351232):TT.lim 177 [row r,row s]=some [.b (decide (r=s))]:=by
 have k:=agN r.1 s.1 b a;refine aT ?_;by_cases h:r.2=s.2
 ·have:decide (r=s)=decide (r.1=s.1):=by rw[yI];simp[Prod.ext_iff,h]
  rw[this];simp[h,k]
 ·have:decide (r=s)=false:=by rw[decide_eq_false_iff_not];intro e;exact h (by rw[e])
  rw[this];simp[h]
def aiL(a b:List Row)(n:a.length=b.length)(o:a.length<=140737488351232)(h1:∀r∈a,r.1.length<=140737488351232)(j:∀r∈b,r.1.length<=140737488351232):∀m i:Nat,i+m=a.length->
 TT.lim 176 [.l (b.map row),.l (a.map row),.zq a.length,.zq i]=some (if a.drop i=b.drop i then[.zq 1]else[.zq 0])
 |0,i,hi=>by
  have h0:a.drop i=[]:=ig;have h1:b.drop i=[]:=ig;refine au ?_;have h:¬((i:Int)<a.length):=by omega
  simp[h,h0,h1]
 |m+1,i,hi=>by
  have d:i<a.length:=by omega
  have c:i<b.length:=by omega
  have p:TT.lim 176 [.l (b.map row),.l (a.map row),.zq a.length,.zq ((i:Int)+1)]=_:=aiL a b n o h1 j m (i+1) (by omega);have l:(a.drop i=b.drop i)↔(a[i]=b[i]/\a.drop (i+1)=b.drop (i+1)):=by rw[iC d,iC c,xH]
  have k:=aAT a[i] b[i] (h1 _ (gX d)) (j _ (gX c));have r1:GV.g [.l (a[i].1.map ent),.zu a[i].2]=row a[i]:=rfl;have r2:GV.g [.l (b[i].1.map ent),.zu b[i].2]=row b[i]:=rfl;refine au ?_;have h:((i:Int)<a.length):=by omega
  have q:=bF ((i:Int)+1);by_cases e:a[i]=b[i]
  ·have f:(a.drop i=b.drop i)↔(a.drop (i+1)=b.drop (i+1)):=by rw[l];simp[e]
   simp only[f];have g:TT.lim 177 [row a[i],row b[i]]=some [.b true]:=by rw[k];simp[e]
   simp[h,d,c,r1,r2,g,q,p]
  ·have f:¬(a.drop i=b.drop i):=by rw[l];simp[e]
   rw[ah f];have g:TT.lim 177 [row a[i],row b[i]]=some [.b false]:=by rw[k];simp[e]
   simp[h,d,c,r1,r2,g]
def aDo(a b:List Row)(g:a.length<=140737488351232)(i:b.length<=140737488351232)(h1:∀r∈a,r.1.length<=140737488351232)(j:∀r∈b,r.1.length<=140737488351232):TT.lim 174 [.l (a.map row),.l (b.map row)]=some [.b (decide (a=b))]:=by
 have e:TT.lim 175 [.l (a.map row),.l (b.map row)]=some [.b (decide (a=b))]:=by
  refine aT ?_;by_cases f:a.length=b.length
  ·have c:(a.length:Int)=(b.length:Int):=by omega
   have d:TT.lim 176 [.l (b.map row),.l (a.map row),.zq a.length,.zq 0]=_:=aiL a b f g h1 j a.length 0 (by omega);rw[dN,dN]at d;rw[c]at d;by_cases h:a=b
   ·rw[aj h]at d;have k:(a=b)=True:=eq_true h;clear h;simp[c,d,k]
   ·rw[ah h]at d;simp[c,d,h]
  ·have c:¬(a.length:Int)=(b.length:Int):=by omega
   have h:¬a=b:=λh=>f (by rw[h]);simp[c,f,h]
 refine aT ?_;simp[e]
def Me(a b:Q0):Op.bytesLess a b=true↔a<b:=by rw[MB];simp
def jC(l:List Row):Prop:=l.Pairwise λa b=>K a<K b
def L6:∀(b t:List Row),jC t->jC b->(kH t b=true↔∀r∈b,∃s∈t,K s=K r/\r.2<=s.2)
 |[],t,_,_=>by simp[kH]
 |r::rs,t,E,F=>by
  have o:=iZ.1 F;have i:=agt (K r) t;have d:jC (t.drop (qU (K r) t)):=E.sublist (Yt _ _);have c:∀s∈t.drop (qU (K r) t),s∈t:=λs f=>(Yt _ _).subset f;have j:∀(u:List Row),(∀s∈u,s∈t.dropWhile (λx=>Op.bytesLess (K x) (K r))\/K s<K r)->True:=λ_ _=>trivial;have g:∀s∈t,¬K s<K r->s∈t.drop (qU (K r) t):=by
   intro s f w;rw[i];clear j c d i E;induction t with
   |nil=>simp at f
   |cons a t G=>
    rw[List.dropWhile_cons];split
    ·next H=>
     rcases bH.1 f with rfl|f
     ·exact absurd ((Me _ _).1 H) w
     ·exact G f
    ·exact f
  have k:∀s p,t.drop (qU (K r) t)=s::p->¬K s<K r:=by intro s p e;rw[i]at e;have:=List.head?_dropWhile_not (λx=>Op.bytesLess (K x) (K r)) t;rw[e]at this;simp only[Yw,Option.all_some,wC]at this;intro l;rw[(Me _ _).2 l]at this;cases this
  unfold kH;cases e:t.drop (qU (K r) t)with
  |nil=>simp only[iw,false_iff];intro h;obtain⟨s,f,q,_⟩:=h r (by simp);have:=g s f (by rw[q];exact qw _);rw[e]at this;simp at this
  |cons s p=>
   simp only[aK,decide_eq_true_iff];rw[e]at d c g;rw[L6 rs (s::p) d o.2];have A:=iZ.1 d;constructor
   ·rintro⟨⟨I,J⟩,L⟩ x n
    rcases bH.1 n with rfl|n
    ·exact⟨s,c s (by simp),I,J⟩
    ·obtain⟨y,B,v⟩:=L x n;exact⟨y,c y B,v⟩
   ·intro h;obtain⟨y,B,q,w⟩:=h r (by simp);have m:=g y B (by rw[q];exact qw _);have D:y=s:=by
     rcases bH.1 m with rfl|m
     ·rfl
     ·have:=A.1 y m;rw[q]at this;exact absurd this (k s p e)
    subst D;refine⟨⟨q,w⟩,λx n=>?_⟩;obtain⟨z,M,v,N⟩:=h x (by simp[n]);refine⟨z,g z M ?_,v,N⟩;rw[v];exact λl=>qw _ (Ai l (o.1 x n))
def anm{t:List Row}(h:jC t):kH t t=true:=(L6 t t h h).2 λr a=>⟨r,a,rfl,gW _⟩
def aeZ(t:List Row):kH t []=true:=by simp[kH]
def ae0{a b c:List Row}(d:jC a)(e:jC b)(f:jC c)(h1:kH a b=true)(g:kH b c=true):kH a c=true:=by rw[L6 _ _ d e]at h1;rw[L6 _ _ e f]at g;rw[L6 _ _ d f];intro r h;obtain⟨s,i,j,k⟩:=g r h;obtain⟨u,l,m,n⟩:=h1 s i;exact⟨u,l,m.trans j,OY k n⟩
def akH:∀{a b:List Row},jC a->jC b->(∀r∈a,r∈b)->(∀r∈b,r∈a)->a=b
 |[],[],_,_,_,_=>rfl
 |[],b::_,_,_,_,h=>absurd (h b (by simp)) (by simp)
 |a::_,[],_,_,h,_=>absurd (h a (by simp)) (by simp)
 |x::a,y::b,j,k,h1,i=>by
  have c:=iZ.1 j;have d:=iZ.1 k;have g:x=y:=by
   rcases bH.1 (h1 x (by simp))with e|l
   ·exact e
   ·rcases bH.1 (i y (by simp))with e|m
    ·exact e.symm
    ·exact absurd (Ai (d.1 x l) (c.1 y m)) (qw _)
  subst g;rw[akH c.2 d.2 (λr f=>?_) (λr f=>?_)]
  ·rcases bH.1 (h1 r (by simp[f]))with e|h
   ·subst e;exact absurd (c.1 _ f) (qw _)
   ·exact h
  ·rcases bH.1 (i r (by simp[f]))with e|h
   ·subst e;exact absurd (d.1 _ f) (qw _)
   ·exact h
def aAQ{a:List Row}(i:jC a){r s:Row}(e:r∈a)(j:s∈a)(f:K r=K s):r=s:=by
 induction a with
 |nil=>simp at e
 |cons x a k=>
  have b:=iZ.1 i;rcases bH.1 e with g|c<;>rcases bH.1 j with h|d
  ·rw[g,h]
  ·have:=b.1 s d;rw[<-g,f]at this;exact absurd this (qw _)
  ·have:=b.1 r c;rw[<-h,f]at this;exact absurd this (qw _)
  ·exact k b.2 c d
def asT{cs:Q1}{r0:Q1}(h:bU.jo [.list true [.str,.str],.int .u64] cs):∃r:Row,(sU r.1/\0<=r.2/\r.2<18446744073709551616)/\GV.g cs=row r:=by
 obtain⟨g,l,rfl,f,h⟩:=qF h;obtain⟨n,l,rfl,i,h⟩:=qF h;obtain rfl:=Nr h;obtain⟨n,rfl,j,k⟩:=Jv i;obtain⟨m,rfl,o,p⟩:=VJ f;obtain⟨d,q,rfl⟩:∃d:List dK,(∀x∈d,x.1.length<=140737488351232/\x.2.length<=140737488351232)/\m=d.map ent:=QL λx t=>by
  obtain⟨c,v⟩:=p x t;cases x<;>simp[GV.scalar]at v
  obtain⟨a,l,e,w,c⟩:=qF c;obtain⟨b,l,rfl,y,c⟩:=qF c;obtain rfl:=Nr c;obtain⟨s,rfl,z⟩:=ahH w;obtain⟨u,rfl,A⟩:=ahH y;simp only[an8]at e;subst e;exact⟨(s,u),⟨Nat.le_trans z (by decide),kF A (by decide)⟩,rfl⟩
 exact⟨(d,n),⟨⟨by have:=kF o (by decide:reachBytes<=140737488351232);simpa using this,q⟩,j,k⟩,rfl⟩
def aAW{g:GV}(h:(bU.list true [.list true [.str,.str],.int .u64]).has g):∃l:List Row,Rows l/\g=.l (l.map row):=by
 obtain⟨a,rfl,b,c⟩:=VJ h;obtain⟨l,d,rfl⟩:∃l:List Row,(∀r∈l,sU r.1/\0<=r.2/\r.2<18446744073709551616)/\a=l.map row:=QL λx f=>by
  obtain⟨i,j⟩:=c x f;cases x<;>simp[GV.scalar]at j
  obtain⟨r,k,e⟩:=asT (r0:=[]) i;exact⟨r,k,e⟩
 exact⟨l,⟨by have:=kF b (by decide:reachBytes<=140737488351232);simpa using this,d⟩,rfl⟩
def vK:Option Q0->List Row->Int
 |_,[]=>0
 |p,r::rs=>if yB r≠0 then yB r else match p with
  |none=>vK (some (K r)) rs
  |some k=>if K r=k then 14 else if Op.bytesLess (K r) k=true then 7 else vK (some (K r)) rs
def aiO(t:List Row)(k:Rows t)(q:∀r∈t,iL r.1=true):∀(m i:Nat)(p:Q0),i+m=t.length->
 TT.lim 37 [.s p,.l (t.map row),.zq t.length,.zq i]=some (tagged (vK (if i=0 then none else some p) (t.drop i)))
 |0,i,p,hi=>by
  have h0:t.drop i=[]:=ig;refine au ?_;have h:¬((i:Int)<t.length):=by omega
  simp[h,h0,vK,tagged]
 |m+1,i,p,hi=>by
  have a:i<t.length:=by omega
  have u:=k.2 t[i] (gX a);have c:=aoa t[i] u.1;have f:=CY t[i].1 (q _ (gX a));have b:GV.g [.l (t[i].1.map ent),.zu t[i].2]=row t[i]:=rfl;have g:TT.lim 37 [.s (dG t[i].1),.l (t.map row),.zq t.length,.zq ((i:Int)+1)]=_:=aiO t k q m (i+1) (dG t[i].1) (by omega);rw[dA]at g;rw[iC a];refine au ?_;have h:((i:Int)<t.length):=by omega
  have l:=wrap64 (n:=(i:Int)+1) (by omega) (by have:=k.1;omega);by_cases e:yB t[i]=0;rotate_left
  ·simp[-List.getElem_cons_drop,h,a,b,c,e,vK,tagged]
  by_cases h0:i=0
  ·subst h0;simp only[sW,ad1]at l g;simp[-List.getElem_cons_drop,h,a,b,c,e,f,l,vK];have v:(0:Int)<(t.length:Int):=by omega
   simpa using g
  ·have d:0<i:=by omega
   by_cases j:dG t[i].1=p
   ·have o:(dG t[i].1=p)=True:=eq_true j;clear j;simp[-List.getElem_cons_drop,h,a,b,c,e,f,d,h0,o,vK,tagged]
   ·cases s:Op.bytesLess (dG t[i].1) p with
    |true=>simp[-List.getElem_cons_drop,h,a,b,c,e,f,d,h0,j,s,vK,tagged]
    |false=>simp[-List.getElem_cons_drop,h,a,b,c,e,f,d,h0,j,s,l,g,vK]
def oz(t:List Row):Int:=if 256<t.length then 13 else vK none t
def UK(t:List Row)(e:Rows t)(f:∀r∈t,iL r.1=true):TT.lim 36 [.l (t.map row)]=some [.zq (oz t)]:=by
 have a:TT.lim 37 [.s [],.l (t.map row),.zq t.length,.zq 0]=_:=aiO t e f t.length 0 [] (by omega);rw[aj rfl,dN]at a;refine aT ?_;unfold oz;by_cases d:256<t.length
 ·have b:(256:Int)<(t.length:Int):=by omega
  simp[d,b]
 ·have b:¬(256:Int)<(t.length:Int):=by omega
  by_cases c:vK none t=0
  ·simp only[tagged,c,if_true]at a;simp[d,b,a,c]
  ·simp only[tagged,c,if_false]at a;simp[d,b,a,c]
def afF:∀{t:List Row}(p:Option Q0),jC t->(∀r∈t,yB r=0)->(∀k,p=some k->∀r∈t,k<K r)->vK p t=0
 |[],p,_,_,_=>by cases p<;>rfl
 |r::t,p,g,d,h=>by
  have a:=iZ.1 g;have f:=afF (t:=t) (some (K r)) a.2 (λx c=>d x (by simp[c])) (λk b x c=>by cases b;exact a.1 x c);unfold vK;rw[ah (by simp[d r (by simp)])];cases p with
  |none=>exact f
  |some k=>
   have b:=h k rfl r (by simp);have i:¬K r=k:=λe=>by rw[e]at b;exact qw _ b
   have j:¬Op.bytesLess (K r) k=true:=λe=>qw _ (Ai b ((Me _ _).1 e));simp only;rw[ah i,ah j];exact f
def Rows.perm{l m:List Row}(h:l.Perm m)(a:Rows l):Rows m:=⟨by rw[<-h.length_eq];exact a.1,λr b=>a.2 r (h.mem_iff.2 b)⟩
def cmpK(a b:Q0):Int:=if a<b then -1 else if b<a then 1 else 0
def afT:∀a b:Q0,Lib.compareBytes a b=cmpK a b
 |[],[]=>by simp[Lib.compareBytes,cmpK]
 |[],_::_=>by simp[Lib.compareBytes,cmpK]
 |_::_,[]=>by simp[Lib.compareBytes,cmpK]
 |x::a,y::b=>by
  unfold Lib.compareBytes;rw[afT a b];unfold cmpK;simp only[ad7];by_cases h1:x<y
  ·simp[h1]
  ·by_cases c:y<x
   ·have d:¬x=y:=λe=>by subst e;exact UInt8.lt_irrefl _ c
    simp[h1,c,d]
   ·have f:x=y:=UInt8.le_antisymm (UInt8.not_lt.1 c) (UInt8.not_lt.1 h1);subst f;simp[UInt8.lt_irrefl]
def aoy(a b:Q0):Zr a b=cmpK a b:=(Lib.cmp_eq _ _).trans (afT a b)
def aox(a b:Q0):TT.lim 58 [.s a,.s b]=some [.zq (cmpK a b)]:=Bz rfl (by rw[<-aoy];rfl)
def afJ(d e:List dK)(a:iL d=true)(b:iL e=true):TT.lim 57 [.l (d.map ent),.l (e.map ent)]=some [.zq (cmpK (dG d) (dG e))]:=by have c:=CY d a;have f:=CY e b;have g:=aox (dG d) (dG e);refine aT ?_;simp[c,f,g]
def am2(x y:Int)(h1:0<=x)(a:0<=y):TT.lim 59 [.zu x,.zu y,.zu 0]=some [.zu ((x+y)%18446744073709551616),.zu ((x+y)/18446744073709551616)]:=Bz rfl (by unfold Pm;simp only;rw[aj ⟨h1,a,by omega,by omega⟩];simp only[Int.add_zero])
def val:List Row->List UInt8->Int
 |[],_=>0
 |r::rs,k=>if K r=k then r.2 else val rs k
def Pos(t:List Row):Prop:=∀r∈t,0<r.2/\r.2<18446744073709551616
def Sr:∀{t:List Row}{k:Q0},(∀r∈t,K r≠k)->val t k=0
 |[],_,_=>rfl
 |r::t,k,h=>by unfold val;rw[ah (h r (by simp))];exact Sr λx a=>h x (by simp[a])
def ame:∀{t:List Row},jC t->∀r∈t,val t (K r)=r.2
 |[],_,r,h=>by simp at h
 |x::t,b,r,h=>by
  have a:=iZ.1 b;unfold val;rcases bH.1 h with rfl|h
  ·rw[aj rfl]
  ·rw[ah λe=>by have:=a.1 r h;rw[e]at this;exact qw _ this];exact ame a.2 r h
def adx:∀(t:List Row)(k:Q0),(∃r∈t,K r=k/\val t k=r.2)\/((∀r∈t,K r≠k)/\val t k=0)
 |[],k=>.inr ⟨by simp,rfl⟩
 |x::t,k=>by
  unfold val;by_cases h:K x=k
  ·exact .inl ⟨x,by simp,h,by rw[aj h]⟩
  ·rw[ah h];rcases adx t k with⟨r,h1,a,c⟩|⟨h1,a⟩
   ·exact .inl ⟨r,by simp[h1],a,c⟩
   ·refine .inr ⟨λr b=>?_,a⟩;rcases bH.1 b with rfl|b
    ·exact h
    ·exact h1 r b
def aFx{t:List Row}(b:Pos t)(k:Q0):0<=val t k/\val t k<18446744073709551616:=by
 rcases adx t k with⟨r,a,c,d⟩|⟨a,c⟩
 ·have:=b r a;omega
 ·omega
def aFy{t:List Row}(b:Pos t){k:Q0}(h:0<val t k):∃r∈t,K r=k/\val t k=r.2:=by
 rcases adx t k with a|⟨a,c⟩
 ·exact a
 ·omega
def aFw{a b:List Row}(c:jC a)(e:jC b)(pa:Pos a)(f:Pos b)(h:∀k,val a k=val b k):a=b:=by
 have d:∀{a b:List Row},jC a->jC b->Pos a->Pos b->(∀k,val a k=val b k)->∀r∈a,r∈b:=by intro a b c e pa f h r g;have i:=ame c r g;have n:=(pa r g).1;obtain⟨s,j,l,m⟩:=aFy f (k:=K r) (by rw[<-h];omega);have:s=r:=O7 (awv l) (by rw[<-m,<-h,i]);rw[<-this];exact j
 exact akH c e (d c e pa f h) (d e c f pa λk=>(h k).symm)
def gQ:List Row->List Row->Option (List Row)
 |[],b=>some b
 |x::a,[]=>some (x::a)
 |x::a,y::b=>
  if K x<K y then(gQ a (y::b)).map (x::·)
  else if K y<K x then(gQ (x::a) b).map (y::·)
  else if x.2+y.2<18446744073709551616 then(gQ a b).map ((x.1,x.2+y.2)::·)else none
termination_by a b=>a.length+b.length
def Keys(a b m:List Row):Prop:=∀r∈m,∃s,(s∈a\/s∈b)/\s.1=r.1
def WE:∀(a b:List Row){m:List Row},jC a->jC b->Pos a->Pos b->gQ a b=some m->jC m/\(∀k,val m k=val a k+val b k)/\Keys a b m/\Pos m:=by
 intro a b;induction a,b using gQ.induct with
 |case1 b=>intro m o p l n h;rw[gQ]at h;cases h;exact⟨p,λk=>by simp[val],λr c=>⟨r,.inr c,rfl⟩,n⟩
 |case2 x a=>intro m o p l n h;rw[gQ]at h;cases h;exact⟨o,λk=>by simp[val],λr c=>⟨r,.inl c,rfl⟩,l⟩
 |case3 x a y b f v=>
  intro m o p l n h;rw[gQ,aj f]at h;obtain⟨w,z,rfl⟩:=bC.1 h;have i:=iZ.1 o;have j:=iZ.1 p;obtain⟨A,B,q,D⟩:=v i.2 p (λr c=>l r (by simp[c])) n z;have u:∀s,s∈a\/s∈y::b->K x<K s:=by
   rintro s (d|d)
   ·exact i.1 s d
   ·rcases bH.1 d with rfl|d
    ·exact f
    ·exact Ai f (j.1 s d)
  refine⟨List.Pairwise.cons (λr c=>?_) A,λk=>?_,λr c=>?_,λr c=>?_⟩
  ·obtain⟨s,d,e⟩:=q r c;have:=u s d;show K x<dG r.1
   rw[<-e];exact this
  ·show(if K x=k then x.2 else val w k)=(if K x=k then x.2 else val a k)+val (y::b) k
   split
   ·next e=>
    rw[Sr (t:=y::b) λr c E=>by have:=u r (.inr c);rw[e,E]at this;exact qw _ this];omega
   ·exact B k
  ·rcases bH.1 c with rfl|c
   ·exact⟨r,.inl (by simp),rfl⟩
   ·obtain⟨s,d,e⟩:=q r c;exact⟨s,d.imp (λh=>by simp[h]) id,e⟩
  ·rcases bH.1 c with rfl|c
   ·exact l r (by simp)
   ·exact D r c
 |case4 x a y b f g v=>
  intro m o p l n h;rw[gQ,ah f,aj g]at h;obtain⟨w,z,rfl⟩:=bC.1 h;have i:=iZ.1 o;have j:=iZ.1 p;obtain⟨A,B,q,D⟩:=v o j.2 l (λr c=>n r (by simp[c])) z;have u:∀s,s∈x::a\/s∈b->K y<K s:=by
   rintro s (d|d)
   ·rcases bH.1 d with rfl|d
    ·exact g
    ·exact Ai g (i.1 s d)
   ·exact j.1 s d
  refine⟨List.Pairwise.cons (λr c=>?_) A,λk=>?_,λr c=>?_,λr c=>?_⟩
  ·obtain⟨s,d,e⟩:=q r c;have:=u s d;show K y<dG r.1
   rw[<-e];exact this
  ·show(if K y=k then y.2 else val w k)=val (x::a) k+(if K y=k then y.2 else val b k)
   split
   ·next e=>
    rw[Sr (t:=x::a) λr c E=>by have:=u r (.inl c);rw[e,E]at this;exact qw _ this];omega
   ·exact B k
  ·rcases bH.1 c with rfl|c
   ·exact⟨r,.inr (by simp),rfl⟩
   ·obtain⟨s,d,e⟩:=q r c;exact⟨s,d.imp id (λh=>by simp[h]),e⟩
  ·rcases bH.1 c with rfl|c
   ·exact n r (by simp)
   ·exact D r c
 |case5 x a y b f g d v=>
  intro m o p l n h;rw[gQ,ah f,ah g,aj d]at h;obtain⟨w,z,rfl⟩:=bC.1 h;have i:=iZ.1 o;have j:=iZ.1 p;have F:K x=K y:=SV (BN.1 g) (BN.1 f);obtain⟨A,B,q,D⟩:=v i.2 j.2 (λr c=>l r (by simp[c])) (λr c=>n r (by simp[c])) z;have u:∀s,s∈a\/s∈b->K x<K s:=by
   rintro s (d|d)
   ·exact i.1 s d
   ·rw[F];exact j.1 s d
  refine⟨List.Pairwise.cons (λr c=>?_) A,λk=>?_,λr c=>?_,λr c=>?_⟩
  ·obtain⟨s,d,e⟩:=q r c;have:=u s d;show dG x.1<dG r.1
   rw[<-e];exact this
  ·show(if K x=k then x.2+y.2 else val w k)=(if K x=k then x.2 else val a k)+(if K y=k then y.2 else val b k)
   rw[F];split
   ·rfl
   ·exact B k
  ·rcases bH.1 c with rfl|c
   ·exact⟨x,.inl (by simp),rfl⟩
   ·obtain⟨s,d,e⟩:=q r c;exact⟨s,d.imp (λh=>by simp[h]) (λh=>by simp[h]),e⟩
  ·rcases bH.1 c with rfl|c
   ·have G:=l x (by simp);have H:=n y (by simp);exact⟨by simp only;omega,d⟩
   ·exact D r c
 |case6 x a y b f g d=>intro m o p l n h;rw[gQ,ah f,ah g,ah d]at h;cases h
def KW{t:List Row}{k:Q0}(h:∀r∈t,k<K r):val t k=0:=Sr λr a e=>by have:=h r a;rw[e]at this;exact qw _ this
def axo:∀(a b:List Row),jC a->jC b->gQ a b=none->∃k,18446744073709551616<=val a k+val b k:=by
 intro a b;induction a,b using gQ.induct with
 |case1 b=>intro i j h;rw[gQ]at h;cases h
 |case2 x a=>intro i j h;rw[gQ]at h;cases h
 |case3 x a y b c n=>
  intro i j h;rw[gQ,aj c]at h;have f:=iZ.1 i;have g:=iZ.1 j;obtain⟨k,m⟩:=n f.2 j (aew.1 h);refine⟨k,?_⟩;by_cases e:K x=k
  ·exfalso;subst e;rw[KW f.1,KW (t:=y::b) λr l=>?_]at m
   ·omega
   ·rcases bH.1 l with rfl|l
    ·exact c
    ·exact Ai c (g.1 r l)
  ·show _<=(if K x=k then x.2 else val a k)+_
   rw[ah e];exact m
 |case4 x a y b c d n=>
  intro i j h;rw[gQ,ah c,aj d]at h;have f:=iZ.1 i;have g:=iZ.1 j;obtain⟨k,m⟩:=n i g.2 (aew.1 h);refine⟨k,?_⟩;by_cases e:K y=k
  ·exfalso;subst e;rw[KW g.1,KW (t:=x::a) λr l=>?_]at m
   ·omega
   ·rcases bH.1 l with rfl|l
    ·exact d
    ·exact Ai d (f.1 r l)
  ·show _<=_+(if K y=k then y.2 else val b k)
   rw[ah e];exact m
 |case5 x a y b c d p n=>
  intro i j h;rw[gQ,ah c,ah d,aj p]at h;have f:=iZ.1 i;have g:=iZ.1 j;have o:K x=K y:=SV (BN.1 d) (BN.1 c);obtain⟨k,m⟩:=n f.2 g.2 (aew.1 h);refine⟨k,?_⟩;by_cases e:K x=k
  ·exfalso;subst e;rw[KW f.1,KW (t:=b) λr l=>by rw[o];exact g.1 r l]at m;omega
  ·show _<=(if K x=k then x.2 else val a k)+(if K y=k then y.2 else val b k)
   rw[ah e,<-o,ah e];exact m
 |case6 x a y b c d p=>
  intro i j h;have o:K x=K y:=SV (BN.1 d) (BN.1 c);refine⟨K x,?_⟩;show _<=(if K x=K x then x.2 else val a _)+(if K y=K x then y.2 else val b _)
  rw[aj rfl,aj o.symm];omega
def akI:∀{a b:List Row},jC a->jC b->(∀r∈a,∃s∈b,K s=K r)->a.length<=b.length
 |[],_,_,_,_=>tJ _
 |_::_,[],_,_,h=>by obtain⟨s,c,_⟩:=h _ (OZ ..);simp at c
 |x::a,y::b,l,m,h=>by
  have d:=iZ.1 l;have f:=iZ.1 m;have i:K y=K x\/K y<K x:=by
   obtain⟨s,c,e⟩:=h x (by simp);rcases bH.1 c with rfl|c
   ·exact .inl e
   ·right;rw[<-e];exact f.1 s c
  have:=akI d.2 f.2 λr k=>by
   obtain⟨s,c,e⟩:=h r (by simp[k]);rcases bH.1 c with rfl|c
   ·have g:=d.1 r k;rw[<-e]at g;rcases i with j|j
    ·rw[j]at g;exact absurd g (qw _)
    ·exact absurd (Ai g j) (qw _)
   ·exact⟨s,c,e⟩
  simp only[gV];omega
def QS(x:GV)(l:List Row)(n:Int)(a:x.cells.length=2)(b:n=l.length+1):NH 2 (some (.l (x::l.map row))) (some (.zq 1)) (some (.zq n))=some (.l (l.map row)):=by
 subst b;rw[mY,aj ⟨by omega,by omega,by simp,by rw[rH];simp[a,aAU]⟩]
 ·congr 2;have c:((l.length:Int)+1).toNat=l.length+1:=by omega
  rw[c,lG (by simp)];rfl
def rD(a:List Row):Option (List Row)->List GV
 |some m=>[.zq 1,.l ((a++m).map row)]
 |none=>[.zq 0]
def Ej{d:List dK}(h:iL d=true):d.length<=40:=by unfold iL at h;simp at h;omega
def aoB{a b:Q0}(h:a<b):cmpK a b = -1:=by unfold cmpK;rw[aj h]
def aoA{a b:Q0}(h1:¬a<b)(h:b<a):cmpK a b=1:=by unfold cmpK;rw[ah h1,aj h]
def aoz{a b:Q0}(h1:¬a<b)(h:¬b<a):cmpK a b=0:=by unfold cmpK;rw[ah h1,ah h]
def yJ(t:List Row):Prop:=∀r∈t,iL r.1=true
set_option maxHeartbeats 4000000 in
def aw1:∀(n:Nat)(a b c:List Row),a.length+b.length<=n->c.length+a.length+b.length<=1000->yJ a->yJ b->(∀r∈a,0<=r.2/\r.2<18446744073709551616)->(∀r∈b,0<=r.2/\r.2<18446744073709551616)->
 TT.lim 56 [.l (a.map row),.l (b.map row),.l (c.map row)]=some (rD c (gQ a b)):=by
 intro n;induction n with
 |zero=>intro a b c A B o p q s;obtain rfl:a=[]:=jH (by omega);obtain rfl:b=[]:=jH (by omega);rw[gQ];refine au ?_;simp[rD]
 |succ n w=>
  intro a b c A B o p q s;cases a with
  |nil=>
   cases b with
   |nil=>rw[gQ];refine au ?_;simp[rD]
   |cons y b=>
    simp only[kY,gV,lQ]at A B;have d:=w [] b (c++[y]) (by simp;omega) (by simp;omega) o (λr f=>p r (by simp[f])) q (λr f=>s r (by simp[f]));rw[gQ]at d⊢;simp only[rD,List.append_assoc,O1,nM,iP,jI]at d⊢;have kc:=Gm y.1 (Ej (p y (by simp)));have j:GV.g [.l (y.1.map ent),.zu y.2]=row y:=rfl;have g:(row y).fP 2=true:=rfl;have L:=QS (row y) b ((b.length:Int)+1) rfl rfl;have h:2*(c.length+1)*32<=281474976710656/\c.length+1<=281474976710656:=by omega
    have t:(0:Int)<(b.length:Int)+1:=by omega
    have i:¬((b.length:Int)+1=0):=by omega
    refine au ?_;simp[-mY,kc,j,g,L,h,t,i,d]
  |cons x a=>
   cases b with
   |nil=>
    simp only[kY,gV,oL]at A B;have d:=w a [] (c++[x]) (by simp;omega) (by simp;omega) (λr f=>o r (by simp[f])) p (λr f=>q r (by simp[f])) s;have Q:gQ a []=some a:=by cases a<;>rw[gQ]
    rw[Q]at d;rw[gQ];simp only[rD,List.append_assoc,O1,nM,iP,jI]at d⊢;have kc:=Gm x.1 (Ej (o x (by simp)));have j:GV.g [.l (x.1.map ent),.zu x.2]=row x:=rfl;have g:(row x).fP 2=true:=rfl;have L:=QS (row x) a ((a.length:Int)+1) rfl rfl;have h:2*(c.length+1)*32<=281474976710656/\c.length+1<=281474976710656:=by omega
    have t:(0:Int)<(a.length:Int)+1:=by omega
    have i:¬((a.length:Int)+1=0):=by omega
    refine au ?_;simp[-mY,kc,j,g,L,h,t,i,d]
   |cons y b=>
    simp only[gV]at A B;have N:=o x (by simp);have O:=p y (by simp);have D:=Gm x.1 (Ej N);have E:=Gm y.1 (Ej O);have k:GV.g [.l (x.1.map ent),.zu x.2]=row x:=rfl;have F:GV.g [.l (y.1.map ent),.zu y.2]=row y:=rfl;have M:GV.g [.l (x.1.map ent),.zu (x.2+y.2)]=row (x.1,x.2+y.2):=rfl;have g:∀r:Row,(row r).fP 2=true:=λr=>rfl;have l:=QS (row x) a ((a.length:Int)+1) rfl rfl;have G:=QS (row y) b ((b.length:Int)+1) rfl rfl;have h:2*(c.length+1)*32<=281474976710656/\c.length+1<=281474976710656:=by omega
    have t:(0:Int)<(a.length:Int)+1:=by omega
    have i:¬((a.length:Int)+1=0):=by omega
    have H:(0:Int)<(b.length:Int)+1:=by omega
    have m:¬((b.length:Int)+1=0):=by omega
    have u:=afJ x.1 y.1 N O;have I:=am2 x.2 y.2 (q x (by simp)).1 (s y (by simp)).1;have R:=q x (by simp);have S:=s y (by simp);by_cases v:K x<K y
    ·have d:=w a (y::b) (c++[x]) (by simp;omega) (by simp;omega) (λr f=>o r (by simp[f])) p (λr f=>q r (by simp[f])) s;rw[gQ,aj v];rw[aoB v]at u;have e:rD (c++[x]) (gQ a (y::b))=rD c ((gQ a (y::b)).map (x::·)):=by cases gQ a (y::b)<;>simp[rD]
     rw[e]at d;generalize rD c ((gQ a (y::b)).map (x::·))=z at d⊢;simp only[nM,iP,jI]at d;refine au ?_;simp[-mY,D,E,k,F,g,l,G,h,t,i,H,m,u,d]
    by_cases J:K y<K x
    ·have d:=w (x::a) b (c++[y]) (by simp;omega) (by simp;omega) o (λr f=>p r (by simp[f])) q (λr f=>s r (by simp[f]));rw[gQ,ah v,aj J];rw[aoA v J]at u;have e:rD (c++[y]) (gQ (x::a) b)=rD c ((gQ (x::a) b).map (y::·)):=by cases gQ (x::a) b<;>simp[rD]
     rw[e]at d;generalize rD c ((gQ (x::a) b).map (y::·))=z at d⊢;simp only[nM,iP,jI]at d;refine au ?_;simp[-mY,D,E,k,F,g,l,G,h,t,i,H,m,u,d]
    rw[gQ,ah v,ah J];rw[aoz v J]at u;by_cases P:x.2+y.2<18446744073709551616
    ·have d:=w a b (c++[(x.1,x.2+y.2)]) (by omega) (by simp;omega) (λr f=>o r (by simp[f])) (λr f=>p r (by simp[f])) (λr f=>q r (by simp[f])) (λr f=>s r (by simp[f]));rw[aj P];have e:rD (c++[(x.1,x.2+y.2)]) (gQ a b)=rD c ((gQ a b).map ((x.1,x.2+y.2)::·)):=by cases gQ a b<;>simp[rD]
     rw[e]at d;generalize rD c ((gQ a b).map ((x.1,x.2+y.2)::·))=z at d⊢;simp only[nM,iP,jI]at d;rw[show(x.2+y.2)%18446744073709551616=x.2+y.2 by omega,show(x.2+y.2)/18446744073709551616=0 by omega]at I;refine au ?_;simp[-mY,D,E,k,F,M,g,l,G,h,t,i,H,m,u,I,d]
    ·rw[ah P];rw[show(x.2+y.2)/18446744073709551616=1 by omega]at I;refine au ?_;simp[-mY,D,E,k,F,g,l,G,h,t,i,H,m,u,I,rD]
def Ok(t:List Row):Prop:=t.length<=256/\jC t/\∀r∈t,yB r=0
def afE:∀{t:List Row}(p:Option Q0),vK p t=0->jC t/\(∀r∈t,yB r=0)/\∀k,p=some k->∀r∈t,k<K r
 |[],p,_=>⟨List.Pairwise.nil,by simp,by simp⟩
 |r::t,p,h=>by
  unfold vK at h;by_cases h1:yB r=0;rotate_left
  ·rw[aj h1]at h;exact absurd h h1
  rw[ah (by simp[h1])]at h;have a:∀(h:vK (some (K r)) t=0),jC (r::t)/\∀x∈r::t,yB x=0:=by
   intro h;obtain⟨d,f,g⟩:=afE (some (K r)) h;refine⟨List.Pairwise.cons (g _ rfl) d,λx b=>?_⟩;rcases bH.1 b with rfl|b
   ·exact h1
   ·exact f x b
  cases p with
  |none=>exact⟨(a h).1,(a h).2,by simp⟩
  |some k=>
   simp only at h;split at h
   ·cases h
   next i=>
   split at h
   ·cases h
   next j=>
   refine⟨(a h).1,(a h).2,?_⟩;rintro _ ⟨⟩ x b
   have c:k<K r:=by
    rcases List.le_iff_lt_or_eq.1 (BN.1 λe=>j ((Me _ _).2 e))with e|e
    ·exact e
    ·exact absurd e.symm i
   rcases bH.1 b with rfl|b
   ·exact c
   ·exact Ai c ((iZ.1 (a h).1).1 x b)
def wO(t:List Row):oz t=0↔Ok t:=by
 unfold oz Ok;constructor
 ·intro h;split at h
  ·cases h
  ·obtain⟨b,a,_⟩:=afE none h;exact⟨by omega,b,a⟩
 ·rintro⟨b,a,c⟩
  rw[dA];exact afF none a c (by simp)
def Oh(r:Row):yB r=0↔xY r.1=0/\r.2≠0:=by
 unfold yB;by_cases h:xY r.1=0
 ·simp[h]
 ·simp[h]
structure Tb(t:List Row):Prop where
 ok:Ok t
 rows:Rows t
 few:yJ t
def Tb.pos{t:List Row}(h:Tb t):Pos t:=λr a=>by have b:=((Oh r).1 (h.ok.2.2 r a)).2;have c:=(h.rows.2 r a).2;omega
def Tb.rise{t:List Row}(h:Tb t):jC t:=h.ok.2.1
def Dz:Tb []:=⟨⟨by simp,List.Pairwise.nil,by simp⟩,⟨by simp,by simp⟩,λr a=>by simp at a⟩
def alS{a b m:List Row}(f:Tb a)(g:Tb b)(i:m.length<=256)(c:jC m)(j:Keys a b m)(h:Pos m):Tb m:=by
 have src:∀r∈m,xY r.1=0/\sU r.1/\iL r.1=true:=by
  intro r c;obtain⟨s,d,e⟩:=j r c;rw[<-e];rcases d with d|d
  ·exact⟨((Oh s).1 (f.ok.2.2 s d)).1,(f.rows.2 s d).1,f.few s d⟩
  ·exact⟨((Oh s).1 (g.ok.2.2 s d)).1,(g.rows.2 s d).1,g.few s d⟩
 refine⟨⟨i,c,λr c=>(Oh r).2 ⟨(src r c).1,by have:=h r c;omega⟩⟩,⟨by omega,λr c=>⟨(src r c).2.1,?_⟩⟩,λr c=>(src r c).2.2⟩;have:=h r c;omega
def tog(a b:List Row):List Row×Int:=match gQ a b with
 |none=>([],3)
 |some m=>if 256<m.length then([],13)else(m,0)
structure dU(t:List Row):Prop where
 len:t.length<=300
 few:yJ t
 rows:Rows t
def Tb.good{t:List Row}(h:Tb t):dU t:=⟨Nat.le_trans h.ok.1 (by decide),h.few,h.rows⟩
def aE3(a b:List Row)(d:dU a)(e:dU b):TT.lim 55 [.l (a.map row),.l (b.map row)]=some [.l ((tog a b).1.map row),.zq (tog a b).2]:=by
 have k:=aw1 (a.length+b.length) a b [] (dD _) (by have:=d.len;have:=e.len;simp;omega) d.few e.few (λr f=>(d.rows.2 r f).2) (λr f=>(e.rows.2 r f).2);have n:=d.len;have o:=e.len;have g:=bF ((a.length:Int)+(b.length:Int));have c:(GV.g [.l [],.zu 0]).fP 2=true:=rfl;have i:(0:Int)<=(a.length:Int)+(b.length:Int)/\32*((a.length:Int)+(b.length:Int))<=281474976710656/\(a.length:Int)+(b.length:Int)<=1152921504606846976:=by omega
 unfold tog;cases l:gQ a b with
 |none=>rw[l]at k;simp only[rD,jI]at k;refine aT ?_;simp[g,c,i,k]
 |some m=>
  rw[l]at k;simp only[rD,jI,aX]at k;by_cases h:256<m.length
  ·have j:(256:Int)<(m.length:Int):=by omega
   refine aT ?_;simp[g,c,i,k,h,j]
  ·have j:¬(256:Int)<(m.length:Int):=by omega
   simp only[ah h];refine aT ?_;simp[g,c,i,k,j]
def aE0{a b:List Row}(c:Tb a)(d:Tb b)(h:(tog a b).2=0):Tb (tog a b).1/\∀k,val (tog a b).1 k=val a k+val b k:=by
 unfold tog at h⊢;cases e:gQ a b with
 |none=>rw[e]at h;cases h
 |some m=>
  rw[e]at h;simp only at h⊢;split at h
  ·cases h
  next f=>
  rw[ah f];obtain⟨g,i,j,l⟩:=WE a b c.rise d.rise c.pos d.pos e;exact⟨alS c d (Nat.not_lt.1 f) g j l,i⟩
def aE2{a b c d:List Row}(g:Tb a)(i:Tb b)(e:Tb c)(f:Tb d)(h:∀k,val a k+val b k=val c k+val d k):tog a b=tog c d:=by
 have l:∀{a b c d:List Row},Tb a->Tb b->Tb c->Tb d->(∀k,val a k+val b k=val c k+val d k)->gQ a b=none->∀m,gQ c d=some m->False:=by intro a b c d g i e f h n m j;obtain⟨k,u⟩:=axo a b g.rise i.rise n;obtain⟨_,o,_,p⟩:=WE c d e.rise f.rise e.pos f.pos j;have:=aFx p k;rw[o,<-h]at this;omega
 unfold tog;cases n:gQ a b with
 |none=>
  cases j:gQ c d with
  |none=>rfl
  |some m=>exact(l g i e f h n m j).elim
 |some m=>
  cases j:gQ c d with
  |none=>exact(l e f g i (λk=>(h k).symm) j m n).elim
  |some v=>obtain⟨q,r,_,s⟩:=WE a b g.rise i.rise g.pos i.pos n;obtain⟨t,o,_,p⟩:=WE c d e.rise f.rise e.pos f.pos j;rw[aFw q t s p λk=>by rw[r,o,h]]
abbrev Dl:=Int×Int×List Row
def dl(d:Dl):GV:=.g [.zu d.1,.zu d.2.1,.l (d.2.2.map row)]
@[simp] theorem aGW(d:Dl):(dl d).cells=[.zu d.1,.zu d.2.1,.l (d.2.2.map row)]:=rfl
@[simp] theorem aGX(d:Dl):(dl d).scalar=false:=rfl
def zD:Dl:=(0,0,[])
def yU(d:Dl):Int:=if d.2.1<=d.1 then 20 else oz d.2.2
def aob(d:Dl)(h:dU d.2.2):TT.lim 54 [dl d]=some [.zq (yU d)]:=by
 have k:=UK d.2.2 h.rows h.few;unfold yU;refine aT ?_;by_cases a:d.2.1<=d.1
 ·simp[a]
 ·simp[a,k]
def aog{d:Dl}(h:yU d=0):d.1<d.2.1/\Ok d.2.2:=by
 unfold yU at h;split at h
 ·cases h
 ·exact⟨by omega,(wO _).1 h⟩
def aof{d:Dl}(h1:d.1<d.2.1)(a:Ok d.2.2):yU d=0:=by unfold yU;rw[dA];exact(wO _).2 a
def dU.tb{t:List Row}(h:dU t)(a:Ok t):Tb t:=⟨a,h.rows,h.few⟩
def ahq{l:List Row}(a:Rows l)(h:Gy l=true):dU l:=by refine⟨?_,λr b=>atx h r b,a⟩;unfold Gy at h;rw[aK,decide_eq_true_iff]at h;exact h.2
def akZ(a b:List Row)(d:dU a)(e:dU b):TT.lim 174 [.l (a.map row),.l (b.map row)]=some [.b (decide (a=b))]:=
 aDo a b (by have:=d.len;omega) (by have:=e.len;omega) (λr c=>(d.rows.2 r c).1.1) (λr c=>(e.rows.2 r c).1.1)
def jP:List Row->List Row->List Row
 |[],_=>[]
 |r::rs,[]=>if r.2=0 then jP rs []else r::jP rs []
 |r::rs,l::a=>if K l=K r then(if IntKind.u64.wrap (r.2-l.2)=0 then jP rs a else(r.1,IntKind.u64.wrap (r.2-l.2))::jP rs a)else if r.2=0 then jP rs (l::a)else r::jP rs (l::a)
def aoD(a:Q0):cmpK a a=0:=by unfold cmpK;simp[qw]
def aoC{a b:Q0}(h:a≠b):cmpK a b≠0:=by
 unfold cmpK;split
 ·omega
 next c=>
 split
 ·omega
 next d=>exact absurd (SV (BN.1 d) (BN.1 c)) h
set_option maxHeartbeats 4000000 in
def aa9(t:List Row)(e f:Int)(I:t.length<=300)(F:yJ t):∀(m i:Nat)(b a:List Row),i+m=t.length->a.length<=i->yJ b->
 TT.lim 217 [.l (b.map row),.l (t.map row),.zq t.length,.zq i,.zu e,.zu f,.l (a.map row)]=some [.zq 0,.l ((a++jP (t.drop i) b).map row)]
 |0,i,b,a,hi,M,o=>by
  have h0:t.drop i=[]:=ig;refine au ?_;have h:¬((i:Int)<t.length):=by omega
  simp[h,h0,jP]
 |m+1,i,b,a,hi,M,o=>by
  have c:i<t.length:=by omega
  have J:=F t[i] (gX c);have kc:=Gm t[i].1 (Ej J);have k:GV.g [.l (t[i].1.map ent),.zu t[i].2]=row t[i]:=rfl;have p:∀r:Row,(row r).fP 2=true:=λr=>rfl;have q:2*(a.length+1)*32<=281474976710656/\a.length+1<=281474976710656:=by omega
  have h:((i:Int)<t.length):=by omega
  have z:=bF ((i:Int)+1);have s:∀j,yJ j->TT.lim 217 [.l (j.map row),.l (t.map row),.zq t.length,.zq ((i:Int)+1),.zu e,.zu f,.l (a.map row)]=_:=λj G=>aa9 t e f I F m (i+1) j a (by omega) (by omega) G;have u:∀j r,yJ j->TT.lim 217 [.l (j.map row),.l (t.map row),.zq t.length,.zq ((i:Int)+1),.zu e,.zu f,.l ((a++[r]).map row)]=_:=λj r G=>aa9 t e f I F m (i+1) j (a++[r]) (by omega) (by simp;omega) G;have H:t.drop i=t[i]::t.drop (i+1):=iC c;rw[H];cases b with
  |nil=>
   by_cases d:t[i].2=0
   ·have g:=s [] o;simp only[jI]at g;simp only[jP];rw[aj d];have w:(t[i].2=0)=True:=eq_true d;clear d;refine au ?_;simp[-List.getElem_cons_drop,h,c,w,z,g]
   ·have g:=u [] t[i] o;simp only[jI,nM,iP]at g;simp only[jP];rw[ah d];refine au ?_;simp[-List.getElem_cons_drop,h,c,d,z,kc,k,p,q,g]
  |cons l n=>
   have N:=o l (by simp);have B:yJ n:=λr O=>o r (by simp[O]);have L:=QS (row l) n ((n.length:Int)+1) rfl rfl;have D:(0:Int)<(n.length:Int)+1:=by omega
   have A:=afJ l.1 t[i].1 N J;by_cases E:K l=K t[i]
   ·rw[show dG l.1=dG t[i].1 from E,aoD]at A;simp only[jP];rw[aj E];by_cases d:IntKind.u64.wrap (t[i].2-l.2)=0
    ·have g:=s n B;rw[aj d];refine au ?_;simp[-List.getElem_cons_drop,-mY,h,c,D,A,L,d,z,g]
    ·have g:=u n (t[i].1,IntKind.u64.wrap (t[i].2-l.2)) B;rw[ah d];simp only[jI,nM,iP]at g;have x:GV.g [.l (t[i].1.map ent),.zu (IntKind.u64.wrap (t[i].2-l.2))]=row (t[i].1,IntKind.u64.wrap (t[i].2-l.2)):=rfl;refine au ?_;simp[-List.getElem_cons_drop,-mY,h,c,D,A,L,d,z,kc,x,p,q,g]
   ·have y:=aoC E;generalize cmpK (dG l.1) (dG t[i].1)=v at A y;simp only[jP];rw[ah E];by_cases d:t[i].2=0
    ·have g:=s (l::n) o;simp only[iP]at g;rw[aj d];have w:(t[i].2=0)=True:=eq_true d;clear d;refine au ?_;simp[-List.getElem_cons_drop,-mY,h,c,D,A,y,w,z,g]
    ·have g:=u (l::n) t[i] o;simp only[jI,nM,iP]at g;rw[ah d];refine au ?_;simp[-List.getElem_cons_drop,-mY,h,c,D,A,y,d,z,kc,k,p,q,g]
def U2:∀(t b:List Row),jC t->jC b->Pos t->Pos b->(∀l∈b,∃r∈t,K r=K l/\l.2<=r.2)->
 jC (jP t b)/\(∀k,val (jP t b) k=val t k-val b k)/\(∀r∈jP t b,∃s∈t,s.1=r.1)/\Pos (jP t b)
 |[],[],_,_,_,_,_=>⟨List.Pairwise.nil,λk=>rfl,by simp[jP],by simp[jP,Pos]⟩
 |[],l::b,_,_,_,_,h=>by obtain⟨r,o,_⟩:=h l (by simp);simp at o
 |r::t,[],y,z,j,p,h=>by
  have d:=iZ.1 y;obtain⟨m,q,f,n⟩:=U2 t [] d.2 z (λx a=>j x (by simp[a])) p (by simp);have o:=j r (by simp);simp only[jP];rw[dA];refine⟨List.Pairwise.cons (λx a=>?_) m,λk=>?_,λx a=>?_,λx a=>?_⟩
  ·obtain⟨s,c,e⟩:=f x a;show K r<dG x.1
   rw[<-e];exact d.1 s c
  ·show(if K r=k then r.2 else val (jP t []) k)=(if K r=k then r.2 else val t k)-val [] k
   split
   ·simp[val]
   ·exact q k
  ·rcases bH.1 a with rfl|a
   ·exact⟨x,by simp,rfl⟩
   ·obtain⟨s,c,e⟩:=f x a;exact⟨s,by simp[c],e⟩
  ·rcases bH.1 a with rfl|a
   ·exact o
   ·exact n x a
 |r::t,l::b,y,z,j,p,h=>by
  have d:=iZ.1 y;have g:=iZ.1 z;have o:=j r (by simp);have I:=p l (by simp);simp only[jP];by_cases i:K l=K r
  ·rw[aj i];have E:l.2<=r.2:=by obtain⟨s,c,e,u⟩:=h l (by simp);have:s=r:=aAQ y c (by simp) (e.trans i);rw[<-this];exact u
   have F:=jA (r.2-l.2);rw[F];obtain⟨m,q,f,n⟩:=U2 t b d.2 g.2 (λx a=>j x (by simp[a])) (λx a=>p x (by simp[a])) (λx a=>by
    obtain⟨s,c,e,u⟩:=h x (by simp[a]);rcases bH.1 c with rfl|c
    ·have:=g.1 x a;rw[i,<-e]at this;exact absurd this (qw _)
    ·exact⟨s,c,e,u⟩)
   have v:∀x∈jP t b,∃s∈r::t,s.1=x.1:=λx a=>by obtain⟨s,c,e⟩:=f x a;exact⟨s,by simp[c],e⟩
   have D:∀k,(if K r=k then r.2-l.2 else val (jP t b) k)=val (r::t) k-val (l::b) k:=λk=>by
    show _=(if K r=k then r.2 else val t k)-(if K l=k then l.2 else val b k)
    rw[i];split
    ·rfl
    ·exact q k
   by_cases A:r.2-l.2=0
   ·rw[aj A];refine⟨m,λk=>?_,v,n⟩;rw[<-D k];split
    ·next e=>
     rw[A];subst e;refine KW λx a=>?_;obtain⟨s,c,e⟩:=f x a;show K r<dG x.1
     rw[<-e];exact d.1 s c
    ·rfl
   ·rw[ah A];refine⟨List.Pairwise.cons (λx a=>?_) m,D,λx a=>?_,λx a=>?_⟩
    ·obtain⟨s,c,e⟩:=f x a;show dG r.1<dG x.1
     rw[<-e];exact d.1 s c
    ·rcases bH.1 a with rfl|a
     ·exact⟨r,by simp,rfl⟩
     ·exact v x a
    ·rcases bH.1 a with rfl|a
     ·exact⟨by simp only;omega,by simp only;omega⟩
     ·exact n x a
  ·rw[ah i,dA];have w:∀x∈l::b,∃s∈t,K s=K x/\x.2<=s.2:=by
    have B:K r<K l:=by
     obtain⟨s,c,e,_⟩:=h l (by simp);rcases bH.1 c with rfl|c
     ·exact absurd e.symm i
     ·rw[<-e];exact d.1 s c
    intro x a;obtain⟨s,c,e,u⟩:=h x a;rcases bH.1 c with rfl|c
    ·exfalso;rcases bH.1 a with rfl|a
     ·exact i e.symm
     ·have:=Ai B (g.1 x a);rw[e]at this;exact qw _ this
    ·exact⟨s,c,e,u⟩
   obtain⟨m,q,f,n⟩:=U2 t (l::b) d.2 z (λx a=>j x (by simp[a])) p w;refine⟨List.Pairwise.cons (λx a=>?_) m,λk=>?_,λx a=>?_,λx a=>?_⟩
   ·obtain⟨s,c,e⟩:=f x a;show K r<dG x.1
    rw[<-e];exact d.1 s c
   ·show(if K r=k then r.2 else val (jP t (l::b)) k)=(if K r=k then r.2 else val t k)-val (l::b) k
    split
    ·next e=>
     rw[Sr (t:=l::b) λx a G=>by obtain⟨s,c,H,_⟩:=w x a;have:=d.1 s c;rw[H,G,e]at this;exact qw _ this]
     omega
    ·exact q k
   ·rcases bH.1 a with rfl|a
    ·exact⟨x,by simp,rfl⟩
    ·obtain⟨s,c,e⟩:=f x a;exact⟨s,by simp[c],e⟩
   ·rcases bH.1 a with rfl|a
    ·exact o
    ·exact n x a
abbrev Sn:=Int×List Row
def sn(s:Sn):GV:=.g [.zu s.1,.l (s.2.map row)]
@[simp] theorem aIx(s:Sn):(sn s).cells=[.zu s.1,.l (s.2.map row)]:=rfl
@[simp] theorem aIy(s:Sn):(sn s).scalar=false:=rfl
def zS:Sn:=(0,[])
def UL(s:Sn)(h:dU s.2):TT.lim 35 [sn s]=some [.zq (oz s.2)]:=by have k:=UK s.2 h.rows h.few;refine aT ?_;simp[k]
def qB(s n:Sn):Dl×Int:=
 if oz s.2≠0 then(zD,oz s.2)else if oz n.2≠0 then(zD,oz n.2)else if n.1<=s.1 then(zD,20)
 else if kH n.2 s.2=false then(zD,21)else((s.1,n.1,jP n.2 s.2),0)
def mM(s:Sn)(d:Dl):Sn×Int:=
 if oz s.2≠0 then(zS,oz s.2)else if yU d≠0 then(zS,yU d)else if s.1≠d.1 then(zS,19)
 else if(tog s.2 d.2.2).2≠0 then(zS,(tog s.2 d.2.2).2)else((d.2.1,(tog s.2 d.2.2).1),0)
def asv(s n:Sn)(j:dU s.2)(e:dU n.2):TT.lim 216 [sn s,sn n]=some [dl (qB s n).1,.zq (qB s n).2]:=by
 have b:=UL s j;have f:=UL n e;have c:GV.g [.zu s.1,.l (s.2.map row)]=sn s:=rfl;have g:GV.g [.zu n.1,.l (n.2.map row)]=sn n:=rfl;have h:GV.g [.zu 0,.zu 0,.l []]=dl zD:=rfl;have o:GV.g [.zu s.1,.zu n.1,.l ((jP n.2 s.2).map row)]=dl (s.1,n.1,jP n.2 s.2):=rfl;have l:TT.lim 217 [.l (s.2.map row),.l (n.2.map row),.zq n.2.length,.zq 0,.zu s.1,.zu n.1,.l []]=_:=aa9 n.2 s.1 n.1 e.len e.few n.2.length 0 s.2 [] (by omega) (by simp) j.few;rw[dN,aX]at l;unfold qB;by_cases a:oz s.2=0;rotate_left
 ·refine aT ?_;simp[c,b,a,h]
 by_cases d:oz n.2=0;rotate_left
 ·refine aT ?_;simp[c,b,a,g,f,d,h]
 by_cases k:n.1<=s.1
 ·refine aT ?_;simp[c,b,a,g,f,d,h,k]
 have i:=Y5 n.2 s.2 ((wO _).1 d).1 ((wO _).1 a).1 e.few j.few;cases m:kH n.2 s.2 with
 |false=>rw[m]at i;refine aT ?_;simp[c,b,a,g,f,d,h,k,i]
 |true=>rw[m]at i;refine aT ?_;simp[c,b,a,g,f,d,o,k,i,l]
def aeU(s:Sn)(d:Dl)(k:dU s.2)(l:dU d.2.2):TT.lim 53 [sn s,dl d]=some [sn (mM s d).1,.zq (mM s d).2]:=by
 have a:=UL s k;have f:=aob d l;have m:=aE3 _ _ k l;have b:GV.g [.zu s.1,.l (s.2.map row)]=sn s:=rfl;have g:GV.g [.zu d.1,.zu d.2.1,.l (d.2.2.map row)]=dl d:=rfl;have h:GV.g [.zu 0,.l []]=sn zS:=rfl;have o:GV.g [.zu d.2.1,.l ((tog s.2 d.2.2).1.map row)]=sn (d.2.1,(tog s.2 d.2.2).1):=rfl;unfold mM;by_cases c:oz s.2=0;rotate_left
 ·refine aT ?_;simp[b,a,c,h]
 by_cases i:yU d=0;rotate_left
 ·refine aT ?_;simp[b,a,c,g,f,i,h]
 by_cases j:s.1=d.1;rotate_left
 ·refine aT ?_;simp[b,a,c,g,f,i,h,j]
 have e:(s.1=d.1)=True:=eq_true j;clear j;by_cases n:(tog s.2 d.2.2).2=0;rotate_left
 ·refine aT ?_;simp[b,a,c,g,f,i,h,e,m,n]
 ·refine aT ?_;simp[b,a,c,g,f,i,o,e,m,n]
def ZK{s n:Sn}(h:(qB s n).2=0):Ok s.2/\Ok n.2/\s.1<n.1/\kH n.2 s.2=true/\(qB s n).1=(s.1,n.1,jP n.2 s.2):=by
 unfold qB at h⊢;split at h
 ·next a=>exact absurd h a
 next a=>
 split at h
 ·next b=>exact absurd h b
 next b=>
 split at h
 ·cases h
 next d=>
 split at h
 ·cases h
 next c=>
 rw[ah a,ah b,ah d,ah c];exact⟨(wO _).1 (by simpa using a),(wO _).1 (by simpa using b),by omega,by simpa using c,rfl⟩
def asw{s n:Sn}(h1:Ok s.2)(a:Ok n.2)(c:s.1<n.1)(b:kH n.2 s.2=true):qB s n=((s.1,n.1,jP n.2 s.2),0):=by unfold qB;rw[ah (by simp[(wO _).2 h1]),ah (by simp[(wO _).2 a]),dA,ah (by simp[b])]
def Uh{s:Sn}{d:Dl}(h:(mM s d).2=0):Ok s.2/\yU d=0/\s.1=d.1/\(tog s.2 d.2.2).2=0/\(mM s d).1=(d.2.1,(tog s.2 d.2.2).1):=by
 unfold mM at h⊢;split at h
 ·next a=>exact absurd h a
 next a=>
 split at h
 ·next b=>exact absurd h b
 next b=>
 split at h
 ·cases h
 next e=>
 split at h
 ·next c=>exact absurd h c
 next c=>
 rw[ah a,ah b,ah e,ah c];exact⟨(wO _).1 (by simpa using a),by simpa using b,by simpa using e,by simpa using c,rfl⟩
def ani{s:Sn}{d:Dl}(h1:Ok s.2)(a:yU d=0)(b:s.1=d.1):mM s d=if(tog s.2 d.2.2).2≠0 then(zS,(tog s.2 d.2.2).2)else((d.2.1,(tog s.2 d.2.2).1),0):=by unfold mM;rw[ah (by simp[(wO _).2 h1]),ah (by simp[a]),ah (by simp[b])]
def agb{s n:List Row}(b:Tb s)(a:Tb n)(h:kH n s=true):Tb (jP n s)/\∀k,val (jP n s) k=val n k-val s k:=by
 have i:=(L6 _ _ a.rise b.rise).1 h;obtain⟨f,j,g,l⟩:=U2 n s a.rise b.rise a.pos b.pos i;have m:(jP n s).length<=n.length:=akI f a.rise λr c=>by obtain⟨x,d,e⟩:=g r c;exact⟨x,d,by show dG x.1=dG r.1;rw[e]⟩
 exact⟨alS a a (kF m a.ok.1) f (λr c=>by obtain⟨x,d,e⟩:=g r c;exact⟨x,.inl d,e⟩) l,j⟩
def aE1{t:List Row}(a:Tb t):tog t []=(t,0):=by
 have h:gQ t []=some t:=by cases t<;>rw[gQ]
 unfold tog;rw[h];simp only;rw[ah (by have:=a.ok.1;omega)]
def ae4{s n:Sn}(g:dU s.2)(i:dU n.2)(h:(qB s n).2=0):yU (qB s n).1=0/\mM s (qB s n).1=(n,0)/\dU (qB s n).1.2.2:=by
 obtain⟨c,j,l,m,o⟩:=ZK h;have d:=g.tb c;have a:=i.tb j;obtain⟨b,p⟩:=agb d a m;rw[o];have e:yU (s.1,n.1,jP n.2 s.2)=0:=aof l b.ok;have f:tog s.2 (jP n.2 s.2)=tog n.2 []:=aE2 d b a Dz λk=>by rw[p];simp[val];omega
 rw[aE1 a]at f;refine⟨e,?_,b.good⟩;rw[ani c e rfl];simp only[f];rfl
def aeV{s:Sn}{d:Dl}(a:dU s.2)(b:dU d.2.2)(h:(mM s d).2=0):Tb (mM s d).1.2/\∀k,val (mM s d).1.2 k=val s.2 k+val d.2.2 k:=by obtain⟨c,e,i,f,g⟩:=Uh h;rw[g];exact aE0 (a.tb c) (b.tb (aog e).2) f
def zJ(p x:Q0):Int:=if x=p then 14 else if Op.bytesLess x p=true then 7 else 0
def QH{d:List dK}(a:iL d=true):(dG d).length<=30000:=by unfold iL at a;rw[aK,decide_eq_true_iff]at a;have b:=oJ (n:=d.length) (by omega);have:=aae d a.1;unfold dG;simp only[eP];omega
def common:Q0->List UInt8->Nat
 |a::x,b::y=>if a=b then common x y+1 else 0
 |_,_=>0
def ZB(b:Q0):common [] b=0:=by unfold common;rfl
def aoO(a:Q0):common a []=0:=by cases a<;>rfl
def UY:∀a b:Q0,common a b<=a.length/\common a b<=b.length
 |[],b=>by simp[common]
 |_::_,[]=>by simp[common]
 |a::x,b::y=>by
  unfold common;have:=UY x y;split
  ·simp only[gV];omega
  ·omega
def afS:∀a b:Q0,a.take (common a b)=b.take (common a b)
 |[],b=>by simp[common]
 |_::_,[]=>by simp[common]
 |a::x,b::y=>by
  unfold common;split
  ·next e=>subst e;rw[Am,Am,afS x y]
  ·simp
def afO(a b:Q0)(j:a.length<=140737488351232)(k:b.length<=140737488351232):∀m i:Nat,i+m=a.length->TT.lim 116 [.s a,.s b,.zq i]=some [.zq 0,.zq ((i+common (a.drop i) (b.drop i):Nat):Int)]
 |0,i,hi=>by
  have h0:a.drop i=[]:=ig;have h:¬((i:Int)<a.length):=by omega
  refine au ?_;simp[h,h0,ZB]
 |m+1,i,hi=>by
  have c:i<a.length:=by omega
  have h:((i:Int)<a.length):=by omega
  by_cases d:i<b.length;rotate_left
  ·have h0:b.drop i=[]:=ig;have l:¬((i:Int)<b.length):=by omega
   refine au ?_;simp[h,h0,l,aoO]
  have f:((i:Int)<b.length):=by omega
  have n:TT.lim 116 [.s a,.s b,.zq ((i:Int)+1)]=_:=afO a b j k m (i+1) (by omega);have o:=bF ((i:Int)+1);rw[iC c,iC d];unfold common;by_cases e:a[i]=b[i]
  ·rw[aj e];have g:((a[i].toNat:Int)=(b[i].toNat:Int))=True:=eq_true (by rw[e]);have p:((i+(common (a.drop (i+1)) (b.drop (i+1))+1):Nat):Int)=((i+1+common (a.drop (i+1)) (b.drop (i+1)):Nat):Int):=by omega
   rw[p];refine au ?_;simp[h,c,d,f,g,o,n]
  ·rw[ah e];have g:¬(a[i].toNat:Int)=(b[i].toNat:Int):=λh=>e (YK.1 (by omega));refine au ?_;simp[h,c,d,f,g]
def Zt(a b:Q0)(c:a.length<=140737488351232)(d:b.length<=140737488351232):TT.lim 115 [.s a,.s b]=some [.zq (common a b)]:=by have k:TT.lim 116 [.s a,.s b,.zq 0]=_:=afO a b c d a.length 0 (by omega);rw[dN,dN,lQ]at k;refine aT ?_;simp[k]
def sJ(a s:Q0):Q0:=aQ (common a s)++aQ (s.length-common a s)++s.drop (common a s)
def ayr(a s:Q0)(o:a.length<=100000000)(p:s.length<=100000000):TT.lim 114 [.s a,.s s]=some [.s (sJ a s)]:=by
 have k:=Zt a s (by omega) (by omega);have q:=UY a s;have g:=zf (common a s) (by omega);have f:=zf (s.length-common a s) (by omega);have r:=oJ (n:=common a s) (by omega);have t:=oJ (n:=s.length-common a s) (by omega);have w1:=jA ((common a s:Int));have b:=jA ((s.length:Int)-(common a s:Int));have d:=bF ((s.length:Int)-(common a s:Int));have e:(s.length:Int)-(common a s:Int)=((s.length-common a s:Nat):Int):=by omega
 rw[e]at b d;refine aT ?_;unfold sJ;generalize common a s=c at *;have h:((aQ c).length:Int)+((aQ (s.length-c)).length:Int)<=9223372036854775807:=by omega
 have i:((aQ c).length:Int)+((aQ (s.length-c)).length:Int)+((s.length:Int)-(c:Int))<=9223372036854775807:=by omega
 have j:(c:Int)<=s.length:=by omega
 have l:((s.length-c:Nat):Int)=(s.length:Int)-c:=by omega
 have m:(s.take s.length).drop c=s.drop c:=by rw[Ak]
 rw[<-e]at b d;rw[<-e]at f;simp[k,g,f,w1,b,d,h,i,j,l,m]
def nC:Q0->Nat
 |[]=>0
 |b::r=>b.toNat%128+128*nC r
def qh:Nat->List UInt8->Option Nat
 |0,_=>none
 |_+1,[]=>none
 |n+1,b::r=>if b.toNat<128 then some 1 else(qh n r).map (· +1)
def vg(k:Nat)(b:Nat):Int:=if k=10/\1<b then 3 else if 1<k/\b=0 then 2 else 0
def aB(s:Q0):Nat×Nat×Int:=match qh 10 s with
 |none=>(0,0,if 10<=s.length then 3 else 1)
 |some k=>if vg k (s.getD (k-1) 0).toNat≠0 then(0,0,vg k (s.getD (k-1) 0).toNat)else(nC (s.take k),k,0)
def Yd:∀{n:Nat}{s:Q0}{k:Nat},qh n s=some k->1<=k/\k<=n/\k<=s.length/\(s.getD (k-1) 0).toNat<128
 |0,s,k,h=>by simp[qh]at h
 |n+1,[],k,h=>by simp[qh]at h
 |n+1,b::r,k,h=>by
  unfold qh at h;split at h
  ·next a=>cases h;simpa using a
  ·obtain⟨j,c,rfl⟩:=bC.1 h;obtain⟨e,f,g,d⟩:=Yd c;obtain⟨i,rfl⟩:∃i,j=i+1:=⟨j-1,by omega⟩
   refine⟨by omega,by omega,by simp;omega,?_⟩;simpa using d
def amk:∀(s:Q0),nC s<128^s.length
 |[]=>by simp[nC]
 |b::r=>by have:=amk r;simp only[nC,gV,LK];omega
def alj(b i:Nat)(g:b<128)(hi:i<=9)(c:i=9->b<=1):kD .shl .u64 (b:Int) ((7*i:Nat):Int)=some (.zu ((b*128^i:Nat):Int)):=by
 have e:min ((7*i:Nat):Int).toNat 64=7*i:=by simp;omega
 have d:(2:Int)^(7*i)=((128^i:Nat):Int):=by rw[Int.pow_mul];simp
 have f:b*128^i<18446744073709551616:=by
  rcases yN i 9 with h|h
  ·have:(128:Nat)^i<=128^8:=Tn (by omega) (by omega);have j:b*128^i<=127*128^8:=Nat.mul_le_mul (by omega) this;omega
  ·have a:i=9:=by omega
   subst a;have:=c rfl;omega
 unfold kD;rw[dA];show some (GV.zu (IntKind.u64.wrap ((b:Int)*2^(min ((7*i:Nat):Int).toNat 64))))=_
 rw[e,d,<-Int.natCast_mul,Ig (by omega) (by omega)]
def orI(a c i:Nat)(b:a<2^i)(h:a+c*2^i<18446744073709551616):bV .or .u64 (a:Int) ((c*2^i:Nat):Int)=some (.zu ((a+c*2^i:Nat):Int)):=by
 have d:((BitVec.ofInt 64 (a:Int) |||BitVec.ofInt 64 ((c*2^i:Nat):Int)).toNat:Nat)=a+c*2^i:=by
  rw[adP,vw,vw];generalize e:c*2^i=C at *;have f:((a:Int)%((2^64:Nat):Int)).toNat=a:=by omega
  have g:((C:Int)%((2^64:Nat):Int)).toNat=C:=by omega
  rw[f,g,<-e,Nat.or_comm,Iy,LD];exact(amI b c).symm
 show some (GV.zu (IntKind.u64.wrap (((BitVec.ofInt 64 (a:Int) |||BitVec.ofInt 64 ((c*2^i:Nat):Int)).toNat:Nat):Int)))=_
 rw[d,Ig (by omega) (by omega)]
def NT(i:Nat):128^i=2^(7*i):=by rw[Nat.pow_mul]
def alk(a b:Int)(c:0<=b):∃r,kD .shl .u64 a b=some (.zu r):=by unfold kD;rw[dA];exact⟨_,rfl⟩
def or_some(a b:Int):∃r,bV .or .u64 a b=some (.zu r):=⟨_,rfl⟩
def Eo(s:Q0)(a:Int)(i:Nat):Q1:=match qh (10-i) (s.drop i)with
 |none=>[.zq 1,.s s]
 |some k=>if vg (i+k) (s.getD (i+k-1) 0).toNat≠0 then[.zq 0,.zu 0,.zq 0,.zq (vg (i+k) (s.getD (i+k-1) 0).toNat)]
  else[.zq 0,.zu (a+((128^i*nC ((s.drop i).take k):Nat):Int)),.zq ((i+k:Nat):Int),.zq 0]
def getLoop(s:Q0)(T:s.length<=140737488351232):∀(m i:Nat)(a:Int),i+m=min s.length 10->(i<=9->0<=a/\a<((128^i:Nat):Int))->
 TT.lim 278 [.s s,.zu a,.zq ((min s.length 10:Nat):Int),.zq i]=some (Eo s a i)
 |0,i,a,hi,G=>by
  have h:¬((i:Int)<((min s.length 10:Nat):Int)):=by omega
  have g:qh (10-i) (s.drop i)=none:=by
   rcases yN i 10 with h1|h1
   ·have:s.drop i=[]:=ig;rw[this];obtain⟨j,q⟩:∃j,10-i=j+1:=⟨10-i-1,by omega⟩
    rw[q];rfl
   ·have:10-i=0:=by omega
    rw[this];unfold qh;rfl
  unfold Eo;rw[g];generalize((min s.length 10:Nat):Int)=M at *;refine au ?_;simp[h]
 |m+1,i,a,hi,G=>by
  have d:i<s.length:=by omega
  have W:i<=9:=by omega
  have h:((i:Int)<((min s.length 10:Nat):Int)):=by omega
  obtain⟨a1,a2⟩:=G W;obtain⟨n,rfl⟩:∃n:Nat,a=n:=⟨a.toNat,by omega⟩
  have hb:=(s[i]).toNat_lt;have r:=aeP (s[i]).toNat (by omega);have t:=jA ((((s[i]).toNat%128:Nat):Int));have H:=bF (7*(i:Int));have I:=bF ((i:Int)+1);have J:s.drop i=s[i]::s.drop (i+1):=iC d;obtain⟨j,q⟩:∃j,10-i=j+1:=⟨10-i-1,by omega⟩
  have x:10-(i+1)=j:=by omega
  have L:(7*(i:Int))=((7*i:Nat):Int):=by omega
  have y:s.getD i 0=s[i]:=by simp[List.getD,d]
  by_cases hc:128<=(s[i]).toNat
  ·have f:((128:Int)<=((s[i]).toNat:Int)):=by omega
   have step:∃V:Int,(i+1<=9->0<=V/\V<((128^(i+1):Nat):Int)/\V=n+(((s[i]).toNat%128*128^i:Nat):Int))/\(∃S,kD .shl .u64 ((((s[i]).toNat%128:Nat)):Int) (7*(i:Int))=some (.zu S)/\bV .or .u64 (n:Int) S=some (.zu V)):=by
    rcases yN i 9 with h1|h1
    ·have u:=alj ((s[i]).toNat%128) i (by omega) (by omega) (by omega);have X:(s[i]).toNat%128*128^i<=127*128^i:=uD _ (by omega);have z:128^(i+1)=128*128^i:=by rw[LK,Iy]
     have N:(128:Nat)^i<=128^8:=Tn (by omega) (by omega);have l:=orI n ((s[i]).toNat%128) (7*i) (by rw[<-NT];omega) (by rw[<-NT];omega);rw[<-NT]at l;refine⟨_,λ_=>⟨by omega,?_,rfl⟩,_,by rw[L];exact u,by rw[l];simp⟩;rw[z];omega
    ·obtain⟨S,e⟩:=alk ((((s[i]).toNat%128:Nat)):Int) (7*(i:Int)) (by omega);obtain⟨V,b⟩:=or_some (n:Int) S;exact⟨V,λh=>by omega,S,e,b⟩
   obtain⟨V,b,S,e,A⟩:=step;have Y:TT.lim 278 [.s s,.zu V,.zq ((min s.length 10:Nat):Int),.zq ((i:Int)+1)]=_:=getLoop s T m (i+1) V (by omega) (λh=>⟨(b h).1,(b h).2.1⟩);have c:Eo s n i=Eo s V (i+1):=by
    unfold Eo;rw[J,q,x];have g:qh (j+1) (s[i]::s.drop (i+1))=(qh j (s.drop (i+1))).map (· +1):=by
     show(if(s[i]).toNat<128 then _ else _)=_
     rw[dA]
    rw[g];cases Z:qh j (s.drop (i+1))with
    |none=>rfl
    |some k=>
     obtain⟨v,q2,_,_⟩:=Yd Z;have B:=b (by omega);have D:i+(k+1)=i+1+k:=by omega
     simp only[gZ,D];split
     ·rfl
     ·have E:(n:Int)+((128^i*nC ((s[i]::s.drop (i+1)).take (k+1)):Nat):Int)=V+((128^(i+1)*nC ((s.drop (i+1)).take k):Nat):Int):=by
       rw[B.2.2,Am];have:128^i*nC (s[i]::(s.drop (i+1)).take k)=(s[i]).toNat%128*128^i+128^(i+1)*nC ((s.drop (i+1)).take k):=by
        show 128^i*((s[i]).toNat%128+128*nC _)=_
        rw[Nat.mul_add,LK,aes,Iy (128^i) ((s[i]).toNat%128)]
       rw[this];omega
      rw[E]
   rw[c];generalize Eo s V (i+1)=O,((min s.length 10:Nat):Int)=M at *;have em:(((s[i]).toNat%128:Nat):Int)=((s[i]).toNat:Int)%128:=by omega
   rw[em]at r t e;refine au ?_;simp[h,d,f,r,t,H,I,e,A,Y]
  ·have f:¬((128:Int)<=((s[i]).toNat:Int)):=by omega
   have g:qh (j+1) (s[i]::s.drop (i+1))=some 1:=by
    show(if(s[i]).toNat<128 then _ else _)=_
    rw[nI]
   have c:Eo s n i=if vg (i+1) (s[i]).toNat≠0 then[.zq 0,.zu 0,.zq 0,.zq (vg (i+1) (s[i]).toNat)]else[.zq 0,.zu ((n+(s[i]).toNat*128^i:Nat):Int),.zq ((i:Int)+1),.zq 0]:=by
    unfold Eo;rw[J,q,g];have D:i+1-1=i:=by omega
    have E:128^i*nC ((s[i]::s.drop (i+1)).take 1)=(s[i]).toNat*128^i:=by simp only[Am,Td,nC];rw[O4 (by omega),Iy];simp
    simp only[D,y,E];congr 1
   rw[c];have step:∃S V,kD .shl .u64 ((((s[i]).toNat%128:Nat)):Int) (7*(i:Int))=some (.zu S)/\bV .or .u64 (n:Int) S=some (.zu V)/\(vg (i+1) (s[i]).toNat=0->V=((n+(s[i]).toNat*128^i:Nat):Int)):=by
    by_cases P:i=9/\1<(s[i]).toNat
    ·obtain⟨S,e⟩:=alk ((((s[i]).toNat%128:Nat)):Int) (7*(i:Int)) (by omega);obtain⟨V,b⟩:=or_some (n:Int) S;refine⟨S,V,e,b,λh=>?_⟩;unfold vg at h;rw[nI]at h;cases h
    ·have u:=alj ((s[i]).toNat%128) i (by omega) (by omega) (by omega);have em:(s[i]).toNat%128=(s[i]).toNat:=O4 (by omega);rw[em]at u;have X:(s[i]).toNat*128^i<=127*128^i:=uD _ (by omega);have Q:n+(s[i]).toNat*128^i<18446744073709551616:=by
      rcases yN i 9 with h1|h1
      ·have N:(128:Nat)^i<=128^8:=Tn (by omega) (by omega);omega
      ·have F:i=9:=by omega
       have h1:(s[i]).toNat<=1:=by omega
       have N:(128:Nat)^i=128^9:=by rw[F]
       have aa:(s[i]).toNat*128^i<=1*128^i:=uD _ h1;omega
     have l:=orI n (s[i]).toNat (7*i) (by rw[<-NT];omega) (by rw[<-NT];omega);rw[<-NT]at l;exact⟨_,_,by rw[L,em];exact u,l,λ_=>rfl⟩
   obtain⟨S,V,e,A,b⟩:=step;generalize((n+(s[i]).toNat*128^i:Nat):Int)=R,((min s.length 10:Nat):Int)=M at *;have bd:vg (i+1) (s[i]).toNat=if(i:Int)=9/\(1:Int)<((s[i]).toNat:Int)then 3 else if(0:Int)<(i:Int)/\((s[i]).toNat:Int)=0 then 2 else 0:=by
    unfold vg;congr 1
    ·apply propext;omega
    ·congr 1;apply propext;omega
   rw[bd]at b⊢;have em:(((s[i]).toNat%128:Nat):Int)=((s[i]).toNat:Int)%128:=by omega
   rw[em]at r t e;refine au ?_
   rcases(SK ((i:Int)=9)).imp eq_true eq_false with v|v<;>rcases(SK ((1:Int)<((s[i]).toNat:Int))).imp eq_true eq_false with q2|q2<;>
    rcases(SK ((0:Int)<(i:Int))).imp eq_true eq_false with q3|q3<;>rcases(SK (((s[i]).toNat:Int)=0)).imp eq_true eq_false with w|w
   all_goals
    have o:(0<i)=((0:Int)<(i:Int)):=propext (by omega);have p:((s[i]).toNat=0)=(((s[i]).toNat:Int)=0):=propext (by omega);rw[q3]at o;rw[w]at p;simp only[v,q2,q3,w,and_self,and_true,and_false,false_and,true_and,if_true,if_false]at b⊢;first
    |(have b:=b trivial;subst b)
    |skip
    simp[h,d,f,r,t,H,I,e,A,v,q2,q3,w,o,p]
def vP(s:Q0)(f:s.length<=140737488351232):TT.lim 277 [.s s]=some [.zu ((aB s).1:Nat),.zq ((aB s).2.1:Nat),.zq (aB s).2.2]:=by
 have k:TT.lim 278 [.s s,.zu 0,.zq ((min s.length 10:Nat):Int),.zq 0]=_:=getLoop s f (min s.length 10) 0 0 (by omega) (by simp);have b:(if(10:Int)<(s.length:Int)then(10:Int)else(s.length:Int))=((min s.length 10:Nat):Int):=by split<;>omega
 unfold Eo at k;rw[dN,IB]at k;unfold aB;generalize((min s.length 10:Nat):Int)=M at *;refine aT ?_;cases d:qh 10 s with
 |none=>
  rw[d]at k;by_cases a:10<=s.length
  ·have c:(10:Int)<=s.length:=by omega
   simp[b,k,a,c]
  ·have c:¬(10:Int)<=s.length:=by omega
   simp[b,k,a,c]
 |some j=>
  rw[d]at k;simp only[lQ,Nat.pow_zero,Iz,ad1]at k;by_cases e:vg j (s.getD (j-1) 0).toNat=0
  ·simp only[e,ne_eq,not_true_eq_false,if_false]at k⊢;simp[b,k]
  ·simp only[e,ne_eq,not_false_eq_true,if_true]at k⊢;simp[b,k]
def Fv{n:Nat}(h:n<256):(UInt8.ofNat n).toNat=n:=UInt8.toNat_ofNat_of_lt' h
def yG(n:Nat):Nat:=if n<128 then n else yG (n/128)
termination_by n
def amj{n:Nat}(h:n<128):yG n=n:=by rw[yG,aj h]
def ami{n:Nat}(h:¬n<128):yG n=yG (n/128):=by rw[yG,ah h]
def Ye{n:Nat}(h:n<128):fO n=1:=by unfold fO;rw[zy h];rfl
def aFH:∀n:Nat,yG n<128/\(0<n->0<yG n)/\yG n*128^(fO n-1)<=n:=by
 intro n;induction n using Nat.strongRecOn with
 |_ n b=>
  by_cases h:n<128
  ·rw[amj h,Ye h];simp;omega
  ·obtain⟨c,d,a⟩:=b (n/128) (by omega);rw[ami h,KY h];refine⟨c,λ_=>d (by omega),?_⟩;have f:=DK (n/128);obtain⟨j,e⟩:∃j,fO (n/128)=j+1:=⟨fO (n/128)-1,by omega⟩
   rw[e]at a⊢;simp only[Nat.add_sub_cancel]at a⊢;have:yG (n/128)*128^(j+1)=yG (n/128)*128^j*128:=by rw[LK,aes]
   rw[this];omega
def aFF:∀(n:Nat)(x:Q0),(aQ n++x).getD (fO n-1) 0=UInt8.ofNat (yG n):=by
 intro n;induction n using Nat.strongRecOn with
 |_ n a=>
  intro x;by_cases h:n<128
  ·rw[amj h,Ye h,zy h];rfl
  ·have c:=DK (n/128);obtain⟨j,b⟩:∃j,fO (n/128)=j+1:=⟨fO (n/128)-1,by omega⟩
   have:=a (n/128) (by omega) x;rw[ami h,KY h,DJ h,<-this,b];simp
def aFE:∀(n k:Nat)(x:Q0),fO n<=k->qh k (aQ n++x)=some (fO n):=by
 intro n;induction n using Nat.strongRecOn with
 |_ n a=>
  intro k x b;have c:=DK n;obtain⟨j,rfl⟩:∃j,k=j+1:=⟨k-1,by omega⟩
  by_cases h:n<128
  ·rw[Ye h,zy h];show(if(UInt8.ofNat n).toNat<128 then _ else _)=_
   rw[aj (by rw[Fv (by omega)];exact h)]
  ·rw[KY h]at b⊢;rw[DJ h];show(if(UInt8.ofNat (n%128+128)).toNat<128 then _ else(qh j (aQ (n/128)++x)).map (· +1))=_
   rw[ah (by rw[Fv (by omega)];omega),a (n/128) (by omega) j x (by omega)];rfl
def aFI:∀n:Nat,nC (aQ n)=n:=by
 intro n;induction n using Nat.strongRecOn with
 |_ n a=>
  by_cases h:n<128
  ·rw[zy h];simp only[nC];rw[Fv (by omega)];omega
  ·rw[DJ h];simp only[nC];rw[a (n/128) (by omega),Fv (by omega)];omega
def FD(n:Nat)(x:Q0)(d:n<18446744073709551616):aB (aQ n++x)=(n,(aQ n).length,0):=by
 have e:=aFE n 10 x (Ib d);obtain⟨j,f,b⟩:=aFH n;have g:=aFF n x;have i:vg (fO n) (UInt8.ofNat (yG n)).toNat=0:=by
  rw[Fv (by omega)];unfold vg;rw[ah,ah]
  ·rintro⟨a,c⟩
   by_cases h:n<128
   ·rw[Ye h]at a;omega
   ·have:=f (by omega);omega
  ·rintro⟨a,c⟩
   rw[a]at b;have:2*128^9<=yG n*128^9:=uD _ c;simp only[show 10-1=9 from rfl]at b;omega
 unfold aB;rw[e];simp only[g,i,ne_eq,not_true_eq_false,if_false];have:(aQ n++x).take (fO n)=aQ n:=by unfold fO;simp
 rw[this,aFI];rfl
def aFJ(a:Q0)(b:UInt8):nC (a++[b])=nC a+128^a.length*(b.toNat%128):=by
 induction a with
 |nil=>simp[nC]
 |cons c a d=>simp only[bg,nC,d,gV,LK,Nat.mul_add,jL];rw[Iy (128^a.length) 128,aes]
def akw:∀(j k:Nat)(s:Q0),qh j s=some k->(1<k->(s.getD (k-1) 0)≠0)->aQ (nC (s.take k))=s.take k/\(1<k\/s.getD (k-1) 0≠0->nC (s.take k)≠0)
 |0,k,s,h,_=>by simp[qh]at h
 |j+1,k,[],h,_=>by simp[qh]at h
 |j+1,k,b::r,h,g=>by
  unfold qh at h;split at h
  ·next d=>
   cases h;simp only[Am,Td,nC,Nat.mul_zero,oL];rw[O4 d];refine⟨by rw[zy d];simp,λc=>?_⟩;rcases c with c|c
   ·omega
   ·intro e;apply c;simp only[BP,List.getD_cons_zero];exact YK.1 (by simpa using e)
  ·next d=>
   obtain⟨i,hi,rfl⟩:=bC.1 h;obtain⟨q,t,u,v⟩:=Yd hi;obtain⟨l,rfl⟩:∃l,i=l+1:=⟨i-1,by omega⟩
   have a:r.getD l 0≠0:=by have:=g (by omega);simpa using this
   obtain⟨m,f⟩:=akw j (l+1) r hi (λ_=>by simpa using a);have f:=f (.inr (by simpa using a));have n:=b.toNat_lt;rw[Am];simp only[nC];refine⟨?_,λ_=>by omega⟩;rw[DJ (by omega)];have o:(b.toNat%128+128*nC (r.take (l+1)))%128+128=b.toNat:=by omega
   have p:(b.toNat%128+128*nC (r.take (l+1)))/128=nC (r.take (l+1)):=by omega
   rw[o,p,m];simp
structure VOk(s:Q0)(n k:Nat):Prop where
 pos:1<=k
 ten:k<=10
 len:k<=s.length
 lt:n<18446744073709551616
 put:aQ n=s.take k
def lF{s:Q0}(h:(aB s).2.2=0):VOk s (aB s).1 (aB s).2.1:=by
 unfold aB at h⊢;cases c:qh 10 s with
 |none=>rw[c]at h;simp only at h;split at h<;>cases h
 |some k=>
  rw[c]at h;simp only at h⊢;obtain⟨g,i,l,r⟩:=Yd c;by_cases a:vg k (s.getD (k-1) 0).toNat=0
  ·simp only[a,ne_eq,not_true_eq_false,if_false];have m:1<k->s.getD (k-1) 0≠0:=by
    intro n d;unfold vg at a;rw[d]at a;split at a
    ·cases a
    ·rw[aj ⟨n,rfl⟩]at a;cases a
   refine⟨g,i,l,?_,(akw 10 k s c m).1⟩;have e:s.take k=s.take (k-1)++[s.getD (k-1) 0]:=by
    obtain⟨j,rfl⟩:∃j,k=j+1:=⟨k-1,by omega⟩
    have:j<s.length:=by omega
    simp[List.getD,this]
   have d:=amk (s.take (k-1));rw[e,aFJ,lN,LJ (by omega)];rw[lN,LJ (by omega)]at d;rcases yN k 10 with o|o
   ·have p:(128:Nat)^(k-1)<=128^8:=Tn (by omega) (by omega);have f:128^(k-1)*((s.getD (k-1) 0).toNat%128)<=128^(k-1)*127:=YF _ (by omega);omega
   ·have b:k=10:=by omega
    have q:(s.getD (k-1) 0).toNat<=1:=by
     unfold vg at a;split at a
     ·cases a
     ·next h=>omega
    have p:(128:Nat)^(k-1)=128^9:=by rw[b]
    have f:128^(k-1)*((s.getD (k-1) 0).toNat%128)<=128^(k-1)*1:=YF _ (by omega);omega
  ·simp only[a,ne_eq,not_false_eq_true,if_true]at h
def KX{s:Q0}(h:(aB s).2.2≠0):(aB s).1=0/\(aB s).2.1=0:=by
 unfold aB at h⊢;cases b:qh 10 s with
 |none=>exact⟨rfl,rfl⟩
 |some k=>
  rw[b]at h;simp only at h⊢;by_cases a:vg k (s.getD (k-1) 0).toNat=0
  ·simp only[a,ne_eq,not_true_eq_false,if_false]at h
  ·simp only[a,ne_eq,not_false_eq_true,if_true];exact⟨trivial,trivial⟩
def DI(t:Q0)(a:Nat)(h:a<=t.length)(v:t.length<=140737488351232):
 TT.lim 289 [.s t,.zq a]=some [.zq 0,.zu ((aB (t.drop a)).1:Nat),.zq (aB (t.drop a)).2.2,.s t,.zq ((a+(aB (t.drop a)).2.1:Nat):Int)]:=by
 have k:=vP (t.drop a) (by rw[fH];omega);have c:(t.take t.length).drop a=t.drop a:=by rw[Ak]
 have d:(a:Int)<=t.length:=by omega
 refine au ?_;by_cases b:(aB (t.drop a)).2.2=0
 ·have f:=lF b;have g:=f.len;have i:=f.ten;rw[fH]at g;generalize(aB (t.drop a)).1=n,(aB (t.drop a)).2.1=j,(aB (t.drop a)).2.2=e at *;have w1:=jA ((j:Int));have l:=bF ((t.length:Int)-(a:Int));have m:=jA ((t.length:Int)-(a:Int));have o:=bF ((j:Int));have p:=bF ((a:Int)+(j:Int));have q:¬((t.length:Int)-(a:Int)<(j:Int)):=by omega
  have r:(a:Int)<=(a:Int)+(j:Int)/\(a:Int)+(j:Int)<=t.length:=by omega
  subst b;simp[c,d,k,w1,l,m,o,p,q,r]
 ·obtain⟨s,u⟩:=KX b;rw[s,u]at k⊢;generalize(aB (t.drop a)).2.2=e at *;simp[c,d,k,b]
def nX(e:Int):Q0×Nat×Int:=([],0,e)
def bM(s a0:Q0)(first:Bool):Q0×Nat×Int:=
 let a:=if first=true then[]else a0
 let v:=aB s
 if v.2.2≠0 then nX v.2.2 else
 if a.length<v.1 then nX 23 else
 let b:=aB (s.drop v.2.1)
 if b.2.2≠0 then nX b.2.2 else
 if s.length-(v.2.1+b.2.1)<b.1 then nX 1 else
 let t:=a.take v.1++(s.drop (v.2.1+b.2.1)).take b.1
 if first=false/\Op.bytesLess a t=false then nX 7 else
 if v.1<common a t then nX 23 else(t,v.2.1+b.2.1+b.1,0)
def awO(a t:Q0):(Op.bytesLess t a ||t==a) = !(Op.bytesLess a t):=by
 rw[MB,MB,yI];simp only[oK,decide_eq_true_iff,beq_iff_eq,wC,decide_eq_false_iff_not];constructor
 ·rintro(h|h) b
  ·exact qw _ (Ai h b)
  ·subst h;exact qw _ b
 ·intro h;by_cases c:t<a
  ·exact .inl c
  ·exact .inr (SV (BN.1 h) (BN.1 c))
def afR:∀(k:Nat)(a x:Q0),k<=a.length->k<=common a (a.take k++x)
 |0,a,x,h=>by omega
 |k+1,[],x,h=>by simp at h
 |k+1,b::a,x,h=>by rw[Am,bg];unfold common;rw[aj rfl];have:=afR k a x (by simpa using h);omega
def azz(t a:Q0)(first:Bool)(b:Nat)(h:b<=t.length)(ht:t.length<=100000000)(ha:a.length<=100000000):
 ∃at2:Nat,TT.lim 313 [.s t,.zq b,.s a,.b first]=some [.zq 0,.s (bM (t.drop b) a first).1,.zq (bM (t.drop b) a first).2.2,.s t,.zq at2]/\
  ((bM (t.drop b) a first).2.2=0->at2=b+(bM (t.drop b) a first).2.1):=by
 have f:=DI t b h (by omega);by_cases u:(aB (t.drop b)).2.2=0;rotate_left
 ·obtain⟨e1,E⟩:=KX u;have w:bM (t.drop b) a first=nX (aB (t.drop b)).2.2:=by unfold bM;simp only;rw[aj u]
  rw[e1,E]at f;rw[w];clear e1 E w;generalize(aB (t.drop b)).2.2=e at *;refine⟨b,jm rfl rfl ?_,λh=>absurd h u⟩;cases first<;>simp[f,u,nX]
 have S:=lF u;have hl:=S.len;have aa:=S.lt;have ab:=S.ten;rw[fH]at hl
 have p:∀x:Q0,x=(if first=true then[]else a)->bM (t.drop b) a first=(if x.length<(aB (t.drop b)).1 then nX 23 else
  if(aB (t.drop (b+(aB (t.drop b)).2.1))).2.2≠0 then nX (aB (t.drop (b+(aB (t.drop b)).2.1))).2.2 else
  if(t.length-b)-((aB (t.drop b)).2.1+(aB (t.drop (b+(aB (t.drop b)).2.1))).2.1)<(aB (t.drop (b+(aB (t.drop b)).2.1))).1 then nX 1 else
  if first=false/\Op.bytesLess x (x.take (aB (t.drop b)).1++(t.drop (b+((aB (t.drop b)).2.1+(aB (t.drop (b+(aB (t.drop b)).2.1))).2.1))).take (aB (t.drop (b+(aB (t.drop b)).2.1))).1)=false then nX 7 else
  if(aB (t.drop b)).1<common x (x.take (aB (t.drop b)).1++(t.drop (b+((aB (t.drop b)).2.1+(aB (t.drop (b+(aB (t.drop b)).2.1))).2.1))).take (aB (t.drop (b+(aB (t.drop b)).2.1))).1)then nX 23 else
  (x.take (aB (t.drop b)).1++(t.drop (b+((aB (t.drop b)).2.1+(aB (t.drop (b+(aB (t.drop b)).2.1))).2.1))).take (aB (t.drop (b+(aB (t.drop b)).2.1))).1,(aB (t.drop b)).2.1+(aB (t.drop (b+(aB (t.drop b)).2.1))).2.1+(aB (t.drop (b+(aB (t.drop b)).2.1))).1,0)):=by
  intro x T;unfold bM;simp only[rJ,fH,<-T,u,ne_eq,not_true_eq_false,if_false]
 rw[u]at f;have q:=DI t (b+(aB (t.drop b)).2.1) (by omega) (by omega);have F:=λh=>lF (s:=t.drop (b+(aB (t.drop b)).2.1)) h;have G:=λh=>KX (s:=t.drop (b+(aB (t.drop b)).2.1)) h;generalize V:aB (t.drop b)=v at *;obtain⟨n,i,e⟩:=v;simp only at *;generalize W:aB (t.drop (b+i))=v2 at *;obtain⟨m,j,E⟩:=v2;simp only at *;clear V W S;subst u;simp only[FP]at f q;cases first with
 |true=>
  have w:=p [] rfl;rw[w];clear w p;by_cases k:0<n
  ·have c:(0:Int)<n:=by omega
   rw[aj (by simpa using k)];refine⟨b+i,jm rfl rfl ?_,λh=>by cases h⟩;simp[f,k,c,nX]
  have c:¬(0:Int)<n:=by omega
  rw[ah (by simpa using k)];by_cases l:E=0;rotate_left
  ·obtain⟨H,I⟩:=G l;subst H;subst I;rw[aj l];refine⟨b+i,jm rfl rfl ?_,λh=>absurd h l⟩;simp[f,q,k,c,l,nX]
  subst l;obtain⟨H,I,Y,q4,_⟩:=F rfl;rw[fH]at Y;rw[ah (by simp)];have y:=bF ((t.length:Int)-((b:Int)+(i:Int)+(j:Int)));have z:=jA ((t.length:Int)-((b:Int)+(i:Int)+(j:Int)));by_cases J:t.length-b-(i+j)<m
  ·have d:(t.length:Int)-((b:Int)+(i:Int)+(j:Int))<(m:Int):=by omega
   rw[aj J];refine⟨b+i+j,jm rfl rfl ?_,λh=>by cases h⟩;simp[f,q,k,c,y,z,d,nX]
  have d:¬(t.length:Int)-((b:Int)+(i:Int)+(j:Int))<(m:Int):=by omega
  rw[ah J,ah (by simp)];have n0:n=0:=by omega
  subst n0;have hc:common [] ([]++(t.drop (b+(i+j))).take m)=0:=ZB _;have L:=bF ((m:Int));have M:=bF ((b:Int)+(i:Int)+(j:Int)+(m:Int));have w0:=bF ((0:Int));have N:((t.take (b+i+j+m)).drop (b+i+j))=(t.drop (b+(i+j))).take m:=by rw[<-jL,Lp];congr 1;omega
  have kc:=Zt [] ((t.drop (b+(i+j))).take m) (by simp) (by simp;omega);rw[ZB]at kc;have O:(b:Int)+(i:Int)+(j:Int)<=(b:Int)+(i:Int)+(j:Int)+(m:Int)/\(b:Int)+(i:Int)+(j:Int)+(m:Int)<=t.length:=by omega
  have P:(0:Int)<=(b:Int)+(i:Int)+(j:Int):=by omega
  have Q:((b:Int)+(i:Int)+(j:Int)+(m:Int)).toNat=b+i+j+m:=by omega
  have R:((b:Int)+(i:Int)+(j:Int)).toNat=b+i+j:=by omega
  rw[List.take_nil,ah (by rw[hc];omega)];have o:(((t.drop (b+(i+j))).take m).length:Int)<=9223372036854775807:=by
   have:((t.drop (b+(i+j))).take m).length<=t.length:=by rw[lN,fH];omega
   omega
  refine⟨b+i+j+m,jm rfl rfl ?_,λ_=>by simp only;omega⟩;rw[aX];generalize(t.drop (b+(i+j))).take m=X at *;simp[f,q,w0,y,z,L,M,d,O,P,Q,R,N,kc,o]
 |false=>
  have w:=p a rfl;rw[w];clear w p;have B:=jA ((a.length:Int));by_cases k:a.length<n
  ·have c:(a.length:Int)<n:=by omega
   rw[aj k];refine⟨b+i,jm rfl rfl ?_,λh=>by cases h⟩;simp[f,k,c,B,nX]
  have c:¬(a.length:Int)<n:=by omega
  rw[ah k];by_cases l:E=0;rotate_left
  ·obtain⟨H,I⟩:=G l;subst H;subst I;rw[aj l];refine⟨b+i,jm rfl rfl ?_,λh=>absurd h l⟩;simp[f,q,k,c,l,B,nX]
  subst l;obtain⟨H,I,Y,q4,_⟩:=F rfl;rw[fH]at Y;rw[ah (by simp)];have y:=bF ((t.length:Int)-((b:Int)+(i:Int)+(j:Int)));have z:=jA ((t.length:Int)-((b:Int)+(i:Int)+(j:Int)));by_cases J:t.length-b-(i+j)<m
  ·have d:(t.length:Int)-((b:Int)+(i:Int)+(j:Int))<(m:Int):=by omega
   rw[aj J];refine⟨b+i+j,jm rfl rfl ?_,λh=>by cases h⟩;simp[f,q,k,c,y,z,d,B,nX]
  have d:¬(t.length:Int)-((b:Int)+(i:Int)+(j:Int))<(m:Int):=by omega
  rw[ah J];have L:=bF ((m:Int));have M:=bF ((b:Int)+(i:Int)+(j:Int)+(m:Int));have Z:=bF ((n:Int));have N:((t.take (b+i+j+m)).drop (b+i+j))=(t.drop (b+(i+j))).take m:=by rw[<-jL,Lp];congr 1;omega
  have ac:((t.drop (b+(i+j))).take m).length<=t.length:=by rw[lN,fH];omega
  have kc:=Zt a (a.take n++(t.drop (b+(i+j))).take m) (by omega) (by rw[eP,lN];omega);have O:(b:Int)+(i:Int)+(j:Int)<=(b:Int)+(i:Int)+(j:Int)+(m:Int)/\(b:Int)+(i:Int)+(j:Int)+(m:Int)<=t.length:=by omega
  have P:(0:Int)<=(b:Int)+(i:Int)+(j:Int):=by omega
  have c6:(n:Int)<=a.length:=by omega
  have Q:((b:Int)+(i:Int)+(j:Int)+(m:Int)).toNat=b+i+j+m:=by omega
  have R:((b:Int)+(i:Int)+(j:Int)).toNat=b+i+j:=by omega
  have A:(min n a.length:Nat)=n:=by omega
  have o:(n:Int)+(((t.drop (b+(i+j))).take m).length:Int)<=9223372036854775807:=by omega
  have r:=awO a (a.take n++(t.drop (b+(i+j))).take m);generalize(t.drop (b+(i+j))).take m=X at *;by_cases D:Op.bytesLess a (a.take n++X)=false
  ·rw[aj ⟨rfl,D⟩];rw[D]at r;refine⟨b+i+j+m,jm rfl rfl ?_,λh=>by cases h⟩;have g:(Op.bytesLess (a.take n++X) a=true\/a.take n++X=a)=True:=eq_true (by simpa using r);simp[f,q,B,Z,y,z,L,M,c,d,O,P,c6,Q,R,N,o,A,g,nX]
  ·rw[ah (λh=>D h.2)];have D:Op.bytesLess a (a.take n++X)=true:=by simpa using D
   rw[D]at r;have g:(Op.bytesLess (a.take n++X) a=true\/a.take n++X=a)=False:=eq_false (by simpa using r);by_cases c8:n<common a (a.take n++X)
   ·have I7:(n:Int)<(common a (a.take n++X):Int):=by omega
    rw[aj c8];refine⟨b+i+j+m,jm rfl rfl ?_,λh=>by cases h⟩;simp[f,q,B,Z,y,z,L,M,c,d,O,P,c6,Q,R,N,o,A,g,kc,I7,nX]
   ·have I7:¬(n:Int)<(common a (a.take n++X):Int):=by omega
    rw[ah c8];refine⟨b+i+j+m,jm rfl rfl ?_,λ_=>by simp only;omega⟩;simp[f,q,B,Z,y,z,L,M,c,d,O,P,c6,Q,R,N,o,A,g,kc,I7]
def acs{s a:Q0}{first:Bool}(h:(bM s a first).2.2=0):2<=(bM s a first).2.1/\(bM s a first).2.1<=s.length/\(bM s a first).1.length<=(if first=true then 0 else a.length)+(bM s a first).2.1:=by
 have b:(if first=true then 0 else a.length)=(if first=true then[]else a).length:=by cases first<;>rfl
 rw[b];clear b;unfold bM at h⊢;simp only at h⊢;generalize(if first=true then[]else a)=n at h⊢;split at h
 ·next c=>exact absurd h c
 next d=>
 rw[ah d];split at h
 ·cases h
 next i=>
 rw[ah i];split at h
 ·next c=>exact absurd h c
 next e=>
 rw[ah e];split at h
 ·cases h
 next j=>
 rw[ah j];split at h
 ·cases h
 next k=>
 rw[ah k];split at h
 ·cases h
 next l=>
 rw[ah l];have f:=lF (s:=s) (by simpa using d);have g:=lF (s:=s.drop (aB s).2.1) (by simpa using e);have o:=f.pos;have p:=g.pos;have q:=f.len;have m:=g.len;rw[fH]at m;refine⟨by simp only;omega,by simp only;omega,?_⟩;simp only[eP,lN,fH];omega
def ajv(a s:Q0)(b:s.length<=100000000):(sJ a s).length<=20+s.length:=by have c:=UY a s;have d:=oJ (n:=common a s) (by omega);have e:=oJ (n:=s.length-common a s) (by omega);unfold sJ;simp only[eP,fH];omega
def avh{g:GV}(h:bU.bool.has g):∃b,g=.b b:=by simpa only[bU.has]using h
