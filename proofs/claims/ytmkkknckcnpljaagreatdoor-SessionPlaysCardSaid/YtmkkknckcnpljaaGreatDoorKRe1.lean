/- What the trees compute: plain laws. -/
import Derived.Test.YtmkkknckcnpljaaGreatDoorKRT
import Derived.Lib.TrimUEq
import Derived.Lib.MapLaws
set_option linter.all false
namespace Go.Proofs.YtmkkknckcnpljaaGreatDoor
open Go Go.aO
set_option maxRecDepth 100000
namespace R
def Ic:∀a b:Q0,Op.bytesLess a b=decide (a<b)
 |_,[]=>by simp[Op.bytesLess]
 |[],_::_=>by simp[Op.bytesLess]
 |a::x,b::y=>by rw[Op.bytesLess,Ic x y,qN];simp[acy]
abbrev bT:=Q0×Q0
abbrev Row:=List bT×Int
def ent(x:bT):GV:=.g [.s x.1,.s x.2]
def row(r:Row):GV:=.g [.l (r.1.map ent),.i .u64 r.2]
@[simp] theorem aEd(x:bT):(ent x).cells=[.s x.1,.s x.2]:=rfl
@[simp] theorem abg(r:Row):(row r).cells=[.l (r.1.map ent),.i .u64 r.2]:=rfl
@[simp] theorem aEe(x:bT):(ent x).scalar=false:=rfl
@[simp] theorem aFH(r:Row):(row r).scalar=false:=rfl
def lU(d:List bT):Prop:=d.length<=140737488351232/\∀x∈d,x.1.length<=140737488351232/\x.2.length<=140737488351232
def Rows(l:List Row):Prop:=l.length<=140737488351232/\∀r∈l,lU r.1/\0<=r.2/\r.2<18446744073709551616
def qV(x:bT):Bool:=decide (x.1.length+x.2.length<=600)
def agq(d:List bT)(e:lU d):∀m i:Nat,i+m=d.length->TT.lim 16 [.l (d.map ent),.i .i64 d.length,.i .i64 i]=some (if(d.drop i).all qV=true then[.i .i64 1]else[.i .i64 0])
 |0,i,hi=>by
  have h0:d.drop i=[]:=cO (by omega);refine au rfl rfl ?_;have h:¬((i:Int)<d.length):=by omega
  simp[h,h0]
 |m+1,i,hi=>by
  have a:i<d.length:=by omega
  have g:TT.lim 16 [.l (d.map ent),.i .i64 d.length,.i .i64 ((i:Int)+1)]=_:=agq d e m (i+1) (by omega);refine au rfl rfl ?_;have h:((i:Int)<d.length):=by omega
  have j:=wrap64 (n:=(i:Int)+1) (by omega) (by have:=e.1;omega);have k:=e.2 d[i] (dW a);have b:=wrap64 (n:=(d[i].1.length:Int)+(d[i].2.length:Int)) (by omega) (by omega);have c:(d.drop i).all qV=(qV d[i]&&(d.drop (i+1)).all qV):=by rw[dF a,sW]
  by_cases f:(600:Int)<(d[i].1.length:Int)+(d[i].2.length:Int)
  ·have:qV d[i]=false:=by unfold qV;simp;omega
   simp[h,a,b,f,c,this]
  ·have:qV d[i]=true:=by unfold qV;simp;omega
   rw[c,this,QE];simp[h,a,j,b,f,g]
def gq(d:List bT):Bool:=d.all qV&&decide (d.length<=40)
def arw(d:List bT)(c:lU d):TT.lim 15 [.l (d.map ent)]=some [.b (gq d)]:=by
 refine aG rfl rfl ?_ rfl;have a:TT.lim 16 [.l (d.map ent),.i .i64 d.length,.i .i64 0]=_:=agq d c d.length 0 (by omega);rw[bK]at a;cases b:d.all qV with
 |false=>rw[b]at a;simp[a,gq,b]
 |true=>
  rw[b]at a;simp only[if_true]at a;have:(decide ((d.length:Int)<=40))=decide (d.length<=40):=by rw[qN];simp;omega
  simp[a,gq,b,this]
def aV(n:Nat):Q0:=if n<128 then[UInt8.ofNat n]else UInt8.ofNat (n%128+128)::aV (n/128)
termination_by n
decreasing_by omega
def Cj{n:Nat}(h:n<128):aV n=[UInt8.ofNat n]:=by rw[aV,aj h]
def Ey{n:Nat}(h:¬n<128):aV n=UInt8.ofNat (n%128+128)::aV (n/128):=by rw[aV,ah h]
def Wi{a b:Nat}(c:a<256)(d:b<256)(h:UInt8.ofNat a=UInt8.ofNat b):a=b:=by have:=tX UInt8.toNat h;simp at this;omega
def ab2:∀(n m:Nat)(x y:Q0),aV n++x=aV m++y->n=m/\x=y:=by
 intro n;induction n using Nat.strongRecOn with
 |_ n c=>
  intro m x y h;by_cases a:n<128<;>by_cases b:m<128
  ·rw[Cj a,Cj b]at h;simp only[bJ,aW,xE]at h;exact⟨Wi (by omega) (by omega) h.1,h.2⟩
  ·rw[Cj a,Ey b]at h;simp only[bJ,aW,xE]at h;have:=Wi (by omega) (by omega) h.1;omega
  ·rw[Ey a,Cj b]at h;simp only[bJ,aW,xE]at h;have:=Wi (by omega) (by omega) h.1;omega
  ·rw[Ey a,Ey b]at h;simp only[bJ,xE]at h;have e:=Wi (by omega) (by omega) h.1;obtain⟨f,d⟩:=c (n/128) (by omega) (m/128) x y h.2;exact⟨by omega,d⟩
def lu(n:Nat):Nat:=(aV n).length
def aBp{n:Int}(h0:0<=n):n.fdiv (2^(7:Nat))=n/128:=by rw[QG _ (by decide)];rfl
def ajg{n:Nat}:oW .shr .u64 (n:Int) 7=some (.i .u64 ((n/128:Nat):Int)):=by
 have:((n:Int)).fdiv (2^(7:Nat))=((n/128:Nat):Int):=by rw[aBp (by omega)];omega
 simp[oW,IntKind.bits];exact this
def Wu(n:Nat):0<lu n:=by unfold lu;rw[aV];split<;>simp
def Ws{n:Nat}(h:¬n<128):lu n=lu (n/128)+1:=by unfold lu;rw[Ey h];rfl
def akf:∀(k n:Nat),0<k->n<128^k->lu n<=k
 |0,_,h,_=>by omega
 |k+1,n,_,h=>by
  by_cases a:n<128
  ·unfold lu;rw[Cj a];simp
  ·rw[Ws a];cases k with
   |zero=>simp at h;omega
   |succ k=>
    have:n/128<128^(k+1):=by rw[EG]at h;omega
    have:=akf (k+1) (n/128) (by omega) this;omega
def JL{n:Nat}(h:n<18446744073709551616):lu n<=10:=akf 10 n (by omega) (by omega)
def auX:∀(n s:Nat),s+lu n<=1000->n<18446744073709551616->TT.lim 20 [.i .u64 n,.i .i64 s]=some [.i .i64 0,.i .i64 ((s+lu n-1:Nat):Int)]:=by
 intro n;induction n using Nat.strongRecOn with
 |_ n e=>
  intro s g i;refine au rfl rfl ?_;by_cases h:n<128
  ·have b:¬(128:Int)<=n:=by omega
   simp[b,lu,Cj h]
  ·have b:(128:Int)<=n:=by omega
   have j:=Ws h;have k:=Wu (n/128);have f:=wrap64 (n:=(s:Int)+1) (by omega) (by omega);have a:TT.lim 20 [.i .u64 ((n/128:Nat):Int),.i .i64 ((s:Int)+1)]=_:=e (n/128) (by omega) (s+1) (by omega) (by omega);have c:s+lu n-1=s+1+lu (n/128)-1:=by omega
   rw[c];have d:oW .shr .u64 (n:Int) 7=some (.i .u64 ((n/128:Nat):Int)):=ajg;generalize((n/128:Nat):Int)=q at d a;simp[b,f,d,a]
def Qj(n:Nat)(a:n<18446744073709551616):TT.lim 19 [.i .u64 n]=some [.i .i64 (lu n)]:=by have c:=Wu n;have b:TT.lim 20 [.i .u64 n,.i .i64 1]=_:=auX n 1 (by have:=JL a;omega) a;rw[show 1+lu n-1=lu n by omega]at b;refine aG rfl rfl ?_ rfl;simp[b]
def lq:Nat->Nat->List Nat
 |0,_=>[]
 |k+1,n=>(n%128+128)::lq k (n/128)
def jq(n:Nat):GV:=.i .u8 n
def akW(n:Nat)(d:n<18446744073709551616):gG .and .u64 (n:Int) 127=some (.i .u64 ((n%128:Nat):Int)):=by
 have a:((BitVec.ofInt 64 (n:Int) &&& BitVec.ofInt 64 127).toNat:Nat)=n%128:=by
  rw[ach,xB,xB];have b:((n:Int)%((2^64:Nat):Int)).toNat=n:=by omega
  have c:((127:Int)%((2^64:Nat):Int)).toNat=2^7-1:=by decide
  rw[b,c,aky]
 show some (GV.i .u64 (IntKind.u64.wrap (((BitVec.ofInt 64 (n:Int) &&& BitVec.ofInt 64 127).toNat:Nat):Int)))=_
 rw[a,dn (by omega) (by omega)]
def ade(n:Nat)(a:n<256):gG .and .u8 (n:Int) 127=some (.i .u8 ((n%128:Nat):Int)):=by
 have:∀x:Fin 256,IntKind.u8.wrap (((BitVec.ofInt IntKind.u8.bits ((x.val:Nat):Int) &&& BitVec.ofInt IntKind.u8.bits 127).toNat:Nat):Int)=((x.val%128:Nat):Int):=by decide +kernel
 show some (GV.i .u8 _)=some (GV.i .u8 _)
 exact tX (λz=>some (GV.i .u8 z)) (this ⟨n,a⟩)
def awl(n:Nat)(a:n<128):gG .or .u8 (n:Int) 128=some (.i .u8 ((n+128:Nat):Int)):=by
 have:∀x:Fin 128,IntKind.u8.wrap (((BitVec.ofInt IntKind.u8.bits ((x.val:Nat):Int) |||BitVec.ofInt IntKind.u8.bits 128).toNat:Nat):Int)=((x.val+128:Nat):Int):=by decide +kernel
 show some (GV.i .u8 _)=some (GV.i .u8 _)
 exact tX (λz=>some (GV.i .u8 z)) (this ⟨n,a⟩)
def ab9{n:Int}(h0:0<=n)(h1:n<256):IntKind.u8.wrap n=n:=by
 have:IntKind.u8.wrap n=n%256:=by simp[IntKind.wrap,IntKind.signed,IntKind.bits]
 rw[this];omega
@[simp] theorem aDZ(n:Nat):(jq n).cells=[jq n]:=rfl
@[simp] theorem aD1(n:Nat):(jq n).scalar=true:=rfl
@[simp] theorem aD0(n:Nat)(v:GV):(jq n).put 0 [v]=some v:=rfl
def XM:∀l:Q2,(∀x∈l,x<256)->nD (l.map jq)=some (l.map UInt8.ofNat)
 |[],_=>rfl
 |a::l,h=>by have h1:=h a (by simp);have b:=XM l λx c=>h x (by simp[c]);simp only[gX,jq,nD]at b⊢;rw[aj (by omega)];have:(λn:Nat=>GV.i .u8 (n:Int))=jq:=rfl;rw[b];simp
def agf:∀(m n:Nat)(done:Q2),n<18446744073709551616->done.length+m<1000->
 TT.lim 21 [.i .u64 n,.l ((done++List.replicate m 0).map jq),.i .i64 ((done.length+m:Nat):Int),.i .i64 done.length]=some [.i .i64 0,.l ((done++lq m n).map jq)]
 |0,n,done,l,r=>by refine au rfl rfl ?_;simp[lq]
 |m+1,n,done,l,r=>by
  have b:(done.length:Int)<((done.length+(m+1):Nat):Int):=by omega
  have s:=wrap64 (n:=(done.length:Int)+1) (by omega) (by omega);have c:=ab9 (n:=((n%128:Nat):Int)) (by omega) (by omega);have o:oW .shr .u64 (n:Int) 7=some (.i .u64 ((n/128:Nat):Int)):=ajg;have p:=akW n l;have g:=awl (n%128) (by omega);have a:=agf m (n/128) (done++[n%128+128]) (by omega) (by simp;omega);have d:(done++[n%128+128]).length+m=done.length+(m+1):=by simp;omega
  rw[d]at a;have h:(((done++[n%128+128]).length:Nat):Int)=(done.length:Int)+1:=by simp
  rw[h]at a;have e:((done++List.replicate (m+1) 0).map jq).set done.length (jq (n%128+128))=(done++[n%128+128]++List.replicate m 0).map jq:=by rw[Nz,<-acI,List.set_append_right _ _ (dY _),AL];simp
  have f:((done++List.replicate (m+1) 0).map jq)[done.length]? =some (jq 0):=by rw[iw,vK (dY _),AL,Nz];rfl
  have i:((done++List.replicate (m+1) 0).map jq).length=done.length+(m+1):=by simp
  have t:done++lq (m+1) n=done++[n%128+128]++lq m (n/128):=by simp[lq]
  rw[t];generalize v:(done++List.replicate (m+1) 0).map jq=L at *;refine au rfl rfl ?_;have j:(0:Int)<=(done.length:Int)/\(done.length:Int)<(L.length:Int):=by rw[i];omega
  have u:GV.i IntKind.u8 ((n%128+128:Nat):Int)=jq (n%128+128):=rfl;have k:L.set done.length (GV.i IntKind.u8 ((n%128+128:Nat):Int))=(done++[n%128+128]++List.replicate m 0).map jq:=e;generalize(done++[n%128+128]++List.replicate m 0).map jq=w at a k;generalize(done++[n%128+128]++lq m (n/128)).map jq=x at a⊢;generalize((n/128:Nat):Int)=q at o a;generalize((n%128+128:Nat):Int)=z at g k;generalize((n%128:Nat):Int)=y at p c g;generalize((done.length+(m+1):Nat):Int)=N at b a⊢;simp[b,p,c,g,j,f,o,s,k,a]
def ab3:∀m n,(lq m n).length=m
 |0,_=>rfl
 |m+1,n=>by simp[lq,ab3 m]
def ab4:∀m n,∀x∈lq m n,x<256
 |0,_,x,h=>by simp[lq]at h
 |m+1,n,x,h=>by
  simp only[lq,bD]at h;rcases h with rfl|h
  ·omega
  ·exact ab4 m _ x h
def ake:∀(s n:Nat),lu n=s+1->∃x,(lq (s+1) n)[s]? =some x/\((lq (s+1) n).set s (x%128)).map UInt8.ofNat=aV n
 |0,n,h=>by
  have a:n<128:=by
   by_cases a:n<128
   ·exact a
   ·rw[Ws a]at h;have:=Wu (n/128);omega
  refine⟨n%128+128,by simp[lq],?_⟩;rw[Cj a];simp[lq];rw[NG a]
 |s+1,n,h=>by
  have a:¬n<128:=by intro a;unfold lu at h;rw[Cj a]at h;simp at h
  rw[Ws a]at h;obtain⟨x,b,c⟩:=ake s (n/128) (by omega);refine⟨x,by simp only[lq,uH]at b⊢;exact b,?_⟩;rw[Ey a,<-c];simp[lq]
def yS(n:Nat)(o:n<18446744073709551616):TT.lim 18 [.i .u64 n]=some [.s (aV n)]:=by
 have p:=Qj n o;have L:=Wu n;have N:=JL o;obtain⟨s,h⟩:∃s,lu n=s+1:=⟨lu n-1,by omega⟩
 obtain⟨x,D,F⟩:=ake s n h;rw[h]at p;have c:TT.lim 21 [.i .u64 n,.l ((List.replicate (s+1) 0).map jq),.i .i64 ((s+1:Nat):Int),.i .i64 0]=some [.i .i64 0,.l ((lq (s+1) n).map jq)]:=by have:=agf (s+1) n [] o (by simp;omega);simpa using this
 have G:(List.replicate (s+1) 0).map jq=List.replicate (s+1) (GV.i .u8 0):=by rw[List.map_replicate];rfl
 rw[G]at c;have H:x<256:=ab4 _ _ x (qp D);have E:=ade x H;have d:((lq (s+1) n).map jq)[s]? =some (jq x):=by rw[iw,D];rfl
 have b:((lq (s+1) n).map jq).set s (GV.i .u8 ((x%128:Nat):Int))=((lq (s+1) n).set s (x%128)).map jq:=(acI (f:=jq) (l:=lq (s+1) n) (i:=s) (a:=x%128)).symm;have q:=XM ((lq (s+1) n).set s (x%128)) (λy r=>by
  rcases acM r with r|rfl
  ·exact ab4 _ _ y r
  ·omega)
 rw[F]at q;have e:(((lq (s+1) n).set s (x%128)).map jq).length=s+1:=by simp[ab3]
 have j:(List.replicate (s+1) (GV.i .u8 0)).length=s+1:=by simp
 have k:((lq (s+1) n).map jq).length=s+1:=by simp[ab3]
 generalize((lq (s+1) n).set s (x%128)).map jq=O at b q e;generalize(lq (s+1) n).map jq=I at c d b k;generalize m:List.replicate (s+1) (GV.i .u8 0)=P at c j;refine aG rfl rfl ?_ rfl;have J:=wrap64 (n:=(s:Int)) (by omega) (by omega);have g:((s+1:Nat):Int)=(s:Int)+1:=by omega
 rw[g]at p c;have t:(0:Int)<=(s:Int)+1/\(s:Int)+1<=281474976710656/\(s:Int)+1<=1152921504606846976:=by omega
 have u:((s:Int)+1).toNat=s+1:=by omega
 have v:(s:Int)<(s:Int)+1:=by omega
 have w:(s:Int)+1-1=(s:Int):=by omega
 generalize Q:((x%128:Nat):Int)=M at E b;have z:jq x=.i .u8 x:=rfl;have A:s+1<=281474976710656:=by omega
 have B:I[s]'(by omega)=jq x:=by have:=d;rw[bP (by omega)]at this;exact CU this
 simp[p,t,u,m,j,c,k,w,J,v,d,B,E,b,z,e,q,A,GV.dZ]
def XJ(a b:Q0):dw (a++b)=dw a++dw b:=by simp[dw]
@[simp] theorem adE(a:Q0):(dw a).length=a.length:=by simp[dw]
def Oc(a:Q0):(dw a).all (GV.dZ 1)=true:=by rw[List.all_eq_true];intro x c;obtain⟨b,_,rfl⟩:=nR.1 c;rfl
def XL:∀a:Q0,nD (dw a)=some a
 |[]=>rfl
 |x::a=>by have b:=XL a;simp only[dw,gX,nD]at b⊢;have:=x.toNat_lt;rw[aj (by omega),b];simp
def jf(x:bT):Q0:=aV x.1.length++x.1++aV x.2.length++x.2
def aU(d:List bT):Q0:=aV d.length++d.flatMap jf
def jk{n:Nat}(h:n<18446744073709551616):(aV n).length<=10:=JL h
def aqM(x:bT)(h1:x.1.length<=140737488351232)(g:x.2.length<=140737488351232):TT.lim 23 [ent x]=some [.s (jf x)]:=by
 have a:=yS x.1.length (by omega);have b:=yS x.2.length (by omega);have h:=jk (n:=x.1.length) (by omega);have i:=jk (n:=x.2.length) (by omega);have w1:=dn (n:=(x.1.length:Int)) (by omega) (by omega);have c:=dn (n:=(x.2.length:Int)) (by omega) (by omega);refine aG rfl rfl ?_ rfl;have d:((aV x.1.length).length:Int)+(x.1.length:Int)<=9223372036854775807:=by omega
 have e:((aV x.1.length).length:Int)+((x.1.length:Int)+((aV x.2.length).length:Int))<=9223372036854775807:=by omega
 have f:((aV x.1.length).length:Int)+((x.1.length:Int)+(((aV x.2.length).length:Int)+(x.2.length:Int)))<=9223372036854775807:=by omega
 simp[w1,c,a,b,d,e,f,jf,Int.add_assoc]
def Ym{x:bT}(h:qV x=true):(jf x).length<=620:=by unfold qV at h;simp only[decide_eq_true_iff]at h;have a:=jk (n:=x.1.length) (by omega);have b:=jk (n:=x.2.length) (by omega);simp only[jf,eX];omega
def YC:∀d:List bT,d.all qV=true->(d.flatMap jf).length<=620*d.length
 |[],_=>by simp
 |x::d,h=>by rw[sW,aK]at h;have:=Ym h.1;have:=YC d h.2;simp only[jF,eX,jw];omega
def agh(d:List bT)(f:d.all qV=true)(k:d.length<=40):∀(m i:Nat)(a:Q0),i+m=d.length->a.length<=10+620*i->
 TT.lim 22 [.l (d.map ent),.i .i64 d.length,.i .i64 i,.l (dw a)]=some [.i .i64 0,.l (dw (a++(d.drop i).flatMap jf))]
 |0,i,a,hi,l=>by
  have h0:d.drop i=[]:=cO (by omega);refine au rfl rfl ?_;have h:¬((i:Int)<d.length):=by omega
  simp[h,h0]
 |m+1,i,a,hi,l=>by
  have b:i<d.length:=by omega
  have g:=List.all_eq_true.1 f d[i] (dW b);have c:=g;unfold qV at c;simp only[decide_eq_true_iff]at c;have o:=aqM d[i] (by omega) (by omega);have p:=Ym g;have j:TT.lim 22 [.l (d.map ent),.i .i64 d.length,.i .i64 ((i:Int)+1),.l (dw (a++jf d[i]))]=_:=agh d f k m (i+1) (a++jf d[i]) (by omega) (by simp;omega);rw[XJ]at j;have q:(d.drop i).flatMap jf=jf d[i]++(d.drop (i+1)).flatMap jf:=by rw[dF b,jF]
  rw[q,<-List.append_assoc];refine au rfl rfl ?_;have h:((i:Int)<d.length):=by omega
  have r:=wrap64 (n:=(i:Int)+1) (by omega) (by omega);have e:=Oc (jf d[i]);have s:2*(a.length+(jf d[i]).length)<=281474976710656/\a.length+(jf d[i]).length<=281474976710656:=by omega
  have t:GV.g [GV.s d[i].1,GV.s d[i].2]=ent d[i]:=rfl;simp[-List.all_eq_true,h,b,t,o,e,s,r,j]
def DK(d:List bT)(a:gq d=true):TT.lim 17 [.l (d.map ent)]=some [.s (aU d)]:=by
 unfold gq at a;rw[aK,decide_eq_true_iff]at a;have k:=yS d.length (by omega);have i:=jk (n:=d.length) (by omega);have w1:=dn (n:=(d.length:Int)) (by omega) (by omega);have b:TT.lim 22 [.l (d.map ent),.i .i64 d.length,.i .i64 0,.l (dw (aV d.length))]=_:=agh d a.1 a.2 d.length 0 (aV d.length) (by omega) (by omega);rw[bK]at b;have f:2*(aV d.length).length<=281474976710656/\(aV d.length).length<=281474976710656:=by omega
 have c:=Oc (aV d.length);have g:=YC d a.1;have h:(aV d.length).length+(List.flatMap jf d).length<=281474976710656:=by omega
 have e:=XL (aV d.length++d.flatMap jf);refine aG rfl rfl ?_ rfl;unfold aU;generalize d.flatMap jf=F at *;simp[-List.all_eq_true,w1,k,f,c,b,h,e]
def aqL{x y:bT}{a b:Q0}(h:jf x++a=jf y++b):x=y/\a=b:=by unfold jf at h;simp only[List.append_assoc]at h;obtain⟨c,d⟩:=ab2 _ _ _ _ h;obtain⟨e,f⟩:=List.append_inj d c;obtain⟨g,i⟩:=ab2 _ _ _ _ f;obtain⟨j,k⟩:=List.append_inj i g;exact⟨Prod.ext e j,k⟩
def ae7:∀{d e:List bT}{a b:Q0},d.length=e.length->d.flatMap jf++a=e.flatMap jf++b->d=e/\a=b
 |[],[],a,b,_,h=>⟨rfl,by simpa using h⟩
 |x::d,y::e,a,b,c,h=>by simp only[jF,List.append_assoc]at h;obtain⟨h1,f⟩:=aqL h;obtain⟨g,i⟩:=ae7 (by simpa using c) f;exact⟨by rw[h1,g],i⟩
 |[],_::_,_,_,c,_=>by simp at c
 |_::_,[],_,_,c,_=>by simp at c
def auv{d e:List bT}{a b:Q0}(h:aU d++a=aU e++b):d=e/\a=b:=by unfold aU at h;simp only[List.append_assoc]at h;obtain⟨c,f⟩:=ab2 _ _ _ _ h;exact ae7 c f
def auu{d e:List bT}(h:aU d=aU e):d=e:=(auv (a:=[]) (b:=[]) (by simpa using h)).1
def iV(s:Q0)(lo hi:Int):Int:=if(s.length:Int)<lo then 13 else if hi<(s.length:Int)then 13 else if Lib.validD s=true then 0 else 11
def as8(s:Q0)(h:s.length<=140737488351232):TT.lim 9 [.s s]=some [.b (Lib.validD s)]:=by have a:TT.lim 10 [.s s]=some [.b (Lib.validD s)]:=Jr (Ds:=Ds) (k:=10) (f:=Nh) rfl (by simp only[Nh];rw[aj (by omega)]);refine aG rfl rfl ?_ rfl;simp[a]
def EX(s:Q0)(lo hi:Int)(h:s.length<=140737488351232):TT.lim 8 [.s s,.i .i64 lo,.i .i64 hi]=some [.i .i64 (iV s lo hi)]:=by
 have a:=as8 s h;refine aG rfl rfl ?_ rfl;unfold iV;by_cases b:(s.length:Int)<lo
 ·simp[b]
 ·by_cases c:hi<(s.length:Int)
  ·simp[b,c]
  ·cases d:Lib.validD s<;>rw[d]at a<;>simp[b,c,a,d]
def pJ(x:bT):Int:=if iV x.1 1 64≠0 then iV x.1 1 64 else iV x.2 0 256
def aeL(x:bT)(h1:x.1.length<=140737488351232)(b:x.2.length<=140737488351232):TT.lim 39 [ent x]=some [.i .i64 (pJ x)]:=by
 have a:=EX x.1 1 64 h1;have c:=EX x.2 0 256 b;refine aG rfl rfl ?_ rfl;unfold pJ;by_cases h:iV x.1 1 64=0
 ·simp[a,h,c]
 ·simp[a,h]
def lZ:Option Q0->List bT->Int
 |_,[]=>0
 |p,x::xs=>if pJ x≠0 then pJ x else match p with
  |none=>lZ (some x.1) xs
  |some k=>if x.1=k then 14 else if Op.bytesLess x.1 k=true then 7 else lZ (some x.1) xs
def tagged(r:Int):Q1:=if r=0 then[.i .i64 1]else[.i .i64 0,.i .i64 r]
def prevK(d:List bT)(i:Nat):Option Q0:=if i=0 then none else(d[i-1]?).map (·.1)
def agi(d:List bT)(o:lU d):∀m i:Nat,i+m=d.length->TT.lim 38 [.l (d.map ent),.i .i64 d.length,.i .i64 i]=some (tagged (lZ (prevK d i) (d.drop i)))
 |0,i,hi=>by
  have h0:d.drop i=[]:=cO (by omega);refine au rfl rfl ?_;have h:¬((i:Int)<d.length):=by omega
  simp[h,h0,lZ,tagged]
 |m+1,i,hi=>by
  have a:i<d.length:=by omega
  have w:=o.2 d[i] (dW a);have g:=aeL d[i] w.1 w.2;have p:TT.lim 38 [.l (d.map ent),.i .i64 d.length,.i .i64 ((i:Int)+1)]=_:=agi d o m (i+1) (by omega);have r:prevK d (i+1)=some d[i].1:=by unfold prevK;rw[ah (by omega)];simp[a]
  rw[r]at p;have s:d.drop i=d[i]::d.drop (i+1):=dF a;rw[s];refine au rfl rfl ?_;have h:((i:Int)<d.length):=by omega
  have t:=wrap64 (n:=(i:Int)+1) (by omega) (by have:=o.1;omega);have j:GV.g [GV.s d[i].1,GV.s d[i].2]=ent d[i]:=rfl;by_cases k:pJ d[i]=0;rotate_left
  ·simp[h,a,j,g,k,lZ,tagged]
  by_cases h0:i=0
  ·subst h0;simp only[mZ,Nv]at t p;simp[h,a,j,g,k,lZ,prevK,t];simpa using p
  ·have b:i-1<d.length:=by omega
   have l:prevK d i=some d[i-1].1:=by unfold prevK;rw[ah h0];simp[b]
   have c:=wrap64 (n:=(i:Int)-1) (by omega) (by have:=o.1;omega);have e:¬((i:Int)=0):=by omega
   have y:(0:Int)<=(i:Int)-1:=by omega
   have u:((i:Int)-1).toNat=i-1:=by omega
   have f:(1:Int)<=(i:Int):=by omega
   rw[l];by_cases q:d[i].1=d[i-1].1
   ·have v:(d[i].1=d[i-1].1)=True:=eq_true q;clear q;simp[h,a,j,g,k,e,h0,c,u,b,v,lZ,tagged,f]
   ·cases x:Op.bytesLess d[i].1 d[i-1].1 with
    |true=>simp[h,a,j,g,k,e,h0,c,u,b,q,x,lZ,tagged,f]
    |false=>simp[h,a,j,g,k,e,h0,c,u,b,q,x,lZ,t,p,f]
def tZ(d:List bT):Int:=if d.length=0 then 12 else if 16<d.length then 13 else lZ none d
def ad4(d:List bT)(i:lU d):TT.lim 37 [.l (d.map ent)]=some [.i .i64 (tZ d)]:=by
 have a:TT.lim 38 [.l (d.map ent),.i .i64 d.length,.i .i64 0]=_:=agi d i d.length 0 (by omega);have f:prevK d 0=none:=rfl;rw[f,bK]at a;have w1:=dn (n:=(d.length:Int)) (by omega) (by have:=i.1;omega);refine aG rfl rfl ?_ rfl;unfold tZ;by_cases e:d.length=0
 ·have b:(d.length:Int)=0:=by omega
  have:d=[]:=jl e;subst this;simp[IntKind.wrap,IntKind.signed]
 ·have b:¬(d.length:Int)=0:=by omega
  by_cases g:16<d.length
  ·have c:(16:Int)<(d.length:Int):=by omega
   simp[w1,e,g,b,c]
  ·have c:¬(16:Int)<(d.length:Int):=by omega
   by_cases h:lZ none d=0
   ·simp only[tagged,h,if_true]at a;simp[w1,e,g,b,c,a,h]
   ·simp only[tagged,h,if_false]at a;simp[w1,e,g,b,c,a]
def oG(r:Row):Int:=if tZ r.1≠0 then tZ r.1 else if r.2=0 then 18 else 0
def alJ(r:Row)(b:lU r.1):TT.lim 36 [row r]=some [.i .i64 (oG r)]:=by
 have k:=ad4 r.1 b;refine aG rfl rfl ?_ rfl;unfold oG;by_cases h:tZ r.1=0
 ·by_cases a:r.2=0
  ·simp[k,h,a]
  ·simp[k,h,a]
 ·simp[k,h]
def rV(long:Bool)(r:Row):Bool:=decide (r.1.length<=18)&&gq r.1&&(!long ||decide ((aU r.1).length<=100))
def agm(l:List Row)(j:Rows l):∀m i:Nat,i+m=l.length->TT.lim 14 [.l (l.map row),.i .i64 l.length,.i .i64 i]=some (if(l.drop i).all (rV (decide (40<l.length)))=true then[.i .i64 1]else[.i .i64 0])
 |0,i,hi=>by
  have h0:l.drop i=[]:=cO (by omega);refine au rfl rfl ?_;have h:¬((i:Int)<l.length):=by omega
  simp[h,h0]
 |m+1,i,hi=>by
  have a:i<l.length:=by omega
  have s:=j.2 l[i] (dW a);have p:TT.lim 14 [.l (l.map row),.i .i64 l.length,.i .i64 ((i:Int)+1)]=_:=agm l j m (i+1) (by omega);have k:(l.drop i).all (rV (decide (40<l.length)))=(rV (decide (40<l.length)) l[i]&&(l.drop (i+1)).all (rV (decide (40<l.length)))):=by rw[dF a,sW]
  rw[k];refine au rfl rfl ?_;have h:((i:Int)<l.length):=by omega
  have q:=wrap64 (n:=(i:Int)+1) (by omega) (by have:=j.1;omega);have e:=arw l[i].1 s.1;by_cases t:18<l[i].1.length
  ·have b:(18:Int)<(l[i].1.length:Int):=by omega
   have:rV (decide (40<l.length)) l[i]=false:=by unfold rV;simp;omega
   rw[this];simp[h,a,b]
  have b:¬(18:Int)<(l[i].1.length:Int):=by omega
  have g:l[i].1.length<=18:=by omega
  cases f:gq l[i].1 with
  |false=>
   rw[f]at e;have:rV (decide (40<l.length)) l[i]=false:=by unfold rV;simp[f]
   rw[this];simp[h,a,b,e]
  |true=>
   rw[f]at e;have r:=DK l[i].1 f;by_cases o:40<l.length
   ·have c:(40:Int)<(l.length:Int):=by omega
    by_cases u:100<(aU l[i].1).length
    ·have d:(100:Int)<((aU l[i].1).length:Int):=by omega
     have:rV (decide (40<l.length)) l[i]=false:=by unfold rV;simp[o];omega
     rw[this];simp[h,a,b,e,c,r,d]
    ·have d:¬(100:Int)<((aU l[i].1).length:Int):=by omega
     have:rV (decide (40<l.length)) l[i]=true:=by unfold rV;simp[o,f,g];omega
     rw[this,QE];simp[h,a,b,e,c,r,d,q,p]
   ·have c:¬(40:Int)<(l.length:Int):=by omega
    have:rV (decide (40<l.length)) l[i]=true:=by unfold rV;simp[o,f,g]
    rw[this,QE];simp[h,a,b,e,c,q,p]
def Fg(l:List Row):Bool:=l.all (rV (decide (40<l.length)))&&decide (l.length<=300)
def arv(l:List Row)(c:Rows l):TT.lim 13 [.l (l.map row)]=some [.b (Fg l)]:=by
 refine aG rfl rfl ?_ rfl;have a:TT.lim 14 [.l (l.map row),.i .i64 l.length,.i .i64 0]=_:=agm l c l.length 0 (by omega);rw[bK]at a;unfold Fg;cases b:l.all (rV (decide (40<l.length)))with
 |false=>rw[b]at a;simp[a]
 |true=>
  rw[b]at a;simp only[if_true]at a;have:(decide ((l.length:Int)<=300))=decide (l.length<=300):=by rw[qN];simp;omega
  simp[a,this]
def aru{l:List Row}(h:Fg l=true):∀r∈l,gq r.1=true:=by unfold Fg at h;rw[aK]at h;intro r a;have:=List.all_eq_true.1 h.1 r a;unfold rV at this;simp only[aK]at this;exact this.1.2
def EY(d:List bT)(h:d.length<=40):TT.lim 30 [.l (d.map ent)]=some [.l (d.map ent)]:=by
 refine Jr (Ds:=Ds) (k:=30) (f:=KN 32 2) rfl ?_;have a:(d.map ent).all (GV.dZ 2)=true:=by rw[List.all_eq_true];intro x b;obtain⟨r,_,rfl⟩:=nR.1 b;rfl
 simp only[KN];rw[aj ⟨by rw[je];omega,a⟩]
abbrev K(r:Row):Q0:=aU r.1
def iy(k:Q0):List Row->Nat
 |[]=>0
 |r::rs=>if Op.bytesLess (K r) k=true then iy k rs+1 else 0
def aeF(k:Q0):∀t:List Row,t.drop (iy k t)=t.dropWhile λr=>Op.bytesLess (K r) k
 |[]=>rfl
 |r::rs=>by
  unfold iy;cases h:Op.bytesLess (K r) k with
  |true=>simp[h,aeF k rs]
  |false=>simp[h]
def Rw(k:Q0):∀t:List Row,iy k t<=t.length
 |[]=>by simp[iy]
 |r::rs=>by unfold iy;have:=Rw k rs;split<;>simp;omega
def PY(t:List Row)(i:Nat)(k:GV)(b n j a c:GV):Q1:=match t[i]? with
 |some r=>[.i .i64 0,.i .i64 i,row r,.l (r.1.map ent),.s (aU r.1)]
 |none=>[.i .i64 1,.i .i64 i]
def agk(t:List Row)(p:t.length<=256)(f:∀r∈t,gq r.1=true)(k:Q0)(b n j d e:GV):∀m i:Nat,i+m=t.length->
 TT.lim 158 [.l (t.map row),.i .i64 i,.s k,b,n,j,d,e]=some (PY t (i+iy k (t.drop i)) (.s k) b n j d e)
 |0,i,hi=>by
  have h0:t.drop i=[]:=cO (by omega);have g:t[i]? =none:=sZ (by omega);refine au rfl rfl ?_;have h:¬((i:Int)<t.length):=by omega
  simp[h,h0,iy,PY,g]
 |m+1,i,hi=>by
  have a:i<t.length:=by omega
  have q:TT.lim 158 [.l (t.map row),.i .i64 ((i:Int)+1),.s k,b,n,j,d,e]=_:=agk t p f k b n j d e m (i+1) (by omega);have l:=DK t[i].1 (f _ (dW a));have s:iy k (t.drop i)=if Op.bytesLess (K t[i]) k=true then iy k (t.drop (i+1))+1 else 0:=by rw[dF a];rfl
  refine au rfl rfl ?_;have h:((i:Int)<t.length):=by omega
  have u:=wrap64 (n:=(i:Int)+1) (by omega) (by omega);rw[s];cases o:Op.bytesLess (K t[i]) k with
  |true=>have c:Op.bytesLess (aU t[i].1) k=true:=o;rw[aj rfl,show i+(iy k (t.drop (i+1))+1)=i+1+iy k (t.drop (i+1)) by omega];simp[h,a,l,c,u,q]
  |false=>have c:Op.bytesLess (aU t[i].1) k=false:=o;have g:t[i]? =some t[i]:=bP a;rw[ah (by simp),lD];simp[h,a,l,c,PY]
def kX:List Row->List Row->Bool
 |_,[]=>true
 |t,r::rs=>match t.drop (iy (K r) t)with
  |[]=>false
  |s::a=>decide (K s=K r)&&decide (r.2<=s.2)&&kX (s::a) rs
def agj(t b:List Row)(A:t.length<=256)(F:b.length<=256)(p:∀r∈t,gq r.1=true)(B:∀r∈b,gq r.1=true):∀m j i:Nat,j+m=b.length->i<=t.length->
 TT.lim 157 [.l (t.map row),.i .i64 i,.l (b.map row),.i .i64 b.length,.i .i64 j]=some (if kX (t.drop i) (b.drop j)=true then[.i .i64 1]else[.i .i64 0])
 |0,j,i,G,hi=>by
  have h0:b.drop j=[]:=cO (by omega);refine au rfl rfl ?_;have h:¬((j:Int)<b.length):=by omega
  simp[h,h0,kX]
 |m+1,j,i,G,hi=>by
  have d:j<b.length:=by omega
  have o:=DK b[j].1 (B _ (dW d));have f:=agk t A p (aU b[j].1) (.l (b.map row)) (.i .i64 b.length) (.i .i64 j) (.l (b[j].1.map ent)) (.i .u64 b[j].2) (t.length-i) i (by omega);have q:=Rw (aU b[j].1) (t.drop i);rw[dH]at q;have u:b.drop j=b[j]::b.drop (j+1):=dF d
  have v:kX (t.drop i) (b.drop j)=match t.drop (i+iy (aU b[j].1) (t.drop i))with
   |[]=>false
   |s::H=>decide (K s=K b[j])&&decide (b[j].2<=s.2)&&kX (s::H) (b.drop (j+1)):=by
   rw[u];simp only[kX,nP]
  rw[v];generalize I:i+iy (aU b[j].1) (t.drop i)=c at f⊢;have w:c<=t.length:=by omega
  refine au rfl rfl ?_;have h:((j:Int)<b.length):=by omega
  have J:=wrap64 (n:=(j:Int)+1) (by omega) (by omega);by_cases a:c<t.length
  ·have g:¬((c:Int)=(t.length:Int)):=by omega
   have x:t[c]? =some t[c]:=bP a;have e:t.drop c=t[c]::t.drop (c+1):=dF a;have y:=DK t[c].1 (p _ (dW a));have D:TT.lim 157 [.l (t.map row),.i .i64 c,.l (b.map row),.i .i64 b.length,.i .i64 ((j:Int)+1)]=_:=agj t b A F p B m (j+1) c (by omega) w;simp only[PY,x]at f;rw[e];rw[e]at D;by_cases z:aU t[c].1=aU b[j].1
   ·have l:(aU t[c].1=aU b[j].1)=True:=eq_true z;clear z;by_cases E:t[c].2<b[j].2
    ·have k:¬b[j].2<=t[c].2:=by omega
     simp[h,d,o,f,g,a,y,l,E,k]
    ·have k:b[j].2<=t[c].2:=by omega
     simp[h,d,o,f,g,a,y,l,E,k,J,D]
   ·simp[h,d,o,f,g,a,y,z]
  ·have L:(c:Int)=(t.length:Int):=by omega
   have x:t[c]? =none:=sZ (by omega);have e:t.drop c=[]:=cO (by omega);simp only[PY,x]at f;rw[e];simp[h,d,o,f,L]
def adn(t b:List Row)(c:t.length<=256)(d:b.length<=256)(e:∀r∈t,gq r.1=true)(f:∀r∈b,gq r.1=true):TT.lim 156 [.l (t.map row),.l (b.map row)]=some [.b (kX t b)]:=by have a:TT.lim 157 [.l (t.map row),.i .i64 0,.l (b.map row),.i .i64 b.length,.i .i64 0]=_:=agj t b c d e f b.length 0 0 (by omega) (by omega);rw[bK,bK]at a;refine aG rfl rfl ?_ rfl;cases g:kX t b<;>rw[g]at a<;>simp at a<;>simp[a]
def Yo(x y:bT):nG [1,1] [.s x.1,.s x.2] [.s y.1,.s y.2]=some (decide (x=y)):=by simp only[nG,gB,Nq];congr 1;rw[qN];simp[acV]
def agn(d e:List bT)(l:d.length=e.length)(o:d.length<=140737488351232):∀m i:Nat,i+m=d.length->
 TT.lim 268 [.l (d.map ent),.l (e.map ent),.i .i64 d.length,.i .i64 i]=some (if d.drop i=e.drop i then[.i .i64 1]else[.i .i64 0])
 |0,i,hi=>by
  have h0:d.drop i=[]:=cO (by omega);have f:e.drop i=[]:=cO (by omega);refine au rfl rfl ?_;have h:¬((i:Int)<d.length):=by omega
  simp[h,h0,f]
 |m+1,i,hi=>by
  have b:i<d.length:=by omega
  have a:i<e.length:=by omega
  have p:TT.lim 268 [.l (d.map ent),.l (e.map ent),.i .i64 d.length,.i .i64 ((i:Int)+1)]=_:=agn d e l o m (i+1) (by omega);have j:(d.drop i=e.drop i)↔(d[i]=e[i]/\d.drop (i+1)=e.drop (i+1)):=by rw[dF b,dF a,xE]
  have k:=Yo d[i] e[i];refine au rfl rfl ?_;have h:((i:Int)<d.length):=by omega
  have q:=wrap64 (n:=(i:Int)+1) (by omega) (by omega);by_cases f:d[i]=e[i]
  ·have g:(d.drop i=e.drop i)↔(d.drop (i+1)=e.drop (i+1)):=by rw[j];simp[f]
   have c:nG [1,1] [.s d[i].1,.s d[i].2] [.s e[i].1,.s e[i].2]=some true:=by rw[k];simp[f]
   simp only[g];simp[h,b,a,c,q,p]
  ·have g:¬(d.drop i=e.drop i):=by rw[j];simp[f]
   have c:nG [1,1] [.s d[i].1,.s d[i].2] [.s e[i].1,.s e[i].2]=some false:=by rw[k];simp[f]
   rw[ah g];simp[h,b,a,c]
def aeY(d e:List bT)(f:d.length<=140737488351232)(g:e.length<=140737488351232):TT.lim 267 [.l (d.map ent),.l (e.map ent)]=some [.b (decide (d=e))]:=by
 refine aG rfl rfl ?_ rfl;by_cases c:d.length=e.length
 ·have b:(d.length:Int)=(e.length:Int):=by omega
  have a:TT.lim 268 [.l (d.map ent),.l (e.map ent),.i .i64 d.length,.i .i64 0]=_:=agn d e c f d.length 0 (by omega);rw[bK,bK]at a;by_cases h:d=e
  ·rw[aj h]at a;have i:(d=e)=True:=eq_true h;clear h;rw[b]at a;simp[b,a,i]
  ·rw[ah h]at a;rw[b]at a;simp[b,a,h]
 ·have b:¬(d.length:Int)=(e.length:Int):=by omega
  have h:¬d=e:=λh=>c (by rw[h]);simp[b,c,h]
def ayA(r s:Row)(b:r.1.length<=140737488351232)(a:s.1.length<=140737488351232):TT.lim 272 [row r,row s]=some [.b (decide (r=s))]:=by
 have k:=aeY r.1 s.1 b a;refine aG rfl rfl ?_ rfl;by_cases h:r.2=s.2
 ·have:decide (r=s)=decide (r.1=s.1):=by rw[qN];simp[acV,h]
  rw[this];simp[h,k]
 ·have:decide (r=s)=false:=by rw[decide_eq_false_iff_not];intro e;exact h (by rw[e])
  rw[this];simp[h]
def agl(a b:List Row)(o:a.length=b.length)(p:a.length<=140737488351232)(h1:∀r∈a,r.1.length<=140737488351232)(j:∀r∈b,r.1.length<=140737488351232):∀m i:Nat,i+m=a.length->
 TT.lim 271 [.l (b.map row),.l (a.map row),.i .i64 a.length,.i .i64 i]=some (if a.drop i=b.drop i then[.i .i64 1]else[.i .i64 0])
 |0,i,hi=>by
  have h0:a.drop i=[]:=cO (by omega);have h1:b.drop i=[]:=cO (by omega);refine au rfl rfl ?_;have h:¬((i:Int)<a.length):=by omega
  simp[h,h0,h1]
 |m+1,i,hi=>by
  have d:i<a.length:=by omega
  have c:i<b.length:=by omega
  have q:TT.lim 271 [.l (b.map row),.l (a.map row),.i .i64 a.length,.i .i64 ((i:Int)+1)]=_:=agl a b o p h1 j m (i+1) (by omega);have l:(a.drop i=b.drop i)↔(a[i]=b[i]/\a.drop (i+1)=b.drop (i+1)):=by rw[dF d,dF c,xE]
  have k:=ayA a[i] b[i] (h1 _ (dW d)) (j _ (dW c));have r1:GV.g [.l (a[i].1.map ent),.i .u64 a[i].2]=row a[i]:=rfl;have r2:GV.g [.l (b[i].1.map ent),.i .u64 b[i].2]=row b[i]:=rfl;refine au rfl rfl ?_;have h:((i:Int)<a.length):=by omega
  have s:=wrap64 (n:=(i:Int)+1) (by omega) (by omega);by_cases e:a[i]=b[i]
  ·have f:(a.drop i=b.drop i)↔(a.drop (i+1)=b.drop (i+1)):=by rw[l];simp[e]
   simp only[f];have g:TT.lim 272 [row a[i],row b[i]]=some [.b true]:=by rw[k];simp[e]
   simp[h,d,c,r1,r2,g,s,q]
  ·have f:¬(a.drop i=b.drop i):=by rw[l];simp[e]
   rw[ah f];have g:TT.lim 272 [row a[i],row b[i]]=some [.b false]:=by rw[k];simp[e]
   simp[h,d,c,r1,r2,g]
def aA4(a b:List Row)(g:a.length<=140737488351232)(i:b.length<=140737488351232)(h1:∀r∈a,r.1.length<=140737488351232)(j:∀r∈b,r.1.length<=140737488351232):TT.lim 269 [.l (a.map row),.l (b.map row)]=some [.b (decide (a=b))]:=by
 have e:TT.lim 270 [.l (a.map row),.l (b.map row)]=some [.b (decide (a=b))]:=by
  refine aG rfl rfl ?_ rfl;by_cases f:a.length=b.length
  ·have c:(a.length:Int)=(b.length:Int):=by omega
   have d:TT.lim 271 [.l (b.map row),.l (a.map row),.i .i64 a.length,.i .i64 0]=_:=agl a b f g h1 j a.length 0 (by omega);rw[bK,bK]at d;rw[c]at d;by_cases h:a=b
   ·rw[aj h]at d;have k:(a=b)=True:=eq_true h;clear h;simp[c,d,k]
   ·rw[ah h]at d;simp[c,d,h]
  ·have c:¬(a.length:Int)=(b.length:Int):=by omega
   have h:¬a=b:=λh=>f (by rw[h]);simp[c,f,h]
 refine aG rfl rfl ?_ rfl;simp[e]
def wB(a b:Q0):Op.bytesLess a b=true↔a<b:=by rw[Ic];simp
def alj(a b:Q0):Op.bytesLess a b=false↔¬a<b:=by rw[Ic];simp
def iH(l:List Row):Prop:=l.Pairwise λa b=>K a<K b
def H7:∀(b t:List Row),iH t->iH b->(kX t b=true↔∀r∈b,∃s∈t,K s=K r/\r.2<=s.2)
 |[],t,_,_=>by simp[kX]
 |r::rs,t,E,F=>by
  have o:=iK.1 F;have i:=aeF (K r) t;have d:iH (t.drop (iy (K r) t)):=E.sublist (WJ _ _);have c:∀s∈t.drop (iy (K r) t),s∈t:=λs f=>(WJ _ _).subset f;have j:∀(u:List Row),(∀s∈u,s∈t.dropWhile (λx=>Op.bytesLess (K x) (K r))\/K s<K r)->True:=λ_ _=>trivial;have g:∀s∈t,¬K s<K r->s∈t.drop (iy (K r) t):=by
   intro s f w;rw[i];clear j c d i E;induction t with
   |nil=>simp at f
   |cons a t G=>
    rw[List.dropWhile_cons];split
    ·next H=>
     rcases bD.1 f with rfl|f
     ·exact absurd ((wB _ _).1 H) w
     ·exact G f
    ·exact f
  have k:∀s p,t.drop (iy (K r) t)=s::p->¬K s<K r:=by intro s p e;rw[i]at e;have:=List.head?_dropWhile_not (λx=>Op.bytesLess (K x) (K r)) t;rw[e]at this;simp only[WR,Option.all_some,zf]at this;intro l;rw[(wB _ _).2 l]at this;cases this
  unfold kX;cases e:t.drop (iy (K r) t)with
  |nil=>simp only[gy,false_iff];intro h;obtain⟨s,f,q,_⟩:=h r (by simp);have:=g s f (by rw[q];exact mJ _);rw[e]at this;simp at this
  |cons s p=>
   simp only[aK,decide_eq_true_iff];rw[e]at d c g;rw[H7 rs (s::p) d o.2];have A:=iK.1 d;constructor
   ·rintro⟨⟨I,J⟩,L⟩ x n
    rcases bD.1 n with rfl|n
    ·exact⟨s,c s (by simp),I,J⟩
    ·obtain⟨y,B,v⟩:=L x n;exact⟨y,c y B,v⟩
   ·intro h;obtain⟨y,B,q,w⟩:=h r (by simp);have m:=g y B (by rw[q];exact mJ _);have D:y=s:=by
     rcases bD.1 m with rfl|m
     ·rfl
     ·have:=A.1 y m;rw[q]at this;exact absurd this (k s p e)
    subst D;refine⟨⟨q,w⟩,λx n=>?_⟩;obtain⟨z,M,v,N⟩:=h x (by simp[n]);refine⟨z,g z M ?_,v,N⟩;rw[v];exact λl=>mJ _ (vM l (o.1 x n))
def ak8{a b c:List Row}(d:iH a)(e:iH b)(f:iH c)(h1:kX a b=true)(g:kX b c=true):kX a c=true:=by rw[H7 _ _ d e]at h1;rw[H7 _ _ e f]at g;rw[H7 _ _ d f];intro r h;obtain⟨s,i,j,k⟩:=g r h;obtain⟨u,l,m,n⟩:=h1 s i;exact⟨u,l,m.trans j,Int.le_trans k n⟩
def aiH:∀{a b:List Row},iH a->iH b->(∀r∈a,r∈b)->(∀r∈b,r∈a)->a=b
 |[],[],_,_,_,_=>rfl
 |[],b::_,_,_,_,h=>absurd (h b (by simp)) (by simp)
 |a::_,[],_,_,h,_=>absurd (h a (by simp)) (by simp)
 |x::a,y::b,j,k,h1,i=>by
  have c:=iK.1 j;have d:=iK.1 k;have g:x=y:=by
   rcases bD.1 (h1 x (by simp))with e|l
   ·exact e
   ·rcases bD.1 (i y (by simp))with e|m
    ·exact e.symm
    ·exact absurd (vM (d.1 x l) (c.1 y m)) (mJ _)
  subst g;rw[aiH c.2 d.2 (λr f=>?_) (λr f=>?_)]
  ·rcases bD.1 (h1 r (by simp[f]))with e|h
   ·subst e;exact absurd (c.1 _ f) (mJ _)
   ·exact h
  ·rcases bD.1 (i r (by simp[f]))with e|h
   ·subst e;exact absurd (d.1 _ f) (mJ _)
   ·exact h
def aiI{a:List Row}(i:iH a){r s:Row}(e:r∈a)(j:s∈a)(f:K r=K s):r=s:=by
 induction a with
 |nil=>simp at e
 |cons x a k=>
  have b:=iK.1 i;rcases bD.1 e with g|c<;>rcases bD.1 j with h|d
  ·rw[g,h]
  ·have:=b.1 s d;rw[<-g,f]at this;exact absurd this (mJ _)
  ·have:=b.1 r c;rw[<-h,f]at this;exact absurd this (mJ _)
  ·exact k b.2 c d
def aqO{cs:Q1}{r0:Q1}(h:cu.iZ [.list true [.str,.str],.int .u64] cs):∃r:Row,(lU r.1/\0<=r.2/\r.2<18446744073709551616)/\GV.g cs=row r:=by
 obtain⟨g,l,rfl,f,h⟩:=rZ h;obtain⟨n,l,rfl,i,h⟩:=rZ h;obtain rfl:=O6 h;obtain⟨n,rfl,j,k⟩:=Lu i;obtain⟨m,rfl,o,p⟩:=YW f;obtain⟨d,q,rfl⟩:∃d:List bT,(∀x∈d,x.1.length<=140737488351232/\x.2.length<=140737488351232)/\m=d.map ent:=UG λx t=>by
  obtain⟨c,v⟩:=p x t;cases x<;>simp[GV.scalar]at v
  obtain⟨a,l,e,w,c⟩:=rZ c;obtain⟨b,l,rfl,y,c⟩:=rZ c;obtain rfl:=O6 c;obtain⟨s,rfl,z⟩:=Uf w;obtain⟨u,rfl,A⟩:=Uf y;simp only[alH]at e;subst e;exact⟨(s,u),⟨Nat.le_trans z (by decide),jP A (by decide)⟩,rfl⟩
 exact⟨(d,n),⟨⟨by have:=jP o (by decide:reachBytes<=140737488351232);simpa using this,q⟩,j,k⟩,rfl⟩
def ayB{g:GV}(h:(cu.list true [.list true [.str,.str],.int .u64]).has g):∃l:List Row,Rows l/\g=.l (l.map row):=by
 obtain⟨a,rfl,b,c⟩:=YW h;obtain⟨l,d,rfl⟩:∃l:List Row,(∀r∈l,lU r.1/\0<=r.2/\r.2<18446744073709551616)/\a=l.map row:=UG λx f=>by
  obtain⟨i,j⟩:=c x f;cases x<;>simp[GV.scalar]at j
  obtain⟨r,k,e⟩:=aqO (r0:=[]) i;exact⟨r,k,e⟩
 exact⟨l,⟨by have:=jP b (by decide:reachBytes<=140737488351232);simpa using this,d⟩,rfl⟩
def kP:Option Q0->List Row->Int
 |_,[]=>0
 |p,r::rs=>if oG r≠0 then oG r else match p with
  |none=>kP (some (K r)) rs
  |some k=>if K r=k then 14 else if Op.bytesLess (K r) k=true then 7 else kP (some (K r)) rs
def agp(t:List Row)(k:Rows t)(q:∀r∈t,gq r.1=true):∀(m i:Nat)(p:Q0),i+m=t.length->
 TT.lim 35 [.s p,.l (t.map row),.i .i64 t.length,.i .i64 i]=some (tagged (kP (if i=0 then none else some p) (t.drop i)))
 |0,i,p,hi=>by
  have h0:t.drop i=[]:=cO (by omega);refine au rfl rfl ?_;have h:¬((i:Int)<t.length):=by omega
  simp[h,h0,kP,tagged]
 |m+1,i,p,hi=>by
  have a:i<t.length:=by omega
  have u:=k.2 t[i] (dW a);have c:=alJ t[i] u.1;have f:=DK t[i].1 (q _ (dW a));have b:GV.g [.l (t[i].1.map ent),.i .u64 t[i].2]=row t[i]:=rfl;have g:TT.lim 35 [.s (aU t[i].1),.l (t.map row),.i .i64 t.length,.i .i64 ((i:Int)+1)]=_:=agp t k q m (i+1) (aU t[i].1) (by omega);rw[ah (by omega)]at g;rw[dF a];refine au rfl rfl ?_;have h:((i:Int)<t.length):=by omega
  have l:=wrap64 (n:=(i:Int)+1) (by omega) (by have:=k.1;omega);by_cases e:oG t[i]=0;rotate_left
  ·simp[-List.getElem_cons_drop,h,a,b,c,e,kP,tagged]
  by_cases h0:i=0
  ·subst h0;simp only[mZ,Nv]at l g;simp[-List.getElem_cons_drop,h,a,b,c,e,f,l,kP];have v:(0:Int)<(t.length:Int):=by omega
   simpa using g
  ·have d:0<i:=by omega
   by_cases j:aU t[i].1=p
   ·have o:(aU t[i].1=p)=True:=eq_true j;clear j;simp[-List.getElem_cons_drop,h,a,b,c,e,f,d,h0,o,kP,tagged]
   ·cases s:Op.bytesLess (aU t[i].1) p with
    |true=>simp[-List.getElem_cons_drop,h,a,b,c,e,f,d,h0,j,s,kP,tagged]
    |false=>simp[-List.getElem_cons_drop,h,a,b,c,e,f,d,h0,j,s,l,g,kP]
def jR(t:List Row):Int:=if 256<t.length then 13 else kP none t
def SA(t:List Row)(e:Rows t)(f:∀r∈t,gq r.1=true):TT.lim 34 [.l (t.map row)]=some [.i .i64 (jR t)]:=by
 have a:TT.lim 35 [.s [],.l (t.map row),.i .i64 t.length,.i .i64 0]=_:=agp t e f t.length 0 [] (by omega);rw[aj rfl,bK]at a;refine aG rfl rfl ?_ rfl;unfold jR;by_cases d:256<t.length
 ·have b:(256:Int)<(t.length:Int):=by omega
  simp[d,b]
 ·have b:¬(256:Int)<(t.length:Int):=by omega
  by_cases c:kP none t=0
  ·simp only[tagged,c,if_true]at a;simp[d,b,a,c]
  ·simp only[tagged,c,if_false]at a;simp[d,b,a,c]
def ad9:∀{t:List Row}(p:Option Q0),iH t->(∀r∈t,oG r=0)->(∀k,p=some k->∀r∈t,k<K r)->kP p t=0
 |[],p,_,_,_=>by cases p<;>rfl
 |r::t,p,g,d,h=>by
  have a:=iK.1 g;have f:=ad9 (t:=t) (some (K r)) a.2 (λx c=>d x (by simp[c])) (λk b x c=>by cases b;exact a.1 x c);unfold kP;rw[ah (by simp[d r (by simp)])];cases p with
  |none=>exact f
  |some k=>
   have b:=h k rfl r (by simp);have i:¬K r=k:=λe=>by rw[e]at b;exact mJ _ b
   have j:¬Op.bytesLess (K r) k=true:=λe=>mJ _ (vM b ((wB _ _).1 e));simp only;rw[ah i,ah j];exact f
def aiK{l:List Row}(h:iH l):(l.map K).Nodup:=by unfold List.Nodup;rw[List.pairwise_map];refine h.imp λ{a b} c e=>?_;rw[e]at c;exact mJ _ c
def Rows.perm{l m:List Row}(h:l.Perm m)(a:Rows l):Rows m:=⟨by rw[<-h.length_eq];exact a.1,λr b=>a.2 r (h.mem_iff.2 b)⟩
def cmpK(a b:Q0):Int:=if a<b then -1 else if b<a then 1 else 0
def aei:∀a b:Q0,Lib.compareBytes a b=cmpK a b
 |[],[]=>by simp[Lib.compareBytes,cmpK]
 |[],_::_=>by simp[Lib.compareBytes,cmpK]
 |_::_,[]=>by simp[Lib.compareBytes,cmpK]
 |x::a,y::b=>by
  unfold Lib.compareBytes;rw[aei a b];unfold cmpK;simp only[acy];by_cases h1:x<y
  ·simp[h1]
  ·by_cases c:y<x
   ·have d:¬x=y:=λe=>by subst e;exact acZ _ c
    simp[h1,c,d]
   ·have f:x=y:=UInt8.le_antisymm (UInt8.not_lt.1 c) (UInt8.not_lt.1 h1);subst f;simp[acZ]
def al0(a b:Q0):X8 a b=cmpK a b:=(Lib.cmp_eq _ _).trans (aei a b)
def alZ(a b:Q0):TT.lim 166 [.s a,.s b]=some [.i .i64 (cmpK a b)]:=Jr rfl (by rw[<-al0];rfl)
def aeb(d e:List bT)(a:gq d=true)(b:gq e=true):TT.lim 165 [.l (d.map ent),.l (e.map ent)]=some [.i .i64 (cmpK (aU d) (aU e))]:=by have c:=DK d a;have f:=DK e b;have g:=alZ (aU d) (aU e);refine aG rfl rfl ?_ rfl;simp[c,f,g]
def akQ(x y:Int)(h1:0<=x)(a:0<=y):TT.lim 264 [.i .u64 x,.i .u64 y,.i .u64 0]=some [.i .u64 ((x+y)%18446744073709551616),.i .u64 ((x+y)/18446744073709551616)]:=Jr rfl (by unfold NV;simp only;rw[aj ⟨h1,a,by omega,by omega⟩];simp only[Int.add_zero])
def val:List Row->List UInt8->Int
 |[],_=>0
 |r::rs,k=>if K r=k then r.2 else val rs k
def Pos(t:List Row):Prop:=∀r∈t,0<r.2/\r.2<18446744073709551616
def GX:∀{t:List Row}{k:Q0},(∀r∈t,K r≠k)->val t k=0
 |[],_,_=>rfl
 |r::t,k,h=>by unfold val;rw[ah (h r (by simp))];exact GX λx a=>h x (by simp[a])
def GU:∀{t:List Row},iH t->∀r∈t,val t (K r)=r.2
 |[],_,r,h=>by simp at h
 |x::t,b,r,h=>by
  have a:=iK.1 b;unfold val;rcases bD.1 h with rfl|h
  ·rw[aj rfl]
  ·rw[ah λe=>by have:=a.1 r h;rw[e]at this;exact mJ _ this];exact GU a.2 r h
def JK:∀(t:List Row)(k:Q0),(∃r∈t,K r=k/\val t k=r.2)\/((∀r∈t,K r≠k)/\val t k=0)
 |[],k=>.inr ⟨by simp,rfl⟩
 |x::t,k=>by
  unfold val;by_cases h:K x=k
  ·exact .inl ⟨x,by simp,h,by rw[aj h]⟩
  ·rw[ah h];rcases JK t k with⟨r,h1,a,c⟩|⟨h1,a⟩
   ·exact .inl ⟨r,by simp[h1],a,c⟩
   ·refine .inr ⟨λr b=>?_,a⟩;rcases bD.1 b with rfl|b
    ·exact h
    ·exact h1 r b
def Nc{t:List Row}(b:Pos t)(k:Q0):0<=val t k/\val t k<18446744073709551616:=by
 rcases JK t k with⟨r,a,c,d⟩|⟨a,c⟩
 ·have:=b r a;omega
 ·omega
def akb{t:List Row}(b:Pos t){k:Q0}(h:0<val t k):∃r∈t,K r=k/\val t k=r.2:=by
 rcases JK t k with a|⟨a,c⟩
 ·exact a
 ·omega
def abX{a b:List Row}(c:iH a)(e:iH b)(pa:Pos a)(f:Pos b)(h:∀k,val a k=val b k):a=b:=by
 have d:∀{a b:List Row},iH a->iH b->Pos a->Pos b->(∀k,val a k=val b k)->∀r∈a,r∈b:=by intro a b c e pa f h r g;have i:=GU c r g;have n:=(pa r g).1;obtain⟨s,j,l,m⟩:=akb f (k:=K r) (by rw[<-h];omega);have:s=r:=Prod.ext (auu l) (by rw[<-m,<-h,i]);rw[<-this];exact j
 exact aiH c e (d c e pa f h) (d e c f pa λk=>(h k).symm)
def fO:List Row->List Row->Option (List Row)
 |[],b=>some b
 |x::a,[]=>some (x::a)
 |x::a,y::b=>
  if K x<K y then(fO a (y::b)).map (x::·)
  else if K y<K x then(fO (x::a) b).map (y::·)
  else if x.2+y.2<18446744073709551616 then(fO a b).map ((x.1,x.2+y.2)::·)else none
termination_by a b=>a.length+b.length
def Keys(a b m:List Row):Prop:=∀r∈m,∃s,(s∈a\/s∈b)/\s.1=r.1
def LQ:∀(a b:List Row){m:List Row},iH a->iH b->Pos a->Pos b->fO a b=some m->iH m/\(∀k,val m k=val a k+val b k)/\Keys a b m/\Pos m:=by
 intro a b;induction a,b using fO.induct with
 |case1 b=>intro m o p l n h;rw[fO]at h;cases h;exact⟨p,λk=>by simp[val],λr c=>⟨r,.inr c,rfl⟩,n⟩
 |case2 x a=>intro m o p l n h;rw[fO]at h;cases h;exact⟨o,λk=>by simp[val],λr c=>⟨r,.inl c,rfl⟩,l⟩
 |case3 x a y b f v=>
  intro m o p l n h;rw[fO,aj f]at h;obtain⟨w,z,rfl⟩:=bg.1 h;have i:=iK.1 o;have j:=iK.1 p;obtain⟨A,B,q,D⟩:=v i.2 p (λr c=>l r (by simp[c])) n z;have u:∀s,s∈a\/s∈y::b->K x<K s:=by
   rintro s (d|d)
   ·exact i.1 s d
   ·rcases bD.1 d with rfl|d
    ·exact f
    ·exact vM f (j.1 s d)
  refine⟨List.Pairwise.cons (λr c=>?_) A,λk=>?_,λr c=>?_,λr c=>?_⟩
  ·obtain⟨s,d,e⟩:=q r c;have:=u s d;show K x<aU r.1
   rw[<-e];exact this
  ·show(if K x=k then x.2 else val w k)=(if K x=k then x.2 else val a k)+val (y::b) k
   split
   ·next e=>
    rw[GX (t:=y::b) λr c E=>by have:=u r (.inr c);rw[e,E]at this;exact mJ _ this];omega
   ·exact B k
  ·rcases bD.1 c with rfl|c
   ·exact⟨r,.inl (by simp),rfl⟩
   ·obtain⟨s,d,e⟩:=q r c;exact⟨s,d.imp (λh=>by simp[h]) id,e⟩
  ·rcases bD.1 c with rfl|c
   ·exact l r (by simp)
   ·exact D r c
 |case4 x a y b f g v=>
  intro m o p l n h;rw[fO,ah f,aj g]at h;obtain⟨w,z,rfl⟩:=bg.1 h;have i:=iK.1 o;have j:=iK.1 p;obtain⟨A,B,q,D⟩:=v o j.2 l (λr c=>n r (by simp[c])) z;have u:∀s,s∈x::a\/s∈b->K y<K s:=by
   rintro s (d|d)
   ·rcases bD.1 d with rfl|d
    ·exact g
    ·exact vM g (i.1 s d)
   ·exact j.1 s d
  refine⟨List.Pairwise.cons (λr c=>?_) A,λk=>?_,λr c=>?_,λr c=>?_⟩
  ·obtain⟨s,d,e⟩:=q r c;have:=u s d;show K y<aU r.1
   rw[<-e];exact this
  ·show(if K y=k then y.2 else val w k)=val (x::a) k+(if K y=k then y.2 else val b k)
   split
   ·next e=>
    rw[GX (t:=x::a) λr c E=>by have:=u r (.inl c);rw[e,E]at this;exact mJ _ this];omega
   ·exact B k
  ·rcases bD.1 c with rfl|c
   ·exact⟨r,.inr (by simp),rfl⟩
   ·obtain⟨s,d,e⟩:=q r c;exact⟨s,d.imp id (λh=>by simp[h]),e⟩
  ·rcases bD.1 c with rfl|c
   ·exact n r (by simp)
   ·exact D r c
 |case5 x a y b f g d v=>
  intro m o p l n h;rw[fO,ah f,ah g,aj d]at h;obtain⟨w,z,rfl⟩:=bg.1 h;have i:=iK.1 o;have j:=iK.1 p;have F:K x=K y:=QK (xF.1 g) (xF.1 f);obtain⟨A,B,q,D⟩:=v i.2 j.2 (λr c=>l r (by simp[c])) (λr c=>n r (by simp[c])) z;have u:∀s,s∈a\/s∈b->K x<K s:=by
   rintro s (d|d)
   ·exact i.1 s d
   ·rw[F];exact j.1 s d
  refine⟨List.Pairwise.cons (λr c=>?_) A,λk=>?_,λr c=>?_,λr c=>?_⟩
  ·obtain⟨s,d,e⟩:=q r c;have:=u s d;show aU x.1<aU r.1
   rw[<-e];exact this
  ·show(if K x=k then x.2+y.2 else val w k)=(if K x=k then x.2 else val a k)+(if K y=k then y.2 else val b k)
   rw[F];split
   ·rfl
   ·exact B k
  ·rcases bD.1 c with rfl|c
   ·exact⟨x,.inl (by simp),rfl⟩
   ·obtain⟨s,d,e⟩:=q r c;exact⟨s,d.imp (λh=>by simp[h]) (λh=>by simp[h]),e⟩
  ·rcases bD.1 c with rfl|c
   ·have G:=l x (by simp);have H:=n y (by simp);exact⟨by simp only;omega,d⟩
   ·exact D r c
 |case6 x a y b f g d=>intro m o p l n h;rw[fO,ah f,ah g,ah d]at h;cases h
def Ew{t:List Row}{k:Q0}(h:∀r∈t,k<K r):val t k=0:=GX λr a e=>by have:=h r a;rw[e]at this;exact mJ _ this
def agY:∀(a b:List Row),iH a->iH b->fO a b=none->∃k,18446744073709551616<=val a k+val b k:=by
 intro a b;induction a,b using fO.induct with
 |case1 b=>intro i j h;rw[fO]at h;cases h
 |case2 x a=>intro i j h;rw[fO]at h;cases h
 |case3 x a y b c n=>
  intro i j h;rw[fO,aj c]at h;have f:=iK.1 i;have g:=iK.1 j;obtain⟨k,m⟩:=n f.2 j (Xf.1 h);refine⟨k,?_⟩;by_cases e:K x=k
  ·exfalso;subst e;rw[Ew f.1,Ew (t:=y::b) λr l=>?_]at m
   ·omega
   ·rcases bD.1 l with rfl|l
    ·exact c
    ·exact vM c (g.1 r l)
  ·show _<=(if K x=k then x.2 else val a k)+_
   rw[ah e];exact m
 |case4 x a y b c d n=>
  intro i j h;rw[fO,ah c,aj d]at h;have f:=iK.1 i;have g:=iK.1 j;obtain⟨k,m⟩:=n i g.2 (Xf.1 h);refine⟨k,?_⟩;by_cases e:K y=k
  ·exfalso;subst e;rw[Ew g.1,Ew (t:=x::a) λr l=>?_]at m
   ·omega
   ·rcases bD.1 l with rfl|l
    ·exact d
    ·exact vM d (f.1 r l)
  ·show _<=_+(if K y=k then y.2 else val b k)
   rw[ah e];exact m
 |case5 x a y b c d p n=>
  intro i j h;rw[fO,ah c,ah d,aj p]at h;have f:=iK.1 i;have g:=iK.1 j;have o:K x=K y:=QK (xF.1 d) (xF.1 c);obtain⟨k,m⟩:=n f.2 g.2 (Xf.1 h);refine⟨k,?_⟩;by_cases e:K x=k
  ·exfalso;subst e;rw[Ew f.1,Ew (t:=b) λr l=>by rw[o];exact g.1 r l]at m;omega
  ·show _<=(if K x=k then x.2 else val a k)+(if K y=k then y.2 else val b k)
   rw[ah e,<-o,ah e];exact m
 |case6 x a y b c d p=>
  intro i j h;have o:K x=K y:=QK (xF.1 d) (xF.1 c);refine⟨K x,?_⟩;show _<=(if K x=K x then x.2 else val a _)+(if K y=K x then y.2 else val b _)
  rw[aj rfl,aj o.symm];omega
def aiJ:∀{a b:List Row},iH a->iH b->(∀r∈a,∃s∈b,K s=K r)->a.length<=b.length
 |[],_,_,_,_=>vT _
 |_::_,[],_,_,h=>by obtain⟨s,c,_⟩:=h _ (acJ ..);simp at c
 |x::a,y::b,l,m,h=>by
  have d:=iK.1 l;have f:=iK.1 m;have i:K y=K x\/K y<K x:=by
   obtain⟨s,c,e⟩:=h x (by simp);rcases bD.1 c with rfl|c
   ·exact .inl e
   ·right;rw[<-e];exact f.1 s c
  have:=aiJ d.2 f.2 λr k=>by
   obtain⟨s,c,e⟩:=h r (by simp[k]);rcases bD.1 c with rfl|c
   ·have g:=d.1 r k;rw[<-e]at g;rcases i with j|j
    ·rw[j]at g;exact absurd g (mJ _)
    ·exact absurd (vM g j) (mJ _)
   ·exact⟨s,c,e⟩
  simp only[jw];omega
def PI(x:GV)(l:List Row)(n:Int)(a:x.cells.length=2)(b:n=l.length+1):FP 2 (some (.l (x::l.map row))) (some (.i .i64 1)) (some (.i .i64 n))=some (.l (l.map row)):=by
 subst b;rw[nI,aj ⟨by omega,by omega,by simp,by rw[sW];simp[a,abg]⟩]
 ·congr 2;have c:((l.length:Int)+1).toNat=l.length+1:=by omega
  rw[c,lW (by simp)];rfl
def pY(a:List Row):Option (List Row)->List GV
 |some m=>[.i .i64 1,.l ((a++m).map row)]
 |none=>[.i .i64 0]
def zI{d:List bT}(h:gq d=true):d.length<=40:=by unfold gq at h;simp at h;omega
def al3{a b:Q0}(h:a<b):cmpK a b = -1:=by unfold cmpK;rw[aj h]
def al2{a b:Q0}(h1:¬a<b)(h:b<a):cmpK a b=1:=by unfold cmpK;rw[ah h1,aj h]
def al1{a b:Q0}(h1:¬a<b)(h:¬b<a):cmpK a b=0:=by unfold cmpK;rw[ah h1,ah h]
def iF(t:List Row):Prop:=∀r∈t,gq r.1=true
set_option maxHeartbeats 4000000 in
def auV:∀(n:Nat)(a b c:List Row),a.length+b.length<=n->c.length+a.length+b.length<=1000->iF a->iF b->(∀r∈a,0<=r.2/\r.2<18446744073709551616)->(∀r∈b,0<=r.2/\r.2<18446744073709551616)->
 TT.lim 263 [.l (a.map row),.l (b.map row),.l (c.map row)]=some (pY c (fO a b)):=by
 intro n;induction n with
 |zero=>intro a b c A B o p q s;obtain rfl:a=[]:=jl (by omega);obtain rfl:b=[]:=jl (by omega);rw[fO];refine au rfl rfl ?_;simp[pY]
 |succ n w=>
  intro a b c A B o p q s;cases a with
  |nil=>
   cases b with
   |nil=>rw[fO];refine au rfl rfl ?_;simp[pY]
   |cons y b=>
    simp only[nZ,jw,jQ]at A B;have d:=w [] b (c++[y]) (by simp;omega) (by simp;omega) o (λr f=>p r (by simp[f])) q (λr f=>s r (by simp[f]));rw[fO]at d⊢;simp only[pY,List.append_assoc,Az,jG,gX,jO]at d⊢;have kc:=EY y.1 (zI (p y (by simp)));have j:GV.g [.l (y.1.map ent),.i .u64 y.2]=row y:=rfl;have g:(row y).dZ 2=true:=rfl;have L:=PI (row y) b ((b.length:Int)+1) rfl rfl;have h:2*(c.length+1)*32<=281474976710656/\c.length+1<=281474976710656:=by omega
    have t:(0:Int)<(b.length:Int)+1:=by omega
    have i:¬((b.length:Int)+1=0):=by omega
    refine au rfl rfl ?_;simp[-nI,kc,j,g,L,h,t,i,d]
  |cons x a=>
   cases b with
   |nil=>
    simp only[nZ,jw,lD]at A B;have d:=w a [] (c++[x]) (by simp;omega) (by simp;omega) (λr f=>o r (by simp[f])) p (λr f=>q r (by simp[f])) s;have Q:fO a []=some a:=by cases a<;>rw[fO]
    rw[Q]at d;rw[fO];simp only[pY,List.append_assoc,Az,jG,gX,jO]at d⊢;have kc:=EY x.1 (zI (o x (by simp)));have j:GV.g [.l (x.1.map ent),.i .u64 x.2]=row x:=rfl;have g:(row x).dZ 2=true:=rfl;have L:=PI (row x) a ((a.length:Int)+1) rfl rfl;have h:2*(c.length+1)*32<=281474976710656/\c.length+1<=281474976710656:=by omega
    have t:(0:Int)<(a.length:Int)+1:=by omega
    have i:¬((a.length:Int)+1=0):=by omega
    refine au rfl rfl ?_;simp[-nI,kc,j,g,L,h,t,i,d]
   |cons y b=>
    simp only[jw]at A B;have N:=o x (by simp);have O:=p y (by simp);have D:=EY x.1 (zI N);have E:=EY y.1 (zI O);have k:GV.g [.l (x.1.map ent),.i .u64 x.2]=row x:=rfl;have F:GV.g [.l (y.1.map ent),.i .u64 y.2]=row y:=rfl;have M:GV.g [.l (x.1.map ent),.i .u64 (x.2+y.2)]=row (x.1,x.2+y.2):=rfl;have g:∀r:Row,(row r).dZ 2=true:=λr=>rfl;have l:=PI (row x) a ((a.length:Int)+1) rfl rfl;have G:=PI (row y) b ((b.length:Int)+1) rfl rfl;have h:2*(c.length+1)*32<=281474976710656/\c.length+1<=281474976710656:=by omega
    have t:(0:Int)<(a.length:Int)+1:=by omega
    have i:¬((a.length:Int)+1=0):=by omega
    have H:(0:Int)<(b.length:Int)+1:=by omega
    have m:¬((b.length:Int)+1=0):=by omega
    have u:=aeb x.1 y.1 N O;have I:=akQ x.2 y.2 (q x (by simp)).1 (s y (by simp)).1;have S:=q x (by simp);have T:=s y (by simp);by_cases v:K x<K y
    ·have d:=w a (y::b) (c++[x]) (by simp;omega) (by simp;omega) (λr f=>o r (by simp[f])) p (λr f=>q r (by simp[f])) s;rw[fO,aj v];rw[al3 v]at u;have e:pY (c++[x]) (fO a (y::b))=pY c ((fO a (y::b)).map (x::·)):=by cases fO a (y::b)<;>simp[pY]
     rw[e]at d;generalize pY c ((fO a (y::b)).map (x::·))=z at d⊢;simp only[jG,gX,jO]at d;refine au rfl rfl ?_;simp[-nI,D,E,k,F,g,l,G,h,t,i,H,m,u,d]
    by_cases J:K y<K x
    ·have d:=w (x::a) b (c++[y]) (by simp;omega) (by simp;omega) o (λr f=>p r (by simp[f])) q (λr f=>s r (by simp[f]));rw[fO,ah v,aj J];rw[al2 v J]at u;have e:pY (c++[y]) (fO (x::a) b)=pY c ((fO (x::a) b).map (y::·)):=by cases fO (x::a) b<;>simp[pY]
     rw[e]at d;generalize pY c ((fO (x::a) b).map (y::·))=z at d⊢;simp only[jG,gX,jO]at d;refine au rfl rfl ?_;simp[-nI,D,E,k,F,g,l,G,h,t,i,H,m,u,d]
    rw[fO,ah v,ah J];rw[al1 v J]at u;by_cases P:x.2+y.2<18446744073709551616
    ·have d:=w a b (c++[(x.1,x.2+y.2)]) (by omega) (by simp;omega) (λr f=>o r (by simp[f])) (λr f=>p r (by simp[f])) (λr f=>q r (by simp[f])) (λr f=>s r (by simp[f]));rw[aj P];have e:pY (c++[(x.1,x.2+y.2)]) (fO a b)=pY c ((fO a b).map ((x.1,x.2+y.2)::·)):=by cases fO a b<;>simp[pY]
     rw[e]at d;generalize pY c ((fO a b).map ((x.1,x.2+y.2)::·))=z at d⊢;simp only[jG,gX,jO]at d;rw[show(x.2+y.2)%18446744073709551616=x.2+y.2 by omega,show(x.2+y.2)/18446744073709551616=0 by omega]at I;refine au rfl rfl ?_;simp[-nI,D,E,k,F,M,g,l,G,h,t,i,H,m,u,I,d]
    ·rw[ah P];rw[show(x.2+y.2)/18446744073709551616=1 by omega]at I;refine au rfl rfl ?_;simp[-nI,D,E,k,F,g,l,G,h,t,i,H,m,u,I,pY]
def Ok(t:List Row):Prop:=t.length<=256/\iH t/\∀r∈t,oG r=0
def ad8:∀{t:List Row}(p:Option Q0),kP p t=0->iH t/\(∀r∈t,oG r=0)/\∀k,p=some k->∀r∈t,k<K r
 |[],p,_=>⟨List.Pairwise.nil,by simp,by simp⟩
 |r::t,p,h=>by
  unfold kP at h;by_cases h1:oG r=0;rotate_left
  ·rw[aj h1]at h;exact absurd h h1
  rw[ah (by simp[h1])]at h;have a:∀(h:kP (some (K r)) t=0),iH (r::t)/\∀x∈r::t,oG x=0:=by
   intro h;obtain⟨d,f,g⟩:=ad8 (some (K r)) h;refine⟨List.Pairwise.cons (g _ rfl) d,λx b=>?_⟩;rcases bD.1 b with rfl|b
   ·exact h1
   ·exact f x b
  cases p with
  |none=>exact⟨(a h).1,(a h).2,by simp⟩
  |some k=>
   simp only at h;split at h
   ·cases h
   next i=>
   split at h
   ·cases h
   next j=>
   refine⟨(a h).1,(a h).2,?_⟩;rintro _ ⟨⟩ x b
   have c:k<K r:=by
    rcases WS.1 (xF.1 λe=>j ((wB _ _).2 e))with e|e
    ·exact e
    ·exact absurd e.symm i
   rcases bD.1 b with rfl|b
   ·exact c
   ·exact vM c ((iK.1 (a h).1).1 x b)
def qB(t:List Row):jR t=0↔Ok t:=by
 unfold jR Ok;constructor
 ·intro h;split at h
  ·cases h
  ·obtain⟨b,a,_⟩:=ad8 none h;exact⟨by omega,b,a⟩
 ·rintro⟨b,a,c⟩
  rw[ah (by omega)];exact ad9 none a c (by simp)
def Ed(r:Row):oG r=0↔tZ r.1=0/\r.2≠0:=by
 unfold oG;by_cases h:tZ r.1=0
 ·simp[h]
 ·simp[h]
structure Tb(t:List Row):Prop where
 ok:Ok t
 rows:Rows t
 few:iF t
def Tb.pos{t:List Row}(h:Tb t):Pos t:=λr a=>by have b:=((Ed r).1 (h.ok.2.2 r a)).2;have c:=(h.rows.2 r a).2;omega
def Tb.rise{t:List Row}(h:Tb t):iH t:=h.ok.2.1
def xA:Tb []:=⟨⟨by simp,List.Pairwise.nil,by simp⟩,⟨by simp,by simp⟩,λr a=>by simp at a⟩
def ajI{a b m:List Row}(f:Tb a)(g:Tb b)(i:m.length<=256)(c:iH m)(j:Keys a b m)(h:Pos m):Tb m:=by
 have src:∀r∈m,tZ r.1=0/\lU r.1/\gq r.1=true:=by
  intro r c;obtain⟨s,d,e⟩:=j r c;rw[<-e];rcases d with d|d
  ·exact⟨((Ed s).1 (f.ok.2.2 s d)).1,(f.rows.2 s d).1,f.few s d⟩
  ·exact⟨((Ed s).1 (g.ok.2.2 s d)).1,(g.rows.2 s d).1,g.few s d⟩
 refine⟨⟨i,c,λr c=>(Ed r).2 ⟨(src r c).1,by have:=h r c;omega⟩⟩,⟨by omega,λr c=>⟨(src r c).2.1,?_⟩⟩,λr c=>(src r c).2.2⟩;have:=h r c;omega
def tog(a b:List Row):List Row×Int:=match fO a b with
 |none=>([],3)
 |some m=>if 256<m.length then([],13)else(m,0)
structure dR(t:List Row):Prop where
 len:t.length<=300
 few:iF t
 rows:Rows t
def Tb.good{t:List Row}(h:Tb t):dR t:=⟨Nat.le_trans h.ok.1 (by decide),h.few,h.rows⟩
def aCk(a b:List Row)(d:dR a)(e:dR b):TT.lim 262 [.l (a.map row),.l (b.map row)]=some [.l ((tog a b).1.map row),.i .i64 (tog a b).2]:=by
 have k:=auV (a.length+b.length) a b [] (dY _) (by have:=d.len;have:=e.len;simp;omega) d.few e.few (λr f=>(d.rows.2 r f).2) (λr f=>(e.rows.2 r f).2);have o:=d.len;have p:=e.len;have g:=wrap64 (n:=(a.length:Int)+(b.length:Int)) (by omega) (by omega);have c:(GV.g [.l [],.i .u64 0]).dZ 2=true:=rfl;have i:(0:Int)<=(a.length:Int)+(b.length:Int)/\32*((a.length:Int)+(b.length:Int))<=281474976710656/\(a.length:Int)+(b.length:Int)<=1152921504606846976:=by omega
 unfold tog;cases l:fO a b with
 |none=>rw[l]at k;simp only[pY,jO]at k;refine aG rfl rfl ?_ rfl;simp[g,c,i,k]
 |some m=>
  rw[l]at k;simp only[pY,jO,aW]at k;by_cases h:256<m.length
  ·have j:(256:Int)<(m.length:Int):=by omega
   refine aG rfl rfl ?_ rfl;simp[g,c,i,k,h,j]
  ·have j:¬(256:Int)<(m.length:Int):=by omega
   simp only[ah h];refine aG rfl rfl ?_ rfl;simp[g,c,i,k,j]
def aCh{a b:List Row}(c:Tb a)(d:Tb b)(h:(tog a b).2=0):Tb (tog a b).1/\∀k,val (tog a b).1 k=val a k+val b k:=by
 unfold tog at h⊢;cases e:fO a b with
 |none=>rw[e]at h;cases h
 |some m=>
  rw[e]at h;simp only at h⊢;split at h
  ·cases h
  next f=>
  rw[ah f];obtain⟨g,i,j,l⟩:=LQ a b c.rise d.rise c.pos d.pos e;exact⟨ajI c d (Nat.not_lt.1 f) g j l,i⟩
def aCj{a b c d:List Row}(g:Tb a)(i:Tb b)(e:Tb c)(f:Tb d)(h:∀k,val a k+val b k=val c k+val d k):tog a b=tog c d:=by
 have l:∀{a b c d:List Row},Tb a->Tb b->Tb c->Tb d->(∀k,val a k+val b k=val c k+val d k)->fO a b=none->∀m,fO c d=some m->False:=by intro a b c d g i e f h n m j;obtain⟨k,u⟩:=agY a b g.rise i.rise n;obtain⟨_,o,_,p⟩:=LQ c d e.rise f.rise e.pos f.pos j;have:=Nc p k;rw[o,<-h]at this;omega
 unfold tog;cases n:fO a b with
 |none=>
  cases j:fO c d with
  |none=>rfl
  |some m=>exact(l g i e f h n m j).elim
 |some m=>
  cases j:fO c d with
  |none=>exact(l e f g i (λk=>(h k).symm) j m n).elim
  |some v=>obtain⟨q,r,_,s⟩:=LQ a b g.rise i.rise g.pos i.pos n;obtain⟨t,o,_,p⟩:=LQ c d e.rise f.rise e.pos f.pos j;rw[abX q t s p λk=>by rw[r,o,h]]
abbrev Dl:=Int×Int×List Row
def dl(d:Dl):GV:=.g [.i .u64 d.1,.i .u64 d.2.1,.l (d.2.2.map row)]
@[simp] theorem aEb(d:Dl):(dl d).cells=[.i .u64 d.1,.i .u64 d.2.1,.l (d.2.2.map row)]:=rfl
@[simp] theorem aEc(d:Dl):(dl d).scalar=false:=rfl
def zD:Dl:=(0,0,[])
def tN(d:Dl):Int:=if d.2.1<=d.1 then 20 else jR d.2.2
def alK(d:Dl)(h:dR d.2.2):TT.lim 261 [dl d]=some [.i .i64 (tN d)]:=by
 have k:=SA d.2.2 h.rows h.few;unfold tN;refine aG rfl rfl ?_ rfl;by_cases a:d.2.1<=d.1
 ·simp[a]
 ·simp[a,k]
def ad7{d:Dl}(h:tN d=0):d.1<d.2.1/\Ok d.2.2:=by
 unfold tN at h;split at h
 ·cases h
 ·exact⟨by omega,(qB _).1 h⟩
def alO{d:Dl}(h1:d.1<d.2.1)(a:Ok d.2.2):tN d=0:=by unfold tN;rw[ah (by omega)];exact(qB _).2 a
def dR.tb{t:List Row}(h:dR t)(a:Ok t):Tb t:=⟨a,h.rows,h.few⟩
def afm{l:List Row}(a:Rows l)(h:Fg l=true):dR l:=by refine⟨?_,λr b=>aru h r b,a⟩;unfold Fg at h;rw[aK,decide_eq_true_iff]at h;exact h.2
def aBa(a b:List Row)(d:dR a)(e:dR b):TT.lim 269 [.l (a.map row),.l (b.map row)]=some [.b (decide (a=b))]:=
 aA4 a b (by have:=d.len;omega) (by have:=e.len;omega) (λr c=>(d.rows.2 r c).1.1) (λr c=>(e.rows.2 r c).1.1)
def iY:List Row->List Row->List Row
 |[],_=>[]
 |r::rs,[]=>if r.2=0 then iY rs []else r::iY rs []
 |r::rs,l::a=>if K l=K r then(if IntKind.u64.wrap (r.2-l.2)=0 then iY rs a else(r.1,IntKind.u64.wrap (r.2-l.2))::iY rs a)else if r.2=0 then iY rs (l::a)else r::iY rs (l::a)
def al5(a:Q0):cmpK a a=0:=by unfold cmpK;simp[mJ]
def al4{a b:Q0}(h:a≠b):cmpK a b≠0:=by
 unfold cmpK;split
 ·omega
 next c=>
 split
 ·omega
 next d=>exact absurd (QK (xF.1 d) (xF.1 c)) h
set_option maxHeartbeats 4000000 in
def ZN(t:List Row)(e f:Int)(J:t.length<=300)(G:iF t):∀(m i:Nat)(b a:List Row),i+m=t.length->a.length<=i->iF b->
 TT.lim 164 [.l (b.map row),.l (t.map row),.i .i64 t.length,.i .i64 i,.i .u64 e,.i .u64 f,.l (a.map row)]=some [.i .i64 0,.l ((a++iY (t.drop i) b).map row)]
 |0,i,b,a,hi,N,p=>by
  have h0:t.drop i=[]:=cO (by omega);refine au rfl rfl ?_;have h:¬((i:Int)<t.length):=by omega
  simp[h,h0,iY]
 |m+1,i,b,a,hi,N,p=>by
  have c:i<t.length:=by omega
  have L:=G t[i] (dW c);have kc:=EY t[i].1 (zI L);have k:GV.g [.l (t[i].1.map ent),.i .u64 t[i].2]=row t[i]:=rfl;have q:∀r:Row,(row r).dZ 2=true:=λr=>rfl;have s:2*(a.length+1)*32<=281474976710656/\a.length+1<=281474976710656:=by omega
  have h:((i:Int)<t.length):=by omega
  have A:=wrap64 (n:=(i:Int)+1) (by omega) (by omega);have u:∀j,iF j->TT.lim 164 [.l (j.map row),.l (t.map row),.i .i64 t.length,.i .i64 ((i:Int)+1),.i .u64 e,.i .u64 f,.l (a.map row)]=_:=λj H=>ZN t e f J G m (i+1) j a (by omega) (by omega) H;have w:∀j r,iF j->TT.lim 164 [.l (j.map row),.l (t.map row),.i .i64 t.length,.i .i64 ((i:Int)+1),.i .u64 e,.i .u64 f,.l ((a++[r]).map row)]=_:=λj r H=>ZN t e f J G m (i+1) j (a++[r]) (by omega) (by simp;omega) H;have I:t.drop i=t[i]::t.drop (i+1):=dF c;rw[I];cases b with
  |nil=>
   by_cases d:t[i].2=0
   ·have g:=u [] p;simp only[jO]at g;simp only[iY];rw[aj d];have x:(t[i].2=0)=True:=eq_true d;clear d;refine au rfl rfl ?_;simp[-List.getElem_cons_drop,h,c,x,A,g]
   ·have g:=w [] t[i] p;simp only[jO,jG,gX]at g;simp only[iY];rw[ah d];refine au rfl rfl ?_;simp[-List.getElem_cons_drop,h,c,d,A,kc,k,q,s,g]
  |cons l o=>
   have O:=p l (by simp);have D:iF o:=λr P=>p r (by simp[P]);have M:=PI (row l) o ((o.length:Int)+1) rfl rfl;have E:(0:Int)<(o.length:Int)+1:=by omega
   have B:=aeb l.1 t[i].1 O L;by_cases F:K l=K t[i]
   ·rw[show aU l.1=aU t[i].1 from F,al5]at B;simp only[iY];rw[aj F];by_cases d:IntKind.u64.wrap (t[i].2-l.2)=0
    ·have g:=u o D;rw[aj d];refine au rfl rfl ?_;simp[-List.getElem_cons_drop,-nI,h,c,E,B,M,d,A,g]
    ·have g:=w o (t[i].1,IntKind.u64.wrap (t[i].2-l.2)) D;rw[ah d];simp only[jO,jG,gX]at g;have y:GV.g [.l (t[i].1.map ent),.i .u64 (IntKind.u64.wrap (t[i].2-l.2))]=row (t[i].1,IntKind.u64.wrap (t[i].2-l.2)):=rfl;refine au rfl rfl ?_;simp[-List.getElem_cons_drop,-nI,h,c,E,B,M,d,A,kc,y,q,s,g]
   ·have z:=al4 F;generalize cmpK (aU l.1) (aU t[i].1)=v at B z;simp only[iY];rw[ah F];by_cases d:t[i].2=0
    ·have g:=u (l::o) p;simp only[gX]at g;rw[aj d];have x:(t[i].2=0)=True:=eq_true d;clear d;refine au rfl rfl ?_;simp[-List.getElem_cons_drop,-nI,h,c,E,B,z,x,A,g]
    ·have g:=w (l::o) t[i] p;simp only[jO,jG,gX]at g;rw[ah d];refine au rfl rfl ?_;simp[-List.getElem_cons_drop,-nI,h,c,E,B,z,d,A,kc,k,q,s,g]
def Td:∀(t b:List Row),iH t->iH b->Pos t->Pos b->(∀l∈b,∃r∈t,K r=K l/\l.2<=r.2)->
 iH (iY t b)/\(∀k,val (iY t b) k=val t k-val b k)/\(∀r∈iY t b,∃s∈t,s.1=r.1)/\Pos (iY t b)
 |[],[],_,_,_,_,_=>⟨List.Pairwise.nil,λk=>rfl,by simp[iY],by simp[iY,Pos]⟩
 |[],l::b,_,_,_,_,h=>by obtain⟨r,p,_⟩:=h l (by simp);simp at p
 |r::t,[],z,A,j,q,h=>by
  have d:=iK.1 z;obtain⟨m,u,f,o⟩:=Td t [] d.2 A (λx a=>j x (by simp[a])) q (by simp);have p:=j r (by simp);simp only[iY];rw[ah (by omega)];refine⟨List.Pairwise.cons (λx a=>?_) m,λk=>?_,λx a=>?_,λx a=>?_⟩
  ·obtain⟨s,c,e⟩:=f x a;show K r<aU x.1
   rw[<-e];exact d.1 s c
  ·show(if K r=k then r.2 else val (iY t []) k)=(if K r=k then r.2 else val t k)-val [] k
   split
   ·simp[val]
   ·exact u k
  ·rcases bD.1 a with rfl|a
   ·exact⟨x,by simp,rfl⟩
   ·obtain⟨s,c,e⟩:=f x a;exact⟨s,by simp[c],e⟩
  ·rcases bD.1 a with rfl|a
   ·exact p
   ·exact o x a
 |r::t,l::b,z,A,j,q,h=>by
  have d:=iK.1 z;have g:=iK.1 A;have p:=j r (by simp);have J:=q l (by simp);simp only[iY];by_cases i:K l=K r
  ·rw[aj i];have F:l.2<=r.2:=by obtain⟨s,c,e,v⟩:=h l (by simp);have:s=r:=aiI z c (by simp) (e.trans i);rw[<-this];exact v
   have G:=dn (n:=r.2-l.2) (by omega) (by omega);rw[G];obtain⟨m,u,f,o⟩:=Td t b d.2 g.2 (λx a=>j x (by simp[a])) (λx a=>q x (by simp[a])) (λx a=>by
    obtain⟨s,c,e,v⟩:=h x (by simp[a]);rcases bD.1 c with rfl|c
    ·have:=g.1 x a;rw[i,<-e]at this;exact absurd this (mJ _)
    ·exact⟨s,c,e,v⟩)
   have w:∀x∈iY t b,∃s∈r::t,s.1=x.1:=λx a=>by obtain⟨s,c,e⟩:=f x a;exact⟨s,by simp[c],e⟩
   have E:∀k,(if K r=k then r.2-l.2 else val (iY t b) k)=val (r::t) k-val (l::b) k:=λk=>by
    show _=(if K r=k then r.2 else val t k)-(if K l=k then l.2 else val b k)
    rw[i];split
    ·rfl
    ·exact u k
   by_cases B:r.2-l.2=0
   ·rw[aj B];refine⟨m,λk=>?_,w,o⟩;rw[<-E k];split
    ·next e=>
     rw[B];subst e;refine Ew λx a=>?_;obtain⟨s,c,e⟩:=f x a;show K r<aU x.1
     rw[<-e];exact d.1 s c
    ·rfl
   ·rw[ah B];refine⟨List.Pairwise.cons (λx a=>?_) m,E,λx a=>?_,λx a=>?_⟩
    ·obtain⟨s,c,e⟩:=f x a;show aU r.1<aU x.1
     rw[<-e];exact d.1 s c
    ·rcases bD.1 a with rfl|a
     ·exact⟨r,by simp,rfl⟩
     ·exact w x a
    ·rcases bD.1 a with rfl|a
     ·exact⟨by simp only;omega,by simp only;omega⟩
     ·exact o x a
  ·rw[ah i,ah (by omega)];have y:∀x∈l::b,∃s∈t,K s=K x/\x.2<=s.2:=by
    have D:K r<K l:=by
     obtain⟨s,c,e,_⟩:=h l (by simp);rcases bD.1 c with rfl|c
     ·exact absurd e.symm i
     ·rw[<-e];exact d.1 s c
    intro x a;obtain⟨s,c,e,v⟩:=h x a;rcases bD.1 c with rfl|c
    ·exfalso;rcases bD.1 a with rfl|a
     ·exact i e.symm
     ·have:=vM D (g.1 x a);rw[e]at this;exact mJ _ this
    ·exact⟨s,c,e,v⟩
   obtain⟨m,u,f,o⟩:=Td t (l::b) d.2 A (λx a=>j x (by simp[a])) q y;refine⟨List.Pairwise.cons (λx a=>?_) m,λk=>?_,λx a=>?_,λx a=>?_⟩
   ·obtain⟨s,c,e⟩:=f x a;show K r<aU x.1
    rw[<-e];exact d.1 s c
   ·show(if K r=k then r.2 else val (iY t (l::b)) k)=(if K r=k then r.2 else val t k)-val (l::b) k
    split
    ·next e=>
     rw[GX (t:=l::b) λx a H=>by obtain⟨s,c,I,_⟩:=y x a;have:=d.1 s c;rw[I,H,e]at this;exact mJ _ this]
     omega
    ·exact u k
   ·rcases bD.1 a with rfl|a
    ·exact⟨x,by simp,rfl⟩
    ·obtain⟨s,c,e⟩:=f x a;exact⟨s,by simp[c],e⟩
   ·rcases bD.1 a with rfl|a
    ·exact p
    ·exact o x a
abbrev Sn:=Int×List Row
def sn(s:Sn):GV:=.g [.i .u64 s.1,.l (s.2.map row)]
@[simp] theorem aFP(s:Sn):(sn s).cells=[.i .u64 s.1,.l (s.2.map row)]:=rfl
@[simp] theorem aFQ(s:Sn):(sn s).scalar=false:=rfl
def zS:Sn:=(0,[])
def SB(s:Sn)(h:dR s.2):TT.lim 33 [sn s]=some [.i .i64 (jR s.2)]:=by have k:=SA s.2 h.rows h.few;refine aG rfl rfl ?_ rfl;simp[k]
def jV(s n:Sn):Dl×Int:=
 if jR s.2≠0 then(zD,jR s.2)else if jR n.2≠0 then(zD,jR n.2)else if n.1<=s.1 then(zD,20)
 else if kX n.2 s.2=false then(zD,21)else((s.1,n.1,iY n.2 s.2),0)
def lY(s:Sn)(d:Dl):Sn×Int:=
 if jR s.2≠0 then(zS,jR s.2)else if tN d≠0 then(zS,tN d)else if s.1≠d.1 then(zS,19)
 else if(tog s.2 d.2.2).2≠0 then(zS,(tog s.2 d.2.2).2)else((d.2.1,(tog s.2 d.2.2).1),0)
def aqv(s n:Sn)(j:dR s.2)(e:dR n.2):TT.lim 163 [sn s,sn n]=some [dl (jV s n).1,.i .i64 (jV s n).2]:=by
 have b:=SB s j;have f:=SB n e;have c:GV.g [.i .u64 s.1,.l (s.2.map row)]=sn s:=rfl;have g:GV.g [.i .u64 n.1,.l (n.2.map row)]=sn n:=rfl;have h:GV.g [.i .u64 0,.i .u64 0,.l []]=dl zD:=rfl;have o:GV.g [.i .u64 s.1,.i .u64 n.1,.l ((iY n.2 s.2).map row)]=dl (s.1,n.1,iY n.2 s.2):=rfl;have l:TT.lim 164 [.l (s.2.map row),.l (n.2.map row),.i .i64 n.2.length,.i .i64 0,.i .u64 s.1,.i .u64 n.1,.l []]=_:=ZN n.2 s.1 n.1 e.len e.few n.2.length 0 s.2 [] (by omega) (by simp) j.few;rw[bK,aW]at l;unfold jV;by_cases a:jR s.2=0;rotate_left
 ·refine aG rfl rfl ?_ rfl;simp[c,b,a,h]
 by_cases d:jR n.2=0;rotate_left
 ·refine aG rfl rfl ?_ rfl;simp[c,b,a,g,f,d,h]
 by_cases k:n.1<=s.1
 ·refine aG rfl rfl ?_ rfl;simp[c,b,a,g,f,d,h,k]
 have i:=adn n.2 s.2 ((qB _).1 d).1 ((qB _).1 a).1 e.few j.few;cases m:kX n.2 s.2 with
 |false=>rw[m]at i;refine aG rfl rfl ?_ rfl;simp[c,b,a,g,f,d,h,k,i]
 |true=>rw[m]at i;refine aG rfl rfl ?_ rfl;simp[c,b,a,g,f,d,o,k,i,l]
def ak3(s:Sn)(d:Dl)(k:dR s.2)(l:dR d.2.2):TT.lim 260 [sn s,dl d]=some [sn (lY s d).1,.i .i64 (lY s d).2]:=by
 have a:=SB s k;have f:=alK d l;have m:=aCk _ _ k l;have b:GV.g [.i .u64 s.1,.l (s.2.map row)]=sn s:=rfl;have g:GV.g [.i .u64 d.1,.i .u64 d.2.1,.l (d.2.2.map row)]=dl d:=rfl;have h:GV.g [.i .u64 0,.l []]=sn zS:=rfl;have o:GV.g [.i .u64 d.2.1,.l ((tog s.2 d.2.2).1.map row)]=sn (d.2.1,(tog s.2 d.2.2).1):=rfl;unfold lY;by_cases c:jR s.2=0;rotate_left
 ·refine aG rfl rfl ?_ rfl;simp[b,a,c,h]
 by_cases i:tN d=0;rotate_left
 ·refine aG rfl rfl ?_ rfl;simp[b,a,c,g,f,i,h]
 by_cases j:s.1=d.1;rotate_left
 ·refine aG rfl rfl ?_ rfl;simp[b,a,c,g,f,i,h,j]
 have e:(s.1=d.1)=True:=eq_true j;clear j;by_cases n:(tog s.2 d.2.2).2=0;rotate_left
 ·refine aG rfl rfl ?_ rfl;simp[b,a,c,g,f,i,h,e,m,n]
 ·refine aG rfl rfl ?_ rfl;simp[b,a,c,g,f,i,o,e,m,n]
def aew{s n:Sn}(h:(jV s n).2=0):Ok s.2/\Ok n.2/\s.1<n.1/\kX n.2 s.2=true/\(jV s n).1=(s.1,n.1,iY n.2 s.2):=by
 unfold jV at h⊢;split at h
 ·next a=>exact absurd h a
 next a=>
 split at h
 ·next b=>exact absurd h b
 next b=>
 split at h
 ·cases h
 next d=>
 split at h
 ·cases h
 next c=>
 rw[ah a,ah b,ah d,ah c];exact⟨(qB _).1 (by simpa using a),(qB _).1 (by simpa using b),by omega,by simpa using c,rfl⟩
def aqy{s n:Sn}(h1:Ok s.2)(a:Ok n.2)(c:s.1<n.1)(b:kX n.2 s.2=true):jV s n=((s.1,n.1,iY n.2 s.2),0):=by unfold jV;rw[ah (by simp[(qB _).2 h1]),ah (by simp[(qB _).2 a]),ah (by omega),ah (by simp[b])]
def adi{s:Sn}{d:Dl}(h:(lY s d).2=0):Ok s.2/\tN d=0/\s.1=d.1/\(tog s.2 d.2.2).2=0/\(lY s d).1=(d.2.1,(tog s.2 d.2.2).1):=by
 unfold lY at h⊢;split at h
 ·next a=>exact absurd h a
 next a=>
 split at h
 ·next b=>exact absurd h b
 next b=>
 split at h
 ·cases h
 next e=>
 split at h
 ·next c=>exact absurd h c
 next c=>
 rw[ah a,ah b,ah e,ah c];exact⟨(qB _).1 (by simpa using a),by simpa using b,by simpa using e,by simpa using c,rfl⟩
def ak5{s:Sn}{d:Dl}(h1:Ok s.2)(a:tN d=0)(b:s.1=d.1):lY s d=if(tog s.2 d.2.2).2≠0 then(zS,(tog s.2 d.2.2).2)else((d.2.1,(tog s.2 d.2.2).1),0):=by unfold lY;rw[ah (by simp[(qB _).2 h1]),ah (by simp[a]),ah (by simp[b])]
def aex{s n:List Row}(b:Tb s)(a:Tb n)(h:kX n s=true):Tb (iY n s)/\∀k,val (iY n s) k=val n k-val s k:=by
 have i:=(H7 _ _ a.rise b.rise).1 h;obtain⟨f,j,g,l⟩:=Td n s a.rise b.rise a.pos b.pos i;have m:(iY n s).length<=n.length:=aiJ f a.rise λr c=>by obtain⟨x,d,e⟩:=g r c;exact⟨x,d,by show aU x.1=aU r.1;rw[e]⟩
 exact⟨ajI a a (jP m a.ok.1) f (λr c=>by obtain⟨x,d,e⟩:=g r c;exact⟨x,.inl d,e⟩) l,j⟩
def aCi{t:List Row}(a:Tb t):tog t []=(t,0):=by
 have h:fO t []=some t:=by cases t<;>rw[fO]
 unfold tog;rw[h];simp only;rw[ah (by have:=a.ok.1;omega)]
def alb{s n:Sn}(g:dR s.2)(i:dR n.2)(h:(jV s n).2=0):tN (jV s n).1=0/\lY s (jV s n).1=(n,0)/\dR (jV s n).1.2.2:=by
 obtain⟨c,j,l,m,o⟩:=aew h;have d:=g.tb c;have a:=i.tb j;obtain⟨b,p⟩:=aex d a m;rw[o];have e:tN (s.1,n.1,iY n.2 s.2)=0:=alO l b.ok;have f:tog s.2 (iY n.2 s.2)=tog n.2 []:=aCj d b a xA λk=>by rw[p];simp[val];omega
 rw[aCi a]at f;refine⟨e,?_,b.good⟩;rw[ak5 c e rfl];simp only[f];rfl
def ak6{s:Sn}{d:Dl}(a:dR s.2)(b:dR d.2.2)(h:(lY s d).2=0):Tb (lY s d).1.2/\∀k,val (lY s d).1.2 k=val s.2 k+val d.2.2 k:=by obtain⟨c,e,i,f,g⟩:=adi h;rw[g];exact aCh (a.tb c) (b.tb (ad7 e).2) f
