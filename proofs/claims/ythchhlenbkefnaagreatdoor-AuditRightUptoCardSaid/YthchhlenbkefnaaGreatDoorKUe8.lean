/- What the trees compute: plain laws. -/
import Derived.Test.YthchhlenbkefnaaGreatDoorKUe7
set_option linter.all false
namespace Go.Proofs.YthchhlenbkefnaaGreatDoor
open Go Go.aN
set_option maxRecDepth 100000
namespace U
def azU(h:List It)(a n:Int)(t:Q0)(i:h.length<=100000):TT.lim 142 [.zu a,.zu n,.s t,.l (h.map cZ)]=some [.zq 0,.l ((uQ h (a,n,t)).map cZ)]:=by
 have c:=aFl (h++[(a,n,t)]) h.length (.zu n) (by simp) (by simp;omega);have g:=bF (((h.length:Nat):Int));have b:GV.g [.zu a,.zu n,.s t]=cZ (a,n,t):=rfl;have d:(cZ (a,n,t)).fP 3=true:=rfl;rw[nM]at c;simp only[iP,jI]at c;have e:2*(h.length+1)*32<=281474976710656:=by omega
 have f:h.length<=281474976710655:=by omega
 unfold uQ;refine au ?_;simp -implicitDefEqProofs[b,d,e,f,g,c]
def asD(h:List It)(n:Nat)(c:GV)(e:n<=h.length)(f:h.length<=1000000):∃b:Bool,TT.lim 270 [.zq (n:Int),.l (h.map cZ),c,.zq 0]=some [.zq 0,.b b,.l ((nP (n+1) h 0 n).map cZ)]:=by obtain⟨d,a⟩:=agn (n+1) h 0 n (.zq 0) c (by omega) e f (by omega);have a:TT.lim 271 [.zq 0,.zq (n:Int),.zq 0,.l (h.map cZ),c]=some [.zq 0,.zq (d:Int),.l ((nP (n+1) h 0 n).map cZ)]:=a;refine⟨decide ((0:Int)<(d:Int)),jm rfl rfl ?_⟩;simp[a]
def azG(h:List It)(n:Nat)(c:GV)(f:h.length=n+1)(E:h.length<=1000000)(j:Heap h (n+1)):
 TT.lim 269 [.l (h.map cZ),c]=some [.zq 0,.zu (at_ h 0).1,.zu (at_ h 0).2.1,.s (at_ h 0).2.2,.l ((nY h).map cZ)]:=by
 have l:(iQ h 0 n).length=n+1:=by rw[Fp,f]
 obtain⟨b,u⟩:=asD (iQ h 0 n) n c (by omega) (by omega);obtain⟨-,-,-,a⟩:=Xk h n f j;have d:(nP (n+1) (iQ h 0 n) 0 n).length=n+1:=by rw[ZN,l]
 have m:nY h=(nP (n+1) (iQ h 0 n) 0 n).take n:=by unfold nY;rw[f];rfl
 have o:=KU (h:=h) (k:=0) (by omega) (at_ h n);have p:=KU (h:=h.set 0 (at_ h n)) (k:=n) (by rw[Iq];omega) (at_ h 0);have e:(h.set 0 (at_ h n)).set n (at_ h 0)=iQ h 0 n:=rfl;rw[e]at p;rw[m];generalize iQ h 0 n=S at *;generalize nP (n+1) S 0 n=D at *;have q:=Cb (h:=h) (k:=0) (by omega);have r:=Ba (h:=h) (k:=0) (by omega);rw[show(((0:Nat)):Int)=0 from rfl]at q r o;have v:=Cb (h:=h) (k:=n) (by omega);have w:=Ba (h:=h) (k:=n) (by omega);have s:=Cb (h:=D) (k:=n) (by omega);have x:=Ba (h:=D) (k:=n) (by omega);have A:=KU (h:=D) (k:=n) (by omega) (0,0,[]);rw[a]at s;have t:(D.set n (0,0,[])).take n=D.take n:=by rw[List.take_set_of_le (dD n)]
 rw[<-t];have g:(D.set n (0,0,[])).length=n+1:=by rw[Iq,d]
 generalize D.set n (0,0,[])=F,h.set 0 (at_ h n)=G at *;have B:=bF (((n:Nat):Int));have i:((n:Nat):Int)<=(n:Int)+1:=by omega
 clear e t m a j l;generalize at_ h n=y,at_ h 0=z at *;refine au ?_;simp -implicitDefEqProofs[-jF,-eF,-uZ,f,d,B,r,q,w,v,o,p,u,x,s,A,g,i,aeh]
def aAt(h:List It)(n:Nat)(c:GV)(b:h.length=n+1)(d:h.length<=1000000)(e:Heap h (n+1)):
 TT.lim 268 [.l (h.map cZ),c]=some [.zq 0,.zu (at_ h 0).1,.s (at_ h 0).2.2,.b true,.l ((nY h).map cZ)]:=by
 have f:=azG h n c b d e;have a:¬((n:Int)+1=0):=by omega
 generalize at_ h 0=z,nY h=R at *;refine au ?_;simp -implicitDefEqProofs[b,a,f]
def azV(h:List It)(a n:Int)(t:Q0)(c:h.length<=100000)(g:0<=n/\n<=1000000):
 TT.lim 144 [.zu a,.l [.s t],.zq 1,.zq 0,.l (h.map cZ),.zu n]=some [.zq 0,.l ((uQ h (a,n,t)).map cZ),.zu (n+1)]:=by
 have d:=azU h a n t c;generalize uQ h (a,n,t)=R at *;have e:TT.lim 144 [.zu a,.l [.s t],.zq 1,.zq 1,.l (R.map cZ),.zu (n+1)]=some [.zq 0,.l (R.map cZ),.zu (n+1)]:=by refine au ?_;simp
 have f:=jA (n+1);have b:IntKind.i64.wrap 1=1:=rfl;refine au ?_;simp -implicitDefEqProofs[d,f,b,e]
def az2(h:List It)(a n:Int)(t:Q0)(b:h.length<=100000)(c:0<=n/\n<=1000000):
 TT.lim 143 [.zu a,.l [.s t],.l (h.map cZ),.zu n]=some [.zq 0,.l ((uQ h (a,n,t)).map cZ),.zu (n+1)]:=by
 have d:=azV h a n t b c;generalize uQ h (a,n,t)=R at *;refine au ?_;simp -implicitDefEqProofs[d]
def agu(now:Int)(c:GV):∀(m:Nat)(h:List It)(a:Wc),h.length=m->a.length+m<=100000->Heap h h.length->
 TT.lim 267 [.zu now,.l (a.map .s),.l (h.map cZ),c]=some [.zq 0,.l ((a++(fJ m now h).1).map .s),.l ((fJ m now h).2.map cZ)]
 |0,h,a,b,s,g=>by obtain rfl:=aef.1 b;refine au ?_;simp -implicitDefEqProofs[fJ]
 |m+1,h,a,b,s,g=>by
  have d:¬((m:Int)+1=0):=by omega
  have i:h≠[]:=by rintro rfl;simp at b
  have j:=Cb (h:=h) (k:=0) (by omega);have l:=Ba (h:=h) (k:=0) (by omega);rw[show(((0:Nat)):Int)=0 from rfl]at j l;by_cases f:now<(at_ h 0).1
  ·rw[fJ,aj (.inr f)];generalize at_ h 0=z at *;refine au ?_;simp -implicitDefEqProofs[-jF,-eF,b,d,j,l,f]
  ·obtain⟨r1,r2,r3,-⟩:=Xk h m b (by rw[<-b];exact g);have t:=aAt h m c b (by omega) (by rw[<-b];exact g);have n:=agu now c m (nY h) (a++[(at_ h 0).2.2]) r1 (by simp;omega) (by rw[r1];exact r2);rw[fJ,ah (λe=>e.elim i f)];have r:a++(at_ h 0).2.2::(fJ m now (nY h)).1=a++[(at_ h 0).2.2]++(fJ m now (nY h)).1:=by simp
   rw[show(a++((at_ h 0).2.2::(fJ m now (nY h)).1,(fJ m now (nY h)).2).1)=a++[(at_ h 0).2.2]++(fJ m now (nY h)).1 from r];generalize a++[(at_ h 0).2.2]++(fJ m now (nY h)).1=O at *;show _=some [_,_,GV.l ((fJ m now (nY h)).2.map cZ)]
   generalize(fJ m now (nY h)).2=u at *;rw[nM]at n;simp only[iP,jI]at n;have o:2*(a.length+1)*16<=281474976710656:=by omega
   have p:a.length<=281474976710655:=by omega
   clear r;generalize nY h=R,at_ h 0=z at *;have q:(GV.s z.2.2).fP 1=true:=rfl;refine au ?_;simp -implicitDefEqProofs[-jF,-eF,b,d,j,l,f,t,o,p,q,n]
def agv(now:Int)(c:GV)(h:List It)(b:h.length<=100000)(d:Heap h h.length):
 TT.lim 266 [.zu now,.l (h.map cZ),c]=some [.zq 0,.l ((fJ h.length now h).1.map .s),.l ((fJ h.length now h).2.map cZ)]:=by
 have a:=agu now c h.length h [] rfl (by simpa using b) d;rw[aX]at a;simp only[jI]at a;generalize fJ h.length now h=R at *;refine au ?_;simp -implicitDefEqProofs[a]
def OB:Q0->Nat
 |[a,b,c,d]=>a.toNat+b.toNat*256+c.toNat*65536+d.toNat*16777216
 |_=>0
def aoX(p s:Q0)(S:p.length<=65536)(J:s.length=4):TT.lim 279 [.s p,.s s]=some [.b (decide ((OB s:Int)=iU p))]:=by
 have L:=ZF p (by omega);generalize iU p=n at *;match s,J with
 |[v,w,x,z],_=>
  have g:∀y:Int,IntKind.u32.wrap y=y%((4294967296:Nat):Int):=λy=>by simp[IntKind.wrap,IntKind.signed,IntKind.bits]
  obtain⟨f,i⟩:∃c,v.toNat=c:=⟨_,rfl⟩
  obtain⟨d,j⟩:∃c,w.toNat=c:=⟨_,rfl⟩
  obtain⟨e,l⟩:∃c,x.toNat=c:=⟨_,rfl⟩
  obtain⟨h,o⟩:∃c,z.toNat=c:=⟨_,rfl⟩
  have M:=v.toNat_lt;have N:=w.toNat_lt;have O:=x.toNat_lt;have P:=z.toNat_lt;rw[show OB [v,w,x,z]=v.toNat+w.toNat*256+x.toNat*65536+z.toNat*16777216 from rfl];rw[i]at M⊢;rw[j]at N⊢;rw[l]at O⊢;rw[o]at P⊢;have D:kD .shl .u32 (d:Int) 8=some (.i .u32 ((d*256:Nat):Int)):=Ov (k:=8) g rfl (by decide) (by omega);have E:kD .shl .u32 (e:Int) 16=some (.i .u32 ((e*65536:Nat):Int)):=Ov (k:=16) g rfl (by decide) (by omega);have F:kD .shl .u32 (h:Int) 24=some (.i .u32 ((h*16777216:Nat):Int)):=Ov (k:=24) g rfl (by decide) (by omega);have o1:=NR (a:=f) (b:=d) (k:=8) (m:=256) rfl (by omega) (by omega);have A:=NR (a:=f+d*256) (b:=e) (k:=16) (m:=65536) rfl (by omega) (by omega);have B:=NR (a:=f+d*256+e*65536) (b:=h) (k:=24) (m:=16777216) rfl (by omega) (by omega);have w0:IntKind.u32.wrap (f:Int)=f:=by rw[g];omega
  have w1:IntKind.u32.wrap (d:Int)=d:=by rw[g];omega
  have Q:IntKind.u32.wrap (e:Int)=e:=by rw[g];omega
  have R:IntKind.u32.wrap (h:Int)=h:=by rw[g];omega
  obtain⟨T,r⟩:∃q:Int,((f+d*256+e*65536+h*16777216:Nat):Int)=q:=⟨_,rfl⟩
  obtain⟨V,G⟩:∃q:Int,((h*16777216:Nat):Int)=q:=⟨_,rfl⟩
  obtain⟨W,H⟩:∃q:Int,((f+d*256+e*65536:Nat):Int)=q:=⟨_,rfl⟩
  obtain⟨X,t⟩:∃q:Int,((e*65536:Nat):Int)=q:=⟨_,rfl⟩
  obtain⟨Y,I⟩:∃q:Int,((f+d*256:Nat):Int)=q:=⟨_,rfl⟩
  obtain⟨Z,u⟩:∃q:Int,((d*256:Nat):Int)=q:=⟨_,rfl⟩
  rw[r]at B⊢;rw[G]at F B;rw[H]at A B;rw[t]at E A;rw[I]at o1 A;rw[u]at D o1;clear G H t I u r;refine aT ?_;simp -implicitDefEqProofs[L,i,j,l,o,w0,w1,Q,R,D,E,F,o1,A,B]
def JJ:Q0->Int
 |[]=>1
 |[a]=>if a=81 then 1 else 5
 |a::b::_=>if a=81 then(if b=70 then 0 else 5)else 5
def ai0(a:UInt8):JJ [a]=if a=81 then 1 else 5:=rfl
def axg(a b:UInt8)(r:Q0):JJ (a::b::r)=if a=81 then(if b=70 then 0 else 5)else 5:=rfl
def kU(s:Q0):Q0×Int×Int:=
 if JJ s≠0 then([],0,JJ s)else
 if(aB (s.drop 2)).2.2≠0 then([],0,(aB (s.drop 2)).2.2)else
 if 65536<(aB (s.drop 2)).1 then([],0,4)else
 if(s.drop (2+(aB (s.drop 2)).2.1)).length<(aB (s.drop 2)).1+4 then([],0,1)else
 if(OB (((s.drop (2+(aB (s.drop 2)).2.1)).take ((aB (s.drop 2)).1+4)).drop (aB (s.drop 2)).1):Int)=iU ((s.drop (2+(aB (s.drop 2)).2.1)).take (aB (s.drop 2)).1)then
  ((s.drop (2+(aB (s.drop 2)).2.1)).take (aB (s.drop 2)).1,((2+fO (aB (s.drop 2)).1+(aB (s.drop 2)).1+4:Nat):Int),0)else([],0,6)
def ads(a:UInt8)(n:Nat)(b:n<256):((a.toNat:Int)=(n:Int))=(a=UInt8.ofNat n):=by
 apply propext;constructor
 ·intro h;apply YK.1;rw[aeB];omega
 ·intro h;rw[h,aeB];omega
def axe(s:Q0)(o:s.length<=140737488351232):TT.lim 275 [.s s]=some [.zq (JJ s)]:=by
 have w1:=bF ((1:Int));have l:=bF ((2:Int));have i:∀s:Q0,TT.lim 276 [.s s,.zq 2]=some [.zq 1]:=by intro s;refine au ?_;simp
 match s,o with
 |[],_=>
  have p:JJ []=1:=rfl;have q:TT.lim 276 [.s [],.zq 0]=some [.zq 0,.zq 1]:=by refine au ?_;simp
  rw[p];refine aT ?_;simp -implicitDefEqProofs[q]
 |[a],_=>
  rw[ai0];have e:=ads a 81 (by omega);have e:((a.toNat:Int)=81)=(a=81):=e;by_cases c:a=81
  ·rw[aj c];have g:TT.lim 276 [.s [a],.zq 1]=some [.zq 0,.zq 1]:=by refine au ?_;simp
   have d:(a=81)=True:=eq_true c;clear c;have f:TT.lim 276 [.s [a],.zq 0]=some [.zq 0,.zq 1]:=by refine au ?_;simp -implicitDefEqProofs[w1,e,d,g]
   refine aT ?_;simp -implicitDefEqProofs[f]
  ·rw[ah c];have f:TT.lim 276 [.s [a],.zq 0]=some [.zq 0,.zq 5]:=by refine au ?_;simp -implicitDefEqProofs[w1,e,c]
   refine aT ?_;simp -implicitDefEqProofs[f]
 |a::b::r,_=>
  rw[axg];have e:((a.toNat:Int)=81)=(a=81):=ads a 81 (by omega);have m:((b.toNat:Int)=70)=(b=70):=ads b 70 (by omega);have j:¬(0:Int)=(r.length:Int)+1+1:=by omega
  have n:¬(1:Int)=(r.length:Int)+1+1:=by omega
  have i:=i (a::b::r);by_cases c:a=81
  ·rw[aj c];have d:(a=81)=True:=eq_true c;clear c;by_cases h:b=70
   ·rw[aj h];have k:(b=70)=True:=eq_true h;clear h;have g:TT.lim 276 [.s (a::b::r),.zq 1]=some [.zq 1]:=by refine au ?_;simp -implicitDefEqProofs[n,l,m,k,i]
    have f:TT.lim 276 [.s (a::b::r),.zq 0]=some [.zq 1]:=by refine au ?_;simp -implicitDefEqProofs[j,w1,e,d,g]
    refine aT ?_;simp -implicitDefEqProofs[f]
   ·rw[ah h];have g:TT.lim 276 [.s (a::b::r),.zq 1]=some [.zq 0,.zq 5]:=by refine au ?_;simp -implicitDefEqProofs[n,l,m,h]
    have f:TT.lim 276 [.s (a::b::r),.zq 0]=some [.zq 0,.zq 5]:=by refine au ?_;simp -implicitDefEqProofs[j,w1,e,d,g]
    refine aT ?_;simp -implicitDefEqProofs[f]
  ·rw[ah c];have f:TT.lim 276 [.s (a::b::r),.zq 0]=some [.zq 0,.zq 5]:=by refine au ?_;simp -implicitDefEqProofs[j,w1,e,c]
   refine aT ?_;simp -implicitDefEqProofs[f]
def ajF(s:Q0)(R:s.length<=100000000):TT.lim 274 [.s s]=some [.s (kU s).1,.zq (kU s).2.1,.zq (kU s).2.2]:=by
 have h:=axe s (by omega);unfold kU;by_cases c:JJ s=0;rotate_left
 ·rw[aj c];refine aT ?_;simp -implicitDefEqProofs[h,c]
 rw[ah (by simpa using c)];rw[c]at h;have S:2<=s.length:=by
  match s,c with
  |[],c=>exact absurd c (by decide)
  |[a],c=>rw[ai0]at c;split at c<;>simp at c
  |a::b::r,_=>simp
 have m:=vP (s.drop 2) (by rw[fH];omega);have f:=@lF (s.drop 2);have o:(s.take s.length).drop 2=s.drop 2:=by rw[Ak]
 have p:(2:Int)<=(s.length:Int):=by omega
 generalize aB (s.drop 2)=G at *;obtain⟨n,k,e⟩:=G;simp only at m f⊢;by_cases q:e=0;rotate_left
 ·rw[aj q];refine aT ?_;simp -implicitDefEqProofs[h,o,p,m,q]
 rw[ah (by simpa using q)];have f:=(f q).len;rw[fH]at f;subst q;by_cases F:65536<n
 ·rw[aj F];have d:(65536:Int)<n:=by omega
  refine aT ?_;simp -implicitDefEqProofs[h,o,p,m,d]
 rw[ah F];have d:¬(65536:Int)<n:=by omega
 have w:=bF ((n:Int));have i:=bF ((n:Int)+4);have x:=bF (2+(k:Int));have j:2+(k:Int)<=(s.length:Int):=by omega
 have y:(0:Int)<=2+(k:Int):=by omega
 have l:s.drop (2+(k:Int)).toNat=s.drop (2+k):=by congr 1
 have T:(s.drop (2+k)).length=s.length-(2+k):=fH;generalize s.drop (2+k)=B at *;by_cases H:B.length<n+4
 ·rw[aj H];have g:(B.length:Int)<(n:Int)+4:=by omega
  refine aT ?_;simp -implicitDefEqProofs[h,o,p,m,d,w,i,x,j,y,l,g]
 rw[ah H];have g:¬(B.length:Int)<(n:Int)+4:=by omega
 have I:(0:Int)<=(n:Int):=by omega
 have J:(n:Int)<=(n:Int)+4:=by omega
 have L:(n:Int)<=(B.length:Int):=by omega
 have t:(n:Int)+4<=(B.length:Int):=by omega
 have M:((n:Int)).toNat=n:=by omega
 have N:((n:Int)+4).toNat=n+4:=by omega
 have z:(B.take n).length<=65536:=by rw[lN];omega
 have A:((B.take (n+4)).drop n).length=4:=by rw[fH,lN];omega
 have u:=aoX (B.take n) ((B.take (n+4)).drop n) z A;have O:=ahb n (by omega);generalize P:(B.take (n+4)).drop n=K at *;generalize Q:B.take n=D at *;by_cases v:(OB K:Int)=iU D
 ·rw[aj v];have E:decide ((OB K:Int)=iU D)=true:=by simpa using v
  rw[E]at u;refine aT ?_;simp -implicitDefEqProofs[h,o,p,m,d,w,i,x,j,y,l,g,I,J,L,t,M,N,Q,P,u,O]
 ·rw[ah v];have E:decide ((OB K:Int)=iU D)=false:=by simpa using v
  rw[E]at u;refine aT ?_;simp -implicitDefEqProofs[h,o,p,m,d,w,i,x,j,y,l,g,I,J,L,t,M,N,Q,P,u,O]
def ajG{p:Q0}(h:p.length<=65536):kU (jf p)=(p,(((jf p).length:Nat):Int),0):=by have i:=ayW h;have j:=aah p;have k:=OO 3 p.length (by omega) (by omega);have d:=ajF (jf p) (by omega);rw[i]at d;simp only[aY,xH,GV.s.injEq,GV.i.injEq,and_true,true_and]at d;obtain⟨e,f,g⟩:=d;generalize kU (jf p)=R at *;obtain⟨a,b,c⟩:=R;simp only at e f g;rw[<-e,<-f,<-g]
def ayX(s:Q0):(kU s).1.length<=s.length:=by
 unfold kU;repeat' split
 all_goals first|simp;done|(simp only[lN,fH];omega)
structure Fa where
 dr:Bool
 c:Nat
 d:Nat
 cu:Int
 at_:Int
 rY:Nat
def bn(f:Fa):GV:=.g [.b f.dr,.i .u8 (f.c:Int),.i .u8 (f.d:Int),.zq f.cu,.zq f.at_,.i .u8 (f.rY:Int)]
@[simp] theorem aG1(f:Fa):(bn f).cells=[.b f.dr,.i .u8 (f.c:Int),.i .u8 (f.d:Int),.zq f.cu,.zq f.at_,.i .u8 (f.rY:Int)]:=rfl
structure FM(f:Fa):Prop where
 c:f.c<=3
 d:f.d<256
 rY:f.rY<256
 cu:f.cu<=9223372036854775807
 at_:f.at_<=9223372036854775807
def amx(x:UInt8):zA x 0=x:=by unfold zA;rw[Nat.xor_zero,UInt8.ofNat_toNat]
def zM(f:Fa)(t:Q0):Q0:=if 0<f.cu/\f.cu<t.length then t.take f.cu.toNat else t
def KR(f:Fa)(u:Q0):Q0:=if f.at_<0 then u else if(u.length:Int)<=f.at_ then u else u.set f.at_.toNat (zA (u.getD f.at_.toNat 0) f.rY)
def kJ(f:Fa)(t:Q0):Q0:=KR f (zM f t)
def ao1(f:Fa)(t:Q0):(zM f t).length<=t.length:=by
 unfold zM;split
 ·rw[lN];omega
 ·omega
def aFa(f:Fa)(u:Q0):(KR f u).length=u.length:=by
 unfold KR;split
 ·rfl
 split
 ·rfl
 ·rw[Iq]
def asC(f:Fa)(t:Q0):(kJ f t).length<=t.length:=by unfold kJ;rw[aFa];exact ao1 f t
def nJ:Nat->Int->List UInt8->List It->Int->List It×Int
 |0,_,_,h,n=>(h,n)
 |m+1,a,t,h,n=>nJ m (a+1) t (uQ h (a,n,t)) (n+1)
def acC(a:Int)(t:Q0):∀(m:Nat)(h:List It)(n:Int),Heap h h.length->Heap (nJ m a t h n).1 (nJ m a t h n).1.length/\(nJ m a t h n).1.length=h.length+m/\(nJ m a t h n).2=n+m
 |0,h,n,b=>⟨b,rfl,by simp[nJ]⟩
 |m+1,h,n,b=>by have e:=N8 h (a,n,t) b;have d:=Ro h (a,n,t) b;have c:=acC (a+1) t m (uQ h (a,n,t)) (n+1) (by rw[d];exact e.1);unfold nJ;refine⟨c.1,by rw[c.2.1,d];omega,by rw[c.2.2];push_cast;omega⟩
def copies(now a:Int)(t:Q0)(L:Wc)(j k l:GV)(M:Nat)(p:M<=300)(q:0<=a/\a<=1000000000000):∀(m i:Nat)(h:List It)(n:Int),i+m=M->h.length+m<=100000->0<=n->n+m<=1000000->Heap h h.length->
 TT.lim 147 [.zu now,.s t,.zu a,.l (L.map .s),j,k,.zu (M:Int),.zu (i:Int),l,.l (h.map cZ),.zu n]=some [.zq 0,.l ((nJ m (a+i) t h n).1.map cZ),.zu (nJ m (a+i) t h n).2]
 |0,i,h,n,hi,r,o,s,f=>by
  have c:¬((i:Int)<(M:Int)):=by omega
  refine au ?_;simp -implicitDefEqProofs[c,nJ]
 |m+1,i,h,n,hi,r,o,s,f=>by
  have c:(i:Int)<(M:Int):=by omega
  have u:=N8 h (a+i,n,t) f;have b:=Ro h (a+i,n,t) f;have d:=az2 h (a+i) n t (by omega) ⟨o,by omega⟩;have g:=copies now a t L j k l M p q m (i+1) (uQ h (a+i,n,t)) (n+1) (by omega) (by rw[b];omega) (by omega) (by omega) (by rw[b];exact u.1);have e:a+((i+1:Nat):Int)=a+i+1:=by omega
  rw[e]at g;unfold nJ;generalize nJ m (a+i+1) t (uQ h (a+i,n,t)) (n+1)=R at *;generalize uQ h (a+i,n,t)=Q at *;have w1:=jA (a+(i:Int));have v:=jA ((i:Int)+1);rw[show((i+1:Nat):Int)=(i:Int)+1 from by omega]at g;refine au ?_;simp -implicitDefEqProofs[c,w1,v,d,g]
structure Lk where
 f:List Fa
 h:List It
 n:Int
def nK(now:Int)(t:Q0)(k:Lk):Lk:=match k.f with
 |[]=>{k with h:=(nJ 1 now t k.h k.n).1,n:=(nJ 1 now t k.h k.n).2}
 |f::r=>if f.dr=true then {k with f:=r}else {f:=r,h:=(nJ (f.c+1) (now+f.d) (kJ f t) k.h k.n).1,n:=(nJ (f.c+1) (now+f.d) (kJ f t) k.h k.n).2}
set_option maxHeartbeats 4000000 in
def ak6(now:Int)(t:Q0)(k:Lk)(hf:∀f∈k.f,FM f)(hk:k.f.length<=100000)(W:t.length<=100000000)(jE:0<=now/\now<=900000000000)(hl:k.h.length+4<=100000)(n0:0<=k.n)(hn:k.n+4<=1000000)(hh:Heap k.h k.h.length):
 TT.lim 145 [.zu now,.l [.s t],.l (k.f.map bn),.l (k.h.map cZ),.zu k.n]=some [.zq 0,.l ((nK now t k).f.map bn),.l ((nK now t k).h.map cZ),.zu (nK now t k).n]:=by
 have w1:IntKind.i64.wrap 1=1:=rfl;have e:∀(O:Q1)(H:List It)(n:Int),TT.lim 146 [.zu now,.l [.s t],.zq 1,.zq 1,.l O,.l (H.map cZ),.zu n]=some [.zq 0,.l O,.l (H.map cZ),.zu n]:=by intro O H n;refine au ?_;simp
 suffices h:TT.lim 146 [.zu now,.l [.s t],.zq 1,.zq 0,.l (k.f.map bn),.l (k.h.map cZ),.zu k.n]=some [.zq 0,.l ((nK now t k).f.map bn),.l ((nK now t k).h.map cZ),.zu (nK now t k).n] by generalize nK now t k=R,k.f.map bn=FG,k.h.map cZ=HG at *;refine au ?_;simp -implicitDefEqProofs[h]
 obtain⟨O,H,n⟩:=k;simp only at *;cases O with
 |nil=>
  unfold nK;simp only[jI];have b:=copies now now t [t] (.zq 1) (.zq 0) (.l []) 1 (by omega) (by omega) 1 0 H n (by omega) (by omega) n0 (by omega) hh;rw[show now+((0:Nat):Int)=now from by omega]at b;have hw:=jA now;have e:=e [] (nJ 1 now t H n).1 (nJ 1 now t H n).2;generalize nJ 1 now t H n=R at *;have b:TT.lim 147 [.zu now,.s t,.zu now,.l [.s t],.zq 1,.zq 0,.zu 1,.zu 0,.l [],.l (H.map cZ),.zu n]=some [.zq 0,.l (R.1.map cZ),.zu R.2]:=b;cases t with
  |nil=>refine au ?_;simp -implicitDefEqProofs[hw,w1,b,e]
  |cons x r=>
   obtain⟨l,m,j⟩:=alb (u:=x::r) (k:=0) (by simp) (zA x 0);have X:=amy x 0 (by omega);have b0:(x::r).set 0 (zA x 0)=x::r:=by rw[amx];rfl
   rw[b0]at j;have m:at2 1 (some (.l (dh (x::r)))) (some (.zq 0))=some (.i .u8 (x.toNat:Int)):=m;have l:Ey (some (.l (dh (x::r)))) (some (.zq 0))=some (.zq 0):=l;have j:FB 1 0 (some (.l (dh (x::r)))) (some (.zq 0)) (some [.i .u8 ((zA x 0).toNat:Int)])=some (.l (dh (x::r))):=j;have bk:=Zc (x::r);have bl:(dh (x::r)).length<=2^48:=by simp only[dh,gG];simp only[gV]at W⊢;omega
   have Y:¬((r.length:Int)+1<=0):=by omega
   have X:bV .xor .u8 (x.toNat:Int) 0=some (.i .u8 ((zA x 0).toNat:Int)):=X;have o:at2 1 (some (.l [.s (x::r)])) (some (.zq 0))=some (.s (x::r)):=rfl;generalize i:dh (x::r)=Z at *;generalize zA x 0=y at *;refine au ?_;simp -implicitDefEqProofs[-jF,-eF,-uZ,o,i,hw,w1,Y,l,m,X,j,bk,bl,b,e]
 |cons f r=>
  unfold nK;simp only[iP];have fo:=hf f (by simp);have aa:(r.length:Int)+1>0:=by omega
  have w:((r.map bn).length:Int)=(r.length:Int):=by rw[gG]
  have o:at2 1 (some (.l [.s t])) (some (.zq 0))=some (.s t):=rfl;have z:at2 6 (some (.l (bn f::r.map bn))) (some (.zq 0))=some (bn f):=rfl;have a:NH 6 (some (.l (bn f::r.map bn))) (some (.zq 1)) (some (.zq ((r.length:Int)+1)))=some (.l (r.map bn)):=by
   rw[mY,aj]
   ·rw[show((r.length:Int)+1).toNat=r.length+1 from by omega,show(1:Int).toNat=1 from rfl,lG (by simp)];rfl
   ·refine⟨by omega,by omega,by simp,?_⟩;rw[List.all_eq_true];intro g hg;rcases bH.1 hg with rfl|hg
    ·rfl
    ·obtain⟨x,-,rfl⟩:=rM.1 hg;rfl
  by_cases V:f.dr=true
  ·rw[aj V];have e:=e (r.map bn) H n;generalize r.map bn=A at *;refine au ?_;simp -implicitDefEqProofs[-mY,-eF,o,z,w,w1,V,a,e]
  rw[ah V];have B:f.dr=false:=by simpa using V
  have c3:=fo.c;have hd:=fo.d;have b:=copies now (now+f.d) (kJ f t) [t] (.zq 1) (.zq 0) (.l (r.map bn)) (f.c+1) (by omega) (by omega) (f.c+1) 0 H n (by omega) (by omega) n0 (by omega) hh;rw[show now+(f.d:Int)+((0:Nat):Int)=now+f.d from by omega]at b;have e:=e (r.map bn) (nJ (f.c+1) (now+f.d) (kJ f t) H n).1 (nJ (f.c+1) (now+f.d) (kJ f t) H n).2;generalize nJ (f.c+1) (now+f.d) (kJ f t) H n=R at *;have b:TT.lim 147 [.zu now,.s (kJ f t),.zu (now+f.d),.l [.s t],.zq 1,.zq 0,.zu ((f.c:Int)+1),.zu 0,.l (r.map bn),.l (H.map cZ),.zu n]=some [.zq 0,.l (R.1.map cZ),.zu R.2]:=by
   have e2:((f.c+1:Nat):Int)=(f.c:Int)+1:=by omega
   rw[e2]at b;exact b
  have E:=jA ((f.d:Int));have F:=jA ((f.c:Int));have G:=jA ((f.c:Int)+1);have I:=jA (now+(f.d:Int))
  have p:∀u:Q0,zM f t=u->u.length<=100000000->(f.at_<0/\kJ f t=u)\/(¬f.at_<0/\(u.length:Int)<=f.at_/\kJ f t=u)\/
   (¬f.at_<0/\¬(u.length:Int)<=f.at_/\∃(x:UInt8)(y:UInt8),Ey (some (.l (dh u))) (some (.zq f.at_))=some (.zq f.at_)/\at2 1 (some (.l (dh u))) (some (.zq f.at_))=some (.i .u8 (x.toNat:Int))/\bV .xor .u8 (x.toNat:Int) (f.rY:Int)=some (.i .u8 (y.toNat:Int))/\
    FB 1 0 (some (.l (dh u))) (some (.zq f.at_)) (some [.i .u8 (y.toNat:Int)])=some (.l (dh (kJ f t)))/\(dh (kJ f t)).length<=2^48/\ou (dh (kJ f t))=some (kJ f t)):=by
   intro u J Ew;by_cases c:f.at_<0
   ·refine .inl ⟨c,?_⟩;unfold kJ KR;rw[J,aj c]
   by_cases d:(u.length:Int)<=f.at_
   ·refine .inr (.inl ⟨c,d,?_⟩);unfold kJ KR;rw[J,ah c,aj d]
   ·refine .inr (.inr ⟨c,d,u.getD f.at_.toNat 0,zA (u.getD f.at_.toNat 0) f.rY,?_⟩);obtain⟨l,m,j⟩:=alb (u:=u) (k:=f.at_.toNat) (by omega) (zA (u.getD f.at_.toNat 0) f.rY);rw[Il (by omega)]at l m j;have P:kJ f t=u.set f.at_.toNat (zA (u.getD f.at_.toNat 0) f.rY):=by unfold kJ KR;rw[J,ah c,ah d]
    refine⟨l,m,amy _ _ fo.rY,by rw[P];exact j,?_,Zc _⟩;rw[P];simp only[dh,gG,Iq];omega
  by_cases q:0<f.cu
  ·by_cases L:f.cu<t.length
   ·have J:zM f t=t.take f.cu.toNat:=by unfold zM;rw[aj ⟨q,L⟩]
    have Ew:(t.take f.cu.toNat).length<=100000000:=by rw[lN];omega
    have M:f.cu<=(t.length:Int):=by omega
    have N:0<=f.cu:=by omega
    rcases p _ J Ew with⟨c,s⟩|⟨c,d,s⟩|⟨c,d,x,y,l,m,j,Q,S,T⟩
    ·rw[s]at b;generalize v:t.take f.cu.toNat=u at *;generalize r.map bn=A at *;refine au ?_;simp -implicitDefEqProofs[-mY,-eF,o,z,w,v,w1,B,a,q,L,M,N,c,E,F,G,I,b,e]
    ·rw[s]at b;generalize v:t.take f.cu.toNat=u at *;generalize r.map bn=A at *;refine au ?_;simp -implicitDefEqProofs[-mY,-eF,o,z,w,v,w1,B,a,q,L,M,N,c,d,E,F,G,I,b,e]
    ·generalize kJ f t=D at *;generalize v:t.take f.cu.toNat=u at *;generalize i:dh u=Z at *;generalize dh D=DG,r.map bn=A at *;refine au ?_;simp -implicitDefEqProofs[-jF,-eF,-uZ,-mY,o,z,w,i,v,w1,B,a,q,L,M,N,c,d,l,m,j,Q,S,T,E,F,G,I,b,e]
   ·have J:zM f t=t:=by unfold zM;rw[ah (λh=>L h.2)]
    rcases p _ J W with⟨c,s⟩|⟨c,d,s⟩|⟨c,d,x,y,l,m,j,Q,S,T⟩
    ·rw[s]at b;generalize r.map bn=A at *;refine au ?_;simp -implicitDefEqProofs[-mY,-eF,o,z,w,w1,B,a,q,L,c,E,F,G,I,b,e]
    ·rw[s]at b;generalize r.map bn=A at *;refine au ?_;simp -implicitDefEqProofs[-mY,-eF,o,z,w,w1,B,a,q,L,c,d,E,F,G,I,b,e]
    ·generalize kJ f t=D at *;generalize i:dh t=Z at *;generalize dh D=DG,r.map bn=A at *;refine au ?_;simp -implicitDefEqProofs[-jF,-eF,-uZ,-mY,o,z,w,i,w1,B,a,q,L,c,d,l,m,j,Q,S,T,E,F,G,I,b,e]
  ·have J:zM f t=t:=by unfold zM;rw[ah (λh=>q h.1)]
   rcases p _ J W with⟨c,s⟩|⟨c,d,s⟩|⟨c,d,x,y,l,m,j,Q,S,T⟩
   ·rw[s]at b;generalize r.map bn=A at *;refine au ?_;simp -implicitDefEqProofs[-mY,-eF,o,z,w,w1,B,a,q,c,E,F,G,I,b,e]
   ·rw[s]at b;generalize r.map bn=A at *;refine au ?_;simp -implicitDefEqProofs[-mY,-eF,o,z,w,w1,B,a,q,c,d,E,F,G,I,b,e]
   ·generalize kJ f t=D at *;generalize i:dh t=Z at *;generalize dh D=DG,r.map bn=A at *;refine au ?_;simp -implicitDefEqProofs[-jF,-eF,-uZ,-mY,o,z,w,i,w1,B,a,q,c,d,l,m,j,Q,S,T,E,F,G,I,b,e]
structure Pr where
 s0:bP
 s1:bP
 k0:Lk
 k1:Lk
 now:Int
 rc:Ys
def oM(e:Int×Int×Int):GV:=.g [.zu e.1,.zq e.2.1,.zq e.2.2]
@[simp] theorem aGY(e:Int×Int×Int):(oM e).cells=[.zu e.1,.zq e.2.1,.zq e.2.2]:=rfl
def U8(a b c:Int):GV.g [.zu a,.zq b,.zq c]=oM (a,b,c):=rfl
def dS(k:Lk):Q1:=[.l (k.f.map bn),.l (k.h.map cZ),.zu k.n]
def bW(x:Pr):Q1:=[.zu x.now,.l (x.rc.map oM)]++(dS x.k1++(dS x.k0++(cO x.s1++cO x.s0)))
def iI(x:Pr):Q1:=.l (x.rc.map oM)::(dS x.k1++(dS x.k0++(lJ x.s1++lJ x.s0)))
def Dead(t:Q0):Prop:=(kU t).2.2=0->¬(kU t).2.1<t.length->sZ [2,7,8] (kU t).1
noncomputable def wT (t:Q0):Nat:=@ite Nat (Dead t) (Classical.propDecidable _) 2 5
def SA(t:Q0):2<=wT t/\wT t<=5:=by unfold wT;split<;>omega
def amn{t:Q0}(h:Dead t):wT t=2:=by unfold wT;rw[aj h]
def aFM{t:Q0}(h:¬Dead t):wT t=5:=by unfold wT;rw[ah h]
noncomputable def wQ:List It->Nat
 |[]=>0
 |x::r=>wT x.2.2+wQ r
noncomputable def wS:Wc->Nat
 |[]=>0
 |x::r=>wT x+wS r
def amm{a b:List It}(h:a.Perm b):wQ a=wQ b:=by
 induction h with
 |nil=>rfl
 |cons x _ c=>simp only[wQ];omega
 |swap x y l=>simp only[wQ];omega
 |trans _ _ d e=>omega
def aFL(a b:List It):wQ (a++b)=wQ a+wQ b:=by
 induction a with
 |nil=>simp[wQ]
 |cons x r c=>simp only[bg,wQ];omega
def adE(a:List It):2*a.length<=wQ a:=by
 induction a with
 |nil=>simp[wQ]
 |cons x r b=>have:=SA x.2.2;simp only[gV,wQ];omega
def acD(t:Q0):∀(m:Nat)(a:Int)(h:List It)(n:Int),Heap h h.length->wQ (nJ m a t h n).1=wQ h+m*wT t
 |0,a,h,n,b=>by simp[nJ]
 |m+1,a,h,n,b=>by have c:=N8 h (a,n,t) b;have d:=Ro h (a,n,t) b;have e:=acD t m (a+1) (uQ h (a,n,t)) (n+1) (by rw[d];exact c.1);unfold nJ;rw[e,amm c.2,aFL];simp only[wQ];rw[tH];omega
def Rq(t:Q0):∀(m:Nat)(a:Int)(h:List It)(n:Int),Heap h h.length->∀y∈(nJ m a t h n).1,y∈h\/(y.2.2=t/\a<=y.1)
 |0,a,h,n,b,y,c=>.inl c
 |m+1,a,h,n,b,y,c=>by
  have d:=N8 h (a,n,t) b;have e:=Ro h (a,n,t) b;rcases Rq t m (a+1) (uQ h (a,n,t)) (n+1) (by rw[e];exact d.1) y c with q|⟨f,g⟩
  ·rcases jJ.1 (d.2.mem_iff.1 q)with q|q
   ·exact .inl q
   ·rw[jK.1 q];exact .inr ⟨rfl,gW _⟩
  ·exact .inr ⟨f,by omega⟩
structure yL(k:Lk):Prop where
 f:∀f∈k.f,FM f
 h:Heap k.h k.h.length
 n:0<=k.n
 t:∀y∈k.h,y.2.2.length<=70000
noncomputable def nR (k:Lk):Nat:=k.n.toNat+wQ k.h+24*k.f.length
def Xw{now:Int}{t:Q0}{k:Lk}(e:yL k)(v:t.length<=70000):yL (nK now t k)/\nR (nK now t k)<=nR k+1+wT t/\(nK now t k).f.length<=k.f.length:=by
 obtain⟨w,H,n⟩:=k;have c:=e.n;have a:=e.h;have b:=e.t;have i:=e.f;simp only at c a b i;cases w with
 |nil=>
  unfold nK;simp only;obtain⟨j,x,l⟩:=acC now t 1 H n a;have m:=acD t 1 now H n a;have o:=Rq t 1 now H n a;refine⟨⟨(λf h=>by cases h),j,by simp only;omega,λy p=>?_⟩,?_,by simp⟩
  ·rcases o y p with q|⟨q,-⟩
   ·exact b y q
   ·rw[q];exact v
  ·unfold nR;simp only[m,l,kY];omega
 |cons f r=>
  unfold nK;simp only;have d:∀g∈r,FM g:=λg z=>i g (by simp[z]);by_cases s:f.dr=true
  ·rw[aj s];refine⟨⟨d,a,c,b⟩,?_,by simp⟩;unfold nR;simp only[gV];omega
  ·rw[ah s];have A:=i f (by simp);have E:=A.c;obtain⟨j,x,l⟩:=acC (now+f.d) (kJ f t) (f.c+1) H n a;have m:=acD (kJ f t) (f.c+1) (now+f.d) H n a;have o:=Rq (kJ f t) (f.c+1) (now+f.d) H n a;have B:=asC f t;refine⟨⟨d,j,by simp only;omega,λy p=>?_⟩,?_,by simp⟩
   ·rcases o y p with q|⟨q,-⟩
    ·exact b y q
    ·rw[q];omega
   ·have D:=(SA (kJ f t)).2;have u:(f.c+1)*wT (kJ f t)<=4*5:=Nat.mul_le_mul (by omega) D;unfold nR;simp only[m,l,gV];omega
def jw(now:Int):Wc->Lk->Lk
 |[],k=>k
 |t::r,k=>jw now r (nK now (jf t) k)
noncomputable def wW:Wc->Nat
 |[]=>0
 |x::r=>1+wT (jf x)+wW r
def Vs{t:Q0}(h:t.length<=65536):(jf t).length<=70000:=by have a:=OO 3 t.length (by omega) (by omega);rw[aah];omega
def RF{now:Int}:∀(T:Wc){k:Lk},yL k->(∀t∈T,t.length<=65536)->yL (jw now T k)/\nR (jw now T k)<=nR k+wW T/\(jw now T k).f.length<=k.f.length
 |[],k,a,_=>⟨a,by simp[jw,wW],dD _⟩
 |t::r,k,a,b=>by obtain⟨h1,e,f⟩:=Xw (now:=now) a (Vs (b t (by simp)));obtain⟨c,g,h⟩:=RF (now:=now) r h1 (λu d=>b u (by simp[d]));exact⟨c,by simp only[jw,wW];omega,by simp only[jw];omega⟩
def agA(t:Q0):Int:=if(kU t).2.2=0 then 10 else(kU t).2.2
def mP(i:Nat)(t:Q0)(x:Pr):Pr:=
 if(kU t).2.2=0/\¬(kU t).2.1<t.length then
  (if i=0 then {x with s0:=(eX (kU t).1 x.s0).1,k0:=jw x.now (eX (kU t).1 x.s0).2.1 x.k0,rc:=x.rc++[(x.now,0,(eX (kU t).1 x.s0).2.2)]}
   else {x with s1:=(eX (kU t).1 x.s1).1,k1:=jw x.now (eX (kU t).1 x.s1).2.1 x.k1,rc:=x.rc++[(x.now,1,(eX (kU t).1 x.s1).2.2)]})
 else {x with rc:=x.rc++[(x.now,(i:Int),agA t)]}
structure gI(x:Pr):Prop where
 s0:kG x.s0
 s1:kG x.s1
 k0:yL x.k0
 k1:yL x.k1
 now:0<=x.now
noncomputable def dW (x:Pr):Nat:=nR x.k0+nR x.k1+x.rc.length
def Xt{b:aO}{v:Int}{u:Q0}(h:u∈jW b v)(c:b.kind=2\/b.kind=7\/b.kind=8):u.length<=65536/\sZ [2,7,8] u:=by obtain⟨d,f⟩:=EU h (by omega) (by omega);exact⟨f,NC d λk a=>by rw[jK.1 a];rcases c with e|e|e<;>rw[e]<;>simp⟩
def Ju(t:Q0)(s:bP):∀u∈(eX t s).2.1,u.length<=65536/\sZ [2,7,8] u:=by
 intro u a;unfold eX at a;split at a;rotate_left
 ·cases a
 unfold vW at a;split at a
 ·unfold lS at a;repeat' split at a
  all_goals first|(cases a;done)|exact Xt a (.inl rfl)|exact Xt a (.inr (.inr rfl))
 split at a
 ·unfold AZ at a;repeat' split at a
  all_goals cases a
 split at a
 ·unfold lX at a;split at a;rotate_left
  ·cases a
  simp only at a;split at a
  ·cases a
  next c=>
  rcases ado (gq (iK t (jd s)).1 (iK t (jd s)).2.1 s.vs) s.vs (iK t (jd s)).1.kind (iK t (jd s)).1.epoch (iK t (jd s)).1.base (iK t (jd s)).1.t s.sm s.h with e|e|e
  ·exact absurd e c
  ·exact Xt a (.inr (.inl e))
  ·exact Xt a (.inr (.inr e))
 split at a
 ·unfold qA at a;split at a<;>cases a
 split at a
 ·unfold noS at a;repeat' split at a
  all_goals cases a
 ·cases a
def ahA{t:Q0}{s:bP}(h:sZ [2,7,8] t):(eX t s).2.1=[]:=by
 unfold eX;split;rotate_left
 ·rfl
 next e=>
 have a:=h _ e;have a:(iK t (jd s)).1.kind=2\/(iK t (jd s)).1.kind=7\/(iK t (jd s)).1.kind=8:=by simpa using a
 unfold vW;rw[dA];split
 ·unfold AZ;repeat' split
  all_goals rfl
 rw[dA];split
 ·unfold qA;split<;>rfl
 split
 ·unfold noS;repeat' split
  all_goals rfl
 ·rfl
def Xj{t:Q0}{s:bP}:wW (eX t s).2.1<=3:=by
 have a:=aay t s;have b:=Ju t s;generalize(eX t s).2.1=U at *;match U,a with
 |[],_=>simp[wW]
 |[u],_=>
  obtain⟨c,d⟩:=b u (by simp);have e:Dead (jf u):=by intro _ _;rw[ajG c];exact d
  simp only[wW,amn e];omega
def UW{i:Nat}{t:Q0}{x:Pr}(a:gI x):gI (mP i t x)/\dW (mP i t x)+1<=dW x+wT t:=by
 have m:=SA t;unfold mP;by_cases c:(kU t).2.2=0/\¬(kU t).2.1<t.length;rotate_left
 ·rw[ah c];refine⟨⟨a.s0,a.s1,a.k0,a.k1,a.now⟩,?_⟩;unfold dW;simp only[eP,gV,kY];omega
 rw[aj c];have h:=@Xj (kU t).1 x.s0;have j:=@Xj (kU t).1 x.s1;by_cases b:Dead t
 ·have g:=b c.1 c.2;rw[amn b];rw[ahA g,ahA g];split
  ·refine⟨⟨Np a.s0,a.s1,a.k0,a.k1,a.now⟩,?_⟩;unfold dW;simp only[jw,eP,gV,kY];omega
  ·refine⟨⟨a.s0,Np a.s1,a.k0,a.k1,a.now⟩,?_⟩;unfold dW;simp only[jw,eP,gV,kY];omega
 ·rw[aFM b];split
  ·obtain⟨d,k,l⟩:=RF (now:=x.now) (eX (kU t).1 x.s0).2.1 a.k0 (λu f=>(Ju _ _ u f).1);refine⟨⟨Np a.s0,a.s1,d,a.k1,a.now⟩,?_⟩;unfold dW;simp only[eP,gV,kY];omega
  ·obtain⟨d,k,l⟩:=RF (now:=x.now) (eX (kU t).1 x.s1).2.1 a.k1 (λu f=>(Ju _ _ u f).1);refine⟨⟨a.s0,Np a.s1,a.k0,d,a.now⟩,?_⟩;unfold dW;simp only[eP,gV,kY];omega
def U5(t:Int):∀(m:Nat)(h:List It),h.length=m->Heap h h.length->wQ h=wS (fJ m t h).1+wQ (fJ m t h).2/\(∀y∈(fJ m t h).2,y∈h)/\(∀u∈(fJ m t h).1,∃y∈h,y.2.2=u)
 |0,h,b,c=>by obtain rfl:=aef.1 b;exact⟨rfl,λy a=>a,λu hu=>by cases hu⟩
 |m+1,h,b,c=>by
  unfold fJ;split
  ·exact⟨by simp[wS],λy a=>a,λu hu=>by cases hu⟩
  ·obtain⟨r1,r2,r3,-⟩:=Xk h m b (by rw[<-b];exact c);obtain⟨i,d,f⟩:=U5 t m (nY h) r1 (by rw[r1];exact r2);have g:=amm r3;simp only[wQ]at g;refine⟨?_,λy a=>r3.mem_iff.1 (yK _ (d y a)),λu hu=>?_⟩
   ·simp only[wS];omega
   ·rcases bH.1 hu with e|hu
    ·exact⟨at_ h 0,r3.mem_iff.1 OZ,e.symm⟩
    ·obtain⟨y,a,e⟩:=f u hu;exact⟨y,r3.mem_iff.1 (yK _ a),e⟩
def qV(i:Nat):Wc->Pr->Pr
 |[],x=>x
 |t::r,x=>qV i r (mP i t x)
def Zz{i:Nat}:∀(T:Wc){x:Pr},gI x->gI (qV i T x)/\dW (qV i T x)+T.length<=dW x+wS T
 |[],x,a=>⟨a,by simp[qV,wS]⟩
 |t::r,x,a=>by obtain⟨h1,c⟩:=UW (i:=i) (t:=t) a;obtain⟨b,d⟩:=Zz (i:=i) r h1;refine⟨b,?_⟩;simp only[qV,wS,gV];omega
def zN(x:Pr):Pr:={x with k0:={x.k0 with h:=(fJ x.k0.h.length x.now x.k0.h).2}}
def AQ(x:Pr):Pr:={x with k1:={x.k1 with h:=(fJ x.k1.h.length x.now x.k1.h).2}}
def ML{k:Lk}(t:Int)(a:yL k):yL {k with h:=(fJ k.h.length t k.h).2}/\nR {k with h:=(fJ k.h.length t k.h).2}+wS (fJ k.h.length t k.h).1=nR k/\∀u∈(fJ k.h.length t k.h).1,u.length<=70000:=by
 obtain⟨i,c,d⟩:=U5 t k.h.length k.h rfl a.h;have f:=(U4 t k.h.length k.h rfl a.h).1;refine⟨⟨a.f,f,a.n,λy b=>a.t y (c y b)⟩,?_,λu g=>?_⟩
 ·unfold nR;simp only;omega
 ·obtain⟨y,b,e⟩:=d u g;rw[<-e];exact a.t y b
def yh(x:Pr):Pr:=qV 1 (fJ x.k0.h.length x.now x.k0.h).1 (zN x)
def yY(x:Pr):Pr:=qV 0 (fJ x.k1.h.length x.now x.k1.h).1 (AQ x)
def uG(x:Pr):Pr:=yY (yh x)
def ahv{x:Pr}(a:gI x):gI (yh x)/\dW (yh x)+(fJ x.k0.h.length x.now x.k0.h).1.length<=dW x:=by
 obtain⟨d1,d2,d3⟩:=ML x.now a.k0;obtain⟨b,c⟩:=Zz (i:=1) (fJ x.k0.h.length x.now x.k0.h).1 (x:=zN x) ⟨a.s0,a.s1,d1,a.k1,a.now⟩;refine⟨b,?_⟩;have e:dW (zN x)+wS (fJ x.k0.h.length x.now x.k0.h).1=dW x:=by unfold dW zN;simp only;omega
 unfold yh;omega
def ava{x:Pr}(a:gI x):gI (yY x)/\dW (yY x)+(fJ x.k1.h.length x.now x.k1.h).1.length<=dW x:=by
 obtain⟨d1,d2,d3⟩:=ML x.now a.k1;obtain⟨b,c⟩:=Zz (i:=0) (fJ x.k1.h.length x.now x.k1.h).1 (x:=AQ x) ⟨a.s0,a.s1,a.k0,d1,a.now⟩;refine⟨b,?_⟩;have e:dW (AQ x)+wS (fJ x.k1.h.length x.now x.k1.h).1=dW x:=by unfold dW AQ;simp only;omega
 unfold yY;omega
def Zv(i:Nat)(t:Q0)(x:Pr):(mP i t x).now=x.now:=by
 unfold mP;split
 ·split<;>rfl
 ·rfl
def Zy(i:Nat):∀(T:Wc)(x:Pr),(qV i T x).now=x.now
 |[],x=>rfl
 |t::r,x=>(Zy i r _).trans (Zv i t x)
def ahu(x:Pr):(yh x).now=x.now:=Zy 1 _ _
def ahx(x:Pr):(yY x).now=x.now:=Zy 0 _ _
def UE(x:Pr):(uG x).now=x.now:=(ahx _).trans (ahu x)
def nextL(h:List It):Option Int:=if h=[]then none else some (at_ h 0).1
def oH(x:Pr):Option Int:=match nextL x.k0.h,nextL x.k1.h with
 |some a,some b=>some (if b<a then b else a)
 |some a,none=>some a
 |none,o=>o
def agw{h:List It}{a t:Int}(b:nextL h=some a)(d:a<=t):(fJ h.length t h).1≠[]:=by
 unfold nextL at b;split at b
 ·cases b
 next c=>
 injection b with b
 cases h with
 |nil=>exact absurd rfl c
 |cons y r=>simp only[gV];unfold fJ;rw[ah (λe=>e.elim (λe=>by cases e) (λe=>by omega))];simp
def uU:Nat->Pr->Pr
 |0,x=>x
 |f+1,x=>match oH x with
  |none=>x
  |some a=>if a<=x.now then uU f (uG x)else x
def asJ{h:List It}{t:Int}(b:∀a,nextL h=some a->t<a):fJ h.length t h=([],h):=by
 cases d:h.length with
 |zero=>rfl
 |succ m=>
  unfold fJ;rw[aj];by_cases c:h=[]
  ·exact .inl c
  ·exact .inr (b _ (by unfold nextL;rw[ah c]))
def Zi{x:Pr}(k:gI x){a:Int}(d:oH x=some a)(l:a<=x.now):gI (uG x)/\dW (uG x)<dW x:=by
 obtain⟨m,u⟩:=ahv k;obtain⟨n,o⟩:=ava m;refine⟨n,?_⟩;unfold uG;by_cases c:(fJ x.k0.h.length x.now x.k0.h).1=[]
 rotate_left
 ·have:=Ls.2 c;omega
 have i:∀a,nextL x.k0.h=some a->x.now<a:=λa h=>by
  rcases adZ x.now a with q|q
  ·exact q
  ·exact absurd c (agw h q)
 have p:yh x=x:=by have e:=asJ i;unfold yh zN;rw[e];rfl
 have r:∃b,nextL x.k1.h=some b/\b<=x.now:=by
  unfold oH at d;cases f:nextL x.k0.h with
  |none=>rw[f]at d;exact⟨a,d,l⟩
  |some s=>
   have:=i s f;rw[f]at d;cases j:nextL x.k1.h with
   |none=>rw[j]at d;injection d with d;omega
   |some b=>
    rw[j]at d;injection d with d
    refine⟨b,rfl,?_⟩;split at d<;>omega
 obtain⟨b,t,g⟩:=r;have:=Ls.2 (agw t g);rw[p]at o⊢;omega
def akP:∀(f:Nat){x:Pr},gI x->gI (uU f x)/\dW (uU f x)<=dW x/\(uU f x).now=x.now
 |0,x,b=>⟨b,dD _,rfl⟩
 |f+1,x,b=>by
  unfold uU;cases d:oH x with
  |none=>exact⟨b,dD _,rfl⟩
  |some a=>
   simp only;split
   ·next c=>
    obtain⟨h1,h⟩:=Zi b d c;obtain⟨e,i,g⟩:=akP f h1;exact⟨e,by omega,g.trans (UE x)⟩
   ·exact⟨b,dD _,rfl⟩
def run_end:∀(f:Nat){x:Pr},gI x->dW x<f->∀a,oH (uU f x)=some a->x.now<a
 |0,x,g,h=>by omega
 |f+1,x,g,h=>by
  intro a d;unfold uU at d;cases e:oH x with
  |none=>rw[e]at d;simp only at d;rw[e]at d;cases d
  |some b=>
   rw[e]at d;simp only at d;split at d
   ·next c=>
    obtain⟨h1,i⟩:=Zi g e c;have:=run_end f h1 (by omega) a d;rw[UE]at this;exact this
   ·next c=>rw[e]at d;injection d with d;omega
noncomputable def tV (a:Int) (x:Pr):Pr:=uU (dW x+1) {x with now:=if x.now+1<a then a else x.now+1}
noncomputable def vT:Nat->Int->Pr->Pr
 |0,_,x=>x
 |f+1,last,x=>if x.now<last then(match oH x with
   |none=>{x with now:=last}
   |some a=>if last<a then {x with now:=last}else vT f last (tV a x))else x
def ae1{a:Int}{x:Pr}(c:gI x):gI (tV a x)/\dW (tV a x)<=dW x/\(tV a x).now=(if x.now+1<a then a else x.now+1)/\∀b,oH (tV a x)=some b->(tV a x).now<b:=by
 have d:gI {x with now:=if x.now+1<a then a else x.now+1}:=⟨c.s0,c.s1,c.k0,c.k1,by have:=c.now;simp only;split<;>omega⟩
 obtain⟨g,h,f⟩:=akP (dW x+1) d;have e:=run_end (dW x+1) d (show dW _<dW x+1 from DW _);refine⟨g,h,f,λb i=>?_⟩;have:=e b i;rw[show(tV a x).now=_ from f];exact this
noncomputable def Dx (n:Int) (x:Pr):Pr:=vT (n.toNat+1) (x.now+n) x
def go_ok:∀(f:Nat){last:Int}{x:Pr},gI x->(last-x.now).toNat<f->gI (vT f last x)/\dW (vT f last x)<=dW x/\(x.now<=last->(vT f last x).now=last)
 |0,last,x,b,g=>by omega
 |f+1,last,x,b,g=>by
  unfold vT;split;rotate_left
  ·exact⟨b,dD _,λh=>by omega⟩
  next c=>
  have e:gI {x with now:=last}:=⟨b.s0,b.s1,b.k0,b.k1,by have:=b.now;simp only;omega⟩
  cases m:oH x with
  |none=>exact⟨e,dD _,λ_=>rfl⟩
  |some a=>
   simp only;split
   ·exact⟨e,dD _,λ_=>rfl⟩
   ·next n=>
    obtain⟨i,o,j,-⟩:=ae1 (a:=a) b;have d:(tV a x).now<=last/\x.now<(tV a x).now:=by rw[j];split<;>omega
    obtain⟨k,p,l⟩:=go_ok f (last:=last) i (by omega);exact⟨k,by omega,λ_=>l d.1⟩
def aiz{k:Lk}(a:yL k){B:Nat}(h:nR k<=B):k.h.length<=B/\k.n<=B/\k.f.length<=B:=by have b:=adE k.h;have c:=a.n;unfold nR at h;omega
def ak2(x:Pr)(T:Wc)(p:T.length<=1000)(n:∀t∈T,t.length<=65536)(o:0<=x.now/\x.now<=800000000000):∀(m j:Nat)(k:Lk),j+m=T.length->yL k->nR k+wW (T.drop j)<=90000->
 TT.lim 338 ([.zq 0,.l (T.map .s),.zq (T.length:Int),.zq (j:Int)]++bW {x with k0:=k})=some (.zq 0::(dS x.k1++dS (jw x.now (T.drop j) k)))
 |0,j,k,q,b,e=>by
  have f:¬((j:Int)<T.length):=by omega
  rw[ig];simp only[jw,bW,dS,cO,bg,aX];refine au ?_;simp -implicitDefEqProofs[f]
 |m+1,j,k,q,b,e=>by
  have a:j<T.length:=by omega
  have f:(j:Int)<T.length:=by omega
  have r:IntKind.i64.wrap ((j:Int)+1)=((j+1:Nat):Int):=by rw[wrap64 (by omega) (by omega)];omega
  have s:T.drop j=T[j]::T.drop (j+1):=iC a;have g:at2 1 (some (.l (T.map .s))) (some (.zq (j:Int)))=some (.s T[j]):=by rw[eF,nI,xG,iY,bT a];rfl
  have c:T[j]∈T:=gX a;rw[s]at e⊢;generalize T[j]=t at *;have d:=n t c;have h:=ams t d;have i:=Vs d;simp only[wW]at e;obtain⟨w,y,z⟩:=aiz b (B:=90000) (by omega);have u:=ak6 x.now (jf t) k b.f (by omega) (by omega) ⟨o.1,by omega⟩ (by omega) b.n (by omega) b.h;obtain⟨v,A,D⟩:=Xw (now:=x.now) b i;have l:=ak2 x T p n o m (j+1) (nK x.now (jf t) k) (by omega) v (by omega);rw[show jw x.now (t::T.drop (j+1)) k=jw x.now (T.drop (j+1)) (nK x.now (jf t) k)from rfl];generalize jw x.now (T.drop (j+1)) (nK x.now (jf t) k)=E at *;generalize nK x.now (jf t) k=R at *;generalize jf t=F at *;simp only[bW,dS,cO,bg,aX]at l⊢;rw[<-r]at l;generalize T.map GV.s=G,(T.length:Int)=H at *;refine au ?_;simp -implicitDefEqProofs[f,g,h,u,l]
def ak3(x:Pr)(T:Wc)(p:T.length<=1000)(n:∀t∈T,t.length<=65536)(o:0<=x.now/\x.now<=800000000000):∀(m j:Nat)(k:Lk),j+m=T.length->yL k->nR k+wW (T.drop j)<=90000->
 TT.lim 338 ([.zq 1,.l (T.map .s),.zq (T.length:Int),.zq (j:Int)]++bW {x with k1:=k})=some (.zq 0::(dS (jw x.now (T.drop j) k)++dS x.k0))
 |0,j,k,q,b,e=>by
  have f:¬((j:Int)<T.length):=by omega
  rw[ig];simp only[jw,bW,dS,cO,bg,aX];refine au ?_;simp -implicitDefEqProofs[f]
 |m+1,j,k,q,b,e=>by
  have a:j<T.length:=by omega
  have f:(j:Int)<T.length:=by omega
  have r:IntKind.i64.wrap ((j:Int)+1)=((j+1:Nat):Int):=by rw[wrap64 (by omega) (by omega)];omega
  have s:T.drop j=T[j]::T.drop (j+1):=iC a;have g:at2 1 (some (.l (T.map .s))) (some (.zq (j:Int)))=some (.s T[j]):=by rw[eF,nI,xG,iY,bT a];rfl
  have c:T[j]∈T:=gX a;rw[s]at e⊢;generalize T[j]=t at *;have d:=n t c;have h:=ams t d;have i:=Vs d;simp only[wW]at e;obtain⟨w,y,z⟩:=aiz b (B:=90000) (by omega);have u:=ak6 x.now (jf t) k b.f (by omega) (by omega) ⟨o.1,by omega⟩ (by omega) b.n (by omega) b.h;obtain⟨v,A,D⟩:=Xw (now:=x.now) b i;have l:=ak3 x T p n o m (j+1) (nK x.now (jf t) k) (by omega) v (by omega);rw[show jw x.now (t::T.drop (j+1)) k=jw x.now (T.drop (j+1)) (nK x.now (jf t) k)from rfl];generalize jw x.now (T.drop (j+1)) (nK x.now (jf t) k)=E at *;generalize nK x.now (jf t) k=R at *;generalize jf t=F at *;simp only[bW,dS,cO,bg,aX]at l⊢;rw[<-r]at l;generalize T.map GV.s=G,(T.length:Int)=H at *;refine au ?_;simp -implicitDefEqProofs[f,g,h,u,l]
def Xu(x:Pr)(b:gI x)(T:Wc)(c:T.length<=1000)(d:∀t∈T,t.length<=65536)(e:x.now<=800000000000)(f:nR x.k0+wW T<=90000):
 TT.lim 337 ([.zq 0,.l (T.map .s)]++bW x)=some (.zq 0::(dS x.k1++dS (jw x.now T x.k0))):=by
 have h:=ak2 x T c d ⟨b.now,e⟩ T.length 0 x.k0 (by omega) b.k0 (by rw[dN];exact f);rw[dN]at h;have a:((T.map GV.s).length:Int)=(T.length:Int):=by rw[gG]
 generalize jw x.now T x.k0=E at *;simp only[bW,dS,cO,bg,aX,sW]at h⊢;generalize T.map GV.s=g,(T.length:Int)=i at *;refine au ?_;simp -implicitDefEqProofs[a,h]
def Xv(x:Pr)(b:gI x)(T:Wc)(c:T.length<=1000)(d:∀t∈T,t.length<=65536)(e:x.now<=800000000000)(f:nR x.k1+wW T<=90000):
 TT.lim 337 ([.zq 1,.l (T.map .s)]++bW x)=some (.zq 0::(dS (jw x.now T x.k1)++dS x.k0)):=by
 have h:=ak3 x T c d ⟨b.now,e⟩ T.length 0 x.k1 (by omega) b.k1 (by rw[dN];exact f);rw[dN]at h;have a:((T.map GV.s).length:Int)=(T.length:Int):=by rw[gG]
 generalize jw x.now T x.k1=E at *;simp only[bW,dS,cO,bg,aX,sW]at h⊢;generalize T.map GV.s=g,(T.length:Int)=i at *;refine au ?_;simp -implicitDefEqProofs[a,h]
def Ug{l:Ys}(e:Int×Int×Int)(h:l.length<=100000):IQ 3 24 (some (.l (l.map oM))) (some (.l [oM e]))=some (.l ((l++[e]).map oM)):=by
 rw[FZ,aj]
 ·rw[nM];rfl
 ·refine⟨rfl,?_,?_⟩<;>simp only[gG,gV,kY]<;>omega
set_option maxHeartbeats 4000000 in
def aoM(i:Nat)(hi:i=0\/i=1)(t:Q0)(x:Pr)(a:gI x)(D:t.length<=70000)(k:x.now<=800000000000)(z:dW x<=80000):
 TT.lim 336 (.s t::(bW x++[.zq (i:Int)]))=some (.zq 0::iI (mP i t x)):=by
 have l:=ajF t (by omega);have r:=ayX t;unfold dW at z;have d:x.rc.length<=100000:=by omega
 unfold mP agA;generalize kU t=P at *;obtain⟨p,n,e⟩:=P;simp only at l r⊢;by_cases q:e=0;rotate_left
 ·rw[ah (λh=>q h.1),ah q];have f:=Ug (x.now,(i:Int),e) d;have c:TT.lim 337 ([.zq (i:Int),.l []]++bW {x with rc:=x.rc++[(x.now,(i:Int),e)]})=some (.zq 0::(dS x.k1++dS x.k0)):=by
   rcases hi with rfl|rfl
   ·exact Xu {x with rc:=x.rc++[(x.now,((0:Nat):Int),e)]} ⟨a.s0,a.s1,a.k0,a.k1,a.now⟩ [] (by simp) (λt h=>by cases h) k (by simp only[wW];omega)
   ·exact Xv {x with rc:=x.rc++[(x.now,((1:Nat):Int),e)]} ⟨a.s0,a.s1,a.k0,a.k1,a.now⟩ [] (by simp) (λt h=>by cases h) k (by simp only[wW];omega)
  simp only[bW,iI,dS,cO,lJ,bg,aX]at c⊢;generalize(x.rc++[(x.now,(i:Int),e)]).map oM=s at *;generalize(i:Int)=A at *;refine au ?_;simp -implicitDefEqProofs[l,q,U8,f,c]
 subst q;by_cases m:n<t.length
 ·rw[ah (λh=>h.2 m),aj rfl];have f:=Ug (x.now,(i:Int),10) d;have c:TT.lim 337 ([.zq (i:Int),.l []]++bW {x with rc:=x.rc++[(x.now,(i:Int),10)]})=some (.zq 0::(dS x.k1++dS x.k0)):=by
   rcases hi with rfl|rfl
   ·exact Xu {x with rc:=x.rc++[(x.now,((0:Nat):Int),10)]} ⟨a.s0,a.s1,a.k0,a.k1,a.now⟩ [] (by simp) (λt h=>by cases h) k (by simp only[wW];omega)
   ·exact Xv {x with rc:=x.rc++[(x.now,((1:Nat):Int),10)]} ⟨a.s0,a.s1,a.k0,a.k1,a.now⟩ [] (by simp) (λt h=>by cases h) k (by simp only[wW];omega)
  simp only[bW,iI,dS,cO,lJ,bg,aX]at c⊢;generalize(x.rc++[(x.now,(i:Int),10)]).map oM=s at *;generalize(i:Int)=A at *;refine au ?_;simp -implicitDefEqProofs[l,m,U8,f,c]
 rw[aj ⟨rfl,m⟩];rcases hi with rfl|rfl
 ·rw[aj rfl];have o:=ahB p x.s0 (by omega) a.s0;have b:=VI p x.s0;have g:=Np (t:=p) a.s0;have v:=@Xj p x.s0;have j:=Ju p x.s0;have w:=aay p x.s0;generalize eX p x.s0=H at *;have f:=Ug (x.now,0,H.2.2) d;have c:=Xu {x with s0:=H.1,rc:=x.rc++[(x.now,0,H.2.2)]} ⟨g,a.s1,a.k0,a.k1,a.now⟩ H.2.1 (by omega) (λu y=>(j u y).1) k (by simp only;omega);simp only[bW,iI,dS,cO,lJ,VL,bg,aX]at c o⊢;rw[b.1,b.2.1,b.2.2.1,b.2.2.2]at c;generalize jw x.now H.2.1 x.k0=K,(x.rc++[(x.now,0,H.2.2)]).map oM=s,H.2.1.map GV.s=B at *;refine au ?_;simp -implicitDefEqProofs[l,m,U8,o,f,c]
 ·rw[dA];have o:=ahB p x.s1 (by omega) a.s1;have b:=VI p x.s1;have g:=Np (t:=p) a.s1;have v:=@Xj p x.s1;have j:=Ju p x.s1;have w:=aay p x.s1;generalize eX p x.s1=H at *;have f:=Ug (x.now,1,H.2.2) d;have c:=Xv {x with s1:=H.1,rc:=x.rc++[(x.now,1,H.2.2)]} ⟨a.s0,g,a.k0,a.k1,a.now⟩ H.2.1 (by omega) (λu y=>(j u y).1) k (by simp only;omega);simp only[bW,iI,dS,cO,lJ,VL,bg,aX]at c o⊢;rw[b.1,b.2.1,b.2.2.1,b.2.2.2]at c;generalize jw x.now H.2.1 x.k1=K,(x.rc++[(x.now,1,H.2.2)]).map oM=s,H.2.1.map GV.s=B at *;refine au ?_;simp -implicitDefEqProofs[l,m,U8,o,f,c]
def Zw(i:Nat)(t:Q0)(x:Pr):((mP i t x).s0.mn=x.s0.mn/\(mP i t x).s0.mx=x.s0.mx/\(mP i t x).s0.name=x.s0.name/\(mP i t x).s0.first=x.s0.first)/\((mP i t x).s1.mn=x.s1.mn/\(mP i t x).s1.mx=x.s1.mx/\(mP i t x).s1.name=x.s1.name/\(mP i t x).s1.first=x.s1.first):=by
 unfold mP;split
 ·split
  ·exact⟨VI _ _,rfl,rfl,rfl,rfl⟩
  ·exact⟨⟨rfl,rfl,rfl,rfl⟩,VI _ _⟩
 ·exact⟨⟨rfl,rfl,rfl,rfl⟩,rfl,rfl,rfl,rfl⟩
structure Fix(x y:Pr):Prop where
 a:y.s0.mn=x.s0.mn/\y.s0.mx=x.s0.mx/\y.s0.name=x.s0.name/\y.s0.first=x.s0.first
 b:y.s1.mn=x.s1.mn/\y.s1.mx=x.s1.mx/\y.s1.name=x.s1.name/\y.s1.first=x.s1.first
def Fix.refl(x:Pr):Fix x x:=⟨⟨rfl,rfl,rfl,rfl⟩,rfl,rfl,rfl,rfl⟩
def Fix.trans{x y z:Pr}(h:Fix x y)(g:Fix y z):Fix x z:=
 ⟨⟨g.a.1.trans h.a.1,g.a.2.1.trans h.a.2.1,g.a.2.2.1.trans h.a.2.2.1,g.a.2.2.2.trans h.a.2.2.2⟩,⟨g.b.1.trans h.b.1,g.b.2.1.trans h.b.2.1,g.b.2.2.1.trans h.b.2.2.1,g.b.2.2.2.trans h.b.2.2.2⟩⟩
def Zx(i:Nat):∀(T:Wc)(x:Pr),Fix x (qV i T x)
 |[],x=>Fix.refl x
 |t::r,x=>Fix.trans ⟨(Zw i t x).1,(Zw i t x).2⟩ (Zx i r _)
def aht(x:Pr):Fix x (yh x):=Fix.trans (y:=zN x) ⟨⟨rfl,rfl,rfl,rfl⟩,rfl,rfl,rfl,rfl⟩ (Zx 1 _ (zN x))
def ahw(x:Pr):Fix x (yY x):=Fix.trans (y:=AQ x) ⟨⟨rfl,rfl,rfl,rfl⟩,rfl,rfl,rfl,rfl⟩ (Zx 0 _ (AQ x))
def afv(x:Pr):Fix x (uG x):=(aht x).trans (ahw _)
def akN:∀(f:Nat)(x:Pr),Fix x (uU f x)
 |0,x=>Fix.refl x
 |f+1,x=>by
  unfold uU;cases oH x with
  |none=>exact Fix.refl x
  |some a=>
   simp only;split
   ·exact(afv x).trans (akN f _)
   ·exact Fix.refl x
def ae2(a:Int)(x:Pr):Fix x (tV a x):=Fix.trans (y:={x with now:=if x.now+1<a then a else x.now+1}) ⟨⟨rfl,rfl,rfl,rfl⟩,rfl,rfl,rfl,rfl⟩ (akN _ _)
def ahl:∀(f:Nat)(last:Int)(x:Pr),Fix x (vT f last x)
 |0,last,x=>Fix.refl x
 |f+1,last,x=>by
  unfold vT;split;rotate_left
  ·exact Fix.refl x
  cases oH x with
  |none=>exact⟨⟨rfl,rfl,rfl,rfl⟩,rfl,rfl,rfl,rfl⟩
  |some a=>
   simp only;split
   ·exact⟨⟨rfl,rfl,rfl,rfl⟩,rfl,rfl,rfl,rfl⟩
   ·exact(ae2 a x).trans (ahl f last _)
def ZA(i:Nat)(hi:i=0\/i=1)(T:Wc)(q:T.length<=100000)(o:∀t∈T,t.length<=70000):∀(m j:Nat)(x:Pr),j+m=T.length->gI x->x.now<=800000000000->dW x+wS (T.drop j)<=80000->
 TT.lim 347 ([.zq (1-(i:Int)),.l (T.map .s),.zq (T.length:Int),.zq (j:Int)]++bW x)=some (.zq 0::iI (qV i (T.drop j) x))
 |0,j,x,r,e,f,g=>by
  have h:¬((j:Int)<T.length):=by omega
  rw[ig];simp only[qV,bW,iI,dS,cO,lJ,bg,aX];refine au ?_;simp -implicitDefEqProofs[h]
 |m+1,j,x,r,e,f,g=>by
  have b:j<T.length:=by omega
  have h:(j:Int)<T.length:=by omega
  have s:IntKind.i64.wrap ((j:Int)+1)=((j+1:Nat):Int):=by rw[wrap64 (by omega) (by omega)];omega
  have u:T.drop j=T[j]::T.drop (j+1):=iC b;have k:at2 1 (some (.l (T.map .s))) (some (.zq (j:Int)))=some (.s T[j]):=by rw[eF,nI,xG,iY,bT b];rfl
  have c:Ey (some (.l (T.map .s))) (some (.zq (j:Int)))=some (.zq (j:Int)):=by rw[jF,aj ⟨by omega,by rw[gG];omega⟩]
  have d:T[j]∈T:=gX b;rw[u]at g⊢;generalize T[j]=t at *;simp only[wS]at g;have v:=SA t;have p:=aoM i hi t x e (o t d) f (by omega);obtain⟨w,z⟩:=UW (i:=i) (t:=t) e;have l:=ZA i hi T q o m (j+1) (mP i t x) (by omega) w (by rw[Zv];exact f) (by omega);have a:=Zw i t x;have n:=Zv i t x;have y:IntKind.i64.wrap (1-(1-(i:Int)))=(i:Int):=by rcases hi with rfl|rfl<;>rfl
  rw[show qV i (t::T.drop (j+1)) x=qV i (T.drop (j+1)) (mP i t x)from rfl];generalize qV i (T.drop (j+1)) (mP i t x)=E at *;generalize mP i t x=Y at *;simp only[bW,iI,dS,cO,lJ,bg,aX]at p l⊢;rw[n,a.1.1,a.1.2.1,a.1.2.2.1,a.1.2.2.2,a.2.1,a.2.2.1,a.2.2.2.1,a.2.2.2.2,<-s]at l;generalize T.map GV.s=A,(T.length:Int)=B,(j:Int)=D at *;refine au ?_;simp -implicitDefEqProofs[-jF,-eF,h,k,c,y,p,l]
set_option maxHeartbeats 4000000 in
def an0(x:Pr)(m:gI x)(n:x.now<=800000000000)(o:dW x<=80000):TT.lim 345 (bW x)=some (.zq 0::iI (uG x)):=by
 have w1:IntKind.i64.wrap 1=1:=rfl;have p:IntKind.i64.wrap 2=2:=rfl;have fin:∀y:Pr,TT.lim 346 (.zq 2::bW y)=some (.zq 0::iI y):=by intro y;simp only[bW,iI,dS,cO,lJ,bg,aX];refine au ?_;simp
 have one:∀y:Pr,gI y->y.now<=800000000000->dW y<=80000->TT.lim 346 (.zq 1::bW y)=some (.zq 0::iI (yY y)):=by
  intro y c k l;obtain⟨d1,d2,d3⟩:=ML y.now c.k1;have q:=adE y.k1.h;have d:nR y.k1<=80000:=by unfold dW at l;omega
  have i:=agv y.now (.zu y.k1.n) y.k1.h (by unfold nR at d;omega) c.k1.h;have j:(fJ y.k1.h.length y.now y.k1.h).1.length<=100000:=by have:=(U4 y.now y.k1.h.length y.k1.h rfl c.k1.h).2;unfold nR at d;omega
  have a:=ZA 0 (.inl rfl) (fJ y.k1.h.length y.now y.k1.h).1 j d3 (fJ y.k1.h.length y.now y.k1.h).1.length 0 (AQ y) (by omega) ⟨c.s0,c.s1,c.k0,d1,c.now⟩ k (by rw[dN];unfold dW AQ at *;simp only at *;omega)
  rw[dN]at a;have e:=fin (yY y);have b:=ahw y;have g:=ahx y;rw[show qV 0 (fJ y.k1.h.length y.now y.k1.h).1 (AQ y)=yY y from rfl]at a;generalize yY y=E at *;unfold AQ at a;generalize fJ y.k1.h.length y.now y.k1.h=D at *;have f:((D.1.map GV.s).length:Int)=(D.1.length:Int):=by rw[gG]
  have a:TT.lim 347 ([.zq 1,.l (D.1.map .s),.zq (D.1.length:Int),.zq 0]++bW {y with k1:={y.k1 with h:=D.2}})=some (.zq 0::iI E):=a;simp only[bW,iI,dS,cO,lJ,bg,aX]at a e⊢;rw[g,b.a.1,b.a.2.1,b.a.2.2.1,b.a.2.2.2,b.b.1,b.b.2.1,b.b.2.2.1,b.b.2.2.2]at e;generalize D.1.map GV.s=r,(D.1.length:Int)=s at *;refine au ?_;simp -implicitDefEqProofs[p,i,f,a,e]
 have zero:∀y:Pr,gI y->y.now<=800000000000->dW y<=80000->TT.lim 346 (.zq 0::bW y)=some (.zq 0::iI (uG y)):=by
  intro y c k l;obtain⟨d1,d2,d3⟩:=ML y.now c.k0;have q:=adE y.k0.h;have d:nR y.k0<=80000:=by unfold dW at l;omega
  have i:=agv y.now (.zu y.k0.n) y.k0.h (by unfold nR at d;omega) c.k0.h;have j:(fJ y.k0.h.length y.now y.k0.h).1.length<=100000:=by have:=(U4 y.now y.k0.h.length y.k0.h rfl c.k0.h).2;unfold nR at d;omega
  have a:=ZA 1 (.inr rfl) (fJ y.k0.h.length y.now y.k0.h).1 j d3 (fJ y.k0.h.length y.now y.k0.h).1.length 0 (zN y) (by omega) ⟨c.s0,c.s1,d1,c.k1,c.now⟩ k (by rw[dN];unfold dW zN at *;simp only at *;omega)
  rw[dN]at a;obtain⟨t,u⟩:=ahv c;have g:=ahu y;have e:=one (yh y) t (by rw[g];exact k) (by omega);have b:=aht y;rw[show yY (yh y)=uG y from rfl]at e;rw[show qV 1 (fJ y.k0.h.length y.now y.k0.h).1 (zN y)=yh y from rfl]at a;generalize uG y=C,yh y=E at *;unfold zN at a;generalize fJ y.k0.h.length y.now y.k0.h=D at *;have f:((D.1.map GV.s).length:Int)=(D.1.length:Int):=by rw[gG]
  have a:TT.lim 347 ([.zq 0,.l (D.1.map .s),.zq (D.1.length:Int),.zq 0]++bW {y with k0:={y.k0 with h:=D.2}})=some (.zq 0::iI E):=a;simp only[bW,iI,dS,cO,lJ,bg,aX]at a e⊢;rw[g,b.a.1,b.a.2.1,b.a.2.2.1,b.a.2.2.2,b.b.1,b.b.2.1,b.b.2.2.1,b.b.2.2.2]at e;generalize D.1.map GV.s=r,(D.1.length:Int)=s at *;refine au ?_;simp -implicitDefEqProofs[w1,i,f,a,e]
 have h:=zero x m n o;generalize uG x=C at *;simp only[bW,iI,dS,cO,lJ,bg,aX]at h⊢;refine au ?_;simp -implicitDefEqProofs[h]
def QX(x:Pr):Int:=(oH x).getD 0
def ajp(x:Pr):(x.k0.h=[]/\x.k1.h=[]/\oH x=none)\/(∃n,x.k0.h.length=n+1/\x.k1.h=[]/\oH x=some (at_ x.k0.h 0).1)\/(∃n,x.k0.h=[]/\x.k1.h.length=n+1/\oH x=some (at_ x.k1.h 0).1)\/
 (∃n m,x.k0.h.length=n+1/\x.k1.h.length=m+1/\oH x=some (if(at_ x.k1.h 0).1<(at_ x.k0.h 0).1 then(at_ x.k1.h 0).1 else(at_ x.k0.h 0).1)):=by
 unfold oH nextL;cases b:x.k0.h with
 |nil=>
  cases a:x.k1.h with
  |nil=>exact .inl ⟨rfl,rfl,rfl⟩
  |cons y r=>exact .inr (.inr (.inl ⟨r.length,rfl,rfl,rfl⟩))
 |cons z q=>
  cases a:x.k1.h with
  |nil=>exact .inr (.inl ⟨q.length,rfl,rfl,rfl⟩)
  |cons y r=>exact .inr (.inr (.inr ⟨q.length,r.length,rfl,rfl,rfl⟩))
