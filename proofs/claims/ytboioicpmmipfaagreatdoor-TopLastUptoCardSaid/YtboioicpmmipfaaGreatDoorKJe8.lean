/- What the trees compute: plain laws. -/
import Derived.Test.YtboioicpmmipfaaGreatDoorKJe7
set_option linter.all false
namespace Go.Proofs.YtboioicpmmipfaaGreatDoor
open Go Go.aP
set_option maxRecDepth 100000
namespace J
def aAR(h:List It)(a n:Int)(t:Q0)(i:h.length<=100000):TT.lim 142 [.zu a,.zu n,.s t,.l (h.map dD)]=some [.zq 0,.l ((rV h (a,n,t)).map dD)]:=by have c:=aGk (h++[(a,n,t)]) h.length (.zu n) aA (by simp;omega);have g:=bK (((h.length:Nat):Int));have b:GV.g [.zu a,.zu n,.s t]=dD (a,n,t):=rfl;have d:(dD (a,n,t)).gV 3=true:=rfl;rw[oJ]at c;simp only[jc,jJ]at c;have e:2*(h.length+1)*32<=281474976710656:=ah;have f:h.length<=281474976710655:=ah;unfold rV;refine aB ?_;simp -implicitDefEqProofs[b,d,e,f,g,c]
def atD(h:List It)(n:Nat)(c:GV)(e:n<=h.length)(f:h.length<=1000000):∃b:Bool,TT.lim 216 [.zq (n:Int),.l (h.map dD),c,.zq 0]=some [.zq 0,.b b,.l ((oD (n+1) h 0 n).map dD)]:=by obtain⟨d,a⟩:=ahd (n+1) h 0 n (.zq 0) c ah e f ah;have a:TT.lim 217 [.zq 0,.zq (n:Int),.zq 0,.l (h.map dD),c]=some [.zq 0,.zq (d:Int),.l ((oD (n+1) h 0 n).map dD)]:=a;refine⟨decide ((0:Int)<(d:Int)),jI rfl rfl ?_⟩;simp[a]
def aAD(h:List It)(n:Nat)(c:GV)(f:h.length=n+1)(E:h.length<=1000000)(j:Heap h (n+1)):
 TT.lim 215 [.l (h.map dD),c]=some [.zq 0,.zu (at_ h 0).1,.zu (at_ h 0).2.1,.s (at_ h 0).2.2,.l ((nX h).map dD)]:=by
 have l:(jm h 0 n).length=n+1:=by rw[Gm,f]
 obtain⟨b,u⟩:=atD (jm h 0 n) n c ah ah;obtain⟨-,-,-,a⟩:=X0 h n f j;have d:(oD (n+1) (jm h 0 n) 0 n).length=n+1:=by rw[aaB,l]
 have m:nX h=(oD (n+1) (jm h 0 n) 0 n).take n:=by unfold nX;rw[f];rfl
 have o:=LZ (h:=h) (k:=0) ah (at_ h n);have p:=LZ (h:=h.set 0 (at_ h n)) (k:=n) (by rw[Ji];omega) (at_ h 0);have e:(h.set 0 (at_ h n)).set n (at_ h 0)=jm h 0 n:=rfl;rw[e]at p;rw[m];generalize jm h 0 n=S at *;generalize oD (n+1) S 0 n=D at *;have q:=Dj (h:=h) (k:=0) ah;have r:=BX (h:=h) (k:=0) ah;rw[show(((0:Nat)):Int)=0 from rfl]at q r o;have v:=Dj (h:=h) (k:=n) ah;have w:=BX (h:=h) (k:=n) ah;have s:=Dj (h:=D) (k:=n) ah;have x:=BX (h:=D) (k:=n) ah;have A:=LZ (h:=D) (k:=n) ah (0,0,[]);rw[a]at s;have t:(D.set n (0,0,[])).take n=D.take n:=by rw[List.take_set_of_le (dP n)]
 rw[<-t];have g:(D.set n (0,0,[])).length=n+1:=by rw[Ji,d]
 generalize D.set n (0,0,[])=F,h.set 0 (at_ h n)=G at *;have B:=bK (((n:Nat):Int));have i:((n:Nat):Int)<=(n:Int)+1:=ah;clear e t m a j l;generalize at_ h n=y,at_ h 0=z at *;refine aB ?_;simp -implicitDefEqProofs[-ku,-fO,-vX,f,d,B,r,q,w,v,o,p,u,x,s,A,g,i,ae6]
def aBq(h:List It)(n:Nat)(c:GV)(b:h.length=n+1)(d:h.length<=1000000)(e:Heap h (n+1)):
 TT.lim 214 [.l (h.map dD),c]=some [.zq 0,.zu (at_ h 0).1,.s (at_ h 0).2.2,.b true,.l ((nX h).map dD)]:=by
 have f:=aAD h n c b d e;have a:¬((n:Int)+1=0):=ah;generalize at_ h 0=z,nX h=R at *;refine aB ?_;simp -implicitDefEqProofs[b,a,f]
def aAT(h:List It)(a n:Int)(t:Q0)(c:h.length<=100000)(g:0<=n/\n<=1000000):
 TT.lim 144 [.zu a,.l [.s t],.zq 1,.zq 0,.l (h.map dD),.zu n]=some [.zq 0,.l ((rV h (a,n,t)).map dD),.zu (n+1)]:=by
 have d:=aAR h a n t c;generalize rV h (a,n,t)=R at *;have e:TT.lim 144 [.zu a,.l [.s t],.zq 1,.zq 1,.l (R.map dD),.zu (n+1)]=some [.zq 0,.l (R.map dD),.zu (n+1)]:=by refine aB ?_;simp
 have f:=jW (n+1);have b:IntKind.i64.wrap 1=1:=rfl;refine aB ?_;simp -implicitDefEqProofs[d,f,b,e]
def aA0(h:List It)(a n:Int)(t:Q0)(b:h.length<=100000)(c:0<=n/\n<=1000000):
 TT.lim 143 [.zu a,.l [.s t],.l (h.map dD),.zu n]=some [.zq 0,.l ((rV h (a,n,t)).map dD),.zu (n+1)]:=by
 have d:=aAT h a n t b c;generalize rV h (a,n,t)=R at *;refine aB ?_;simp -implicitDefEqProofs[d]
def ahj(now:Int)(c:GV):∀(m:Nat)(h:List It)(a:Wa),h.length=m->a.length+m<=100000->Heap h h.length->
 TT.lim 213 [.zu now,.l (a.map .s),.l (h.map dD),c]=some [.zq 0,.l ((a++(dM m now h).1).map .s),.l ((dM m now h).2.map dD)]
 |0,h,a,b,s,g=>by obtain rfl:=PX.1 b;refine aB ?_;simp -implicitDefEqProofs[dM]
 |m+1,h,a,b,s,g=>by
  have d:¬((m:Int)+1=0):=ah;have i:h≠[]:=by rintro rfl;simp at b
  have j:=Dj (h:=h) (k:=0) ah;have l:=BX (h:=h) (k:=0) ah;rw[show(((0:Nat)):Int)=0 from rfl]at j l;by_cases f:now<(at_ h 0).1
  ·rw[dM,au (.inr f)];generalize at_ h 0=z at *;refine aB ?_;simp -implicitDefEqProofs[-ku,-fO,b,d,j,l,f]
  ·obtain⟨r1,r2,r3,-⟩:=X0 h m b (by rw[<-b];exact g);have t:=aBq h m c b ah (by rw[<-b];exact g);have n:=ahj now c m (nX h) (a++[(at_ h 0).2.2]) r1 (by simp;omega) (by rw[r1];exact r2);rw[dM,aj (λe=>e.elim i f)];have r:a++(at_ h 0).2.2::(dM m now (nX h)).1=a++[(at_ h 0).2.2]++(dM m now (nX h)).1:=aA;rw[show(a++((at_ h 0).2.2::(dM m now (nX h)).1,(dM m now (nX h)).2).1)=a++[(at_ h 0).2.2]++(dM m now (nX h)).1 from r];generalize a++[(at_ h 0).2.2]++(dM m now (nX h)).1=O at *;show _=some [_,_,GV.l ((dM m now (nX h)).2.map dD)]
   generalize(dM m now (nX h)).2=u at *;rw[oJ]at n;simp only[jc,jJ]at n;have o:2*(a.length+1)*16<=281474976710656:=ah;have p:a.length<=281474976710655:=ah;clear r;generalize nX h=R,at_ h 0=z at *;have q:(GV.s z.2.2).gV 1=true:=rfl;refine aB ?_;simp -implicitDefEqProofs[-ku,-fO,b,d,j,l,f,t,o,p,q,n]
def ahk(now:Int)(c:GV)(h:List It)(b:h.length<=100000)(d:Heap h h.length):
 TT.lim 212 [.zu now,.l (h.map dD),c]=some [.zq 0,.l ((dM h.length now h).1.map .s),.l ((dM h.length now h).2.map dD)]:=by
 have a:=ahj now c h.length h [] rfl (by simpa using b) d;rw[aZ]at a;simp only[jJ]at a;generalize dM h.length now h=R at *;refine aB ?_;simp -implicitDefEqProofs[a]
def Po:Q0->Nat
 |[a,b,c,d]=>a.toNat+b.toNat*256+c.toNat*65536+d.toNat*16777216
 |_=>0
def ap0(p s:Q0)(T:p.length<=65536)(L:s.length=4):TT.lim 225 [.s p,.s s]=some [.b (decide ((Po s:Int)=jr p))]:=by
 have M:=aau p ah;generalize jr p=n at *;match s,L with
 |[v,w,x,z],_=>
  have g:∀y:Int,IntKind.u32.wrap y=y%((4294967296:Nat):Int):=λy=>by simp[IntKind.wrap,IntKind.signed,IntKind.bits]
  obtain⟨f,i⟩:∃c,v.toNat=c:=⟨_,rfl⟩
  obtain⟨d,j⟩:∃c,w.toNat=c:=⟨_,rfl⟩
  obtain⟨e,l⟩:∃c,x.toNat=c:=⟨_,rfl⟩
  obtain⟨h,o⟩:∃c,z.toNat=c:=⟨_,rfl⟩
  have N:=v.toNat_lt;have O:=w.toNat_lt;have P:=x.toNat_lt;have Q:=z.toNat_lt;rw[show Po [v,w,x,z]=v.toNat+w.toNat*256+x.toNat*65536+z.toNat*16777216 from rfl];rw[i]at N⊢;rw[j]at O⊢;rw[l]at P⊢;rw[o]at Q⊢;have D:kX .shl .u32 (d:Int) 8=some (.i .u32 ((d*256:Nat):Int)):=Ph (k:=8) g rfl aU ah;have E:kX .shl .u32 (e:Int) 16=some (.i .u32 ((e*65536:Nat):Int)):=Ph (k:=16) g rfl aU ah;have F:kX .shl .u32 (h:Int) 24=some (.i .u32 ((h*16777216:Nat):Int)):=Ph (k:=24) g rfl aU ah;have o1:=OE (a:=f) (b:=d) (k:=8) (m:=256) rfl ah ah;have A:=OE (a:=f+d*256) (b:=e) (k:=16) (m:=65536) rfl ah ah;have B:=OE (a:=f+d*256+e*65536) (b:=h) (k:=24) (m:=16777216) rfl ah ah;have w0:IntKind.u32.wrap (f:Int)=f:=by rw[g];omega
  have w1:IntKind.u32.wrap (d:Int)=d:=by rw[g];omega
  have R:IntKind.u32.wrap (e:Int)=e:=by rw[g];omega
  have S:IntKind.u32.wrap (h:Int)=h:=by rw[g];omega
  obtain⟨U,r⟩:∃q:Int,((f+d*256+e*65536+h*16777216:Nat):Int)=q:=⟨_,rfl⟩
  obtain⟨V,G⟩:∃q:Int,((h*16777216:Nat):Int)=q:=⟨_,rfl⟩
  obtain⟨W,H⟩:∃q:Int,((f+d*256+e*65536:Nat):Int)=q:=⟨_,rfl⟩
  obtain⟨X,t⟩:∃q:Int,((e*65536:Nat):Int)=q:=⟨_,rfl⟩
  obtain⟨Y,I⟩:∃q:Int,((f+d*256:Nat):Int)=q:=⟨_,rfl⟩
  obtain⟨Z,u⟩:∃q:Int,((d*256:Nat):Int)=q:=⟨_,rfl⟩
  rw[r]at B⊢;rw[G]at F B;rw[H]at A B;rw[t]at E A;rw[I]at o1 A;rw[u]at D o1;clear G H t I u r;refine aW ?_;simp -implicitDefEqProofs[M,i,j,l,o,w0,w1,R,S,D,E,F,o1,A,B]
def KF:Q0->Int
 |[]=>1
 |[a]=>if a=81 then 1 else 5
 |a::b::_=>if a=81 then(if b=70 then 0 else 5)else 5
def ajU(a:UInt8):KF [a]=if a=81 then 1 else 5:=rfl
def aye(a b:UInt8)(r:Q0):KF (a::b::r)=if a=81 then(if b=70 then 0 else 5)else 5:=rfl
def lM(s:Q0):Q0×Int×Int:=
 if KF s≠0 then([],0,KF s)else
 if(aF (s.drop 2)).2.2≠0 then([],0,(aF (s.drop 2)).2.2)else
 if 65536<(aF (s.drop 2)).1 then([],0,4)else
 if(s.drop (2+(aF (s.drop 2)).2.1)).length<(aF (s.drop 2)).1+4 then([],0,1)else
 if(Po (((s.drop (2+(aF (s.drop 2)).2.1)).take ((aF (s.drop 2)).1+4)).drop (aF (s.drop 2)).1):Int)=jr ((s.drop (2+(aF (s.drop 2)).2.1)).take (aF (s.drop 2)).1)then
  ((s.drop (2+(aF (s.drop 2)).2.1)).take (aF (s.drop 2)).1,((2+gu (aF (s.drop 2)).1+(aF (s.drop 2)).1+4:Nat):Int),0)else([],0,6)
def aei(a:UInt8)(n:Nat)(b:n<256):((a.toNat:Int)=(n:Int))=(a=UInt8.ofNat n):=by
 apply propext;constructor
 ·intro h;apply Zt.1;rw[afn];omega
 ·intro h;rw[h,afn];omega
def ayc(s:Q0)(o:s.length<=140737488351232):TT.lim 221 [.s s]=some [.zq (KF s)]:=by
 have w1:=bK ((1:Int));have l:=bK ((2:Int));have i:∀s:Q0,TT.lim 222 [.s s,.zq 2]=some [.zq 1]:=by intro s;refine aB ?_;simp
 match s,o with
 |[],_=>
  have p:KF []=1:=rfl;have q:TT.lim 222 [.s [],.zq 0]=some [.zq 0,.zq 1]:=by refine aB ?_;simp
  rw[p];refine aW ?_;simp -implicitDefEqProofs[q]
 |[a],_=>
  rw[ajU];have e:=aei a 81 ah;have e:((a.toNat:Int)=81)=(a=81):=e;by_cases c:a=81
  ·rw[au c];have g:TT.lim 222 [.s [a],.zq 1]=some [.zq 0,.zq 1]:=by refine aB ?_;simp
   have d:(a=81)=True:=eq_true c;clear c;have f:TT.lim 222 [.s [a],.zq 0]=some [.zq 0,.zq 1]:=by refine aB ?_;simp -implicitDefEqProofs[w1,e,d,g]
   refine aW ?_;simp -implicitDefEqProofs[f]
  ·rw[aj c];have f:TT.lim 222 [.s [a],.zq 0]=some [.zq 0,.zq 5]:=by refine aB ?_;simp -implicitDefEqProofs[w1,e,c]
   refine aW ?_;simp -implicitDefEqProofs[f]
 |a::b::r,_=>
  rw[aye];have e:((a.toNat:Int)=81)=(a=81):=aei a 81 ah;have m:((b.toNat:Int)=70)=(b=70):=aei b 70 ah;have j:¬(0:Int)=(r.length:Int)+1+1:=ah;have n:¬(1:Int)=(r.length:Int)+1+1:=ah;have i:=i (a::b::r);by_cases c:a=81
  ·rw[au c];have d:(a=81)=True:=eq_true c;clear c;by_cases h:b=70
   ·rw[au h];have k:(b=70)=True:=eq_true h;clear h;have g:TT.lim 222 [.s (a::b::r),.zq 1]=some [.zq 1]:=by refine aB ?_;simp -implicitDefEqProofs[n,l,m,k,i]
    have f:TT.lim 222 [.s (a::b::r),.zq 0]=some [.zq 1]:=by refine aB ?_;simp -implicitDefEqProofs[j,w1,e,d,g]
    refine aW ?_;simp -implicitDefEqProofs[f]
   ·rw[aj h];have g:TT.lim 222 [.s (a::b::r),.zq 1]=some [.zq 0,.zq 5]:=by refine aB ?_;simp -implicitDefEqProofs[n,l,m,h]
    have f:TT.lim 222 [.s (a::b::r),.zq 0]=some [.zq 0,.zq 5]:=by refine aB ?_;simp -implicitDefEqProofs[j,w1,e,d,g]
    refine aW ?_;simp -implicitDefEqProofs[f]
  ·rw[aj c];have f:TT.lim 222 [.s (a::b::r),.zq 0]=some [.zq 0,.zq 5]:=by refine aB ?_;simp -implicitDefEqProofs[j,w1,e,c]
   refine aW ?_;simp -implicitDefEqProofs[f]
def akF(s:Q0)(S:s.length<=100000000):TT.lim 220 [.s s]=some [.s (lM s).1,.zq (lM s).2.1,.zq (lM s).2.2]:=by
 have h:=ayc s ah;unfold lM;by_cases c:KF s=0;rotate_left
 ·rw[au c];refine aW ?_;simp -implicitDefEqProofs[h,c]
 rw[aj (by simpa using c)];rw[c]at h;have T:2<=s.length:=by
  match s,c with
  |[],c=>exact absurd c aU
  |[a],c=>rw[ajU]at c;split at c<;>simp at c
  |a::b::r,_=>simp
 have m:=wV (s.drop 2) (by rw[fZ];omega);have f:=@mg (s.drop 2);have o:(s.take s.length).drop 2=s.drop 2:=by rw[Bv]
 have p:(2:Int)<=(s.length:Int):=ah;generalize aF (s.drop 2)=G at *;obtain⟨n,k,e⟩:=G;simp only at m f⊢;by_cases q:e=0;rotate_left
 ·rw[au q];refine aW ?_;simp -implicitDefEqProofs[h,o,p,m,q]
 rw[aj (by simpa using q)];have f:=(f q).len;rw[fZ]at f;subst q;by_cases F:65536<n
 ·rw[au F];have d:(65536:Int)<n:=ah;refine aW ?_;simp -implicitDefEqProofs[h,o,p,m,d]
 rw[aj F];have d:¬(65536:Int)<n:=ah;have w:=bK ((n:Int));have i:=bK ((n:Int)+4);have x:=bK (2+(k:Int));have j:2+(k:Int)<=(s.length:Int):=ah;have y:(0:Int)<=2+(k:Int):=ah;have l:s.drop (2+(k:Int)).toNat=s.drop (2+k):=by congr 1
 have U:(s.drop (2+k)).length=s.length-(2+k):=fZ;generalize s.drop (2+k)=B at *;by_cases H:B.length<n+4
 ·rw[au H];have g:(B.length:Int)<(n:Int)+4:=ah;refine aW ?_;simp -implicitDefEqProofs[h,o,p,m,d,w,i,x,j,y,l,g]
 rw[aj H];have g:¬(B.length:Int)<(n:Int)+4:=ah;have I:(0:Int)<=(n:Int):=ah;have L:(n:Int)<=(n:Int)+4:=ah;have M:(n:Int)<=(B.length:Int):=ah;have t:(n:Int)+4<=(B.length:Int):=ah;have N:((n:Int)).toNat=n:=ah;have O:((n:Int)+4).toNat=n+4:=ah;have z:(B.take n).length<=65536:=by rw[mQ];omega
 have A:((B.take (n+4)).drop n).length=4:=by rw[fZ,mQ];omega
 have u:=ap0 (B.take n) ((B.take (n+4)).drop n) z A;have P:=ah1 n ah;generalize Q:(B.take (n+4)).drop n=K at *;generalize R:B.take n=D at *;by_cases v:(Po K:Int)=jr D
 ·rw[au v];have E:decide ((Po K:Int)=jr D)=true:=by simpa using v
  rw[E]at u;refine aW ?_;simp -implicitDefEqProofs[h,o,p,m,d,w,i,x,j,y,l,g,I,L,M,t,N,O,R,Q,u,P]
 ·rw[aj v];have E:decide ((Po K:Int)=jr D)=false:=by simpa using v
  rw[E]at u;refine aW ?_;simp -implicitDefEqProofs[h,o,p,m,d,w,i,x,j,y,l,g,I,L,M,t,N,O,R,Q,u,P]
def akG{p:Q0}(h:p.length<=65536):lM (fA p)=(p,(((fA p).length:Nat):Int),0):=by have i:=azT h;have j:=aaV p;have k:=PE 3 p.length ah ah;have d:=akF (fA p) ah;rw[i]at d;simp only[bD,yC,GV.s.injEq,GV.i.injEq,and_true,true_and]at d;obtain⟨e,f,g⟩:=d;generalize lM (fA p)=R at *;obtain⟨a,b,c⟩:=R;simp only at e f g;rw[<-e,<-f,<-g]
def azU(s:Q0):(lM s).1.length<=s.length:=by
 unfold lM;repeat' split
 all_goals first|simp;done|(simp only[mQ,fZ];omega)
structure Fa where
 dr:Bool
 c:Nat
 d:Nat
 cu:Int
 at_:Int
 tZ:Nat
def bg(f:Fa):GV:=.g [.b f.dr,.i .u8 (f.c:Int),.i .u8 (f.d:Int),.zq f.cu,.zq f.at_,.i .u8 (f.tZ:Int)]
@[simp] theorem aHY(f:Fa):(bg f).cells=[.b f.dr,.i .u8 (f.c:Int),.i .u8 (f.d:Int),.zq f.cu,.zq f.at_,.i .u8 (f.tZ:Int)]:=rfl
structure Gw(f:Fa):Prop where
 c:f.c<=3
 d:f.d<256
 tZ:f.tZ<256
 cu:f.cu<=9223372036854775807
 at_:f.at_<=9223372036854775807
def anF(x:UInt8):Ah x 0=x:=by unfold Ah;rw[Nat.xor_zero,UInt8.ofNat_toNat]
def AA(f:Fa)(t:Q0):Q0:=if 0<f.cu/\f.cu<t.length then t.take f.cu.toNat else t
def LX(f:Fa)(u:Q0):Q0:=if f.at_<0 then u else if(u.length:Int)<=f.at_ then u else u.set f.at_.toNat (Ah (u.getD f.at_.toNat 0) f.tZ)
def lg(f:Fa)(t:Q0):Q0:=LX f (AA f t)
def ap4(f:Fa)(t:Q0):(AA f t).length<=t.length:=by
 unfold AA;split
 ·rw[mQ];omega
 ·omega
def aF9(f:Fa)(u:Q0):(LX f u).length=u.length:=by
 unfold LX;split
 ·rfl
 split
 ·rfl
 ·rw[Ji]
def atC(f:Fa)(t:Q0):(lg f t).length<=t.length:=by unfold lg;rw[aF9];exact ap4 f t
def mZ:Nat->Int->List UInt8->List It->Int->List It×Int
 |0,_,_,h,n=>(h,n)
 |m+1,a,t,h,n=>mZ m (a+1) t (rV h (a,n,t)) (n+1)
def adn(a:Int)(t:Q0):∀(m:Nat)(h:List It)(n:Int),Heap h h.length->Heap (mZ m a t h n).1 (mZ m a t h n).1.length/\(mZ m a t h n).1.length=h.length+m/\(mZ m a t h n).2=n+m
 |0,h,n,b=>⟨b,rfl,by simp[mZ]⟩
 |m+1,h,n,b=>by have e:=OV h (a,n,t) b;have d:=SQ h (a,n,t) b;have c:=adn (a+1) t m (rV h (a,n,t)) (n+1) (by rw[d];exact e.1);unfold mZ;refine⟨c.1,by rw[c.2.1,d];omega,by rw[c.2.2];push_cast;omega⟩
def copies(now a:Int)(t:Q0)(L:Wa)(j k l:GV)(M:Nat)(p:M<=300)(q:0<=a/\a<=1000000000000):∀(m i:Nat)(h:List It)(n:Int),i+m=M->h.length+m<=100000->0<=n->n+m<=1000000->Heap h h.length->
 TT.lim 147 [.zu now,.s t,.zu a,.l (L.map .s),j,k,.zu (M:Int),.zu (i:Int),l,.l (h.map dD),.zu n]=some [.zq 0,.l ((mZ m (a+i) t h n).1.map dD),.zu (mZ m (a+i) t h n).2]
 |0,i,h,n,hi,r,o,s,f=>by have c:¬((i:Int)<(M:Int)):=ah;refine aB ?_;simp -implicitDefEqProofs[c,mZ]
 |m+1,i,h,n,hi,r,o,s,f=>by have c:(i:Int)<(M:Int):=ah;have u:=OV h (a+i,n,t) f;have b:=SQ h (a+i,n,t) f;have d:=aA0 h (a+i) n t ah ⟨o,ah⟩;have g:=copies now a t L j k l M p q m (i+1) (rV h (a+i,n,t)) (n+1) ah (by rw[b];omega) ah ah (by rw[b];exact u.1);have e:a+((i+1:Nat):Int)=a+i+1:=ah;rw[e]at g;unfold mZ;generalize mZ m (a+i+1) t (rV h (a+i,n,t)) (n+1)=R at *;generalize rV h (a+i,n,t)=Q at *;have w1:=jW (a+(i:Int));have v:=jW ((i:Int)+1);rw[(ah:((i+1:Nat):Int)=(i:Int)+1)]at g;refine aB ?_;simp -implicitDefEqProofs[c,w1,v,d,g]
structure Lk where
 f:List Fa
 h:List It
 n:Int
def nC(now:Int)(t:Q0)(k:Lk):Lk:=match k.f with
 |[]=>{k with h:=(mZ 1 now t k.h k.n).1,n:=(mZ 1 now t k.h k.n).2}
 |f::r=>if f.dr=true then {k with f:=r}else {f:=r,h:=(mZ (f.c+1) (now+f.d) (lg f t) k.h k.n).1,n:=(mZ (f.c+1) (now+f.d) (lg f t) k.h k.n).2}
set_option maxHeartbeats 4000000 in
def ama(now:Int)(t:Q0)(k:Lk)(hf:∀f∈k.f,Gw f)(hk:k.f.length<=100000)(W:t.length<=100000000)(jL:0<=now/\now<=900000000000)(hl:k.h.length+4<=100000)(n0:0<=k.n)(hn:k.n+4<=1000000)(hh:Heap k.h k.h.length):
 TT.lim 145 [.zu now,.l [.s t],.l (k.f.map bg),.l (k.h.map dD),.zu k.n]=some [.zq 0,.l ((nC now t k).f.map bg),.l ((nC now t k).h.map dD),.zu (nC now t k).n]:=by
 have w1:IntKind.i64.wrap 1=1:=rfl;have e:∀(P:Q1)(i:List It)(n:Int),TT.lim 146 [.zu now,.l [.s t],.zq 1,.zq 1,.l P,.l (i.map dD),.zu n]=some [.zq 0,.l P,.l (i.map dD),.zu n]:=by intro P i n;refine aB ?_;simp
 suffices h:TT.lim 146 [.zu now,.l [.s t],.zq 1,.zq 0,.l (k.f.map bg),.l (k.h.map dD),.zu k.n]=some [.zq 0,.l ((nC now t k).f.map bg),.l ((nC now t k).h.map dD),.zu (nC now t k).n] by generalize nC now t k=R,k.f.map bg=FG,k.h.map dD=HG at *;refine aB ?_;simp -implicitDefEqProofs[h]
 obtain⟨P,i,n⟩:=k;simp only at *;cases P with
 |nil=>
  unfold nC;simp only[jJ];have b:=copies now now t [t] (.zq 1) (.zq 0) (.l []) 1 ah ah 1 0 i n ah ah n0 ah hh;rw[(ah:now+((0:Nat):Int)=now)]at b;have hw:=jW now;have e:=e [] (mZ 1 now t i n).1 (mZ 1 now t i n).2;generalize mZ 1 now t i n=R at *;have b:TT.lim 147 [.zu now,.s t,.zu now,.l [.s t],.zq 1,.zq 0,.zu 1,.zu 0,.l [],.l (i.map dD),.zu n]=some [.zq 0,.l (R.1.map dD),.zu R.2]:=b;cases t with
  |nil=>refine aB ?_;simp -implicitDefEqProofs[hw,w1,b,e]
  |cons x r=>
   obtain⟨m,o,l⟩:=amf (u:=x::r) (k:=0) aA (Ah x 0);have X:=anG x 0 ah;have b0:(x::r).set 0 (Ah x 0)=x::r:=by rw[anF];rfl
   rw[b0]at l;have o:at2 1 (some (.l (dJ (x::r)))) (some (.zq 0))=some (.i .u8 (x.toNat:Int)):=o;have m:Fe (some (.l (dJ (x::r)))) (some (.zq 0))=some (.zq 0):=m;have l:Gq 1 0 (some (.l (dJ (x::r)))) (some (.zq 0)) (some [.i .u8 ((Ah x 0).toNat:Int)])=some (.l (dJ (x::r))):=l;have bk:=ZT (x::r);have bl:(dJ (x::r)).length<=2^48:=by simp only[dJ,gU];simp only[iE]at W⊢;omega
   have Y:¬((r.length:Int)+1<=0):=ah;have X:dA .xor .u8 (x.toNat:Int) 0=some (.i .u8 ((Ah x 0).toNat:Int)):=X;have p:at2 1 (some (.l [.s (x::r)])) (some (.zq 0))=some (.s (x::r)):=rfl;generalize j:dJ (x::r)=Z at *;generalize Ah x 0=y at *;refine aB ?_;simp -implicitDefEqProofs[-ku,-fO,-vX,p,j,hw,w1,Y,m,o,X,l,bk,bl,b,e]
 |cons f r=>
  unfold nC;simp only[jc];have fo:=hf f aA;have aa:(r.length:Int)+1>0:=ah;have z:((r.map bg).length:Int)=(r.length:Int):=by rw[gU]
  have p:at2 1 (some (.l [.s t])) (some (.zq 0))=some (.s t):=rfl;have A:at2 6 (some (.l (bg f::r.map bg))) (some (.zq 0))=some (bg f):=rfl;have a:Ou 6 (some (.l (bg f::r.map bg))) (some (.zq 1)) (some (.zq ((r.length:Int)+1)))=some (.l (r.map bg)):=by
   rw[nT,au]
   ·rw[(ah:((r.length:Int)+1).toNat=r.length+1),show(1:Int).toNat=1 from rfl,mF aA];rfl
   ·refine⟨ah,ah,aA,?_⟩;rw[List.all_eq_true];intro g hg;rcases bH.1 hg with rfl|hg
    ·rfl
    ·obtain⟨x,-,rfl⟩:=rZ.1 hg;rfl
  by_cases V:f.dr=true
  ·rw[au V];have e:=e (r.map bg) i n;generalize r.map bg=B at *;refine aB ?_;simp -implicitDefEqProofs[-nT,-fO,p,A,z,w1,V,a,e]
  rw[aj V];have E:f.dr=false:=by simpa using V
  have c3:=fo.c;have hd:=fo.d;have b:=copies now (now+f.d) (lg f t) [t] (.zq 1) (.zq 0) (.l (r.map bg)) (f.c+1) ah ah (f.c+1) 0 i n ah ah n0 ah hh;rw[(ah:now+(f.d:Int)+((0:Nat):Int)=now+f.d)]at b;have e:=e (r.map bg) (mZ (f.c+1) (now+f.d) (lg f t) i n).1 (mZ (f.c+1) (now+f.d) (lg f t) i n).2;generalize mZ (f.c+1) (now+f.d) (lg f t) i n=R at *;have b:TT.lim 147 [.zu now,.s (lg f t),.zu (now+f.d),.l [.s t],.zq 1,.zq 0,.zu ((f.c:Int)+1),.zu 0,.l (r.map bg),.l (i.map dD),.zu n]=some [.zq 0,.l (R.1.map dD),.zu R.2]:=by have e2:((f.c+1:Nat):Int)=(f.c:Int)+1:=ah;rw[e2]at b;exact b
  have F:=jW ((f.d:Int));have G:=jW ((f.c:Int));have H:=jW ((f.c:Int)+1);have I:=jW (now+(f.d:Int))
  have q:∀u:Q0,AA f t=u->u.length<=100000000->(f.at_<0/\lg f t=u)\/(¬f.at_<0/\(u.length:Int)<=f.at_/\lg f t=u)\/
   (¬f.at_<0/\¬(u.length:Int)<=f.at_/\∃(x:UInt8)(y:UInt8),Fe (some (.l (dJ u))) (some (.zq f.at_))=some (.zq f.at_)/\at2 1 (some (.l (dJ u))) (some (.zq f.at_))=some (.i .u8 (x.toNat:Int))/\dA .xor .u8 (x.toNat:Int) (f.tZ:Int)=some (.i .u8 (y.toNat:Int))/\
    Gq 1 0 (some (.l (dJ u))) (some (.zq f.at_)) (some [.i .u8 (y.toNat:Int)])=some (.l (dJ (lg f t)))/\(dJ (lg f t)).length<=2^48/\pO (dJ (lg f t))=some (lg f t)):=by
   intro u L Fb;by_cases c:f.at_<0
   ·refine .inl ⟨c,?_⟩;unfold lg LX;rw[L,au c]
   by_cases d:(u.length:Int)<=f.at_
   ·refine .inr (.inl ⟨c,d,?_⟩);unfold lg LX;rw[L,aj c,au d]
   ·refine .inr (.inr ⟨c,d,u.getD f.at_.toNat 0,Ah (u.getD f.at_.toNat 0) f.tZ,?_⟩);obtain⟨m,o,l⟩:=amf (u:=u) (k:=f.at_.toNat) ah (Ah (u.getD f.at_.toNat 0) f.tZ);rw[Jf ah]at m o l;have Q:lg f t=u.set f.at_.toNat (Ah (u.getD f.at_.toNat 0) f.tZ):=by unfold lg LX;rw[L,aj c,aj d]
    refine⟨m,o,anG _ _ fo.tZ,by rw[Q];exact l,?_,ZT _⟩;rw[Q];simp only[dJ,gU,Ji];omega
  by_cases s:0<f.cu
  ·by_cases M:f.cu<t.length
   ·have L:AA f t=t.take f.cu.toNat:=by unfold AA;rw[au ⟨s,M⟩]
    have Fb:(t.take f.cu.toNat).length<=100000000:=by rw[mQ];omega
    have N:f.cu<=(t.length:Int):=ah;have O:0<=f.cu:=ah;rcases q _ L Fb with⟨c,v⟩|⟨c,d,v⟩|⟨c,d,x,y,m,o,l,S,T,U⟩
    ·rw[v]at b;generalize w:t.take f.cu.toNat=u at *;generalize r.map bg=B at *;refine aB ?_;simp -implicitDefEqProofs[-nT,-fO,p,A,z,w,w1,E,a,s,M,N,O,c,F,G,H,I,b,e]
    ·rw[v]at b;generalize w:t.take f.cu.toNat=u at *;generalize r.map bg=B at *;refine aB ?_;simp -implicitDefEqProofs[-nT,-fO,p,A,z,w,w1,E,a,s,M,N,O,c,d,F,G,H,I,b,e]
    ·generalize lg f t=D at *;generalize w:t.take f.cu.toNat=u at *;generalize j:dJ u=Z at *;generalize dJ D=DG,r.map bg=B at *;refine aB ?_;simp -implicitDefEqProofs[-ku,-fO,-vX,-nT,p,A,z,j,w,w1,E,a,s,M,N,O,c,d,m,o,l,S,T,U,F,G,H,I,b,e]
   ·have L:AA f t=t:=by unfold AA;rw[aj (λh=>M h.2)]
    rcases q _ L W with⟨c,v⟩|⟨c,d,v⟩|⟨c,d,x,y,m,o,l,S,T,U⟩
    ·rw[v]at b;generalize r.map bg=B at *;refine aB ?_;simp -implicitDefEqProofs[-nT,-fO,p,A,z,w1,E,a,s,M,c,F,G,H,I,b,e]
    ·rw[v]at b;generalize r.map bg=B at *;refine aB ?_;simp -implicitDefEqProofs[-nT,-fO,p,A,z,w1,E,a,s,M,c,d,F,G,H,I,b,e]
    ·generalize lg f t=D at *;generalize j:dJ t=Z at *;generalize dJ D=DG,r.map bg=B at *;refine aB ?_;simp -implicitDefEqProofs[-ku,-fO,-vX,-nT,p,A,z,j,w1,E,a,s,M,c,d,m,o,l,S,T,U,F,G,H,I,b,e]
  ·have L:AA f t=t:=by unfold AA;rw[aj (λh=>s h.1)]
   rcases q _ L W with⟨c,v⟩|⟨c,d,v⟩|⟨c,d,x,y,m,o,l,S,T,U⟩
   ·rw[v]at b;generalize r.map bg=B at *;refine aB ?_;simp -implicitDefEqProofs[-nT,-fO,p,A,z,w1,E,a,s,c,F,G,H,I,b,e]
   ·rw[v]at b;generalize r.map bg=B at *;refine aB ?_;simp -implicitDefEqProofs[-nT,-fO,p,A,z,w1,E,a,s,c,d,F,G,H,I,b,e]
   ·generalize lg f t=D at *;generalize j:dJ t=Z at *;generalize dJ D=DG,r.map bg=B at *;refine aB ?_;simp -implicitDefEqProofs[-ku,-fO,-vX,-nT,p,A,z,j,w1,E,a,s,c,d,m,o,l,S,T,U,F,G,H,I,b,e]
structure Pr where
 s0:bf
 s1:bf
 k0:Lk
 k1:Lk
 now:Int
 rc:List (Int×Int×Int)
def AB(e:Int×Int×Int):GV:=.g [.zu e.1,.zq e.2.1,.zq e.2.2]
@[simp] theorem aHV(e:Int×Int×Int):(AB e).cells=[.zu e.1,.zq e.2.1,.zq e.2.2]:=rfl
def VP(a b c:Int):GV.g [.zu a,.zq b,.zq c]=AB (a,b,c):=rfl
def dZ(k:Lk):Q1:=[.l (k.f.map bg),.l (k.h.map dD),.zu k.n]
def dw(x:Pr):Q1:=[.zu x.now,.l (x.rc.map AB)]++(dZ x.k1++(dZ x.k0++(dH x.s1++dH x.s0)))
def gG(x:Pr):Q1:=.l (x.rc.map AB)::(dZ x.k1++(dZ x.k0++(kD x.s1++kD x.s0)))
def Dead(t:Q0):Prop:=(lM t).2.2=0->¬(lM t).2.1<t.length->rY [2,7,8] (lM t).1
noncomputable def wT (t:Q0):Nat:=@ite Nat (Dead t) (Classical.propDecidable _) 2 5
def Ua(t:Q0):2<=wT t/\wT t<=5:=by unfold wT;split<;>omega
def anv{t:Q0}(h:Dead t):wT t=2:=by unfold wT;rw[au h]
def aGH{t:Q0}(h:¬Dead t):wT t=5:=by unfold wT;rw[aj h]
noncomputable def wQ:List It->Nat
 |[]=>0
 |x::r=>wT x.2.2+wQ r
noncomputable def wS:Wa->Nat
 |[]=>0
 |x::r=>wT x+wS r
def anu{a b:List It}(h:a.Perm b):wQ a=wQ b:=by
 induction h with
 |nil=>rfl
 |cons x _ c=>simp only[wQ];omega
 |swap x y l=>simp only[wQ];omega
 |trans _ _ d e=>omega
def aGG(a b:List It):wQ (a++b)=wQ a+wQ b:=by
 induction a with
 |nil=>simp[wQ]
 |cons x r c=>simp only[bG,wQ];omega
def aev(a:List It):2*a.length<=wQ a:=by
 induction a with
 |nil=>simp[wQ]
 |cons x r b=>have:=Ua x.2.2;simp only[iE,wQ];omega
def ado(t:Q0):∀(m:Nat)(a:Int)(h:List It)(n:Int),Heap h h.length->wQ (mZ m a t h n).1=wQ h+m*wT t
 |0,a,h,n,b=>by simp[mZ]
 |m+1,a,h,n,b=>by have c:=OV h (a,n,t) b;have d:=SQ h (a,n,t) b;have e:=ado t m (a+1) (rV h (a,n,t)) (n+1) (by rw[d];exact c.1);unfold mZ;rw[e,anu c.2,aGG];simp only[wQ];rw[uK];omega
def SS(t:Q0):∀(m:Nat)(a:Int)(h:List It)(n:Int),Heap h h.length->∀y∈(mZ m a t h n).1,y∈h\/(y.2.2=t/\a<=y.1)
 |0,a,h,n,b,y,c=>.inl c
 |m+1,a,h,n,b,y,c=>by
  have d:=OV h (a,n,t) b;have e:=SQ h (a,n,t) b;rcases SS t m (a+1) (rV h (a,n,t)) (n+1) (by rw[e];exact d.1) y c with q|⟨f,g⟩
  ·rcases jQ.1 (d.2.mem_iff.1 q)with q|q
   ·exact .inl q
   ·rw[jX.1 q];exact .inr ⟨rfl,iG _⟩
  ·exact .inr ⟨f,ah⟩
structure zH(k:Lk):Prop where
 f:∀f∈k.f,Gw f
 h:Heap k.h k.h.length
 n:0<=k.n
 t:∀y∈k.h,y.2.2.length<=70000
noncomputable def oM (k:Lk):Nat:=k.n.toNat+wQ k.h+24*k.f.length
def Yf{now:Int}{t:Q0}{k:Lk}(i:zH k)(w:t.length<=70000):zH (nC now t k)/\oM (nC now t k)<=oM k+1+wT t/\(nC now t k).f.length<=k.f.length:=by
 obtain⟨x,c,n⟩:=k;have d:=i.n;have a:=i.h;have b:=i.t;have j:=i.f;simp only at d a b j;cases x with
 |nil=>
  unfold nC;simp only;obtain⟨l,z,m⟩:=adn now t 1 c n a;have o:=ado t 1 now c n a;have p:=SS t 1 now c n a;refine⟨⟨(λf h=>by cases h),l,by simp only;omega,λy s=>?_⟩,?_,aA⟩
  ·rcases p y s with q|⟨q,-⟩
   ·exact b y q
   ·rw[q];exact w
  ·unfold oM;simp only[o,m,lQ];omega
 |cons f r=>
  unfold nC;simp only;have e:∀g∈r,Gw g:=λg A=>j g (by simp[A]);by_cases u:f.dr=true
  ·rw[au u];refine⟨⟨e,a,d,b⟩,?_,aA⟩;unfold oM;simp only[iE];omega
  ·rw[aj u];have B:=j f aA;have F:=B.c;obtain⟨l,z,m⟩:=adn (now+f.d) (lg f t) (f.c+1) c n a;have o:=ado (lg f t) (f.c+1) (now+f.d) c n a;have p:=SS (lg f t) (f.c+1) (now+f.d) c n a;have D:=atC f t;refine⟨⟨e,l,by simp only;omega,λy s=>?_⟩,?_,aA⟩
   ·rcases p y s with q|⟨q,-⟩
    ·exact b y q
    ·rw[q];omega
   ·have E:=(Ua (lg f t)).2;have v:(f.c+1)*wT (lg f t)<=4*5:=Nat.mul_le_mul ah E;unfold oM;simp only[o,m,iE];omega
def iU(now:Int):Wa->Lk->Lk
 |[],k=>k
 |t::r,k=>iU now r (nC now (fA t) k)
noncomputable def wW:Wa->Nat
 |[]=>0
 |x::r=>1+wT (fA x)+wW r
def Wj{t:Q0}(h:t.length<=65536):(fA t).length<=70000:=by have a:=PE 3 t.length ah ah;rw[aaV];omega
def Tt{now:Int}:∀(T:Wa){k:Lk},zH k->(∀t∈T,t.length<=65536)->zH (iU now T k)/\oM (iU now T k)<=oM k+wW T/\(iU now T k).f.length<=k.f.length
 |[],k,a,_=>⟨a,by simp[iU,wW],dP _⟩
 |t::r,k,a,b=>by obtain⟨h1,e,f⟩:=Yf (now:=now) a (Wj (b t aA));obtain⟨c,g,g3⟩:=Tt (now:=now) r h1 (λu d=>b u (by simp[d]));exact⟨c,by simp only[iU,wW];omega,by simp only[iU];omega⟩
def ahq(t:Q0):Int:=if(lM t).2.2=0 then 10 else(lM t).2.2
def jT(i:Nat)(t:Q0)(x:Pr):Pr:=
 if(lM t).2.2=0/\¬(lM t).2.1<t.length then
  (if i=0 then {x with s0:=(bZ (lM t).1 x.s0).1,k0:=iU x.now (bZ (lM t).1 x.s0).2.1 x.k0,rc:=x.rc++[(x.now,0,(bZ (lM t).1 x.s0).2.2)]}
   else {x with s1:=(bZ (lM t).1 x.s1).1,k1:=iU x.now (bZ (lM t).1 x.s1).2.1 x.k1,rc:=x.rc++[(x.now,1,(bZ (lM t).1 x.s1).2.2)]})
 else {x with rc:=x.rc++[(x.now,(i:Int),ahq t)]}
structure gK(x:Pr):Prop where
 s0:kF x.s0
 s1:kF x.s1
 k0:zH x.k0
 k1:zH x.k1
 now:0<=x.now
noncomputable def dL (x:Pr):Nat:=oM x.k0+oM x.k1+x.rc.length
def Yc{b:aQ}{v:Int}{u:Q0}(h:u∈jw b v)(c:b.kind=2\/b.kind=7\/b.kind=8):u.length<=65536/\rY [2,7,8] u:=by obtain⟨d,f⟩:=D9 h ah ah;exact⟨f,Ky d λk a=>by rw[jX.1 a];rcases c with e|e|e<;>rw[e]<;>simp⟩
def Ig(t:Q0)(s:bf):∀u∈(bZ t s).2.1,u.length<=65536/\rY [2,7,8] u:=by
 intro u a;unfold bZ at a;split at a;rotate_left
 ·cases a
 unfold uw at a;split at a
 ·unfold mX at a;repeat' split at a
  all_goals first|(cases a;done)|exact Yc a (.inl rfl)|exact Yc a (.inr (.inr rfl))
 split at a
 ·unfold BR at a;repeat' split at a
  all_goals cases a
 split at a
 ·unfold l9 at a;split at a;rotate_left
  ·cases a
  simp only at a;split at a
  ·cases a
  next c=>
  rcases aed (fE (jh t (jf s)).1 (jh t (jf s)).2.1 s.vs) s.vs (jh t (jf s)).1.kind (jh t (jf s)).1.epoch (jh t (jf s)).1.base (jh t (jf s)).1.t s.sm s.h with e|e|e
  ·exact absurd e c
  ·exact Yc a (.inr (.inl e))
  ·exact Yc a (.inr (.inr e))
 split at a
 ·unfold qK at a;split at a<;>cases a
 split at a
 ·unfold noS at a;repeat' split at a
  all_goals cases a
 ·cases a
def aa7{t:Q0}{s:bf}(h:rY [2,7,8] t):(bZ t s).2.1=[]:=by
 unfold bZ;split;rotate_left
 ·rfl
 next e=>
 have a:=h _ e;have a:(jh t (jf s)).1.kind=2\/(jh t (jf s)).1.kind=7\/(jh t (jf s)).1.kind=8:=by simpa using a
 unfold uw;rw[bW];split
 ·unfold BR;repeat' split
  all_goals rfl
 rw[bW];split
 ·unfold qK;split<;>rfl
 split
 ·unfold noS;repeat' split
  all_goals rfl
 ·rfl
def XY{t:Q0}{s:bf}:wW (bZ t s).2.1<=3:=by
 have a:=Ko t s;have b:=Ig t s;generalize(bZ t s).2.1=c at *;match c,a with
 |[],_=>simp[wW]
 |[u],_=>
  obtain⟨d,e⟩:=b u aA;have f:Dead (fA u):=by intro _ _;rw[akG d];exact e
  simp only[wW,anv f];omega
def VA{i:Nat}{t:Q0}{x:Pr}(a:gK x):gK (jT i t x)/\dL (jT i t x)+1<=dL x+wT t:=by
 have k:=Ua t;unfold jT;by_cases c:(lM t).2.2=0/\¬(lM t).2.1<t.length;rotate_left
 ·rw[aj c];refine⟨⟨a.s0,a.s1,a.k0,a.k1,a.now⟩,?_⟩;unfold dL;simp only[eP,iE,lQ];omega
 rw[au c];have h:=@XY (lM t).1 x.s0;have hr1:=@XY (lM t).1 x.s1;by_cases b:Dead t
 ·have g:=b c.1 c.2;rw[anv b];rw[aa7 g,aa7 g];split
  ·refine⟨⟨Oc a.s0,a.s1,a.k0,a.k1,a.now⟩,?_⟩;unfold dL;simp only[iU,eP,iE,lQ];omega
  ·refine⟨⟨a.s0,Oc a.s1,a.k0,a.k1,a.now⟩,?_⟩;unfold dL;simp only[iU,eP,iE,lQ];omega
 ·rw[aGH b];split
  ·obtain⟨d,j,g3⟩:=Tt (now:=x.now) (bZ (lM t).1 x.s0).2.1 a.k0 (λu f=>(Ig _ _ u f).1);refine⟨⟨Oc a.s0,a.s1,d,a.k1,a.now⟩,?_⟩;unfold dL;simp only[eP,iE,lQ];omega
  ·obtain⟨d,j,g3⟩:=Tt (now:=x.now) (bZ (lM t).1 x.s1).2.1 a.k1 (λu f=>(Ig _ _ u f).1);refine⟨⟨a.s0,Oc a.s1,a.k0,d,a.now⟩,?_⟩;unfold dL;simp only[eP,iE,lQ];omega
def VK(t:Int):∀(m:Nat)(h:List It),h.length=m->Heap h h.length->wQ h=wS (dM m t h).1+wQ (dM m t h).2/\(∀y∈(dM m t h).2,y∈h)/\(∀u∈(dM m t h).1,∃y∈h,y.2.2=u)
 |0,h,b,c=>by obtain rfl:=PX.1 b;exact⟨rfl,λy a=>a,λu hu=>by cases hu⟩
 |m+1,h,b,c=>by
  unfold dM;split
  ·exact⟨by simp[wS],λy a=>a,λu hu=>by cases hu⟩
  ·obtain⟨r1,r2,r3,-⟩:=X0 h m b (by rw[<-b];exact c);obtain⟨g,d,g3⟩:=VK t m (nX h) r1 (by rw[r1];exact r2);have f:=anu r3;simp only[wQ]at f;refine⟨?_,λy a=>r3.mem_iff.1 (zG _ (d y a)),λu hu=>?_⟩
   ·simp only[wS];omega
   ·rcases bH.1 hu with e|hu
    ·exact⟨at_ h 0,r3.mem_iff.1 Um,e.symm⟩
    ·obtain⟨y,a,e⟩:=g3 u hu;exact⟨y,r3.mem_iff.1 (zG _ a),e⟩
def oC(i:Nat):Wa->Pr->Pr
 |[],x=>x
 |t::r,x=>oC i r (jT i t x)
def aap{i:Nat}:∀(T:Wa){x:Pr},gK x->gK (oC i T x)/\dL (oC i T x)+T.length<=dL x+wS T
 |[],x,a=>⟨a,by simp[oC,wS]⟩
 |t::r,x,a=>by obtain⟨h1,c⟩:=VA (i:=i) (t:=t) a;obtain⟨b,d⟩:=aap (i:=i) r h1;refine⟨b,?_⟩;simp only[oC,wS,iE];omega
def yQ(x:Pr):Pr:={x with k0:={x.k0 with h:=(dM x.k0.h.length x.now x.k0.h).2}}
def xJ(x:Pr):Pr:={x with k1:={x.k1 with h:=(dM x.k1.h.length x.now x.k1.h).2}}
def NJ{k:Lk}(t:Int)(a:zH k):zH {k with h:=(dM k.h.length t k.h).2}/\oM {k with h:=(dM k.h.length t k.h).2}+wS (dM k.h.length t k.h).1=oM k/\∀u∈(dM k.h.length t k.h).1,u.length<=70000:=by
 obtain⟨g,c,g3⟩:=VK t k.h.length k.h rfl a.h;have d:=(VJ t k.h.length k.h rfl a.h).1;refine⟨⟨a.f,d,a.n,λy b=>a.t y (c y b)⟩,?_,λu f=>?_⟩
 ·unfold oM;simp only;omega
 ·obtain⟨y,b,e⟩:=g3 u f;rw[<-e];exact a.t y b
def nP(x:Pr):Pr:=oC 1 (dM x.k0.h.length x.now x.k0.h).1 (yQ x)
def qR(x:Pr):Pr:=oC 0 (dM x.k1.h.length x.now x.k1.h).1 (xJ x)
def lG(x:Pr):Pr:=qR (nP x)
def aip{x:Pr}(a:gK x):gK (nP x)/\dL (nP x)+(dM x.k0.h.length x.now x.k0.h).1.length<=dL x:=by
 obtain⟨d1,d2,d3⟩:=NJ x.now a.k0;obtain⟨b,c⟩:=aap (i:=1) (dM x.k0.h.length x.now x.k0.h).1 (x:=yQ x) ⟨a.s0,a.s1,d1,a.k1,a.now⟩;refine⟨b,?_⟩;have e:dL (yQ x)+wS (dM x.k0.h.length x.now x.k0.h).1=dL x:=by unfold dL yQ;simp only;omega
 unfold nP;omega
def av6{x:Pr}(a:gK x):gK (qR x)/\dL (qR x)+(dM x.k1.h.length x.now x.k1.h).1.length<=dL x:=by
 obtain⟨d1,d2,d3⟩:=NJ x.now a.k1;obtain⟨b,c⟩:=aap (i:=0) (dM x.k1.h.length x.now x.k1.h).1 (x:=xJ x) ⟨a.s0,a.s1,a.k0,d1,a.now⟩;refine⟨b,?_⟩;have e:dL (xJ x)+wS (dM x.k1.h.length x.now x.k1.h).1=dL x:=by unfold dL xJ;simp only;omega
 unfold qR;omega
def aal(i:Nat)(t:Q0)(x:Pr):(jT i t x).now=x.now:=by
 unfold jT;split
 ·split<;>rfl
 ·rfl
def aao(i:Nat):∀(T:Wa)(x:Pr),(oC i T x).now=x.now
 |[],x=>rfl
 |t::r,x=>(aao i r _).trans (aal i t x)
def Q8(x:Pr):(nP x).now=x.now:=aao 1 _ _
def ais(x:Pr):(qR x).now=x.now:=aao 0 _ _
def NC(x:Pr):(lG x).now=x.now:=(ais _).trans (Q8 x)
def nextL(h:List It):Option Int:=if h=[]then none else some (at_ h 0).1
def kU(x:Pr):Option Int:=match nextL x.k0.h,nextL x.k1.h with
 |some a,some b=>some (if b<a then b else a)
 |some a,none=>some a
 |none,o=>o
def ahm{h:List It}{a t:Int}(b:nextL h=some a)(d:a<=t):(dM h.length t h).1≠[]:=by
 unfold nextL at b;split at b
 ·cases b
 next c=>
 injection b with b
 cases h with
 |nil=>exact absurd rfl c
 |cons y r=>simp only[iE];unfold dM;rw[aj (λe=>e.elim (λe=>by cases e) (λe=>ah))];simp
def oI:Nat->Pr->Pr
 |0,x=>x
 |f+1,x=>match kU x with
  |none=>x
  |some a=>if a<=x.now then oI f (lG x)else x
def atK{h:List It}{t:Int}(b:∀a,nextL h=some a->t<a):dM h.length t h=([],h):=by
 cases d:h.length with
 |zero=>rfl
 |succ m=>
  unfold dM;rw[au];by_cases c:h=[]
  ·exact .inl c
  ·exact .inr (b _ (by unfold nextL;rw[aj c]))
def Vm{x:Pr}(k:gK x){a:Int}(d:kU x=some a)(l:a<=x.now):gK (lG x)/\dL (lG x)<dL x:=by
 obtain⟨m,s⟩:=aip k;obtain⟨g3,g4⟩:=av6 m;refine⟨g3,?_⟩;unfold lG;by_cases c:(dM x.k0.h.length x.now x.k0.h).1=[]
 rotate_left
 ·have:=MN.2 c;omega
 have i:∀a,nextL x.k0.h=some a->x.now<a:=λa h=>by
  rcases aeP x.now a with q|q
  ·exact q
  ·exact absurd c (ahm h q)
 have n:nP x=x:=by have e:=atK i;unfold nP yQ;rw[e];rfl
 have o:∃b,nextL x.k1.h=some b/\b<=x.now:=by
  unfold kU at d;cases f:nextL x.k0.h with
  |none=>rw[f]at d;exact⟨a,d,l⟩
  |some p=>
   have:=i p f;rw[f]at d;cases j:nextL x.k1.h with
   |none=>rw[j]at d;injection d with d;omega
   |some b=>
    rw[j]at d;injection d with d
    refine⟨b,rfl,?_⟩;split at d<;>omega
 obtain⟨b,r,g⟩:=o;have:=MN.2 (ahm r g);rw[n]at g4⊢;omega
def alU:∀(f:Nat){x:Pr},gK x->gK (oI f x)/\dL (oI f x)<=dL x/\(oI f x).now=x.now
 |0,x,b=>⟨b,dP _,rfl⟩
 |f+1,x,b=>by
  unfold oI;cases d:kU x with
  |none=>exact⟨b,dP _,rfl⟩
  |some a=>
   simp only;split
   ·next c=>
    obtain⟨h1,g⟩:=Vm b d c;obtain⟨e,h,g3⟩:=alU f h1;exact⟨e,ah,g3.trans (NC x)⟩
   ·exact⟨b,dP _,rfl⟩
def run_end:∀(f:Nat){x:Pr},gK x->dL x<f->∀a,kU (oI f x)=some a->x.now<a
 |0,x,g,h=>ah
 |f+1,x,g,h=>by
  intro a d;unfold oI at d;cases e:kU x with
  |none=>rw[e]at d;simp only at d;rw[e]at d;cases d
  |some b=>
   rw[e]at d;simp only at d;split at d
   ·next c=>
    obtain⟨h1,i⟩:=Vm g e c;have:=run_end f h1 ah a d;rw[NC]at this;exact this
   ·next c=>rw[e]at d;injection d with d;omega
noncomputable def sG (a:Int) (x:Pr):Pr:=oI (dL x+1) {x with now:=if x.now+1<a then a else x.now+1}
noncomputable def ql:Nat->Int->Pr->Pr
 |0,_,x=>x
 |f+1,last,x=>if x.now<last then(match kU x with
   |none=>{x with now:=last}
   |some a=>if last<a then {x with now:=last}else ql f last (sG a x))else x
def afL{a:Int}{x:Pr}(c:gK x):gK (sG a x)/\dL (sG a x)<=dL x/\(sG a x).now=(if x.now+1<a then a else x.now+1)/\∀b,kU (sG a x)=some b->(sG a x).now<b:=by
 have d:gK {x with now:=if x.now+1<a then a else x.now+1}:=⟨c.s0,c.s1,c.k0,c.k1,by have:=c.now;simp only;split<;>omega⟩
 obtain⟨f,g,g3⟩:=alU (dL x+1) d;have e:=run_end (dL x+1) d (show dL _<dL x+1 from Eu _);refine⟨f,g,g3,λb h=>?_⟩;have:=e b h;rw[show(sG a x).now=_ from g3];exact this
noncomputable def zl (n:Int) (x:Pr):Pr:=ql (n.toNat+1) (x.now+n) x
def go_ok:∀(f:Nat){last:Int}{x:Pr},gK x->(last-x.now).toNat<f->gK (ql f last x)/\dL (ql f last x)<=dL x/\(x.now<=last->(ql f last x).now=last)
 |0,last,x,b,g=>ah
 |f+1,last,x,b,g=>by
  unfold ql;split;rotate_left
  ·exact⟨b,dP _,λh=>ah⟩
  next c=>
  have e:gK {x with now:=last}:=⟨b.s0,b.s1,b.k0,b.k1,by have:=b.now;simp only;omega⟩
  cases l:kU x with
  |none=>exact⟨e,dP _,λ_=>rfl⟩
  |some a=>
   simp only;split
   ·exact⟨e,dP _,λ_=>rfl⟩
   ·next m=>
    obtain⟨i,n,j,-⟩:=afL (a:=a) b;have d:(sG a x).now<=last/\x.now<(sG a x).now:=by rw[j];split<;>omega
    obtain⟨k,o,g3⟩:=go_ok f (last:=last) i ah;exact⟨k,ah,λ_=>g3 d.1⟩
def ajt{k:Lk}(a:zH k){B:Nat}(h:oM k<=B):k.h.length<=B/\k.n<=B/\k.f.length<=B:=by have b:=aev k.h;have c:=a.n;unfold oM at h;omega
def al6(x:Pr)(T:Wa)(p:T.length<=1000)(n:∀t∈T,t.length<=65536)(o:0<=x.now/\x.now<=800000000000):∀(m j:Nat)(k:Lk),j+m=T.length->zH k->oM k+wW (T.drop j)<=90000->
 TT.lim 286 ([.zq 0,.l (T.map .s),.zq (T.length:Int),.zq (j:Int)]++dw {x with k0:=k})=some (.zq 0::(dZ x.k1++dZ (iU x.now (T.drop j) k)))
 |0,j,k,q,b,e=>by have f:¬((j:Int)<T.length):=ah;rw[iP];simp only[iU,dw,dZ,dH,bG,aZ];refine aB ?_;simp -implicitDefEqProofs[f]
 |m+1,j,k,q,b,e=>by
  have a:j<T.length:=ah;have f:(j:Int)<T.length:=ah;have r:IntKind.i64.wrap ((j:Int)+1)=((j+1:Nat):Int):=by rw[wrap64 ah ah];omega
  have s:T.drop j=T[j]::T.drop (j+1):=iY a;have g:at2 1 (some (.l (T.map .s))) (some (.zq (j:Int)))=some (.s T[j]):=by rw[fO,lY,zF,jA,cO a];rfl
  have c:T[j]∈T:=iZ a;rw[s]at e⊢;generalize T[j]=t at *;have d:=n t c;have h:=anB t d;have i:=Wj d;simp only[wW]at e;obtain⟨w,y,z⟩:=ajt b (B:=90000) ah;have u:=ama x.now (fA t) k b.f ah ah ⟨o.1,ah⟩ ah b.n ah b.h;obtain⟨v,A,g3⟩:=Yf (now:=x.now) b i;have l:=al6 x T p n o m (j+1) (nC x.now (fA t) k) ah v ah;rw[show iU x.now (t::T.drop (j+1)) k=iU x.now (T.drop (j+1)) (nC x.now (fA t) k)from rfl];generalize iU x.now (T.drop (j+1)) (nC x.now (fA t) k)=E at *;generalize nC x.now (fA t) k=R at *;generalize fA t=D at *;simp only[dw,dZ,dH,bG,aZ]at l⊢;rw[<-r]at l;generalize T.map GV.s=F,(T.length:Int)=G at *;refine aB ?_;simp -implicitDefEqProofs[f,g,h,u,l]
def al7(x:Pr)(T:Wa)(p:T.length<=1000)(n:∀t∈T,t.length<=65536)(o:0<=x.now/\x.now<=800000000000):∀(m j:Nat)(k:Lk),j+m=T.length->zH k->oM k+wW (T.drop j)<=90000->
 TT.lim 286 ([.zq 1,.l (T.map .s),.zq (T.length:Int),.zq (j:Int)]++dw {x with k1:=k})=some (.zq 0::(dZ (iU x.now (T.drop j) k)++dZ x.k0))
 |0,j,k,q,b,e=>by have f:¬((j:Int)<T.length):=ah;rw[iP];simp only[iU,dw,dZ,dH,bG,aZ];refine aB ?_;simp -implicitDefEqProofs[f]
 |m+1,j,k,q,b,e=>by
  have a:j<T.length:=ah;have f:(j:Int)<T.length:=ah;have r:IntKind.i64.wrap ((j:Int)+1)=((j+1:Nat):Int):=by rw[wrap64 ah ah];omega
  have s:T.drop j=T[j]::T.drop (j+1):=iY a;have g:at2 1 (some (.l (T.map .s))) (some (.zq (j:Int)))=some (.s T[j]):=by rw[fO,lY,zF,jA,cO a];rfl
  have c:T[j]∈T:=iZ a;rw[s]at e⊢;generalize T[j]=t at *;have d:=n t c;have h:=anB t d;have i:=Wj d;simp only[wW]at e;obtain⟨w,y,z⟩:=ajt b (B:=90000) ah;have u:=ama x.now (fA t) k b.f ah ah ⟨o.1,ah⟩ ah b.n ah b.h;obtain⟨v,A,g3⟩:=Yf (now:=x.now) b i;have l:=al7 x T p n o m (j+1) (nC x.now (fA t) k) ah v ah;rw[show iU x.now (t::T.drop (j+1)) k=iU x.now (T.drop (j+1)) (nC x.now (fA t) k)from rfl];generalize iU x.now (T.drop (j+1)) (nC x.now (fA t) k)=E at *;generalize nC x.now (fA t) k=R at *;generalize fA t=D at *;simp only[dw,dZ,dH,bG,aZ]at l⊢;rw[<-r]at l;generalize T.map GV.s=F,(T.length:Int)=G at *;refine aB ?_;simp -implicitDefEqProofs[f,g,h,u,l]
def Yd(x:Pr)(b:gK x)(T:Wa)(c:T.length<=1000)(d:∀t∈T,t.length<=65536)(e:x.now<=800000000000)(f:oM x.k0+wW T<=90000):
 TT.lim 285 ([.zq 0,.l (T.map .s)]++dw x)=some (.zq 0::(dZ x.k1++dZ (iU x.now T x.k0))):=by
 have h:=al6 x T c d ⟨b.now,e⟩ T.length 0 x.k0 ah b.k0 (by rw[dY];exact f);rw[dY]at h;have a:((T.map GV.s).length:Int)=(T.length:Int):=by rw[gU]
 generalize iU x.now T x.k0=E at *;simp only[dw,dZ,dH,bG,aZ,tJ]at h⊢;generalize T.map GV.s=g,(T.length:Int)=i at *;refine aB ?_;simp -implicitDefEqProofs[a,h]
def Ye(x:Pr)(b:gK x)(T:Wa)(c:T.length<=1000)(d:∀t∈T,t.length<=65536)(e:x.now<=800000000000)(f:oM x.k1+wW T<=90000):
 TT.lim 285 ([.zq 1,.l (T.map .s)]++dw x)=some (.zq 0::(dZ (iU x.now T x.k1)++dZ x.k0)):=by
 have h:=al7 x T c d ⟨b.now,e⟩ T.length 0 x.k1 ah b.k1 (by rw[dY];exact f);rw[dY]at h;have a:((T.map GV.s).length:Int)=(T.length:Int):=by rw[gU]
 generalize iU x.now T x.k1=E at *;simp only[dw,dZ,dH,bG,aZ,tJ]at h⊢;generalize T.map GV.s=g,(T.length:Int)=i at *;refine aB ?_;simp -implicitDefEqProofs[a,h]
def U5{l:List (Int×Int×Int)}(e:Int×Int×Int)(h:l.length<=100000):Jy 3 24 (some (.l (l.map AB))) (some (.l [AB e]))=some (.l ((l++[e]).map AB)):=by
 rw[GY,au]
 ·rw[oJ];rfl
 ·refine⟨rfl,?_,?_⟩<;>simp only[gU,iE,lQ]<;>omega
set_option maxHeartbeats 4000000 in
def apQ(i:Nat)(hi:i=0\/i=1)(t:Q0)(x:Pr)(a:gK x)(E:t.length<=70000)(l:x.now<=800000000000)(A:dL x<=80000):
 TT.lim 287 (.s t::(dw x++[.zq (i:Int)]))=some (.zq 0::gG (jT i t x)):=by
 have m:=akF t ah;have s:=azU t;unfold dL at A;have f:x.rc.length<=100000:=ah;unfold jT ahq;generalize lM t=P at *;obtain⟨p,n,e⟩:=P;simp only at m s⊢;by_cases r:e=0;rotate_left
 ·rw[aj (λh=>r h.1),aj r];have g:=U5 (x.now,(i:Int),e) f;have d:TT.lim 285 ([.zq (i:Int),.l []]++dw {x with rc:=x.rc++[(x.now,(i:Int),e)]})=some (.zq 0::(dZ x.k1++dZ x.k0)):=by
   rcases hi with rfl|rfl
   ·exact Yd {x with rc:=x.rc++[(x.now,((0:Nat):Int),e)]} ⟨a.s0,a.s1,a.k0,a.k1,a.now⟩ [] aA (λt h=>by cases h) l (by simp only[wW];omega)
   ·exact Ye {x with rc:=x.rc++[(x.now,((1:Nat):Int),e)]} ⟨a.s0,a.s1,a.k0,a.k1,a.now⟩ [] aA (λt h=>by cases h) l (by simp only[wW];omega)
  simp only[dw,gG,dZ,dH,kD,bG,aZ]at d⊢;generalize(x.rc++[(x.now,(i:Int),e)]).map AB=v at *;generalize(i:Int)=B at *;refine aB ?_;simp -implicitDefEqProofs[m,r,VP,g,d]
 subst r;by_cases o:n<t.length
 ·rw[aj (λh=>h.2 o),au rfl];have g:=U5 (x.now,(i:Int),10) f;have d:TT.lim 285 ([.zq (i:Int),.l []]++dw {x with rc:=x.rc++[(x.now,(i:Int),10)]})=some (.zq 0::(dZ x.k1++dZ x.k0)):=by
   rcases hi with rfl|rfl
   ·exact Yd {x with rc:=x.rc++[(x.now,((0:Nat):Int),10)]} ⟨a.s0,a.s1,a.k0,a.k1,a.now⟩ [] aA (λt h=>by cases h) l (by simp only[wW];omega)
   ·exact Ye {x with rc:=x.rc++[(x.now,((1:Nat):Int),10)]} ⟨a.s0,a.s1,a.k0,a.k1,a.now⟩ [] aA (λt h=>by cases h) l (by simp only[wW];omega)
  simp only[dw,gG,dZ,dH,kD,bG,aZ]at d⊢;generalize(x.rc++[(x.now,(i:Int),10)]).map AB=v at *;generalize(i:Int)=B at *;refine aB ?_;simp -implicitDefEqProofs[m,o,VP,g,d]
 rw[au ⟨rfl,o⟩];rcases hi with rfl|rfl
 ·rw[au rfl];have q:=aiv p x.s0 ah a.s0;have b:=WE p x.s0;have j:=Oc (t:=p) a.s0;have w:=@XY p x.s0;have k:=Ig p x.s0;have y:=Ko p x.s0;generalize bZ p x.s0=c at *;have g:=U5 (x.now,0,c.2.2) f;have d:=Yd {x with s0:=c.1,rc:=x.rc++[(x.now,0,c.2.2)]} ⟨j,a.s1,a.k0,a.k1,a.now⟩ c.2.1 ah (λu z=>(k u z).1) l (by simp only;omega);simp only[dw,gG,dZ,dH,kD,WI,bG,aZ]at d q⊢;rw[b.1,b.2.1,b.2.2.1,b.2.2.2]at d;generalize iU x.now c.2.1 x.k0=K,(x.rc++[(x.now,0,c.2.2)]).map AB=v,c.2.1.map GV.s=D at *;refine aB ?_;simp -implicitDefEqProofs[m,o,VP,q,g,d]
 ·rw[bW];have q:=aiv p x.s1 ah a.s1;have b:=WE p x.s1;have j:=Oc (t:=p) a.s1;have w:=@XY p x.s1;have k:=Ig p x.s1;have y:=Ko p x.s1;generalize bZ p x.s1=c at *;have g:=U5 (x.now,1,c.2.2) f;have d:=Ye {x with s1:=c.1,rc:=x.rc++[(x.now,1,c.2.2)]} ⟨a.s0,j,a.k0,a.k1,a.now⟩ c.2.1 ah (λu z=>(k u z).1) l (by simp only;omega);simp only[dw,gG,dZ,dH,kD,WI,bG,aZ]at d q⊢;rw[b.1,b.2.1,b.2.2.1,b.2.2.2]at d;generalize iU x.now c.2.1 x.k1=K,(x.rc++[(x.now,1,c.2.2)]).map AB=v,c.2.1.map GV.s=D at *;refine aB ?_;simp -implicitDefEqProofs[m,o,VP,q,g,d]
def aam(i:Nat)(t:Q0)(x:Pr):((jT i t x).s0.mn=x.s0.mn/\(jT i t x).s0.mx=x.s0.mx/\(jT i t x).s0.name=x.s0.name/\(jT i t x).s0.first=x.s0.first)/\((jT i t x).s1.mn=x.s1.mn/\(jT i t x).s1.mx=x.s1.mx/\(jT i t x).s1.name=x.s1.name/\(jT i t x).s1.first=x.s1.first):=by
 unfold jT;split
 ·split
  ·exact⟨WE _ _,rfl,rfl,rfl,rfl⟩
  ·exact⟨⟨rfl,rfl,rfl,rfl⟩,WE _ _⟩
 ·exact⟨⟨rfl,rfl,rfl,rfl⟩,rfl,rfl,rfl,rfl⟩
structure Fix(x y:Pr):Prop where
 a:y.s0.mn=x.s0.mn/\y.s0.mx=x.s0.mx/\y.s0.name=x.s0.name/\y.s0.first=x.s0.first
 b:y.s1.mn=x.s1.mn/\y.s1.mx=x.s1.mx/\y.s1.name=x.s1.name/\y.s1.first=x.s1.first
def Fix.refl(x:Pr):Fix x x:=⟨⟨rfl,rfl,rfl,rfl⟩,rfl,rfl,rfl,rfl⟩
def Fix.trans{x y z:Pr}(h:Fix x y)(g:Fix y z):Fix x z:=
 ⟨⟨g.a.1.trans h.a.1,g.a.2.1.trans h.a.2.1,g.a.2.2.1.trans h.a.2.2.1,g.a.2.2.2.trans h.a.2.2.2⟩,⟨g.b.1.trans h.b.1,g.b.2.1.trans h.b.2.1,g.b.2.2.1.trans h.b.2.2.1,g.b.2.2.2.trans h.b.2.2.2⟩⟩
def aan(i:Nat):∀(T:Wa)(x:Pr),Fix x (oC i T x)
 |[],x=>Fix.refl x
 |t::r,x=>Fix.trans ⟨(aam i t x).1,(aam i t x).2⟩ (aan i r _)
def aio(x:Pr):Fix x (nP x):=Fix.trans (y:=yQ x) ⟨⟨rfl,rfl,rfl,rfl⟩,rfl,rfl,rfl,rfl⟩ (aan 1 _ (yQ x))
def air(x:Pr):Fix x (qR x):=Fix.trans (y:=xJ x) ⟨⟨rfl,rfl,rfl,rfl⟩,rfl,rfl,rfl,rfl⟩ (aan 0 _ (xJ x))
def agi(x:Pr):Fix x (lG x):=(aio x).trans (air _)
def alR:∀(f:Nat)(x:Pr),Fix x (oI f x)
 |0,x=>Fix.refl x
 |f+1,x=>by
  unfold oI;cases kU x with
  |none=>exact Fix.refl x
  |some a=>
   simp only;split
   ·exact(agi x).trans (alR f _)
   ·exact Fix.refl x
def afM(a:Int)(x:Pr):Fix x (sG a x):=Fix.trans (y:={x with now:=if x.now+1<a then a else x.now+1}) ⟨⟨rfl,rfl,rfl,rfl⟩,rfl,rfl,rfl,rfl⟩ (alR _ _)
def aib:∀(f:Nat)(last:Int)(x:Pr),Fix x (ql f last x)
 |0,last,x=>Fix.refl x
 |f+1,last,x=>by
  unfold ql;split;rotate_left
  ·exact Fix.refl x
  cases kU x with
  |none=>exact⟨⟨rfl,rfl,rfl,rfl⟩,rfl,rfl,rfl,rfl⟩
  |some a=>
   simp only;split
   ·exact⟨⟨rfl,rfl,rfl,rfl⟩,rfl,rfl,rfl,rfl⟩
   ·exact(afM a x).trans (aib f last _)
def aaq(i:Nat)(hi:i=0\/i=1)(T:Wa)(q:T.length<=100000)(o:∀t∈T,t.length<=70000):∀(m j:Nat)(x:Pr),j+m=T.length->gK x->x.now<=800000000000->dL x+wS (T.drop j)<=80000->
 TT.lim 296 ([.zq (1-(i:Int)),.l (T.map .s),.zq (T.length:Int),.zq (j:Int)]++dw x)=some (.zq 0::gG (oC i (T.drop j) x))
 |0,j,x,r,e,f,g=>by have h:¬((j:Int)<T.length):=ah;rw[iP];simp only[oC,dw,gG,dZ,dH,kD,bG,aZ];refine aB ?_;simp -implicitDefEqProofs[h]
 |m+1,j,x,r,e,f,g=>by
  have b:j<T.length:=ah;have h:(j:Int)<T.length:=ah;have s:IntKind.i64.wrap ((j:Int)+1)=((j+1:Nat):Int):=by rw[wrap64 ah ah];omega
  have u:T.drop j=T[j]::T.drop (j+1):=iY b;have k:at2 1 (some (.l (T.map .s))) (some (.zq (j:Int)))=some (.s T[j]):=by rw[fO,lY,zF,jA,cO b];rfl
  have c:Fe (some (.l (T.map .s))) (some (.zq (j:Int)))=some (.zq (j:Int)):=by rw[ku,au ⟨ah,by rw[gU];omega⟩]
  have d:T[j]∈T:=iZ b;rw[u]at g⊢;generalize T[j]=t at *;simp only[wS]at g;have v:=Ua t;have p:=apQ i hi t x e (o t d) f ah;obtain⟨w,z⟩:=VA (i:=i) (t:=t) e;have l:=aaq i hi T q o m (j+1) (jT i t x) ah w (by rw[aal];exact f) ah;have a:=aam i t x;have n:=aal i t x;have y:IntKind.i64.wrap (1-(1-(i:Int)))=(i:Int):=by rcases hi with rfl|rfl<;>rfl
  rw[show oC i (t::T.drop (j+1)) x=oC i (T.drop (j+1)) (jT i t x)from rfl];generalize oC i (T.drop (j+1)) (jT i t x)=E at *;generalize jT i t x=Y at *;simp only[dw,gG,dZ,dH,kD,bG,aZ]at p l⊢;rw[n,a.1.1,a.1.2.1,a.1.2.2.1,a.1.2.2.2,a.2.1,a.2.2.1,a.2.2.2.1,a.2.2.2.2,<-s]at l;generalize T.map GV.s=A,(T.length:Int)=B,(j:Int)=D at *;refine aB ?_;simp -implicitDefEqProofs[-ku,-fO,h,k,c,y,p,l]
set_option maxHeartbeats 4000000 in
def ao4(x:Pr)(m:gK x)(n:x.now<=800000000000)(o:dL x<=80000):TT.lim 294 (dw x)=some (.zq 0::gG (lG x)):=by
 have w1:IntKind.i64.wrap 1=1:=rfl;have p:IntKind.i64.wrap 2=2:=rfl;have fin:∀y:Pr,TT.lim 295 (.zq 2::dw y)=some (.zq 0::gG y):=by intro y;simp only[dw,gG,dZ,dH,kD,bG,aZ];refine aB ?_;simp
 have one:∀y:Pr,gK y->y.now<=800000000000->dL y<=80000->TT.lim 295 (.zq 1::dw y)=some (.zq 0::gG (qR y)):=by
  intro y c k l;obtain⟨d1,d2,d3⟩:=NJ y.now c.k1;have q:=aev y.k1.h;have d:oM y.k1<=80000:=by unfold dL at l;omega
  have i:=ahk y.now (.zu y.k1.n) y.k1.h (by unfold oM at d;omega) c.k1.h;have j:(dM y.k1.h.length y.now y.k1.h).1.length<=100000:=by have:=(VJ y.now y.k1.h.length y.k1.h rfl c.k1.h).2;unfold oM at d;omega
  have a:=aaq 0 (.inl rfl) (dM y.k1.h.length y.now y.k1.h).1 j d3 (dM y.k1.h.length y.now y.k1.h).1.length 0 (xJ y) ah ⟨c.s0,c.s1,c.k0,d1,c.now⟩ k (by rw[dY];unfold dL xJ at *;simp only at *;omega)
  rw[dY]at a;have e:=fin (qR y);have b:=air y;have g:=ais y;rw[show oC 0 (dM y.k1.h.length y.now y.k1.h).1 (xJ y)=qR y from rfl]at a;generalize qR y=E at *;unfold xJ at a;generalize dM y.k1.h.length y.now y.k1.h=D at *;have f:((D.1.map GV.s).length:Int)=(D.1.length:Int):=by rw[gU]
  have a:TT.lim 296 ([.zq 1,.l (D.1.map .s),.zq (D.1.length:Int),.zq 0]++dw {y with k1:={y.k1 with h:=D.2}})=some (.zq 0::gG E):=a;simp only[dw,gG,dZ,dH,kD,bG,aZ]at a e⊢;rw[g,b.a.1,b.a.2.1,b.a.2.2.1,b.a.2.2.2,b.b.1,b.b.2.1,b.b.2.2.1,b.b.2.2.2]at e;generalize D.1.map GV.s=r,(D.1.length:Int)=s at *;refine aB ?_;simp -implicitDefEqProofs[p,i,f,a,e]
 have zero:∀y:Pr,gK y->y.now<=800000000000->dL y<=80000->TT.lim 295 (.zq 0::dw y)=some (.zq 0::gG (lG y)):=by
  intro y c k l;obtain⟨d1,d2,d3⟩:=NJ y.now c.k0;have q:=aev y.k0.h;have d:oM y.k0<=80000:=by unfold dL at l;omega
  have i:=ahk y.now (.zu y.k0.n) y.k0.h (by unfold oM at d;omega) c.k0.h;have j:(dM y.k0.h.length y.now y.k0.h).1.length<=100000:=by have:=(VJ y.now y.k0.h.length y.k0.h rfl c.k0.h).2;unfold oM at d;omega
  have a:=aaq 1 (.inr rfl) (dM y.k0.h.length y.now y.k0.h).1 j d3 (dM y.k0.h.length y.now y.k0.h).1.length 0 (yQ y) ah ⟨c.s0,c.s1,d1,c.k1,c.now⟩ k (by rw[dY];unfold dL yQ at *;simp only at *;omega)
  rw[dY]at a;obtain⟨t,u⟩:=aip c;have g:=Q8 y;have e:=one (nP y) t (by rw[g];exact k) ah;have b:=aio y;rw[show qR (nP y)=lG y from rfl]at e;rw[show oC 1 (dM y.k0.h.length y.now y.k0.h).1 (yQ y)=nP y from rfl]at a;generalize lG y=C,nP y=E at *;unfold yQ at a;generalize dM y.k0.h.length y.now y.k0.h=D at *;have f:((D.1.map GV.s).length:Int)=(D.1.length:Int):=by rw[gU]
  have a:TT.lim 296 ([.zq 0,.l (D.1.map .s),.zq (D.1.length:Int),.zq 0]++dw {y with k0:={y.k0 with h:=D.2}})=some (.zq 0::gG E):=a;simp only[dw,gG,dZ,dH,kD,bG,aZ]at a e⊢;rw[g,b.a.1,b.a.2.1,b.a.2.2.1,b.a.2.2.2,b.b.1,b.b.2.1,b.b.2.2.1,b.b.2.2.2]at e;generalize D.1.map GV.s=r,(D.1.length:Int)=s at *;refine aB ?_;simp -implicitDefEqProofs[w1,i,f,a,e]
 have h:=zero x m n o;generalize lG x=C at *;simp only[dw,gG,dZ,dH,kD,bG,aZ]at h⊢;refine aB ?_;simp -implicitDefEqProofs[h]
def Sj(x:Pr):Int:=(kU x).getD 0
def akm(x:Pr):(x.k0.h=[]/\x.k1.h=[]/\kU x=none)\/(∃n,x.k0.h.length=n+1/\x.k1.h=[]/\kU x=some (at_ x.k0.h 0).1)\/(∃n,x.k0.h=[]/\x.k1.h.length=n+1/\kU x=some (at_ x.k1.h 0).1)\/
 (∃n m,x.k0.h.length=n+1/\x.k1.h.length=m+1/\kU x=some (if(at_ x.k1.h 0).1<(at_ x.k0.h 0).1 then(at_ x.k1.h 0).1 else(at_ x.k0.h 0).1)):=by
 unfold kU nextL;cases b:x.k0.h with
 |nil=>
  cases a:x.k1.h with
  |nil=>exact .inl ⟨rfl,rfl,rfl⟩
  |cons y r=>exact .inr (.inr (.inl ⟨r.length,rfl,rfl,rfl⟩))
 |cons z q=>
  cases a:x.k1.h with
  |nil=>exact .inr (.inl ⟨q.length,rfl,rfl,rfl⟩)
  |cons y r=>exact .inr (.inr (.inr ⟨q.length,r.length,rfl,rfl,rfl⟩))
