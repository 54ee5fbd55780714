/- What the trees compute: plain laws. -/
import Derived.Test.YtkoclengoeonnaaGreatDoorKQe7
set_option linter.all false
namespace Go.Proofs.YtkoclengoeonnaaGreatDoor
open Go Go.aP
set_option maxRecDepth 100000
namespace Q
def awS(h:List It)(a n:Int)(t:Q0)(i:h.length<=100000):TT.lim 207 [.zu a,.zu n,.s t,.l (h.map bZ)]=some [.zq 0,.l ((tC h (a,n,t)).map bZ)]:=by have c:=aBH (h++[(a,n,t)]) h.length (.zu n) aA (by simp;omega);have g:=bD (((h.length:Nat):Int));have b:GV.g [.zu a,.zu n,.s t]=bZ (a,n,t):=rfl;have d:(bZ (a,n,t)).fQ 3=true:=rfl;rw[ng]at c;simp only[iC,jg]at c;have e:2*(h.length+1)*32<=281474976710656:=ah;have f:h.length<=281474976710655:=ah;unfold tC;refine aB ?_;simp -implicitDefEqProofs[b,d,e,f,g,c]
def apQ(h:List It)(n:Nat)(c:GV)(e:n<=h.length)(f:h.length<=1000000):∃b:Bool,TT.lim 219 [.zq (n:Int),.l (h.map bZ),c,.zq 0]=some [.zq 0,.b b,.l ((mF (n+1) h 0 n).map bZ)]:=by obtain⟨d,a⟩:=afe (n+1) h 0 n (.zq 0) c ah e f ah;have a:TT.lim 220 [.zq 0,.zq (n:Int),.zq 0,.l (h.map bZ),c]=some [.zq 0,.zq (d:Int),.l ((mF (n+1) h 0 n).map bZ)]:=a;refine⟨decide ((0:Int)<(d:Int)),jd rfl rfl ?_⟩;simp[a]
def awM(h:List It)(n:Nat)(c:GV)(f:h.length=n+1)(E:h.length<=1000000)(j:Heap h (n+1)):
 TT.lim 218 [.l (h.map bZ),c]=some [.zq 0,.zu (at_ h 0).1,.zu (at_ h 0).2.1,.s (at_ h 0).2.2,.l ((mX h).map bZ)]:=by
 have l:(iO h 0 n).length=n+1:=by rw[EN,f]
 obtain⟨b,u⟩:=apQ (iO h 0 n) n c ah ah;obtain⟨-,-,-,a⟩:=VQ h n f j;have d:(mF (n+1) (iO h 0 n) 0 n).length=n+1:=by rw[YL,l]
 have m:mX h=(mF (n+1) (iO h 0 n) 0 n).take n:=by unfold mX;rw[f];rfl
 have o:=JV (h:=h) (k:=0) ah (at_ h n);have p:=JV (h:=h.set 0 (at_ h n)) (k:=n) (by rw[EZ];omega) (at_ h 0);have e:(h.set 0 (at_ h n)).set n (at_ h 0)=iO h 0 n:=rfl;rw[e]at p;rw[m];generalize iO h 0 n=S at *;generalize mF (n+1) S 0 n=D at *;have q:=Bg (h:=h) (k:=0) ah;have r:=Af (h:=h) (k:=0) ah;rw[show(((0:Nat)):Int)=0 from rfl]at q r o;have v:=Bg (h:=h) (k:=n) ah;have w:=Af (h:=h) (k:=n) ah;have s:=Bg (h:=D) (k:=n) ah;have x:=Af (h:=D) (k:=n) ah;have A:=JV (h:=D) (k:=n) ah (0,0,[]);rw[a]at s;have t:(D.set n (0,0,[])).take n=D.take n:=by rw[List.take_set_of_le (cO n)]
 rw[<-t];have g:(D.set n (0,0,[])).length=n+1:=by rw[EZ,d]
 generalize D.set n (0,0,[])=F,h.set 0 (at_ h n)=G at *;have B:=bD (((n:Nat):Int));have i:((n:Nat):Int)<=(n:Int)+1:=ah;clear e t m a j l;generalize at_ h n=y,at_ h 0=z at *;refine aB ?_;simp -implicitDefEqProofs[-iT,-dw,-oh,f,d,B,r,q,w,v,o,p,u,x,s,A,g,i,adf]
def axn(h:List It)(n:Nat)(c:GV)(b:h.length=n+1)(d:h.length<=1000000)(e:Heap h (n+1)):
 TT.lim 217 [.l (h.map bZ),c]=some [.zq 0,.zu (at_ h 0).1,.s (at_ h 0).2.2,.b true,.l ((mX h).map bZ)]:=by
 have f:=awM h n c b d e;have a:¬((n:Int)+1=0):=ah;generalize at_ h 0=z,mX h=R at *;refine aB ?_;simp -implicitDefEqProofs[b,a,f]
def awT(h:List It)(a n:Int)(t:Q0)(c:h.length<=100000)(g:0<=n/\n<=1000000):
 TT.lim 206 [.zu a,.l [.s t],.zq 1,.zq 0,.l (h.map bZ),.zu n]=some [.zq 0,.l ((tC h (a,n,t)).map bZ),.zu (n+1)]:=by
 have d:=awS h a n t c;generalize tC h (a,n,t)=R at *;have e:TT.lim 206 [.zu a,.l [.s t],.zq 1,.zq 1,.l (R.map bZ),.zu (n+1)]=some [.zq 0,.l (R.map bZ),.zu (n+1)]:=by refine aB ?_;simp
 have f:=jD (n+1);have b:IntKind.i64.wrap 1=1:=rfl;refine aB ?_;simp -implicitDefEqProofs[d,f,b,e]
def awY(h:List It)(a n:Int)(t:Q0)(b:h.length<=100000)(c:0<=n/\n<=1000000):
 TT.lim 205 [.zu a,.l [.s t],.l (h.map bZ),.zu n]=some [.zq 0,.l ((tC h (a,n,t)).map bZ),.zu (n+1)]:=by
 have d:=awT h a n t b c;generalize tC h (a,n,t)=R at *;refine aB ?_;simp -implicitDefEqProofs[d]
def afj(now:Int)(c:GV):∀(m:Nat)(h:List It)(a:We),h.length=m->a.length+m<=100000->Heap h h.length->
 TT.lim 216 [.zu now,.l (a.map .s),.l (h.map bZ),c]=some [.zq 0,.l ((a++(fC m now h).1).map .s),.l ((fC m now h).2.map bZ)]
 |0,h,a,b,s,i=>by obtain rfl:=adb.1 b;refine aB ?_;simp -implicitDefEqProofs[fC]
 |m+1,h,a,b,s,i=>by
  have d:¬((m:Int)+1=0):=ah;have j:h≠[]:=by rintro rfl;simp at b
  have l:=Bg (h:=h) (k:=0) ah;have n:=Af (h:=h) (k:=0) ah;rw[show(((0:Nat)):Int)=0 from rfl]at l n;by_cases g:now<(at_ h 0).1
  ·rw[fC,au (.inr g)];generalize at_ h 0=z at *;refine aB ?_;simp -implicitDefEqProofs[-iT,-dw,b,d,l,n,g]
  ·obtain⟨r1,r2,r3,-⟩:=VQ h m b (by rw[<-b];exact i);have t:=axn h m c b ah (by rw[<-b];exact i);have o:=afj now c m (mX h) (a++[(at_ h 0).2.2]) r1 (by simp;omega) (by rw[r1];exact r2);rw[fC,aj (λe=>e.elim j g)];have f:a++(at_ h 0).2.2::(fC m now (mX h)).1=a++[(at_ h 0).2.2]++(fC m now (mX h)).1:=aA;rw[show(a++((at_ h 0).2.2::(fC m now (mX h)).1,(fC m now (mX h)).2).1)=a++[(at_ h 0).2.2]++(fC m now (mX h)).1 from f];generalize a++[(at_ h 0).2.2]++(fC m now (mX h)).1=O at *;show _=some [_,_,GV.l ((fC m now (mX h)).2.map bZ)]
   generalize(fC m now (mX h)).2=u at *;rw[ng]at o;simp only[iC,jg]at o;have p:2*(a.length+1)*16<=281474976710656:=ah;have q:a.length<=281474976710655:=ah;clear f;generalize mX h=R,at_ h 0=z at *;have r:(GV.s z.2.2).fQ 1=true:=rfl;refine aB ?_;simp -implicitDefEqProofs[-iT,-dw,b,d,l,n,g,t,p,q,r,o]
def afk(now:Int)(c:GV)(h:List It)(b:h.length<=100000)(d:Heap h h.length):
 TT.lim 215 [.zu now,.l (h.map bZ),c]=some [.zq 0,.l ((fC h.length now h).1.map .s),.l ((fC h.length now h).2.map bZ)]:=by
 have a:=afj now c h.length h [] rfl (by simpa using b) d;rw[bf]at a;simp only[jg]at a;generalize fC h.length now h=R at *;refine aB ?_;simp -implicitDefEqProofs[a]
def NC:Q0->Nat
 |[a,b,c,d]=>a.toNat+b.toNat*256+c.toNat*65536+d.toNat*16777216
 |_=>0
def amT(p s:Q0)(T:p.length<=65536)(J:s.length=4):TT.lim 131 [.s p,.s s]=some [.b (decide ((NC s:Int)=iR p))]:=by
 have L:=YE p ah;generalize iR p=n at *;match s,J with
 |[v,w,x,z],_=>
  have g:∀y:Int,IntKind.u32.wrap y=y%((4294967296:Nat):Int):=λy=>by simp[IntKind.wrap,IntKind.signed,IntKind.bits]
  obtain⟨f,i⟩:∃c,v.toNat=c:=⟨_,rfl⟩
  obtain⟨d,j⟩:∃c,w.toNat=c:=⟨_,rfl⟩
  obtain⟨e,l⟩:∃c,x.toNat=c:=⟨_,rfl⟩
  obtain⟨h,o⟩:∃c,z.toNat=c:=⟨_,rfl⟩
  have M:=v.toNat_lt;have N:=w.toNat_lt;have O:=x.toNat_lt;have P:=z.toNat_lt;rw[show NC [v,w,x,z]=v.toNat+w.toNat*256+x.toNat*65536+z.toNat*16777216 from rfl];rw[i]at M⊢;rw[j]at N⊢;rw[l]at O⊢;rw[o]at P⊢;have D:jQ .shl .u32 (d:Int) 8=some (.i .u32 ((d*256:Nat):Int)):=Nv (k:=8) g rfl aX ah;have E:jQ .shl .u32 (e:Int) 16=some (.i .u32 ((e*65536:Nat):Int)):=Nv (k:=16) g rfl aX ah;have F:jQ .shl .u32 (h:Int) 24=some (.i .u32 ((h*16777216:Nat):Int)):=Nv (k:=24) g rfl aX ah;have o1:=MJ (a:=f) (b:=d) (k:=8) (m:=256) rfl ah ah;have A:=MJ (a:=f+d*256) (b:=e) (k:=16) (m:=65536) rfl ah ah;have B:=MJ (a:=f+d*256+e*65536) (b:=h) (k:=24) (m:=16777216) rfl ah ah;have w0:IntKind.u32.wrap (f:Int)=f:=by rw[g];omega
  have w1:IntKind.u32.wrap (d:Int)=d:=by rw[g];omega
  have R:IntKind.u32.wrap (e:Int)=e:=by rw[g];omega
  have S:IntKind.u32.wrap (h:Int)=h:=by rw[g];omega
  obtain⟨U,r⟩:∃q:Int,((f+d*256+e*65536+h*16777216:Nat):Int)=q:=⟨_,rfl⟩
  obtain⟨V,G⟩:∃q:Int,((h*16777216:Nat):Int)=q:=⟨_,rfl⟩
  obtain⟨W,H⟩:∃q:Int,((f+d*256+e*65536:Nat):Int)=q:=⟨_,rfl⟩
  obtain⟨X,t⟩:∃q:Int,((e*65536:Nat):Int)=q:=⟨_,rfl⟩
  obtain⟨Y,I⟩:∃q:Int,((f+d*256:Nat):Int)=q:=⟨_,rfl⟩
  obtain⟨Z,u⟩:∃q:Int,((d*256:Nat):Int)=q:=⟨_,rfl⟩
  rw[r]at B⊢;rw[G]at F B;rw[H]at A B;rw[t]at E A;rw[I]at o1 A;rw[u]at D o1;clear G H t I u r;refine aQ ?_;simp -implicitDefEqProofs[L,i,j,l,o,w0,w1,R,S,D,E,F,o1,A,B]
def I9:Q0->Int
 |[]=>1
 |[a]=>if a=81 then 1 else 5
 |a::b::_=>if a=81 then(if b=70 then 0 else 5)else 5
def ahz(a:UInt8):I9 [a]=if a=81 then 1 else 5:=rfl
def aue(a b:UInt8)(r:Q0):I9 (a::b::r)=if a=81 then(if b=70 then 0 else 5)else 5:=rfl
def iV(s:Q0):Q0×Int×Int:=
 if I9 s≠0 then([],0,I9 s)else
 if(aF (s.drop 2)).2.2≠0 then([],0,(aF (s.drop 2)).2.2)else
 if 65536<(aF (s.drop 2)).1 then([],0,4)else
 if(s.drop (2+(aF (s.drop 2)).2.1)).length<(aF (s.drop 2)).1+4 then([],0,1)else
 if(NC (((s.drop (2+(aF (s.drop 2)).2.1)).take ((aF (s.drop 2)).1+4)).drop (aF (s.drop 2)).1):Int)=iR ((s.drop (2+(aF (s.drop 2)).2.1)).take (aF (s.drop 2)).1)then
  ((s.drop (2+(aF (s.drop 2)).2.1)).take (aF (s.drop 2)).1,((2+fJ (aF (s.drop 2)).1+(aF (s.drop 2)).1+4:Nat):Int),0)else([],0,6)
def acs(a:UInt8)(n:Nat)(b:n<256):((a.toNat:Int)=(n:Int))=(a=UInt8.ofNat n):=by
 apply propext;constructor
 ·intro h;apply XM.1;rw[adB];omega
 ·intro h;rw[h,adB];omega
def auc(s:Q0)(o:s.length<=140737488351232):TT.lim 127 [.s s]=some [.zq (I9 s)]:=by
 have w1:=bD ((1:Int));have l:=bD ((2:Int));have i:∀s:Q0,TT.lim 128 [.s s,.zq 2]=some [.zq 1]:=by intro s;refine aB ?_;simp
 match s,o with
 |[],_=>
  have p:I9 []=1:=rfl;have q:TT.lim 128 [.s [],.zq 0]=some [.zq 0,.zq 1]:=by refine aB ?_;simp
  rw[p];refine aQ ?_;simp -implicitDefEqProofs[q]
 |[a],_=>
  rw[ahz];have e:=acs a 81 ah;have e:((a.toNat:Int)=81)=(a=81):=e;by_cases c:a=81
  ·rw[au c];have g:TT.lim 128 [.s [a],.zq 1]=some [.zq 0,.zq 1]:=by refine aB ?_;simp
   have d:(a=81)=True:=eq_true c;clear c;have f:TT.lim 128 [.s [a],.zq 0]=some [.zq 0,.zq 1]:=by refine aB ?_;simp -implicitDefEqProofs[w1,e,d,g]
   refine aQ ?_;simp -implicitDefEqProofs[f]
  ·rw[aj c];have f:TT.lim 128 [.s [a],.zq 0]=some [.zq 0,.zq 5]:=by refine aB ?_;simp -implicitDefEqProofs[w1,e,c]
   refine aQ ?_;simp -implicitDefEqProofs[f]
 |a::b::r,_=>
  rw[aue];have e:((a.toNat:Int)=81)=(a=81):=acs a 81 ah;have m:((b.toNat:Int)=70)=(b=70):=acs b 70 ah;have j:¬(0:Int)=(r.length:Int)+1+1:=ah;have n:¬(1:Int)=(r.length:Int)+1+1:=ah;have i:=i (a::b::r);by_cases c:a=81
  ·rw[au c];have d:(a=81)=True:=eq_true c;clear c;by_cases h:b=70
   ·rw[au h];have k:(b=70)=True:=eq_true h;clear h;have g:TT.lim 128 [.s (a::b::r),.zq 1]=some [.zq 1]:=by refine aB ?_;simp -implicitDefEqProofs[n,l,m,k,i]
    have f:TT.lim 128 [.s (a::b::r),.zq 0]=some [.zq 1]:=by refine aB ?_;simp -implicitDefEqProofs[j,w1,e,d,g]
    refine aQ ?_;simp -implicitDefEqProofs[f]
   ·rw[aj h];have g:TT.lim 128 [.s (a::b::r),.zq 1]=some [.zq 0,.zq 5]:=by refine aB ?_;simp -implicitDefEqProofs[n,l,m,h]
    have f:TT.lim 128 [.s (a::b::r),.zq 0]=some [.zq 0,.zq 5]:=by refine aB ?_;simp -implicitDefEqProofs[j,w1,e,d,g]
    refine aQ ?_;simp -implicitDefEqProofs[f]
  ·rw[aj c];have f:TT.lim 128 [.s (a::b::r),.zq 0]=some [.zq 0,.zq 5]:=by refine aB ?_;simp -implicitDefEqProofs[j,w1,e,c]
   refine aQ ?_;simp -implicitDefEqProofs[f]
def aaM(s:Q0)(S:s.length<=100000000):TT.lim 126 [.s s]=some [.s (iV s).1,.zq (iV s).2.1,.zq (iV s).2.2]:=by
 have h:=auc s ah;unfold iV;by_cases c:I9 s=0;rotate_left
 ·rw[au c];refine aQ ?_;simp -implicitDefEqProofs[h,c]
 rw[aj (by simpa using c)];rw[c]at h;have T:2<=s.length:=by
  match s,c with
  |[],c=>exact absurd c aX
  |[a],c=>rw[ahz]at c;split at c<;>simp at c
  |a::b::r,_=>simp
 have l:=uM (s.drop 2) (by rw[fF];omega);have f:=@kF (s.drop 2);have m:(s.take s.length).drop 2=s.drop 2:=by rw[zL]
 have o:(2:Int)<=(s.length:Int):=ah;generalize aF (s.drop 2)=G at *;obtain⟨n,k,e⟩:=G;simp only at l f⊢;by_cases p:e=0;rotate_left
 ·rw[au p];refine aQ ?_;simp -implicitDefEqProofs[h,m,o,l,p]
 rw[aj (by simpa using p)];have f:=(f p).len;rw[fF]at f;subst p;by_cases F:65536<n
 ·rw[au F];have d:(65536:Int)<n:=ah;refine aQ ?_;simp -implicitDefEqProofs[h,m,o,l,d]
 rw[aj F];have d:¬(65536:Int)<n:=ah;have v:=bD ((n:Int));have i:=bD ((n:Int)+4);have w:=bD (2+(k:Int));have x:2+(k:Int)<=(s.length:Int):=ah;have y:(0:Int)<=2+(k:Int):=ah;have j:s.drop (2+(k:Int)).toNat=s.drop (2+k):=by congr 1
 have U:(s.drop (2+k)).length=s.length-(2+k):=fF;generalize s.drop (2+k)=B at *;by_cases H:B.length<n+4
 ·rw[au H];have g:(B.length:Int)<(n:Int)+4:=ah;refine aQ ?_;simp -implicitDefEqProofs[h,m,o,l,d,v,i,w,x,y,j,g]
 rw[aj H];have g:¬(B.length:Int)<(n:Int)+4:=ah;have I:(0:Int)<=(n:Int):=ah;have J:(n:Int)<=(n:Int)+4:=ah;have L:(n:Int)<=(B.length:Int):=ah;have q:(n:Int)+4<=(B.length:Int):=ah;have M:((n:Int)).toNat=n:=ah;have N:((n:Int)+4).toNat=n+4:=ah;have z:(B.take n).length<=65536:=by rw[kG];omega
 have A:((B.take (n+4)).drop n).length=4:=by rw[fF,kG];omega
 have t:=amT (B.take n) ((B.take (n+4)).drop n) z A;have O:=afZ n ah;generalize P:(B.take (n+4)).drop n=K at *;generalize R:B.take n=D at *;by_cases u:(NC K:Int)=iR D
 ·rw[au u];have E:decide ((NC K:Int)=iR D)=true:=by simpa using u
  rw[E]at t;refine aQ ?_;simp -implicitDefEqProofs[h,m,o,l,d,v,i,w,x,y,j,g,I,J,L,q,M,N,R,P,t,O]
 ·rw[aj u];have E:decide ((NC K:Int)=iR D)=false:=by simpa using u
  rw[E]at t;refine aQ ?_;simp -implicitDefEqProofs[h,m,o,l,d,v,i,w,x,y,j,g,I,J,L,q,M,N,R,P,t,O]
def aib{p:Q0}(h:p.length<=65536):iV (fG p)=(p,(((fG p).length:Nat):Int),0):=by have i:=avX h;have j:=Y3 p;have k:=NP 3 p.length ah ah;have d:=aaM (fG p) ah;rw[i]at d;simp only[aY,zI,GV.s.injEq,GV.i.injEq,and_true,true_and]at d;obtain⟨e,f,g⟩:=d;generalize iV (fG p)=R at *;obtain⟨a,b,c⟩:=R;simp only at e f g;rw[<-e,<-f,<-g]
def avY(s:Q0):(iV s).1.length<=s.length:=by
 unfold iV;repeat' split
 all_goals first|simp;done|(simp only[kG,fF];omega)
structure Fa where
 dr:Bool
 c:Nat
 d:Nat
 cu:Int
 at_:Int
 jJ:Nat
def aV(f:Fa):GV:=.g [.b f.dr,.i .u8 (f.c:Int),.i .u8 (f.d:Int),.zq f.cu,.zq f.at_,.i .u8 (f.jJ:Int)]
@[simp] theorem aDi(f:Fa):(aV f).cells=[.b f.dr,.i .u8 (f.c:Int),.i .u8 (f.d:Int),.zq f.cu,.zq f.at_,.i .u8 (f.jJ:Int)]:=rfl
structure EU(f:Fa):Prop where
 c:f.c<=3
 d:f.d<256
 jJ:f.jJ<256
 cu:f.cu<=9223372036854775807
 at_:f.at_<=9223372036854775807
def aCl(x:UInt8):vg x 0=x:=by unfold vg;rw[Nat.xor_zero,UInt8.ofNat_toNat]
def sF(f:Fa)(t:Q0):Q0:=if 0<f.cu/\f.cu<t.length then t.take f.cu.toNat else t
def EO(f:Fa)(u:Q0):Q0:=if f.at_<0 then u else if(u.length:Int)<=f.at_ then u else u.set f.at_.toNat (vg (u.getD f.at_.toNat 0) f.jJ)
def gG(f:Fa)(t:Q0):Q0:=EO f (sF f t)
def amX(f:Fa)(t:Q0):(sF f t).length<=t.length:=by
 unfold sF;split
 ·rw[kG];omega
 ·omega
def aBw(f:Fa)(u:Q0):(EO f u).length=u.length:=by
 unfold EO;split
 ·rfl
 split
 ·rfl
 ·rw[EZ]
def afc(f:Fa)(t:Q0):(gG f t).length<=t.length:=by unfold gG;rw[aBw];exact amX f t
def lX:Nat->Int->List UInt8->List It->Int->List It×Int
 |0,_,_,h,n=>(h,n)
 |m+1,a,t,h,n=>lX m (a+1) t (tC h (a,n,t)) (n+1)
def abv(a:Int)(t:Q0):∀(m:Nat)(h:List It)(n:Int),Heap h h.length->Heap (lX m a t h n).1 (lX m a t h n).1.length/\(lX m a t h n).1.length=h.length+m/\(lX m a t h n).2=n+m
 |0,h,n,b=>⟨b,rfl,by simp[lX]⟩
 |m+1,h,n,b=>by have e:=MW h (a,n,t) b;have d:=Qr h (a,n,t) b;have c:=abv (a+1) t m (tC h (a,n,t)) (n+1) (by rw[d];exact e.1);unfold lX;refine⟨c.1,by rw[c.2.1,d];omega,by rw[c.2.2];push_cast;omega⟩
def copies(now a:Int)(t:Q0)(L:We)(j k l:GV)(M:Nat)(p:M<=300)(q:0<=a/\a<=1000000000000):∀(m i:Nat)(h:List It)(n:Int),i+m=M->h.length+m<=100000->0<=n->n+m<=1000000->Heap h h.length->
 TT.lim 204 [.zu now,.s t,.zu a,.l (L.map .s),j,k,.zu (M:Int),.zu (i:Int),l,.l (h.map bZ),.zu n]=some [.zq 0,.l ((lX m (a+i) t h n).1.map bZ),.zu (lX m (a+i) t h n).2]
 |0,i,h,n,hi,r,o,s,f=>by have c:¬((i:Int)<(M:Int)):=ah;refine aB ?_;simp -implicitDefEqProofs[c,lX]
 |m+1,i,h,n,hi,r,o,s,f=>by have c:(i:Int)<(M:Int):=ah;have u:=MW h (a+i,n,t) f;have b:=Qr h (a+i,n,t) f;have d:=awY h (a+i) n t ah ⟨o,ah⟩;have g:=copies now a t L j k l M p q m (i+1) (tC h (a+i,n,t)) (n+1) ah (by rw[b];omega) ah ah (by rw[b];exact u.1);have e:a+((i+1:Nat):Int)=a+i+1:=ah;rw[e]at g;unfold lX;generalize lX m (a+i+1) t (tC h (a+i,n,t)) (n+1)=R at *;generalize tC h (a+i,n,t)=Q at *;have w1:=jD (a+(i:Int));have v:=jD ((i:Int)+1);rw[(ah:((i+1:Nat):Int)=(i:Int)+1)]at g;refine aB ?_;simp -implicitDefEqProofs[c,w1,v,d,g]
structure Lk where
 f:List Fa
 h:List It
 n:Int
def lY(now:Int)(t:Q0)(k:Lk):Lk:=match k.f with
 |[]=>{k with h:=(lX 1 now t k.h k.n).1,n:=(lX 1 now t k.h k.n).2}
 |f::r=>if f.dr=true then {k with f:=r}else {f:=r,h:=(lX (f.c+1) (now+f.d) (gG f t) k.h k.n).1,n:=(lX (f.c+1) (now+f.d) (gG f t) k.h k.n).2}
set_option maxHeartbeats 4000000 in
def ajn(now:Int)(t:Q0)(k:Lk)(hf:∀f∈k.f,EU f)(hk:k.f.length<=100000)(W:t.length<=100000000)(jM:0<=now/\now<=900000000000)(hl:k.h.length+4<=100000)(n0:0<=k.n)(hn:k.n+4<=1000000)(hh:Heap k.h k.h.length):
 TT.lim 202 [.zu now,.l [.s t],.l (k.f.map aV),.l (k.h.map bZ),.zu k.n]=some [.zq 0,.l ((lY now t k).f.map aV),.l ((lY now t k).h.map bZ),.zu (lY now t k).n]:=by
 have w1:IntKind.i64.wrap 1=1:=rfl;have e:∀(O:Q1)(H:List It)(n:Int),TT.lim 203 [.zu now,.l [.s t],.zq 1,.zq 1,.l O,.l (H.map bZ),.zu n]=some [.zq 0,.l O,.l (H.map bZ),.zu n]:=by intro O H n;refine aB ?_;simp
 suffices h:TT.lim 203 [.zu now,.l [.s t],.zq 1,.zq 0,.l (k.f.map aV),.l (k.h.map bZ),.zu k.n]=some [.zq 0,.l ((lY now t k).f.map aV),.l ((lY now t k).h.map bZ),.zu (lY now t k).n] by generalize lY now t k=R,k.f.map aV=FG,k.h.map bZ=HG at *;refine aB ?_;simp -implicitDefEqProofs[h]
 obtain⟨O,H,n⟩:=k;simp only at *;cases O with
 |nil=>
  unfold lY;simp only[jg];have b:=copies now now t [t] (.zq 1) (.zq 0) (.l []) 1 ah ah 1 0 H n ah ah n0 ah hh;rw[(ah:now+((0:Nat):Int)=now)]at b;have hw:=jD now;have e:=e [] (lX 1 now t H n).1 (lX 1 now t H n).2;generalize lX 1 now t H n=R at *;have b:TT.lim 204 [.zu now,.s t,.zu now,.l [.s t],.zq 1,.zq 0,.zu 1,.zu 0,.l [],.l (H.map bZ),.zu n]=some [.zq 0,.l (R.1.map bZ),.zu R.2]:=b;cases t with
  |nil=>refine aB ?_;simp -implicitDefEqProofs[hw,w1,b,e]
  |cons x r=>
   obtain⟨l,m,j⟩:=abQ (u:=x::r) (k:=0) aA (vg x 0);have X:=acJ x 0 ah;have b0:(x::r).set 0 (vg x 0)=x::r:=by rw[aCl];rfl
   rw[b0]at j;have m:at2 1 (some (.l (bQ (x::r)))) (some (.zq 0))=some (.i .u8 (x.toNat:Int)):=m;have l:BO (some (.l (bQ (x::r)))) (some (.zq 0))=some (.zq 0):=l;have j:CX 1 0 (some (.l (bQ (x::r)))) (some (.zq 0)) (some [.i .u8 ((vg x 0).toNat:Int)])=some (.l (bQ (x::r))):=j;have bk:=SG (x::r);have bl:(bQ (x::r)).length<=2^48:=by simp only[bQ,iw];simp only[iF]at W⊢;omega
   have Y:¬((r.length:Int)+1<=0):=ah;have X:bV .xor .u8 (x.toNat:Int) 0=some (.i .u8 ((vg x 0).toNat:Int)):=X;have o:at2 1 (some (.l [.s (x::r)])) (some (.zq 0))=some (.s (x::r)):=rfl;generalize i:bQ (x::r)=Z at *;generalize vg x 0=y at *;refine aB ?_;simp -implicitDefEqProofs[-iT,-dw,-oh,o,i,hw,w1,Y,l,m,X,j,bk,bl,b,e]
 |cons f r=>
  unfold lY;simp only[iC];have fo:=hf f aA;have aa:(r.length:Int)+1>0:=ah;have w:((r.map aV).length:Int)=(r.length:Int):=by rw[iw]
  have o:at2 1 (some (.l [.s t])) (some (.zq 0))=some (.s t):=rfl;have z:at2 6 (some (.l (aV f::r.map aV))) (some (.zq 0))=some (aV f):=rfl;have a:P8 6 (some (.l (aV f::r.map aV))) (some (.zq 1)) (some (.zq ((r.length:Int)+1)))=some (.l (r.map aV)):=by
   rw[nI,au]
   ·rw[(ah:((r.length:Int)+1).toNat=r.length+1),show(1:Int).toNat=1 from rfl,kQ aA];rfl
   ·refine⟨ah,ah,aA,?_⟩;rw[List.all_eq_true];intro g hg;rcases bJ.1 hg with rfl|hg
    ·rfl
    ·obtain⟨x,-,rfl⟩:=qK.1 hg;rfl
  by_cases V:f.dr=true
  ·rw[au V];have e:=e (r.map aV) H n;generalize r.map aV=A at *;refine aB ?_;simp -implicitDefEqProofs[-nI,-dw,o,z,w,w1,V,a,e]
  rw[aj V];have B:f.dr=false:=by simpa using V
  have c3:=fo.c;have hd:=fo.d;have b:=copies now (now+f.d) (gG f t) [t] (.zq 1) (.zq 0) (.l (r.map aV)) (f.c+1) ah ah (f.c+1) 0 H n ah ah n0 ah hh;rw[(ah:now+(f.d:Int)+((0:Nat):Int)=now+f.d)]at b;have e:=e (r.map aV) (lX (f.c+1) (now+f.d) (gG f t) H n).1 (lX (f.c+1) (now+f.d) (gG f t) H n).2;generalize lX (f.c+1) (now+f.d) (gG f t) H n=R at *;have b:TT.lim 204 [.zu now,.s (gG f t),.zu (now+f.d),.l [.s t],.zq 1,.zq 0,.zu ((f.c:Int)+1),.zu 0,.l (r.map aV),.l (H.map bZ),.zu n]=some [.zq 0,.l (R.1.map bZ),.zu R.2]:=by have e2:((f.c+1:Nat):Int)=(f.c:Int)+1:=ah;rw[e2]at b;exact b
  have E:=jD ((f.d:Int));have F:=jD ((f.c:Int));have G:=jD ((f.c:Int)+1);have I:=jD (now+(f.d:Int))
  have p:∀u:Q0,sF f t=u->u.length<=100000000->(f.at_<0/\gG f t=u)\/(¬f.at_<0/\(u.length:Int)<=f.at_/\gG f t=u)\/
   (¬f.at_<0/\¬(u.length:Int)<=f.at_/\∃(x:UInt8)(y:UInt8),BO (some (.l (bQ u))) (some (.zq f.at_))=some (.zq f.at_)/\at2 1 (some (.l (bQ u))) (some (.zq f.at_))=some (.i .u8 (x.toNat:Int))/\bV .xor .u8 (x.toNat:Int) (f.jJ:Int)=some (.i .u8 (y.toNat:Int))/\
    CX 1 0 (some (.l (bQ u))) (some (.zq f.at_)) (some [.i .u8 (y.toNat:Int)])=some (.l (bQ (gG f t)))/\(bQ (gG f t)).length<=2^48/\mg (bQ (gG f t))=some (gG f t)):=by
   intro u J yX;by_cases c:f.at_<0
   ·refine .inl ⟨c,?_⟩;unfold gG EO;rw[J,au c]
   by_cases d:(u.length:Int)<=f.at_
   ·refine .inr (.inl ⟨c,d,?_⟩);unfold gG EO;rw[J,aj c,au d]
   ·refine .inr (.inr ⟨c,d,u.getD f.at_.toNat 0,vg (u.getD f.at_.toNat 0) f.jJ,?_⟩);obtain⟨l,m,j⟩:=abQ (u:=u) (k:=f.at_.toNat) ah (vg (u.getD f.at_.toNat 0) f.jJ);rw[Dj ah]at l m j;have P:gG f t=u.set f.at_.toNat (vg (u.getD f.at_.toNat 0) f.jJ):=by unfold gG EO;rw[J,aj c,aj d]
    refine⟨l,m,acJ _ _ fo.jJ,by rw[P];exact j,?_,SG _⟩;rw[P];simp only[bQ,iw,EZ];omega
  by_cases q:0<f.cu
  ·by_cases L:f.cu<t.length
   ·have J:sF f t=t.take f.cu.toNat:=by unfold sF;rw[au ⟨q,L⟩]
    have yX:(t.take f.cu.toNat).length<=100000000:=by rw[kG];omega
    have M:f.cu<=(t.length:Int):=ah;have N:0<=f.cu:=ah;rcases p _ J yX with⟨c,s⟩|⟨c,d,s⟩|⟨c,d,x,y,l,m,j,S,T,U⟩
    ·rw[s]at b;generalize v:t.take f.cu.toNat=u at *;generalize r.map aV=A at *;refine aB ?_;simp -implicitDefEqProofs[-nI,-dw,o,z,w,v,w1,B,a,q,L,M,N,c,E,F,G,I,b,e]
    ·rw[s]at b;generalize v:t.take f.cu.toNat=u at *;generalize r.map aV=A at *;refine aB ?_;simp -implicitDefEqProofs[-nI,-dw,o,z,w,v,w1,B,a,q,L,M,N,c,d,E,F,G,I,b,e]
    ·generalize gG f t=D at *;generalize v:t.take f.cu.toNat=u at *;generalize i:bQ u=Z at *;generalize bQ D=DG,r.map aV=A at *;refine aB ?_;simp -implicitDefEqProofs[-iT,-dw,-oh,-nI,o,z,w,i,v,w1,B,a,q,L,M,N,c,d,l,m,j,S,T,U,E,F,G,I,b,e]
   ·have J:sF f t=t:=by unfold sF;rw[aj (λh=>L h.2)]
    rcases p _ J W with⟨c,s⟩|⟨c,d,s⟩|⟨c,d,x,y,l,m,j,S,T,U⟩
    ·rw[s]at b;generalize r.map aV=A at *;refine aB ?_;simp -implicitDefEqProofs[-nI,-dw,o,z,w,w1,B,a,q,L,c,E,F,G,I,b,e]
    ·rw[s]at b;generalize r.map aV=A at *;refine aB ?_;simp -implicitDefEqProofs[-nI,-dw,o,z,w,w1,B,a,q,L,c,d,E,F,G,I,b,e]
    ·generalize gG f t=D at *;generalize i:bQ t=Z at *;generalize bQ D=DG,r.map aV=A at *;refine aB ?_;simp -implicitDefEqProofs[-iT,-dw,-oh,-nI,o,z,w,i,w1,B,a,q,L,c,d,l,m,j,S,T,U,E,F,G,I,b,e]
  ·have J:sF f t=t:=by unfold sF;rw[aj (λh=>q h.1)]
   rcases p _ J W with⟨c,s⟩|⟨c,d,s⟩|⟨c,d,x,y,l,m,j,S,T,U⟩
   ·rw[s]at b;generalize r.map aV=A at *;refine aB ?_;simp -implicitDefEqProofs[-nI,-dw,o,z,w,w1,B,a,q,c,E,F,G,I,b,e]
   ·rw[s]at b;generalize r.map aV=A at *;refine aB ?_;simp -implicitDefEqProofs[-nI,-dw,o,z,w,w1,B,a,q,c,d,E,F,G,I,b,e]
   ·generalize gG f t=D at *;generalize i:bQ t=Z at *;generalize bQ D=DG,r.map aV=A at *;refine aB ?_;simp -implicitDefEqProofs[-iT,-dw,-oh,-nI,o,z,w,i,w1,B,a,q,c,d,l,m,j,S,T,U,E,F,G,I,b,e]
structure Pr where
 s0:dh
 s1:dh
 k0:Lk
 k1:Lk
 now:Int
 rc:List (Int×Int×Int)
def zZ(e:Int×Int×Int):GV:=.g [.zu e.1,.zq e.2.1,.zq e.2.2]
@[simp] theorem aDf(e:Int×Int×Int):(zZ e).cells=[.zu e.1,.zq e.2.1,.zq e.2.2]:=rfl
def TP(a b c:Int):GV.g [.zu a,.zq b,.zq c]=zZ (a,b,c):=rfl
def fU(k:Lk):Q1:=[.l (k.f.map aV),.l (k.h.map bZ),.zu k.n]
def eY(x:Pr):Q1:=[.zu x.now,.l (x.rc.map zZ)]++(fU x.k1++(fU x.k0++(eG x.s1++eG x.s0)))
def ji(x:Pr):Q1:=.l (x.rc.map zZ)::(fU x.k1++(fU x.k0++(nM x.s1++nM x.s0)))
def Dead(t:Q0):Prop:=(iV t).2.2=0->¬(iV t).2.1<t.length->qY [2,7,8] (iV t).1
noncomputable def wT (t:Q0):Nat:=@ite Nat (Dead t) (Classical.propDecidable _) 2 5
def QU(t:Q0):2<=wT t/\wT t<=5:=by unfold wT;split<;>omega
def akB{t:Q0}(h:Dead t):wT t=2:=by unfold wT;rw[au h]
def aB4{t:Q0}(h:¬Dead t):wT t=5:=by unfold wT;rw[aj h]
noncomputable def wQ:List It->Nat
 |[]=>0
 |x::r=>wT x.2.2+wQ r
noncomputable def wS:We->Nat
 |[]=>0
 |x::r=>wT x+wS r
def akA{a b:List It}(h:a.Perm b):wQ a=wQ b:=by
 induction h with
 |nil=>rfl
 |cons x _ c=>simp only[wQ];omega
 |swap x y l=>simp only[wQ];omega
 |trans _ _ d e=>omega
def aB3(a b:List It):wQ (a++b)=wQ a+wQ b:=by
 induction a with
 |nil=>simp[wQ]
 |cons x r c=>simp only[bI,wQ];omega
def acF(a:List It):2*a.length<=wQ a:=by
 induction a with
 |nil=>simp[wQ]
 |cons x r b=>have:=QU x.2.2;simp only[iF,wQ];omega
def abw(t:Q0):∀(m:Nat)(a:Int)(h:List It)(n:Int),Heap h h.length->wQ (lX m a t h n).1=wQ h+m*wT t
 |0,a,h,n,b=>by simp[lX]
 |m+1,a,h,n,b=>by have c:=MW h (a,n,t) b;have d:=Qr h (a,n,t) b;have e:=abw t m (a+1) (tC h (a,n,t)) (n+1) (by rw[d];exact c.1);unfold lX;rw[e,akA c.2,aB3];simp only[wQ];rw[rC];omega
def Qs(t:Q0):∀(m:Nat)(a:Int)(h:List It)(n:Int),Heap h h.length->∀y∈(lX m a t h n).1,y∈h\/(y.2.2=t/\a<=y.1)
 |0,a,h,n,b,y,c=>.inl c
 |m+1,a,h,n,b,y,c=>by
  have d:=MW h (a,n,t) b;have e:=Qr h (a,n,t) b;rcases Qs t m (a+1) (tC h (a,n,t)) (n+1) (by rw[e];exact d.1) y c with q|⟨f,g⟩
  ·rcases ny.1 (d.2.mem_iff.1 q)with q|q
   ·exact .inl q
   ·rw[oz.1 q];exact .inr ⟨rfl,AQ _⟩
  ·exact .inr ⟨f,ah⟩
structure xQ(k:Lk):Prop where
 f:∀f∈k.f,EU f
 h:Heap k.h k.h.length
 n:0<=k.n
 t:∀y∈k.h,y.2.2.length<=70000
noncomputable def mG (k:Lk):Nat:=k.n.toNat+wQ k.h+24*k.f.length
def V8{now:Int}{t:Q0}{k:Lk}(e:xQ k)(v:t.length<=70000):xQ (lY now t k)/\mG (lY now t k)<=mG k+1+wT t/\(lY now t k).f.length<=k.f.length:=by
 obtain⟨w,H,n⟩:=k;have c:=e.n;have a:=e.h;have b:=e.t;have i:=e.f;simp only at c a b i;cases w with
 |nil=>
  unfold lY;simp only;obtain⟨j,x,l⟩:=abv now t 1 H n a;have m:=abw t 1 now H n a;have o:=Qs t 1 now H n a;refine⟨⟨(λf h=>by cases h),j,by simp only;omega,λy p=>?_⟩,?_,aA⟩
  ·rcases o y p with q|⟨q,-⟩
   ·exact b y q
   ·rw[q];exact v
  ·unfold mG;simp only[m,l,mZ];omega
 |cons f r=>
  unfold lY;simp only;have d:∀g∈r,EU g:=λg z=>i g (by simp[z]);by_cases s:f.dr=true
  ·rw[au s];refine⟨⟨d,a,c,b⟩,?_,aA⟩;unfold mG;simp only[iF];omega
  ·rw[aj s];have A:=i f aA;have E:=A.c;obtain⟨j,x,l⟩:=abv (now+f.d) (gG f t) (f.c+1) H n a;have m:=abw (gG f t) (f.c+1) (now+f.d) H n a;have o:=Qs (gG f t) (f.c+1) (now+f.d) H n a;have B:=afc f t;refine⟨⟨d,j,by simp only;omega,λy p=>?_⟩,?_,aA⟩
   ·rcases o y p with q|⟨q,-⟩
    ·exact b y q
    ·rw[q];omega
   ·have D:=(QU (gG f t)).2;have u:(f.c+1)*wT (gG f t)<=4*5:=Nat.mul_le_mul ah D;unfold mG;simp only[m,l,iF];omega
def jP(now:Int):We->Lk->Lk
 |[],k=>k
 |t::r,k=>jP now r (lY now (fG t) k)
noncomputable def wW:We->Nat
 |[]=>0
 |x::r=>1+wT (fG x)+wW r
def LP{t:Q0}(h:t.length<=65536):(fG t).length<=70000:=by have a:=NP 3 t.length ah ah;rw[Y3];omega
def QC{now:Int}:∀(T:We){k:Lk},xQ k->(∀t∈T,t.length<=65536)->xQ (jP now T k)/\mG (jP now T k)<=mG k+wW T/\(jP now T k).f.length<=k.f.length
 |[],k,a,_=>⟨a,by simp[jP,wW],cO _⟩
 |t::r,k,a,b=>by obtain⟨h1,e,f⟩:=V8 (now:=now) a (LP (b t aA));obtain⟨c,g,g3⟩:=QC (now:=now) r h1 (λu d=>b u (by simp[d]));exact⟨c,by simp only[jP,wW];omega,by simp only[jP];omega⟩
def afq(t:Q0):Int:=if(iV t).2.2=0 then 10 else(iV t).2.2
def kY(i:Nat)(t:Q0)(x:Pr):Pr:=
 if(iV t).2.2=0/\¬(iV t).2.1<t.length then
  (if i=0 then {x with s0:=(dZ (iV t).1 x.s0).1,k0:=jP x.now (dZ (iV t).1 x.s0).2.1 x.k0,rc:=x.rc++[(x.now,0,(dZ (iV t).1 x.s0).2.2)]}
   else {x with s1:=(dZ (iV t).1 x.s1).1,k1:=jP x.now (dZ (iV t).1 x.s1).2.1 x.k1,rc:=x.rc++[(x.now,1,(dZ (iV t).1 x.s1).2.2)]})
 else {x with rc:=x.rc++[(x.now,(i:Int),afq t)]}
structure iW(x:Pr):Prop where
 s0:lH x.s0
 s1:lH x.s1
 k0:xQ x.k0
 k1:xQ x.k1
 now:0<=x.now
noncomputable def eU (x:Pr):Nat:=mG x.k0+mG x.k1+x.rc.length
def V4{b:aW}{v:Int}{u:Q0}(h:u∈kE b v)(c:b.kind=2\/b.kind=7\/b.kind=8):u.length<=65536/\qY [2,7,8] u:=by obtain⟨d,f⟩:=Nh h ah ah;exact⟨f,PY d λk a=>by rw[oz.1 a];rcases c with e|e|e<;>rw[e]<;>simp⟩
def Pv(t:Q0)(s:dh):∀u∈(dZ t s).2.1,u.length<=65536/\qY [2,7,8] u:=by
 intro u a;unfold dZ at a;split at a;rotate_left
 ·cases a
 unfold vU at a;split at a
 ·unfold oL at a;repeat' split at a
  all_goals first|(cases a;done)|exact V4 a (.inl rfl)|exact V4 a (.inr (.inr rfl))
 split at a
 ·unfold D8 at a;repeat' split at a
  all_goals cases a
 split at a
 ·unfold lZ at a;split at a;rotate_left
  ·cases a
  simp only at a;split at a
  ·cases a
  next c=>
  rcases aj3 (je (kH t (kW s)).1 (kH t (kW s)).2.1 s.vs) s.vs (kH t (kW s)).1.kind (kH t (kW s)).1.epoch (kH t (kW s)).1.base (kH t (kW s)).1.t s.sm s.h with e|e|e
  ·exact absurd e c
  ·exact V4 a (.inr (.inl e))
  ·exact V4 a (.inr (.inr e))
 split at a
 ·unfold qM at a;split at a<;>cases a
 split at a
 ·unfold noS at a;repeat' split at a
  all_goals cases a
 ·cases a
def agq{t:Q0}{s:dh}(h:qY [2,7,8] t):(dZ t s).2.1=[]:=by
 unfold dZ;split;rotate_left
 ·rfl
 next e=>
 have a:=h _ e;have a:(kH t (kW s)).1.kind=2\/(kH t (kW s)).1.kind=7\/(kH t (kW s)).1.kind=8:=by simpa using a
 unfold vU;rw[eX];split
 ·unfold D8;repeat' split
  all_goals rfl
 rw[eX];split
 ·unfold qM;split<;>rfl
 split
 ·unfold noS;repeat' split
  all_goals rfl
 ·rfl
def VP{t:Q0}{s:dh}:wW (dZ t s).2.1<=3:=by
 have a:=Zm t s;have b:=Pv t s;generalize(dZ t s).2.1=c at *;match c,a with
 |[],_=>simp[wW]
 |[u],_=>
  obtain⟨d,e⟩:=b u aA;have f:Dead (fG u):=by intro _ _;rw[aib d];exact e
  simp only[wW,akB f];omega
def TD{i:Nat}{t:Q0}{x:Pr}(a:iW x):iW (kY i t x)/\eU (kY i t x)+1<=eU x+wT t:=by
 have l:=QU t;unfold kY;by_cases c:(iV t).2.2=0/\¬(iV t).2.1<t.length;rotate_left
 ·rw[aj c];refine⟨⟨a.s0,a.s1,a.k0,a.k1,a.now⟩,?_⟩;unfold eU;simp only[gu,iF,mZ];omega
 rw[au c];have h:=@VP (iV t).1 x.s0;have j:=@VP (iV t).1 x.s1;by_cases b:Dead t
 ·have g:=b c.1 c.2;rw[akB b];rw[agq g,agq g];split
  ·refine⟨⟨LY a.s0,a.s1,a.k0,a.k1,a.now⟩,?_⟩;unfold eU;simp only[jP,gu,iF,mZ];omega
  ·refine⟨⟨a.s0,LY a.s1,a.k0,a.k1,a.now⟩,?_⟩;unfold eU;simp only[jP,gu,iF,mZ];omega
 ·rw[aB4 b];split
  ·obtain⟨d,k,g3⟩:=QC (now:=x.now) (dZ (iV t).1 x.s0).2.1 a.k0 (λu f=>(Pv _ _ u f).1);refine⟨⟨LY a.s0,a.s1,d,a.k1,a.now⟩,?_⟩;unfold eU;simp only[gu,iF,mZ];omega
  ·obtain⟨d,k,g3⟩:=QC (now:=x.now) (dZ (iV t).1 x.s1).2.1 a.k1 (λu f=>(Pv _ _ u f).1);refine⟨⟨a.s0,LY a.s1,a.k0,d,a.now⟩,?_⟩;unfold eU;simp only[gu,iF,mZ];omega
def TL(t:Int):∀(m:Nat)(h:List It),h.length=m->Heap h h.length->wQ h=wS (fC m t h).1+wQ (fC m t h).2/\(∀y∈(fC m t h).2,y∈h)/\(∀u∈(fC m t h).1,∃y∈h,y.2.2=u)
 |0,h,b,c=>by obtain rfl:=adb.1 b;exact⟨rfl,λy a=>a,λu hu=>by cases hu⟩
 |m+1,h,b,c=>by
  unfold fC;split
  ·exact⟨by simp[wS],λy a=>a,λu hu=>by cases hu⟩
  ·obtain⟨r1,r2,r3,-⟩:=VQ h m b (by rw[<-b];exact c);obtain⟨g,d,g3⟩:=TL t m (mX h) r1 (by rw[r1];exact r2);have f:=akA r3;simp only[wQ]at f;refine⟨?_,λy a=>r3.mem_iff.1 (xP _ (d y a)),λu hu=>?_⟩
   ·simp only[wS];omega
   ·rcases bJ.1 hu with e|hu
    ·exact⟨at_ h 0,r3.mem_iff.1 Ri,e.symm⟩
    ·obtain⟨y,a,e⟩:=g3 u hu;exact⟨y,r3.mem_iff.1 (xP _ a),e⟩
def rH(i:Nat):We->Pr->Pr
 |[],x=>x
 |t::r,x=>rH i r (kY i t x)
def Yz{i:Nat}:∀(T:We){x:Pr},iW x->iW (rH i T x)/\eU (rH i T x)+T.length<=eU x+wS T
 |[],x,a=>⟨a,by simp[rH,wS]⟩
 |t::r,x,a=>by obtain⟨h1,c⟩:=TD (i:=i) (t:=t) a;obtain⟨b,d⟩:=Yz (i:=i) r h1;refine⟨b,?_⟩;simp only[rH,wS,iF];omega
def yS(x:Pr):Pr:={x with k0:={x.k0 with h:=(fC x.k0.h.length x.now x.k0.h).2}}
def zY(x:Pr):Pr:={x with k1:={x.k1 with h:=(fC x.k1.h.length x.now x.k1.h).2}}
def Lj{k:Lk}(t:Int)(a:xQ k):xQ {k with h:=(fC k.h.length t k.h).2}/\mG {k with h:=(fC k.h.length t k.h).2}+wS (fC k.h.length t k.h).1=mG k/\∀u∈(fC k.h.length t k.h).1,u.length<=70000:=by
 obtain⟨g,c,g3⟩:=TL t k.h.length k.h rfl a.h;have d:=(TK t k.h.length k.h rfl a.h).1;refine⟨⟨a.f,d,a.n,λy b=>a.t y (c y b)⟩,?_,λu f=>?_⟩
 ·unfold mG;simp only;omega
 ·obtain⟨y,b,e⟩:=g3 u f;rw[<-e];exact a.t y b
def yu(x:Pr):Pr:=rH 1 (fC x.k0.h.length x.now x.k0.h).1 (yS x)
def yU(x:Pr):Pr:=rH 0 (fC x.k1.h.length x.now x.k1.h).1 (zY x)
def vI(x:Pr):Pr:=yU (yu x)
def agk{x:Pr}(a:iW x):iW (yu x)/\eU (yu x)+(fC x.k0.h.length x.now x.k0.h).1.length<=eU x:=by
 obtain⟨d1,d2,d3⟩:=Lj x.now a.k0;obtain⟨b,c⟩:=Yz (i:=1) (fC x.k0.h.length x.now x.k0.h).1 (x:=yS x) ⟨a.s0,a.s1,d1,a.k1,a.now⟩;refine⟨b,?_⟩;have e:eU (yS x)+wS (fC x.k0.h.length x.now x.k0.h).1=eU x:=by unfold eU yS;simp only;omega
 unfold yu;omega
def arZ{x:Pr}(a:iW x):iW (yU x)/\eU (yU x)+(fC x.k1.h.length x.now x.k1.h).1.length<=eU x:=by
 obtain⟨d1,d2,d3⟩:=Lj x.now a.k1;obtain⟨b,c⟩:=Yz (i:=0) (fC x.k1.h.length x.now x.k1.h).1 (x:=zY x) ⟨a.s0,a.s1,a.k0,d1,a.now⟩;refine⟨b,?_⟩;have e:eU (zY x)+wS (fC x.k1.h.length x.now x.k1.h).1=eU x:=by unfold eU zY;simp only;omega
 unfold yU;omega
def Yv(i:Nat)(t:Q0)(x:Pr):(kY i t x).now=x.now:=by
 unfold kY;split
 ·split<;>rfl
 ·rfl
def Yy(i:Nat):∀(T:We)(x:Pr),(rH i T x).now=x.now
 |[],x=>rfl
 |t::r,x=>(Yy i r _).trans (Yv i t x)
def agj(x:Pr):(yu x).now=x.now:=Yy 1 _ _
def agm(x:Pr):(yU x).now=x.now:=Yy 0 _ _
def S9(x:Pr):(vI x).now=x.now:=(agm _).trans (agj x)
def nextL(h:List It):Option Int:=if h=[]then none else some (at_ h 0).1
def nJ(x:Pr):Option Int:=match nextL x.k0.h,nextL x.k1.h with
 |some a,some b=>some (if b<a then b else a)
 |some a,none=>some a
 |none,o=>o
def afl{h:List It}{a t:Int}(b:nextL h=some a)(d:a<=t):(fC h.length t h).1≠[]:=by
 unfold nextL at b;split at b
 ·cases b
 next c=>
 injection b with b
 cases h with
 |nil=>exact absurd rfl c
 |cons y r=>simp only[iF];unfold fC;rw[aj (λe=>e.elim (λe=>by cases e) (λe=>ah))];simp
def uX:Nat->Pr->Pr
 |0,x=>x
 |f+1,x=>match nJ x with
  |none=>x
  |some a=>if a<=x.now then uX f (vI x)else x
def apW{h:List It}{t:Int}(b:∀a,nextL h=some a->t<a):fC h.length t h=([],h):=by
 cases d:h.length with
 |zero=>rfl
 |succ m=>
  unfold fC;rw[au];by_cases c:h=[]
  ·exact .inl c
  ·exact .inr (b _ (by unfold nextL;rw[aj c]))
def Yh{x:Pr}(k:iW x){a:Int}(d:nJ x=some a)(l:a<=x.now):iW (vI x)/\eU (vI x)<eU x:=by
 obtain⟨m,s⟩:=agk k;obtain⟨g3,g4⟩:=arZ m;refine⟨g3,?_⟩;unfold vI;by_cases c:(fC x.k0.h.length x.now x.k0.h).1=[]
 rotate_left
 ·have:=Kw.2 c;omega
 have i:∀a,nextL x.k0.h=some a->x.now<a:=λa h=>by
  rcases Int.lt_or_le x.now a with q|q
  ·exact q
  ·exact absurd c (afl h q)
 have n:yu x=x:=by have e:=apW i;unfold yu yS;rw[e];rfl
 have o:∃b,nextL x.k1.h=some b/\b<=x.now:=by
  unfold nJ at d;cases f:nextL x.k0.h with
  |none=>rw[f]at d;exact⟨a,d,l⟩
  |some p=>
   have:=i p f;rw[f]at d;cases j:nextL x.k1.h with
   |none=>rw[j]at d;injection d with d;omega
   |some b=>
    rw[j]at d;injection d with d
    refine⟨b,rfl,?_⟩;split at d<;>omega
 obtain⟨b,r,g⟩:=o;have:=Kw.2 (afl r g);rw[n]at g4⊢;omega
def aja:∀(f:Nat){x:Pr},iW x->iW (uX f x)/\eU (uX f x)<=eU x/\(uX f x).now=x.now
 |0,x,b=>⟨b,cO _,rfl⟩
 |f+1,x,b=>by
  unfold uX;cases d:nJ x with
  |none=>exact⟨b,cO _,rfl⟩
  |some a=>
   simp only;split
   ·next c=>
    obtain⟨h1,g⟩:=Yh b d c;obtain⟨e,h,g3⟩:=aja f h1;exact⟨e,ah,g3.trans (S9 x)⟩
   ·exact⟨b,cO _,rfl⟩
def run_end:∀(f:Nat){x:Pr},iW x->eU x<f->∀a,nJ (uX f x)=some a->x.now<a
 |0,x,g,h=>ah
 |f+1,x,g,h=>by
  intro a d;unfold uX at d;cases e:nJ x with
  |none=>rw[e]at d;simp only at d;rw[e]at d;cases d
  |some b=>
   rw[e]at d;simp only at d;split at d
   ·next c=>
    obtain⟨h1,i⟩:=Yh g e c;have:=run_end f h1 ah a d;rw[S9]at this;exact this
   ·next c=>rw[e]at d;injection d with d;omega
noncomputable def uy (a:Int) (x:Pr):Pr:=uX (eU x+1) {x with now:=if x.now+1<a then a else x.now+1}
noncomputable def vO:Nat->Int->Pr->Pr
 |0,_,x=>x
 |f+1,last,x=>if x.now<last then(match nJ x with
   |none=>{x with now:=last}
   |some a=>if last<a then {x with now:=last}else vO f last (uy a x))else x
def adW{a:Int}{x:Pr}(c:iW x):iW (uy a x)/\eU (uy a x)<=eU x/\(uy a x).now=(if x.now+1<a then a else x.now+1)/\∀b,nJ (uy a x)=some b->(uy a x).now<b:=by
 have d:iW {x with now:=if x.now+1<a then a else x.now+1}:=⟨c.s0,c.s1,c.k0,c.k1,by have:=c.now;simp only;split<;>omega⟩
 obtain⟨f,g,g3⟩:=aja (eU x+1) d;have e:=run_end (eU x+1) d (show eU _<eU x+1 from Dp _);refine⟨f,g,g3,λb h=>?_⟩;have:=e b h;rw[show(uy a x).now=_ from g3];exact this
noncomputable def Az (n:Int) (x:Pr):Pr:=vO (n.toNat+1) (x.now+n) x
def go_ok:∀(f:Nat){last:Int}{x:Pr},iW x->(last-x.now).toNat<f->iW (vO f last x)/\eU (vO f last x)<=eU x/\(x.now<=last->(vO f last x).now=last)
 |0,last,x,b,g=>ah
 |f+1,last,x,b,g=>by
  unfold vO;split;rotate_left
  ·exact⟨b,cO _,λh=>ah⟩
  next c=>
  have e:iW {x with now:=last}:=⟨b.s0,b.s1,b.k0,b.k1,by have:=b.now;simp only;omega⟩
  cases l:nJ x with
  |none=>exact⟨e,cO _,λ_=>rfl⟩
  |some a=>
   simp only;split
   ·exact⟨e,cO _,λ_=>rfl⟩
   ·next m=>
    obtain⟨i,n,j,-⟩:=adW (a:=a) b;have d:(uy a x).now<=last/\x.now<(uy a x).now:=by rw[j];split<;>omega
    obtain⟨k,o,g3⟩:=go_ok f (last:=last) i ah;exact⟨k,ah,λ_=>g3 d.1⟩
def aha{k:Lk}(a:xQ k){B:Nat}(h:mG k<=B):k.h.length<=B/\k.n<=B/\k.f.length<=B:=by have b:=acF k.h;have c:=a.n;unfold mG at h;omega
def ajj(x:Pr)(T:We)(p:T.length<=1000)(n:∀t∈T,t.length<=65536)(o:0<=x.now/\x.now<=800000000000):∀(m j:Nat)(k:Lk),j+m=T.length->xQ k->mG k+wW (T.drop j)<=90000->
 TT.lim 201 ([.zq 0,.l (T.map .s),.zq (T.length:Int),.zq (j:Int)]++eY {x with k0:=k})=some (.zq 0::(fU x.k1++fU (jP x.now (T.drop j) k)))
 |0,j,k,q,b,e=>by have f:¬((j:Int)<T.length):=ah;rw[gJ];simp only[jP,eY,fU,eG,bI,bf];refine aB ?_;simp -implicitDefEqProofs[f]
 |m+1,j,k,q,b,e=>by
  have a:j<T.length:=ah;have f:(j:Int)<T.length:=ah;have r:IntKind.i64.wrap ((j:Int)+1)=((j+1:Nat):Int):=by rw[wrap64 ah ah];omega
  have s:T.drop j=T[j]::T.drop (j+1):=gW a;have g:at2 1 (some (.l (T.map .s))) (some (.zq (j:Int)))=some (.s T[j]):=by rw[dw,mW,xO,jf,bT a];rfl
  have c:T[j]∈T:=iq a;rw[s]at e⊢;generalize T[j]=t at *;have d:=n t c;have h:=Xh t d;have i:=LP d;simp only[wW]at e;obtain⟨w,y,z⟩:=aha b (B:=90000) ah;have u:=ajn x.now (fG t) k b.f ah ah ⟨o.1,ah⟩ ah b.n ah b.h;obtain⟨v,A,g3⟩:=V8 (now:=x.now) b i;have l:=ajj x T p n o m (j+1) (lY x.now (fG t) k) ah v ah;rw[show jP x.now (t::T.drop (j+1)) k=jP x.now (T.drop (j+1)) (lY x.now (fG t) k)from rfl];generalize jP x.now (T.drop (j+1)) (lY x.now (fG t) k)=E at *;generalize lY x.now (fG t) k=R at *;generalize fG t=D at *;simp only[eY,fU,eG,bI,bf]at l⊢;rw[<-r]at l;generalize T.map GV.s=F,(T.length:Int)=G at *;refine aB ?_;simp -implicitDefEqProofs[f,g,h,u,l]
def ajk(x:Pr)(T:We)(p:T.length<=1000)(n:∀t∈T,t.length<=65536)(o:0<=x.now/\x.now<=800000000000):∀(m j:Nat)(k:Lk),j+m=T.length->xQ k->mG k+wW (T.drop j)<=90000->
 TT.lim 201 ([.zq 1,.l (T.map .s),.zq (T.length:Int),.zq (j:Int)]++eY {x with k1:=k})=some (.zq 0::(fU (jP x.now (T.drop j) k)++fU x.k0))
 |0,j,k,q,b,e=>by have f:¬((j:Int)<T.length):=ah;rw[gJ];simp only[jP,eY,fU,eG,bI,bf];refine aB ?_;simp -implicitDefEqProofs[f]
 |m+1,j,k,q,b,e=>by
  have a:j<T.length:=ah;have f:(j:Int)<T.length:=ah;have r:IntKind.i64.wrap ((j:Int)+1)=((j+1:Nat):Int):=by rw[wrap64 ah ah];omega
  have s:T.drop j=T[j]::T.drop (j+1):=gW a;have g:at2 1 (some (.l (T.map .s))) (some (.zq (j:Int)))=some (.s T[j]):=by rw[dw,mW,xO,jf,bT a];rfl
  have c:T[j]∈T:=iq a;rw[s]at e⊢;generalize T[j]=t at *;have d:=n t c;have h:=Xh t d;have i:=LP d;simp only[wW]at e;obtain⟨w,y,z⟩:=aha b (B:=90000) ah;have u:=ajn x.now (fG t) k b.f ah ah ⟨o.1,ah⟩ ah b.n ah b.h;obtain⟨v,A,g3⟩:=V8 (now:=x.now) b i;have l:=ajk x T p n o m (j+1) (lY x.now (fG t) k) ah v ah;rw[show jP x.now (t::T.drop (j+1)) k=jP x.now (T.drop (j+1)) (lY x.now (fG t) k)from rfl];generalize jP x.now (T.drop (j+1)) (lY x.now (fG t) k)=E at *;generalize lY x.now (fG t) k=R at *;generalize fG t=D at *;simp only[eY,fU,eG,bI,bf]at l⊢;rw[<-r]at l;generalize T.map GV.s=F,(T.length:Int)=G at *;refine aB ?_;simp -implicitDefEqProofs[f,g,h,u,l]
def V5(x:Pr)(b:iW x)(T:We)(c:T.length<=1000)(d:∀t∈T,t.length<=65536)(e:x.now<=800000000000)(f:mG x.k0+wW T<=90000):
 TT.lim 200 ([.zq 0,.l (T.map .s)]++eY x)=some (.zq 0::(fU x.k1++fU (jP x.now T x.k0))):=by
 have h:=ajj x T c d ⟨b.now,e⟩ T.length 0 x.k0 ah b.k0 (by rw[dD];exact f);rw[dD]at h;have a:((T.map GV.s).length:Int)=(T.length:Int):=by rw[iw]
 generalize jP x.now T x.k0=E at *;simp only[eY,fU,eG,bI,bf,qX]at h⊢;generalize T.map GV.s=g,(T.length:Int)=i at *;refine aB ?_;simp -implicitDefEqProofs[a,h]
def V6(x:Pr)(b:iW x)(T:We)(c:T.length<=1000)(d:∀t∈T,t.length<=65536)(e:x.now<=800000000000)(f:mG x.k1+wW T<=90000):
 TT.lim 200 ([.zq 1,.l (T.map .s)]++eY x)=some (.zq 0::(fU (jP x.now T x.k1)++fU x.k0)):=by
 have h:=ajk x T c d ⟨b.now,e⟩ T.length 0 x.k1 ah b.k1 (by rw[dD];exact f);rw[dD]at h;have a:((T.map GV.s).length:Int)=(T.length:Int):=by rw[iw]
 generalize jP x.now T x.k1=E at *;simp only[eY,fU,eG,bI,bf,qX]at h⊢;generalize T.map GV.s=g,(T.length:Int)=i at *;refine aB ?_;simp -implicitDefEqProofs[a,h]
def Sv{l:List (Int×Int×Int)}(e:Int×Int×Int)(h:l.length<=100000):Oo 3 24 (some (.l (l.map zZ))) (some (.l [zZ e]))=some (.l ((l++[e]).map zZ)):=by
 rw[X4,au]
 ·rw[ng];rfl
 ·refine⟨rfl,?_,?_⟩<;>simp only[iw,iF,mZ]<;>omega
set_option maxHeartbeats 4000000 in
def amH(i:Nat)(hi:i=0\/i=1)(t:Q0)(x:Pr)(a:iW x)(D:t.length<=70000)(j:x.now<=800000000000)(z:eU x<=80000):
 TT.lim 222 (.s t::(eY x++[.zq (i:Int)]))=some (.zq 0::ji (kY i t x)):=by
 have k:=aaM t ah;have q:=avY t;unfold eU at z;have d:x.rc.length<=100000:=ah;unfold kY afq;generalize iV t=P at *;obtain⟨p,n,e⟩:=P;simp only at k q⊢;by_cases o:e=0;rotate_left
 ·rw[aj (λh=>o h.1),aj o];have f:=Sv (x.now,(i:Int),e) d;have c:TT.lim 200 ([.zq (i:Int),.l []]++eY {x with rc:=x.rc++[(x.now,(i:Int),e)]})=some (.zq 0::(fU x.k1++fU x.k0)):=by
   rcases hi with rfl|rfl
   ·exact V5 {x with rc:=x.rc++[(x.now,((0:Nat):Int),e)]} ⟨a.s0,a.s1,a.k0,a.k1,a.now⟩ [] aA (λt h=>by cases h) j (by simp only[wW];omega)
   ·exact V6 {x with rc:=x.rc++[(x.now,((1:Nat):Int),e)]} ⟨a.s0,a.s1,a.k0,a.k1,a.now⟩ [] aA (λt h=>by cases h) j (by simp only[wW];omega)
  simp only[eY,ji,fU,eG,nM,bI,bf]at c⊢;generalize(x.rc++[(x.now,(i:Int),e)]).map zZ=r at *;generalize(i:Int)=A at *;refine aB ?_;simp -implicitDefEqProofs[k,o,TP,f,c]
 subst o;by_cases l:n<t.length
 ·rw[aj (λh=>h.2 l),au rfl];have f:=Sv (x.now,(i:Int),10) d;have c:TT.lim 200 ([.zq (i:Int),.l []]++eY {x with rc:=x.rc++[(x.now,(i:Int),10)]})=some (.zq 0::(fU x.k1++fU x.k0)):=by
   rcases hi with rfl|rfl
   ·exact V5 {x with rc:=x.rc++[(x.now,((0:Nat):Int),10)]} ⟨a.s0,a.s1,a.k0,a.k1,a.now⟩ [] aA (λt h=>by cases h) j (by simp only[wW];omega)
   ·exact V6 {x with rc:=x.rc++[(x.now,((1:Nat):Int),10)]} ⟨a.s0,a.s1,a.k0,a.k1,a.now⟩ [] aA (λt h=>by cases h) j (by simp only[wW];omega)
  simp only[eY,ji,fU,eG,nM,bI,bf]at c⊢;generalize(x.rc++[(x.now,(i:Int),10)]).map zZ=r at *;generalize(i:Int)=A at *;refine aB ?_;simp -implicitDefEqProofs[k,l,TP,f,c]
 rw[au ⟨rfl,l⟩];rcases hi with rfl|rfl
 ·rw[au rfl];have m:=Zg p x.s0 ah a.s0;have b:=UA p x.s0;have s:=LY (t:=p) a.s0;have v:=@VP p x.s0;have g:=Pv p x.s0;have w:=Zm p x.s0;generalize dZ p x.s0=H at *;have f:=Sv (x.now,0,H.2.2) d;have c:=V5 {x with s0:=H.1,rc:=x.rc++[(x.now,0,H.2.2)]} ⟨s,a.s1,a.k0,a.k1,a.now⟩ H.2.1 ah (λu y=>(g u y).1) j (by simp only;omega);simp only[eY,ji,fU,eG,nM,Py,bI,bf]at c m⊢;rw[b.1,b.2.1,b.2.2.1,b.2.2.2]at c;generalize jP x.now H.2.1 x.k0=K,(x.rc++[(x.now,0,H.2.2)]).map zZ=r,H.2.1.map GV.s=B at *;refine aB ?_;simp -implicitDefEqProofs[k,l,TP,m,f,c]
 ·rw[eX];have m:=Zg p x.s1 ah a.s1;have b:=UA p x.s1;have s:=LY (t:=p) a.s1;have v:=@VP p x.s1;have g:=Pv p x.s1;have w:=Zm p x.s1;generalize dZ p x.s1=H at *;have f:=Sv (x.now,1,H.2.2) d;have c:=V6 {x with s1:=H.1,rc:=x.rc++[(x.now,1,H.2.2)]} ⟨a.s0,s,a.k0,a.k1,a.now⟩ H.2.1 ah (λu y=>(g u y).1) j (by simp only;omega);simp only[eY,ji,fU,eG,nM,Py,bI,bf]at c m⊢;rw[b.1,b.2.1,b.2.2.1,b.2.2.2]at c;generalize jP x.now H.2.1 x.k1=K,(x.rc++[(x.now,1,H.2.2)]).map zZ=r,H.2.1.map GV.s=B at *;refine aB ?_;simp -implicitDefEqProofs[k,l,TP,m,f,c]
def Yw(i:Nat)(t:Q0)(x:Pr):((kY i t x).s0.mn=x.s0.mn/\(kY i t x).s0.mx=x.s0.mx/\(kY i t x).s0.name=x.s0.name/\(kY i t x).s0.first=x.s0.first)/\((kY i t x).s1.mn=x.s1.mn/\(kY i t x).s1.mx=x.s1.mx/\(kY i t x).s1.name=x.s1.name/\(kY i t x).s1.first=x.s1.first):=by
 unfold kY;split
 ·split
  ·exact⟨UA _ _,rfl,rfl,rfl,rfl⟩
  ·exact⟨⟨rfl,rfl,rfl,rfl⟩,UA _ _⟩
 ·exact⟨⟨rfl,rfl,rfl,rfl⟩,rfl,rfl,rfl,rfl⟩
structure Fix(x y:Pr):Prop where
 a:y.s0.mn=x.s0.mn/\y.s0.mx=x.s0.mx/\y.s0.name=x.s0.name/\y.s0.first=x.s0.first
 b:y.s1.mn=x.s1.mn/\y.s1.mx=x.s1.mx/\y.s1.name=x.s1.name/\y.s1.first=x.s1.first
def Fix.refl(x:Pr):Fix x x:=⟨⟨rfl,rfl,rfl,rfl⟩,rfl,rfl,rfl,rfl⟩
def Fix.trans{x y z:Pr}(h:Fix x y)(g:Fix y z):Fix x z:=
 ⟨⟨g.a.1.trans h.a.1,g.a.2.1.trans h.a.2.1,g.a.2.2.1.trans h.a.2.2.1,g.a.2.2.2.trans h.a.2.2.2⟩,⟨g.b.1.trans h.b.1,g.b.2.1.trans h.b.2.1,g.b.2.2.1.trans h.b.2.2.1,g.b.2.2.2.trans h.b.2.2.2⟩⟩
def Yx(i:Nat):∀(T:We)(x:Pr),Fix x (rH i T x)
 |[],x=>Fix.refl x
 |t::r,x=>Fix.trans ⟨(Yw i t x).1,(Yw i t x).2⟩ (Yx i r _)
def agi(x:Pr):Fix x (yu x):=Fix.trans (y:=yS x) ⟨⟨rfl,rfl,rfl,rfl⟩,rfl,rfl,rfl,rfl⟩ (Yx 1 _ (yS x))
def agl(x:Pr):Fix x (yU x):=Fix.trans (y:=zY x) ⟨⟨rfl,rfl,rfl,rfl⟩,rfl,rfl,rfl,rfl⟩ (Yx 0 _ (zY x))
def aep(x:Pr):Fix x (vI x):=(agi x).trans (agl _)
def ai8:∀(f:Nat)(x:Pr),Fix x (uX f x)
 |0,x=>Fix.refl x
 |f+1,x=>by
  unfold uX;cases nJ x with
  |none=>exact Fix.refl x
  |some a=>
   simp only;split
   ·exact(aep x).trans (ai8 f _)
   ·exact Fix.refl x
def adX(a:Int)(x:Pr):Fix x (uy a x):=Fix.trans (y:={x with now:=if x.now+1<a then a else x.now+1}) ⟨⟨rfl,rfl,rfl,rfl⟩,rfl,rfl,rfl,rfl⟩ (ai8 _ _)
def agb:∀(f:Nat)(last:Int)(x:Pr),Fix x (vO f last x)
 |0,last,x=>Fix.refl x
 |f+1,last,x=>by
  unfold vO;split;rotate_left
  ·exact Fix.refl x
  cases nJ x with
  |none=>exact⟨⟨rfl,rfl,rfl,rfl⟩,rfl,rfl,rfl,rfl⟩
  |some a=>
   simp only;split
   ·exact⟨⟨rfl,rfl,rfl,rfl⟩,rfl,rfl,rfl,rfl⟩
   ·exact(adX a x).trans (agb f last _)
def YA(i:Nat)(hi:i=0\/i=1)(T:We)(q:T.length<=100000)(o:∀t∈T,t.length<=70000):∀(m j:Nat)(x:Pr),j+m=T.length->iW x->x.now<=800000000000->eU x+wS (T.drop j)<=80000->
 TT.lim 221 ([.zq (1-(i:Int)),.l (T.map .s),.zq (T.length:Int),.zq (j:Int)]++eY x)=some (.zq 0::ji (rH i (T.drop j) x))
 |0,j,x,r,e,f,g=>by have h:¬((j:Int)<T.length):=ah;rw[gJ];simp only[rH,eY,ji,fU,eG,nM,bI,bf];refine aB ?_;simp -implicitDefEqProofs[h]
 |m+1,j,x,r,e,f,g=>by
  have b:j<T.length:=ah;have h:(j:Int)<T.length:=ah;have s:IntKind.i64.wrap ((j:Int)+1)=((j+1:Nat):Int):=by rw[wrap64 ah ah];omega
  have u:T.drop j=T[j]::T.drop (j+1):=gW b;have k:at2 1 (some (.l (T.map .s))) (some (.zq (j:Int)))=some (.s T[j]):=by rw[dw,mW,xO,jf,bT b];rfl
  have c:BO (some (.l (T.map .s))) (some (.zq (j:Int)))=some (.zq (j:Int)):=by rw[iT,au ⟨ah,by rw[iw];omega⟩]
  have d:T[j]∈T:=iq b;rw[u]at g⊢;generalize T[j]=t at *;simp only[wS]at g;have v:=QU t;have p:=amH i hi t x e (o t d) f ah;obtain⟨w,z⟩:=TD (i:=i) (t:=t) e;have l:=YA i hi T q o m (j+1) (kY i t x) ah w (by rw[Yv];exact f) ah;have a:=Yw i t x;have n:=Yv i t x;have y:IntKind.i64.wrap (1-(1-(i:Int)))=(i:Int):=by rcases hi with rfl|rfl<;>rfl
  rw[show rH i (t::T.drop (j+1)) x=rH i (T.drop (j+1)) (kY i t x)from rfl];generalize rH i (T.drop (j+1)) (kY i t x)=E at *;generalize kY i t x=Y at *;simp only[eY,ji,fU,eG,nM,bI,bf]at p l⊢;rw[n,a.1.1,a.1.2.1,a.1.2.2.1,a.1.2.2.2,a.2.1,a.2.2.1,a.2.2.2.1,a.2.2.2.2,<-s]at l;generalize T.map GV.s=A,(T.length:Int)=B,(j:Int)=D at *;refine aB ?_;simp -implicitDefEqProofs[-iT,-dw,h,k,c,y,p,l]
set_option maxHeartbeats 4000000 in
def alY(x:Pr)(m:iW x)(n:x.now<=800000000000)(o:eU x<=80000):TT.lim 213 (eY x)=some (.zq 0::ji (vI x)):=by
 have w1:IntKind.i64.wrap 1=1:=rfl;have p:IntKind.i64.wrap 2=2:=rfl;have fin:∀y:Pr,TT.lim 214 (.zq 2::eY y)=some (.zq 0::ji y):=by intro y;simp only[eY,ji,fU,eG,nM,bI,bf];refine aB ?_;simp
 have one:∀y:Pr,iW y->y.now<=800000000000->eU y<=80000->TT.lim 214 (.zq 1::eY y)=some (.zq 0::ji (yU y)):=by
  intro y c j k;obtain⟨d1,d2,d3⟩:=Lj y.now c.k1;have q:=acF y.k1.h;have d:mG y.k1<=80000:=by unfold eU at k;omega
  have l:=afk y.now (.zu y.k1.n) y.k1.h (by unfold mG at d;omega) c.k1.h;have i:(fC y.k1.h.length y.now y.k1.h).1.length<=100000:=by have:=(TK y.now y.k1.h.length y.k1.h rfl c.k1.h).2;unfold mG at d;omega
  have a:=YA 0 (.inl rfl) (fC y.k1.h.length y.now y.k1.h).1 i d3 (fC y.k1.h.length y.now y.k1.h).1.length 0 (zY y) ah ⟨c.s0,c.s1,c.k0,d1,c.now⟩ j (by rw[dD];unfold eU zY at *;simp only at *;omega)
  rw[dD]at a;have e:=fin (yU y);have b:=agl y;have g:=agm y;rw[show rH 0 (fC y.k1.h.length y.now y.k1.h).1 (zY y)=yU y from rfl]at a;generalize yU y=E at *;unfold zY at a;generalize fC y.k1.h.length y.now y.k1.h=D at *;have f:((D.1.map GV.s).length:Int)=(D.1.length:Int):=by rw[iw]
  have a:TT.lim 221 ([.zq 1,.l (D.1.map .s),.zq (D.1.length:Int),.zq 0]++eY {y with k1:={y.k1 with h:=D.2}})=some (.zq 0::ji E):=a;simp only[eY,ji,fU,eG,nM,bI,bf]at a e⊢;rw[g,b.a.1,b.a.2.1,b.a.2.2.1,b.a.2.2.2,b.b.1,b.b.2.1,b.b.2.2.1,b.b.2.2.2]at e;generalize D.1.map GV.s=r,(D.1.length:Int)=s at *;refine aB ?_;simp -implicitDefEqProofs[p,l,f,a,e]
 have zero:∀y:Pr,iW y->y.now<=800000000000->eU y<=80000->TT.lim 214 (.zq 0::eY y)=some (.zq 0::ji (vI y)):=by
  intro y c j k;obtain⟨d1,d2,d3⟩:=Lj y.now c.k0;have q:=acF y.k0.h;have d:mG y.k0<=80000:=by unfold eU at k;omega
  have l:=afk y.now (.zu y.k0.n) y.k0.h (by unfold mG at d;omega) c.k0.h;have i:(fC y.k0.h.length y.now y.k0.h).1.length<=100000:=by have:=(TK y.now y.k0.h.length y.k0.h rfl c.k0.h).2;unfold mG at d;omega
  have a:=YA 1 (.inr rfl) (fC y.k0.h.length y.now y.k0.h).1 i d3 (fC y.k0.h.length y.now y.k0.h).1.length 0 (yS y) ah ⟨c.s0,c.s1,d1,c.k1,c.now⟩ j (by rw[dD];unfold eU yS at *;simp only at *;omega)
  rw[dD]at a;obtain⟨t,u⟩:=agk c;have g:=agj y;have e:=one (yu y) t (by rw[g];exact j) ah;have b:=agi y;rw[show yU (yu y)=vI y from rfl]at e;rw[show rH 1 (fC y.k0.h.length y.now y.k0.h).1 (yS y)=yu y from rfl]at a;generalize vI y=C,yu y=E at *;unfold yS at a;generalize fC y.k0.h.length y.now y.k0.h=D at *;have f:((D.1.map GV.s).length:Int)=(D.1.length:Int):=by rw[iw]
  have a:TT.lim 221 ([.zq 0,.l (D.1.map .s),.zq (D.1.length:Int),.zq 0]++eY {y with k0:={y.k0 with h:=D.2}})=some (.zq 0::ji E):=a;simp only[eY,ji,fU,eG,nM,bI,bf]at a e⊢;rw[g,b.a.1,b.a.2.1,b.a.2.2.1,b.a.2.2.2,b.b.1,b.b.2.1,b.b.2.2.1,b.b.2.2.2]at e;generalize D.1.map GV.s=r,(D.1.length:Int)=s at *;refine aB ?_;simp -implicitDefEqProofs[w1,l,f,a,e]
 have h:=zero x m n o;generalize vI x=C at *;simp only[eY,ji,fU,eG,nM,bI,bf]at h⊢;refine aB ?_;simp -implicitDefEqProofs[h]
def Qe(x:Pr):Int:=(nJ x).getD 0
def ahV(x:Pr):(x.k0.h=[]/\x.k1.h=[]/\nJ x=none)\/(∃n,x.k0.h.length=n+1/\x.k1.h=[]/\nJ x=some (at_ x.k0.h 0).1)\/(∃n,x.k0.h=[]/\x.k1.h.length=n+1/\nJ x=some (at_ x.k1.h 0).1)\/
 (∃n m,x.k0.h.length=n+1/\x.k1.h.length=m+1/\nJ x=some (if(at_ x.k1.h 0).1<(at_ x.k0.h 0).1 then(at_ x.k1.h 0).1 else(at_ x.k0.h 0).1)):=by
 unfold nJ nextL;cases b:x.k0.h with
 |nil=>
  cases a:x.k1.h with
  |nil=>exact .inl ⟨rfl,rfl,rfl⟩
  |cons y r=>exact .inr (.inr (.inl ⟨r.length,rfl,rfl,rfl⟩))
 |cons z q=>
  cases a:x.k1.h with
  |nil=>exact .inr (.inl ⟨q.length,rfl,rfl,rfl⟩)
  |cons y r=>exact .inr (.inr (.inr ⟨q.length,r.length,rfl,rfl,rfl⟩))
