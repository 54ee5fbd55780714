/- What the trees compute: plain laws. -/
import Derived.Test.YtogfeeabnklegaaGreatDoorKBe7
set_option linter.all false
namespace Go.Proofs.YtogfeeabnklegaaGreatDoor
open Go Go.aP
set_option maxRecDepth 100000
namespace B
def az7(h:List It)(a n:Int)(t:Q0)(i:h.length<=100000):TT.lim 164 [.zu a,.zu n,.s t,.l (h.map dD)]=some [.zq 0,.l ((rV h (a,n,t)).map dD)]:=by have c:=aFm (h++[(a,n,t)]) h.length (.zu n) aA (by simp;omega);have g:=bH (((h.length:Nat):Int));have b:GV.g [.zu a,.zu n,.s t]=dD (a,n,t):=rfl;have d:(dD (a,n,t)).gQ 3=true:=rfl;rw[oK]at c;simp only[iU,jH]at c;have e:2*(h.length+1)*32<=281474976710656:=ah;have f:h.length<=281474976710655:=ah;unfold rV;refine aB ?_;simp -implicitDefEqProofs[b,d,e,f,g,c]
def as4(h:List It)(n:Nat)(c:GV)(e:n<=h.length)(f:h.length<=1000000):∃b:Bool,TT.lim 176 [.zq (n:Int),.l (h.map dD),c,.zq 0]=some [.zq 0,.b b,.l ((oD (n+1) h 0 n).map dD)]:=by obtain⟨d,a⟩:=agT (n+1) h 0 n (.zq 0) c ah e f ah;have a:TT.lim 177 [.zq 0,.zq (n:Int),.zq 0,.l (h.map dD),c]=some [.zq 0,.zq (d:Int),.l ((oD (n+1) h 0 n).map dD)]:=a;refine⟨decide ((0:Int)<(d:Int)),jG rfl rfl ?_⟩;simp[a]
def azN(h:List It)(n:Nat)(c:GV)(f:h.length=n+1)(F:h.length<=1000000)(j:Heap h (n+1)):
 TT.lim 175 [.l (h.map dD),c]=some [.zq 0,.zu (at_ h 0).1,.zu (at_ h 0).2.1,.s (at_ h 0).2.2,.l ((nX h).map dD)]:=by
 have l:(jk h 0 n).length=n+1:=by rw[Gn,f]
 obtain⟨b,u⟩:=as4 (jk h 0 n) n c ah ah;obtain⟨-,-,-,a⟩:=XZ h n f j;have d:(oD (n+1) (jk h 0 n) 0 n).length=n+1:=by rw[aaA,l]
 have m:nX h=(oD (n+1) (jk h 0 n) 0 n).take n:=by unfold nX;rw[f];rfl
 have o:=L6 (h:=h) (k:=0) ah (at_ h n);have p:=L6 (h:=h.set 0 (at_ h n)) (k:=n) (by rw[Jg];omega) (at_ h 0);have e:(h.set 0 (at_ h n)).set n (at_ h 0)=jk h 0 n:=rfl;rw[e]at p;rw[m];generalize jk h 0 n=S at *;generalize oD (n+1) S 0 n=D at *;have q:=Dq (h:=h) (k:=0) ah;have r:=BX (h:=h) (k:=0) ah;rw[show(((0:Nat)):Int)=0 from rfl]at q r o;have v:=Dq (h:=h) (k:=n) ah;have w:=BX (h:=h) (k:=n) ah;have s:=Dq (h:=D) (k:=n) ah;have x:=BX (h:=D) (k:=n) ah;have A:=L6 (h:=D) (k:=n) ah (0,0,[]);rw[a]at s;have t:(D.set n (0,0,[])).take n=D.take n:=by rw[List.take_set_of_le (dP n)]
 rw[<-t];have g:(D.set n (0,0,[])).length=n+1:=by rw[Jg,d]
 generalize D.set n (0,0,[])=G,h.set 0 (at_ h n)=H at *;have E:=bH (((n:Nat):Int));have i:((n:Nat):Int)<=(n:Int)+1:=ah;clear e t m a j l;generalize at_ h n=y,at_ h 0=z at *;refine aB ?_;simp -implicitDefEqProofs[-jZ,-dJ,-vX,f,d,E,r,q,w,v,o,p,u,x,s,A,g,i,aeT]
def aAF(h:List It)(n:Nat)(c:GV)(b:h.length=n+1)(d:h.length<=1000000)(e:Heap h (n+1)):
 TT.lim 174 [.l (h.map dD),c]=some [.zq 0,.zu (at_ h 0).1,.s (at_ h 0).2.2,.b true,.l ((nX h).map dD)]:=by
 have f:=azN h n c b d e;have a:¬((n:Int)+1=0):=ah;generalize at_ h 0=z,nX h=R at *;refine aB ?_;simp -implicitDefEqProofs[b,a,f]
def az9(h:List It)(a n:Int)(t:Q0)(c:h.length<=100000)(g:0<=n/\n<=1000000):
 TT.lim 163 [.zu a,.l [.s t],.zq 1,.zq 0,.l (h.map dD),.zu n]=some [.zq 0,.l ((rV h (a,n,t)).map dD),.zu (n+1)]:=by
 have d:=az7 h a n t c;generalize rV h (a,n,t)=R at *;have e:TT.lim 163 [.zu a,.l [.s t],.zq 1,.zq 1,.l (R.map dD),.zu (n+1)]=some [.zq 0,.l (R.map dD),.zu (n+1)]:=by refine aB ?_;simp
 have f:=jV (n+1);have b:IntKind.i64.wrap 1=1:=rfl;refine aB ?_;simp -implicitDefEqProofs[d,f,b,e]
def aAg(h:List It)(a n:Int)(t:Q0)(b:h.length<=100000)(c:0<=n/\n<=1000000):
 TT.lim 162 [.zu a,.l [.s t],.l (h.map dD),.zu n]=some [.zq 0,.l ((rV h (a,n,t)).map dD),.zu (n+1)]:=by
 have d:=az9 h a n t b c;generalize rV h (a,n,t)=R at *;refine aB ?_;simp -implicitDefEqProofs[d]
def agZ(now:Int)(c:GV):∀(m:Nat)(h:List It)(a:Wa),h.length=m->a.length+m<=100000->Heap h h.length->
 TT.lim 173 [.zu now,.l (a.map .s),.l (h.map dD),c]=some [.zq 0,.l ((a++(dM m now h).1).map .s),.l ((dM m now h).2.map dD)]
 |0,h,a,b,s,g=>by obtain rfl:=Qa.1 b;refine aB ?_;simp -implicitDefEqProofs[dM]
 |m+1,h,a,b,s,g=>by
  have d:¬((m:Int)+1=0):=ah;have i:h≠[]:=by rintro rfl;simp at b
  have j:=Dq (h:=h) (k:=0) ah;have l:=BX (h:=h) (k:=0) ah;rw[show(((0:Nat)):Int)=0 from rfl]at j l;by_cases f:now<(at_ h 0).1
  ·rw[dM,au (.inr f)];generalize at_ h 0=z at *;refine aB ?_;simp -implicitDefEqProofs[-jZ,-dJ,b,d,j,l,f]
  ·obtain⟨r1,r2,r3,-⟩:=XZ h m b (by rw[<-b];exact g);have t:=aAF h m c b ah (by rw[<-b];exact g);have n:=agZ now c m (nX h) (a++[(at_ h 0).2.2]) r1 (by simp;omega) (by rw[r1];exact r2);rw[dM,aj (λe=>e.elim i f)];have r:a++(at_ h 0).2.2::(dM m now (nX h)).1=a++[(at_ h 0).2.2]++(dM m now (nX h)).1:=aA;rw[show(a++((at_ h 0).2.2::(dM m now (nX h)).1,(dM m now (nX h)).2).1)=a++[(at_ h 0).2.2]++(dM m now (nX h)).1 from r];generalize a++[(at_ h 0).2.2]++(dM m now (nX h)).1=O at *;show _=some [_,_,GV.l ((dM m now (nX h)).2.map dD)]
   generalize(dM m now (nX h)).2=u at *;rw[oK]at n;simp only[iU,jH]at n;have o:2*(a.length+1)*16<=281474976710656:=ah;have p:a.length<=281474976710655:=ah;clear r;generalize nX h=R,at_ h 0=z at *;have q:(GV.s z.2.2).gQ 1=true:=rfl;refine aB ?_;simp -implicitDefEqProofs[-jZ,-dJ,b,d,j,l,f,t,o,p,q,n]
def ag0(now:Int)(c:GV)(h:List It)(b:h.length<=100000)(d:Heap h h.length):
 TT.lim 172 [.zu now,.l (h.map dD),c]=some [.zq 0,.l ((dM h.length now h).1.map .s),.l ((dM h.length now h).2.map dD)]:=by
 have a:=agZ now c h.length h [] rfl (by simpa using b) d;rw[aX]at a;simp only[jH]at a;generalize dM h.length now h=R at *;refine aB ?_;simp -implicitDefEqProofs[a]
def PK:Q0->Nat
 |[a,b,c,d]=>a.toNat+b.toNat*256+c.toNat*65536+d.toNat*16777216
 |_=>0
def apy(p s:Q0)(T:p.length<=65536)(L:s.length=4):TT.lim 185 [.s p,.s s]=some [.b (decide ((PK s:Int)=jo p))]:=by
 have M:=aau p ah;generalize jo p=n at *;match s,L with
 |[v,w,x,z],_=>
  have g:∀y:Int,IntKind.u32.wrap y=y%((4294967296:Nat):Int):=λy=>by simp[IntKind.wrap,IntKind.signed,IntKind.bits]
  obtain⟨f,i⟩:∃c,v.toNat=c:=⟨_,rfl⟩
  obtain⟨d,j⟩:∃c,w.toNat=c:=⟨_,rfl⟩
  obtain⟨e,l⟩:∃c,x.toNat=c:=⟨_,rfl⟩
  obtain⟨h,o⟩:∃c,z.toNat=c:=⟨_,rfl⟩
  have N:=v.toNat_lt;have O:=w.toNat_lt;have P:=x.toNat_lt;have Q:=z.toNat_lt;rw[show PK [v,w,x,z]=v.toNat+w.toNat*256+x.toNat*65536+z.toNat*16777216 from rfl];rw[i]at N⊢;rw[j]at O⊢;rw[l]at P⊢;rw[o]at Q⊢;have E:kT .shl .u32 (d:Int) 8=some (.i .u32 ((d*256:Nat):Int)):=Py (k:=8) g rfl aV ah;have F:kT .shl .u32 (e:Int) 16=some (.i .u32 ((e*65536:Nat):Int)):=Py (k:=16) g rfl aV ah;have G:kT .shl .u32 (h:Int) 24=some (.i .u32 ((h*16777216:Nat):Int)):=Py (k:=24) g rfl aV ah;have o1:=OQ (a:=f) (b:=d) (k:=8) (m:=256) rfl ah ah;have A:=OQ (a:=f+d*256) (b:=e) (k:=16) (m:=65536) rfl ah ah;have D:=OQ (a:=f+d*256+e*65536) (b:=h) (k:=24) (m:=16777216) rfl ah ah;have w0:IntKind.u32.wrap (f:Int)=f:=by rw[g];omega
  have w1:IntKind.u32.wrap (d:Int)=d:=by rw[g];omega
  have R:IntKind.u32.wrap (e:Int)=e:=by rw[g];omega
  have S:IntKind.u32.wrap (h:Int)=h:=by rw[g];omega
  obtain⟨U,r⟩:∃q:Int,((f+d*256+e*65536+h*16777216:Nat):Int)=q:=⟨_,rfl⟩
  obtain⟨V,H⟩:∃q:Int,((h*16777216:Nat):Int)=q:=⟨_,rfl⟩
  obtain⟨W,I⟩:∃q:Int,((f+d*256+e*65536:Nat):Int)=q:=⟨_,rfl⟩
  obtain⟨X,t⟩:∃q:Int,((e*65536:Nat):Int)=q:=⟨_,rfl⟩
  obtain⟨Y,J⟩:∃q:Int,((f+d*256:Nat):Int)=q:=⟨_,rfl⟩
  obtain⟨Z,u⟩:∃q:Int,((d*256:Nat):Int)=q:=⟨_,rfl⟩
  rw[r]at D⊢;rw[H]at G D;rw[I]at A D;rw[t]at F A;rw[J]at o1 A;rw[u]at E o1;clear H I t J u r;refine aW ?_;simp -implicitDefEqProofs[M,i,j,l,o,w0,w1,R,S,E,F,G,o1,A,D]
def KI:Q0->Int
 |[]=>1
 |[a]=>if a=81 then 1 else 5
 |a::b::_=>if a=81 then(if b=70 then 0 else 5)else 5
def ajA(a:UInt8):KI [a]=if a=81 then 1 else 5:=rfl
def axx(a b:UInt8)(r:Q0):KI (a::b::r)=if a=81 then(if b=70 then 0 else 5)else 5:=rfl
def lJ(s:Q0):Q0×Int×Int:=
 if KI s≠0 then([],0,KI s)else
 if(aF (s.drop 2)).2.2≠0 then([],0,(aF (s.drop 2)).2.2)else
 if 65536<(aF (s.drop 2)).1 then([],0,4)else
 if(s.drop (2+(aF (s.drop 2)).2.1)).length<(aF (s.drop 2)).1+4 then([],0,1)else
 if(PK (((s.drop (2+(aF (s.drop 2)).2.1)).take ((aF (s.drop 2)).1+4)).drop (aF (s.drop 2)).1):Int)=jo ((s.drop (2+(aF (s.drop 2)).2.1)).take (aF (s.drop 2)).1)then
  ((s.drop (2+(aF (s.drop 2)).2.1)).take (aF (s.drop 2)).1,((2+fZ (aF (s.drop 2)).1+(aF (s.drop 2)).1+4:Nat):Int),0)else([],0,6)
def ad5(a:UInt8)(n:Nat)(b:n<256):((a.toNat:Int)=(n:Int))=(a=UInt8.ofNat n):=by
 apply propext;constructor
 ·intro h;apply Zw.1;rw[afb];omega
 ·intro h;rw[h,afb];omega
def axv(s:Q0)(o:s.length<=140737488351232):TT.lim 181 [.s s]=some [.zq (KI s)]:=by
 have w1:=bH ((1:Int));have l:=bH ((2:Int));have i:∀s:Q0,TT.lim 182 [.s s,.zq 2]=some [.zq 1]:=by intro s;refine aB ?_;simp
 match s,o with
 |[],_=>
  have p:KI []=1:=rfl;have q:TT.lim 182 [.s [],.zq 0]=some [.zq 0,.zq 1]:=by refine aB ?_;simp
  rw[p];refine aW ?_;simp -implicitDefEqProofs[q]
 |[a],_=>
  rw[ajA];have e:=ad5 a 81 ah;have e:((a.toNat:Int)=81)=(a=81):=e;by_cases c:a=81
  ·rw[au c];have g:TT.lim 182 [.s [a],.zq 1]=some [.zq 0,.zq 1]:=by refine aB ?_;simp
   have d:(a=81)=True:=eq_true c;clear c;have f:TT.lim 182 [.s [a],.zq 0]=some [.zq 0,.zq 1]:=by refine aB ?_;simp -implicitDefEqProofs[w1,e,d,g]
   refine aW ?_;simp -implicitDefEqProofs[f]
  ·rw[aj c];have f:TT.lim 182 [.s [a],.zq 0]=some [.zq 0,.zq 5]:=by refine aB ?_;simp -implicitDefEqProofs[w1,e,c]
   refine aW ?_;simp -implicitDefEqProofs[f]
 |a::b::r,_=>
  rw[axx];have e:((a.toNat:Int)=81)=(a=81):=ad5 a 81 ah;have m:((b.toNat:Int)=70)=(b=70):=ad5 b 70 ah;have j:¬(0:Int)=(r.length:Int)+1+1:=ah;have n:¬(1:Int)=(r.length:Int)+1+1:=ah;have i:=i (a::b::r);by_cases c:a=81
  ·rw[au c];have d:(a=81)=True:=eq_true c;clear c;by_cases h:b=70
   ·rw[au h];have k:(b=70)=True:=eq_true h;clear h;have g:TT.lim 182 [.s (a::b::r),.zq 1]=some [.zq 1]:=by refine aB ?_;simp -implicitDefEqProofs[n,l,m,k,i]
    have f:TT.lim 182 [.s (a::b::r),.zq 0]=some [.zq 1]:=by refine aB ?_;simp -implicitDefEqProofs[j,w1,e,d,g]
    refine aW ?_;simp -implicitDefEqProofs[f]
   ·rw[aj h];have g:TT.lim 182 [.s (a::b::r),.zq 1]=some [.zq 0,.zq 5]:=by refine aB ?_;simp -implicitDefEqProofs[n,l,m,h]
    have f:TT.lim 182 [.s (a::b::r),.zq 0]=some [.zq 0,.zq 5]:=by refine aB ?_;simp -implicitDefEqProofs[j,w1,e,d,g]
    refine aW ?_;simp -implicitDefEqProofs[f]
  ·rw[aj c];have f:TT.lim 182 [.s (a::b::r),.zq 0]=some [.zq 0,.zq 5]:=by refine aB ?_;simp -implicitDefEqProofs[j,w1,e,c]
   refine aW ?_;simp -implicitDefEqProofs[f]
def akm(s:Q0)(R:s.length<=100000000):TT.lim 180 [.s s]=some [.s (lJ s).1,.zq (lJ s).2.1,.zq (lJ s).2.2]:=by
 have h:=axv s ah;unfold lJ;by_cases c:KI s=0;rotate_left
 ·rw[au c];refine aW ?_;simp -implicitDefEqProofs[h,c]
 rw[aj (by simpa using c)];rw[c]at h;have S:2<=s.length:=by
  match s,c with
  |[],c=>exact absurd c aV
  |[a],c=>rw[ajA]at c;split at c<;>simp at c
  |a::b::r,_=>simp
 have m:=wR (s.drop 2) (by rw[fU];omega);have f:=@lZ (s.drop 2);have o:(s.take s.length).drop 2=s.drop 2:=by rw[Bz]
 have p:(2:Int)<=(s.length:Int):=ah;generalize aF (s.drop 2)=G at *;obtain⟨n,k,e⟩:=G;simp only at m f⊢;by_cases q:e=0;rotate_left
 ·rw[au q];refine aW ?_;simp -implicitDefEqProofs[h,o,p,m,q]
 rw[aj (by simpa using q)];have f:=(f q).len;rw[fU]at f;subst q;by_cases F:65536<n
 ·rw[au F];have d:(65536:Int)<n:=ah;refine aW ?_;simp -implicitDefEqProofs[h,o,p,m,d]
 rw[aj F];have d:¬(65536:Int)<n:=ah;have w:=bH ((n:Int));have i:=bH ((n:Int)+4);have x:=bH (2+(k:Int));have j:2+(k:Int)<=(s.length:Int):=ah;have y:(0:Int)<=2+(k:Int):=ah;have l:s.drop (2+(k:Int)).toNat=s.drop (2+k):=by congr 1
 have T:(s.drop (2+k)).length=s.length-(2+k):=fU;generalize s.drop (2+k)=B at *;by_cases H:B.length<n+4
 ·rw[au H];have g:(B.length:Int)<(n:Int)+4:=ah;refine aW ?_;simp -implicitDefEqProofs[h,o,p,m,d,w,i,x,j,y,l,g]
 rw[aj H];have g:¬(B.length:Int)<(n:Int)+4:=ah;have I:(0:Int)<=(n:Int):=ah;have J:(n:Int)<=(n:Int)+4:=ah;have L:(n:Int)<=(B.length:Int):=ah;have t:(n:Int)+4<=(B.length:Int):=ah;have M:((n:Int)).toNat=n:=ah;have N:((n:Int)+4).toNat=n+4:=ah;have z:(B.take n).length<=65536:=by rw[mP];omega
 have A:((B.take (n+4)).drop n).length=4:=by rw[fU,mP];omega
 have u:=apy (B.take n) ((B.take (n+4)).drop n) z A;have O:=ahL n ah;generalize P:(B.take (n+4)).drop n=K at *;generalize Q:B.take n=D at *;by_cases v:(PK K:Int)=jo D
 ·rw[au v];have E:decide ((PK K:Int)=jo D)=true:=by simpa using v
  rw[E]at u;refine aW ?_;simp -implicitDefEqProofs[h,o,p,m,d,w,i,x,j,y,l,g,I,J,L,t,M,N,Q,P,u,O]
 ·rw[aj v];have E:decide ((PK K:Int)=jo D)=false:=by simpa using v
  rw[E]at u;refine aW ?_;simp -implicitDefEqProofs[h,o,p,m,d,w,i,x,j,y,l,g,I,J,L,t,M,N,Q,P,u,O]
def akn{p:Q0}(h:p.length<=65536):lJ (eX p)=(p,(((eX p).length:Nat):Int),0):=by have i:=ay9 h;have j:=aaS p;have k:=PX 3 p.length ah ah;have d:=akm (eX p) ah;rw[i]at d;simp only[bF,yA,GV.s.injEq,GV.i.injEq,and_true,true_and]at d;obtain⟨e,f,g⟩:=d;generalize lJ (eX p)=R at *;obtain⟨a,b,c⟩:=R;simp only at e f g;rw[<-e,<-f,<-g]
def aza(s:Q0):(lJ s).1.length<=s.length:=by
 unfold lJ;repeat' split
 all_goals first|simp;done|(simp only[mP,fU];omega)
structure Fa where
 dr:Bool
 c:Nat
 d:Nat
 cu:Int
 at_:Int
 tY:Nat
def bf(f:Fa):GV:=.g [.b f.dr,.i .u8 (f.c:Int),.i .u8 (f.d:Int),.zq f.cu,.zq f.at_,.i .u8 (f.tY:Int)]
@[simp] theorem aGY(f:Fa):(bf f).cells=[.b f.dr,.i .u8 (f.c:Int),.i .u8 (f.d:Int),.zq f.cu,.zq f.at_,.i .u8 (f.tY:Int)]:=rfl
structure Gx(f:Fa):Prop where
 c:f.c<=3
 d:f.d<256
 tY:f.tY<256
 cu:f.cu<=9223372036854775807
 at_:f.at_<=9223372036854775807
def anj(x:UInt8):Ai x 0=x:=by unfold Ai;rw[Nat.xor_zero,UInt8.ofNat_toNat]
def AB(f:Fa)(t:Q0):Q0:=if 0<f.cu/\f.cu<t.length then t.take f.cu.toNat else t
def LY(f:Fa)(u:Q0):Q0:=if f.at_<0 then u else if(u.length:Int)<=f.at_ then u else u.set f.at_.toNat (Ai (u.getD f.at_.toNat 0) f.tY)
def kX(f:Fa)(t:Q0):Q0:=LY f (AB f t)
def apA(f:Fa)(t:Q0):(AB f t).length<=t.length:=by
 unfold AB;split
 ·rw[mP];omega
 ·omega
def aFd(f:Fa)(u:Q0):(LY f u).length=u.length:=by
 unfold LY;split
 ·rfl
 split
 ·rfl
 ·rw[Jg]
def as3(f:Fa)(t:Q0):(kX f t).length<=t.length:=by unfold kX;rw[aFd];exact apA f t
def mY:Nat->Int->List UInt8->List It->Int->List It×Int
 |0,_,_,h,n=>(h,n)
 |m+1,a,t,h,n=>mY m (a+1) t (rV h (a,n,t)) (n+1)
def adb(a:Int)(t:Q0):∀(m:Nat)(h:List It)(n:Int),Heap h h.length->Heap (mY m a t h n).1 (mY m a t h n).1.length/\(mY m a t h n).1.length=h.length+m/\(mY m a t h n).2=n+m
 |0,h,n,b=>⟨b,rfl,by simp[mY]⟩
 |m+1,h,n,b=>by have e:=O4 h (a,n,t) b;have d:=SV h (a,n,t) b;have c:=adb (a+1) t m (rV h (a,n,t)) (n+1) (by rw[d];exact e.1);unfold mY;refine⟨c.1,by rw[c.2.1,d];omega,by rw[c.2.2];push_cast;omega⟩
def copies(now a:Int)(t:Q0)(L:Wa)(j k l:GV)(M:Nat)(p:M<=300)(q:0<=a/\a<=1000000000000):∀(m i:Nat)(h:List It)(n:Int),i+m=M->h.length+m<=100000->0<=n->n+m<=1000000->Heap h h.length->
 TT.lim 161 [.zu now,.s t,.zu a,.l (L.map .s),j,k,.zu (M:Int),.zu (i:Int),l,.l (h.map dD),.zu n]=some [.zq 0,.l ((mY m (a+i) t h n).1.map dD),.zu (mY m (a+i) t h n).2]
 |0,i,h,n,hi,r,o,s,f=>by have c:¬((i:Int)<(M:Int)):=ah;refine aB ?_;simp -implicitDefEqProofs[c,mY]
 |m+1,i,h,n,hi,r,o,s,f=>by have c:(i:Int)<(M:Int):=ah;have u:=O4 h (a+i,n,t) f;have b:=SV h (a+i,n,t) f;have d:=aAg h (a+i) n t ah ⟨o,ah⟩;have g:=copies now a t L j k l M p q m (i+1) (rV h (a+i,n,t)) (n+1) ah (by rw[b];omega) ah ah (by rw[b];exact u.1);have e:a+((i+1:Nat):Int)=a+i+1:=ah;rw[e]at g;unfold mY;generalize mY m (a+i+1) t (rV h (a+i,n,t)) (n+1)=R at *;generalize rV h (a+i,n,t)=Q at *;have w1:=jV (a+(i:Int));have v:=jV ((i:Int)+1);rw[(ah:((i+1:Nat):Int)=(i:Int)+1)]at g;refine aB ?_;simp -implicitDefEqProofs[c,w1,v,d,g]
structure Lk where
 f:List Fa
 h:List It
 n:Int
def ny(now:Int)(t:Q0)(k:Lk):Lk:=match k.f with
 |[]=>{k with h:=(mY 1 now t k.h k.n).1,n:=(mY 1 now t k.h k.n).2}
 |f::r=>if f.dr=true then {k with f:=r}else {f:=r,h:=(mY (f.c+1) (now+f.d) (kX f t) k.h k.n).1,n:=(mY (f.c+1) (now+f.d) (kX f t) k.h k.n).2}
set_option maxHeartbeats 4000000 in
def alW(now:Int)(t:Q0)(k:Lk)(hf:∀f∈k.f,Gx f)(hk:k.f.length<=100000)(W:t.length<=100000000)(jw:0<=now/\now<=900000000000)(hl:k.h.length+4<=100000)(n0:0<=k.n)(hn:k.n+4<=1000000)(hh:Heap k.h k.h.length):
 TT.lim 159 [.zu now,.l [.s t],.l (k.f.map bf),.l (k.h.map dD),.zu k.n]=some [.zq 0,.l ((ny now t k).f.map bf),.l ((ny now t k).h.map dD),.zu (ny now t k).n]:=by
 have w1:IntKind.i64.wrap 1=1:=rfl;have e:∀(P:Q1)(H:List It)(n:Int),TT.lim 160 [.zu now,.l [.s t],.zq 1,.zq 1,.l P,.l (H.map dD),.zu n]=some [.zq 0,.l P,.l (H.map dD),.zu n]:=by intro P H n;refine aB ?_;simp
 suffices h:TT.lim 160 [.zu now,.l [.s t],.zq 1,.zq 0,.l (k.f.map bf),.l (k.h.map dD),.zu k.n]=some [.zq 0,.l ((ny now t k).f.map bf),.l ((ny now t k).h.map dD),.zu (ny now t k).n] by generalize ny now t k=R,k.f.map bf=FG,k.h.map dD=HG at *;refine aB ?_;simp -implicitDefEqProofs[h]
 obtain⟨P,H,n⟩:=k;simp only at *;cases P with
 |nil=>
  unfold ny;simp only[jH];have b:=copies now now t [t] (.zq 1) (.zq 0) (.l []) 1 ah ah 1 0 H n ah ah n0 ah hh;rw[(ah:now+((0:Nat):Int)=now)]at b;have hw:=jV now;have e:=e [] (mY 1 now t H n).1 (mY 1 now t H n).2;generalize mY 1 now t H n=R at *;have b:TT.lim 161 [.zu now,.s t,.zu now,.l [.s t],.zq 1,.zq 0,.zu 1,.zu 0,.l [],.l (H.map dD),.zu n]=some [.zq 0,.l (R.1.map dD),.zu R.2]:=b;cases t with
  |nil=>refine aB ?_;simp -implicitDefEqProofs[hw,w1,b,e]
  |cons x r=>
   obtain⟨l,m,j⟩:=alZ (u:=x::r) (k:=0) aA (Ai x 0);have X:=ank x 0 ah;have b0:(x::r).set 0 (Ai x 0)=x::r:=by rw[anj];rfl
   rw[b0]at j;have m:at2 1 (some (.l (dK (x::r)))) (some (.zq 0))=some (.i .u8 (x.toNat:Int)):=m;have l:Fj (some (.l (dK (x::r)))) (some (.zq 0))=some (.zq 0):=l;have j:Gs 1 0 (some (.l (dK (x::r)))) (some (.zq 0)) (some [.i .u8 ((Ai x 0).toNat:Int)])=some (.l (dK (x::r))):=j;have bk:=ZW (x::r);have bl:(dK (x::r)).length<=2^48:=by simp only[dK,gB];simp only[iD]at W⊢;omega
   have Y:¬((r.length:Int)+1<=0):=ah;have X:dw .xor .u8 (x.toNat:Int) 0=some (.i .u8 ((Ai x 0).toNat:Int)):=X;have o:at2 1 (some (.l [.s (x::r)])) (some (.zq 0))=some (.s (x::r)):=rfl;generalize i:dK (x::r)=Z at *;generalize Ai x 0=y at *;refine aB ?_;simp -implicitDefEqProofs[-jZ,-dJ,-vX,o,i,hw,w1,Y,l,m,X,j,bk,bl,b,e]
 |cons f r=>
  unfold ny;simp only[iU];have fo:=hf f aA;have aa:(r.length:Int)+1>0:=ah;have w:((r.map bf).length:Int)=(r.length:Int):=by rw[gB]
  have o:at2 1 (some (.l [.s t])) (some (.zq 0))=some (.s t):=rfl;have z:at2 6 (some (.l (bf f::r.map bf))) (some (.zq 0))=some (bf f):=rfl;have a:OA 6 (some (.l (bf f::r.map bf))) (some (.zq 1)) (some (.zq ((r.length:Int)+1)))=some (.l (r.map bf)):=by
   rw[nT,au]
   ·rw[(ah:((r.length:Int)+1).toNat=r.length+1),show(1:Int).toNat=1 from rfl,mg aA];rfl
   ·refine⟨ah,ah,aA,?_⟩;rw[List.all_eq_true];intro g hg;rcases bI.1 hg with rfl|hg
    ·rfl
    ·obtain⟨x,-,rfl⟩:=rZ.1 hg;rfl
  by_cases V:f.dr=true
  ·rw[au V];have e:=e (r.map bf) H n;generalize r.map bf=A at *;refine aB ?_;simp -implicitDefEqProofs[-nT,-dJ,o,z,w,w1,V,a,e]
  rw[aj V];have E:f.dr=false:=by simpa using V
  have c3:=fo.c;have hd:=fo.d;have b:=copies now (now+f.d) (kX f t) [t] (.zq 1) (.zq 0) (.l (r.map bf)) (f.c+1) ah ah (f.c+1) 0 H n ah ah n0 ah hh;rw[(ah:now+(f.d:Int)+((0:Nat):Int)=now+f.d)]at b;have e:=e (r.map bf) (mY (f.c+1) (now+f.d) (kX f t) H n).1 (mY (f.c+1) (now+f.d) (kX f t) H n).2;generalize mY (f.c+1) (now+f.d) (kX f t) H n=R at *;have b:TT.lim 161 [.zu now,.s (kX f t),.zu (now+f.d),.l [.s t],.zq 1,.zq 0,.zu ((f.c:Int)+1),.zu 0,.l (r.map bf),.l (H.map dD),.zu n]=some [.zq 0,.l (R.1.map dD),.zu R.2]:=by have e2:((f.c+1:Nat):Int)=(f.c:Int)+1:=ah;rw[e2]at b;exact b
  have F:=jV ((f.d:Int));have G:=jV ((f.c:Int));have I:=jV ((f.c:Int)+1);have J:=jV (now+(f.d:Int))
  have p:∀u:Q0,AB f t=u->u.length<=100000000->(f.at_<0/\kX f t=u)\/(¬f.at_<0/\(u.length:Int)<=f.at_/\kX f t=u)\/
   (¬f.at_<0/\¬(u.length:Int)<=f.at_/\∃(x:UInt8)(y:UInt8),Fj (some (.l (dK u))) (some (.zq f.at_))=some (.zq f.at_)/\at2 1 (some (.l (dK u))) (some (.zq f.at_))=some (.i .u8 (x.toNat:Int))/\dw .xor .u8 (x.toNat:Int) (f.tY:Int)=some (.i .u8 (y.toNat:Int))/\
    Gs 1 0 (some (.l (dK u))) (some (.zq f.at_)) (some [.i .u8 (y.toNat:Int)])=some (.l (dK (kX f t)))/\(dK (kX f t)).length<=2^48/\pR (dK (kX f t))=some (kX f t)):=by
   intro u L Fh;by_cases c:f.at_<0
   ·refine .inl ⟨c,?_⟩;unfold kX LY;rw[L,au c]
   by_cases d:(u.length:Int)<=f.at_
   ·refine .inr (.inl ⟨c,d,?_⟩);unfold kX LY;rw[L,aj c,au d]
   ·refine .inr (.inr ⟨c,d,u.getD f.at_.toNat 0,Ai (u.getD f.at_.toNat 0) f.tY,?_⟩);obtain⟨l,m,j⟩:=alZ (u:=u) (k:=f.at_.toNat) ah (Ai (u.getD f.at_.toNat 0) f.tY);rw[Jd ah]at l m j;have Q:kX f t=u.set f.at_.toNat (Ai (u.getD f.at_.toNat 0) f.tY):=by unfold kX LY;rw[L,aj c,aj d]
    refine⟨l,m,ank _ _ fo.tY,by rw[Q];exact j,?_,ZW _⟩;rw[Q];simp only[dK,gB,Jg];omega
  by_cases q:0<f.cu
  ·by_cases M:f.cu<t.length
   ·have L:AB f t=t.take f.cu.toNat:=by unfold AB;rw[au ⟨q,M⟩]
    have Fh:(t.take f.cu.toNat).length<=100000000:=by rw[mP];omega
    have N:f.cu<=(t.length:Int):=ah;have O:0<=f.cu:=ah;rcases p _ L Fh with⟨c,s⟩|⟨c,d,s⟩|⟨c,d,x,y,l,m,j,S,T,U⟩
    ·rw[s]at b;generalize v:t.take f.cu.toNat=u at *;generalize r.map bf=A at *;refine aB ?_;simp -implicitDefEqProofs[-nT,-dJ,o,z,w,v,w1,E,a,q,M,N,O,c,F,G,I,J,b,e]
    ·rw[s]at b;generalize v:t.take f.cu.toNat=u at *;generalize r.map bf=A at *;refine aB ?_;simp -implicitDefEqProofs[-nT,-dJ,o,z,w,v,w1,E,a,q,M,N,O,c,d,F,G,I,J,b,e]
    ·generalize kX f t=D at *;generalize v:t.take f.cu.toNat=u at *;generalize i:dK u=Z at *;generalize dK D=DG,r.map bf=A at *;refine aB ?_;simp -implicitDefEqProofs[-jZ,-dJ,-vX,-nT,o,z,w,i,v,w1,E,a,q,M,N,O,c,d,l,m,j,S,T,U,F,G,I,J,b,e]
   ·have L:AB f t=t:=by unfold AB;rw[aj (λh=>M h.2)]
    rcases p _ L W with⟨c,s⟩|⟨c,d,s⟩|⟨c,d,x,y,l,m,j,S,T,U⟩
    ·rw[s]at b;generalize r.map bf=A at *;refine aB ?_;simp -implicitDefEqProofs[-nT,-dJ,o,z,w,w1,E,a,q,M,c,F,G,I,J,b,e]
    ·rw[s]at b;generalize r.map bf=A at *;refine aB ?_;simp -implicitDefEqProofs[-nT,-dJ,o,z,w,w1,E,a,q,M,c,d,F,G,I,J,b,e]
    ·generalize kX f t=D at *;generalize i:dK t=Z at *;generalize dK D=DG,r.map bf=A at *;refine aB ?_;simp -implicitDefEqProofs[-jZ,-dJ,-vX,-nT,o,z,w,i,w1,E,a,q,M,c,d,l,m,j,S,T,U,F,G,I,J,b,e]
  ·have L:AB f t=t:=by unfold AB;rw[aj (λh=>q h.1)]
   rcases p _ L W with⟨c,s⟩|⟨c,d,s⟩|⟨c,d,x,y,l,m,j,S,T,U⟩
   ·rw[s]at b;generalize r.map bf=A at *;refine aB ?_;simp -implicitDefEqProofs[-nT,-dJ,o,z,w,w1,E,a,q,c,F,G,I,J,b,e]
   ·rw[s]at b;generalize r.map bf=A at *;refine aB ?_;simp -implicitDefEqProofs[-nT,-dJ,o,z,w,w1,E,a,q,c,d,F,G,I,J,b,e]
   ·generalize kX f t=D at *;generalize i:dK t=Z at *;generalize dK D=DG,r.map bf=A at *;refine aB ?_;simp -implicitDefEqProofs[-jZ,-dJ,-vX,-nT,o,z,w,i,w1,E,a,q,c,d,l,m,j,S,T,U,F,G,I,J,b,e]
structure Pr where
 s0:bC
 s1:bC
 k0:Lk
 k1:Lk
 now:Int
 rc:List (Int×Int×Int)
def zU(e:Int×Int×Int):GV:=.g [.zu e.1,.zq e.2.1,.zq e.2.2]
@[simp] theorem aGV(e:Int×Int×Int):(zU e).cells=[.zu e.1,.zq e.2.1,.zq e.2.2]:=rfl
def VQ(a b c:Int):GV.g [.zu a,.zq b,.zq c]=zU (a,b,c):=rfl
def dW(k:Lk):Q1:=[.l (k.f.map bf),.l (k.h.map dD),.zu k.n]
def cO(x:Pr):Q1:=[.zu x.now,.l (x.rc.map zU)]++(dW x.k1++(dW x.k0++(dA x.s1++dA x.s0)))
def gU(x:Pr):Q1:=.l (x.rc.map zU)::(dW x.k1++(dW x.k0++(kU x.s1++kU x.s0)))
def Dead(t:Q0):Prop:=(lJ t).2.2=0->¬(lJ t).2.1<t.length->rY [2,7,8] (lJ t).1
noncomputable def wT (t:Q0):Nat:=@ite Nat (Dead t) (Classical.propDecidable _) 2 5
def Ue(t:Q0):2<=wT t/\wT t<=5:=by unfold wT;split<;>omega
def am7{t:Q0}(h:Dead t):wT t=2:=by unfold wT;rw[au h]
def aFI{t:Q0}(h:¬Dead t):wT t=5:=by unfold wT;rw[aj h]
noncomputable def wQ:List It->Nat
 |[]=>0
 |x::r=>wT x.2.2+wQ r
noncomputable def wS:Wa->Nat
 |[]=>0
 |x::r=>wT x+wS r
def am6{a b:List It}(h:a.Perm b):wQ a=wQ b:=by
 induction h with
 |nil=>rfl
 |cons x _ c=>simp only[wQ];omega
 |swap x y l=>simp only[wQ];omega
 |trans _ _ d e=>omega
def aFH(a b:List It):wQ (a++b)=wQ a+wQ b:=by
 induction a with
 |nil=>simp[wQ]
 |cons x r c=>simp only[bD,wQ];omega
def aeg(a:List It):2*a.length<=wQ a:=by
 induction a with
 |nil=>simp[wQ]
 |cons x r b=>have:=Ue x.2.2;simp only[iD,wQ];omega
def ade(t:Q0):∀(m:Nat)(a:Int)(h:List It)(n:Int),Heap h h.length->wQ (mY m a t h n).1=wQ h+m*wT t
 |0,a,h,n,b=>by simp[mY]
 |m+1,a,h,n,b=>by have c:=O4 h (a,n,t) b;have d:=SV h (a,n,t) b;have e:=ade t m (a+1) (rV h (a,n,t)) (n+1) (by rw[d];exact c.1);unfold mY;rw[e,am6 c.2,aFH];simp only[wQ];rw[uJ];omega
def SX(t:Q0):∀(m:Nat)(a:Int)(h:List It)(n:Int),Heap h h.length->∀y∈(mY m a t h n).1,y∈h\/(y.2.2=t/\a<=y.1)
 |0,a,h,n,b,y,c=>.inl c
 |m+1,a,h,n,b,y,c=>by
  have d:=O4 h (a,n,t) b;have e:=SV h (a,n,t) b;rcases SX t m (a+1) (rV h (a,n,t)) (n+1) (by rw[e];exact d.1) y c with q|⟨f,g⟩
  ·rcases jP.1 (d.2.mem_iff.1 q)with q|q
   ·exact .inl q
   ·rw[jW.1 q];exact .inr ⟨rfl,gq _⟩
  ·exact .inr ⟨f,ah⟩
structure zG(k:Lk):Prop where
 f:∀f∈k.f,Gx f
 h:Heap k.h k.h.length
 n:0<=k.n
 t:∀y∈k.h,y.2.2.length<=70000
noncomputable def oN (k:Lk):Nat:=k.n.toNat+wQ k.h+24*k.f.length
def Yf{now:Int}{t:Q0}{k:Lk}(e:zG k)(v:t.length<=70000):zG (ny now t k)/\oN (ny now t k)<=oN k+1+wT t/\(ny now t k).f.length<=k.f.length:=by
 obtain⟨w,H,n⟩:=k;have c:=e.n;have a:=e.h;have b:=e.t;have i:=e.f;simp only at c a b i;cases w with
 |nil=>
  unfold ny;simp only;obtain⟨j,x,l⟩:=adb now t 1 H n a;have m:=ade t 1 now H n a;have o:=SX t 1 now H n a;refine⟨⟨(λf h=>by cases h),j,by simp only;omega,λy p=>?_⟩,?_,aA⟩
  ·rcases o y p with q|⟨q,-⟩
   ·exact b y q
   ·rw[q];exact v
  ·unfold oN;simp only[m,l,lK];omega
 |cons f r=>
  unfold ny;simp only;have d:∀g∈r,Gx g:=λg z=>i g (by simp[z]);by_cases s:f.dr=true
  ·rw[au s];refine⟨⟨d,a,c,b⟩,?_,aA⟩;unfold oN;simp only[iD];omega
  ·rw[aj s];have A:=i f aA;have F:=A.c;obtain⟨j,x,l⟩:=adb (now+f.d) (kX f t) (f.c+1) H n a;have m:=ade (kX f t) (f.c+1) (now+f.d) H n a;have o:=SX (kX f t) (f.c+1) (now+f.d) H n a;have D:=as3 f t;refine⟨⟨d,j,by simp only;omega,λy p=>?_⟩,?_,aA⟩
   ·rcases o y p with q|⟨q,-⟩
    ·exact b y q
    ·rw[q];omega
   ·have E:=(Ue (kX f t)).2;have u:(f.c+1)*wT (kX f t)<=4*5:=Nat.mul_le_mul ah E;unfold oN;simp only[m,l,iD];omega
def iP(now:Int):Wa->Lk->Lk
 |[],k=>k
 |t::r,k=>iP now r (ny now (eX t) k)
noncomputable def wW:Wa->Nat
 |[]=>0
 |x::r=>1+wT (eX x)+wW r
def Wl{t:Q0}(h:t.length<=65536):(eX t).length<=70000:=by have a:=PX 3 t.length ah ah;rw[aaS];omega
def TA{now:Int}:∀(T:Wa){k:Lk},zG k->(∀t∈T,t.length<=65536)->zG (iP now T k)/\oN (iP now T k)<=oN k+wW T/\(iP now T k).f.length<=k.f.length
 |[],k,a,_=>⟨a,by simp[iP,wW],dP _⟩
 |t::r,k,a,b=>by obtain⟨h1,e,f⟩:=Yf (now:=now) a (Wl (b t aA));obtain⟨c,g2,g3⟩:=TA (now:=now) r h1 (λu d=>b u (by simp[d]));exact⟨c,by simp only[iP,wW];omega,by simp only[iP];omega⟩
def aha(t:Q0):Int:=if(lJ t).2.2=0 then 10 else(lJ t).2.2
def jS(i:Nat)(t:Q0)(x:Pr):Pr:=
 if(lJ t).2.2=0/\¬(lJ t).2.1<t.length then
  (if i=0 then {x with s0:=(bY (lJ t).1 x.s0).1,k0:=iP x.now (bY (lJ t).1 x.s0).2.1 x.k0,rc:=x.rc++[(x.now,0,(bY (lJ t).1 x.s0).2.2)]}
   else {x with s1:=(bY (lJ t).1 x.s1).1,k1:=iP x.now (bY (lJ t).1 x.s1).2.1 x.k1,rc:=x.rc++[(x.now,1,(bY (lJ t).1 x.s1).2.2)]})
 else {x with rc:=x.rc++[(x.now,(i:Int),aha t)]}
structure gG(x:Pr):Prop where
 s0:kD x.s0
 s1:kD x.s1
 k0:zG x.k0
 k1:zG x.k1
 now:0<=x.now
noncomputable def dG (x:Pr):Nat:=oN x.k0+oN x.k1+x.rc.length
def Yb{b:aQ}{v:Int}{u:Q0}(h:u∈jr b v)(c:b.kind=2\/b.kind=7\/b.kind=8):u.length<=65536/\rY [2,7,8] u:=by obtain⟨d,g2⟩:=Eb h ah ah;exact⟨g2,KA d λk a=>by rw[jW.1 a];rcases c with e|e|e<;>rw[e]<;>simp⟩
def Ig(t:Q0)(s:bC):∀u∈(bY t s).2.1,u.length<=65536/\rY [2,7,8] u:=by
 intro u a;unfold bY at a;split at a;rotate_left
 ·cases a
 unfold uq at a;split at a
 ·unfold mW at a;repeat' split at a
  all_goals first|(cases a;done)|exact Yb a (.inl rfl)|exact Yb a (.inr (.inr rfl))
 split at a
 ·unfold BR at a;repeat' split at a
  all_goals cases a
 split at a
 ·unfold lY at a;split at a;rotate_left
  ·cases a
  simp only at a;split at a
  ·cases a
  next c=>
  rcases adZ (fC (je t (iY s)).1 (je t (iY s)).2.1 s.vs) s.vs (je t (iY s)).1.kind (je t (iY s)).1.epoch (je t (iY s)).1.base (je t (iY s)).1.t s.sm s.h with e|e|e
  ·exact absurd e c
  ·exact Yb a (.inr (.inl e))
  ·exact Yb a (.inr (.inr e))
 split at a
 ·unfold qK at a;split at a<;>cases a
 split at a
 ·unfold noS at a;repeat' split at a
  all_goals cases a
 ·cases a
def aa4{t:Q0}{s:bC}(h:rY [2,7,8] t):(bY t s).2.1=[]:=by
 unfold bY;split;rotate_left
 ·rfl
 next e=>
 have a:=h _ e;have a:(je t (iY s)).1.kind=2\/(je t (iY s)).1.kind=7\/(je t (iY s)).1.kind=8:=by simpa using a
 unfold uq;rw[bU];split
 ·unfold BR;repeat' split
  all_goals rfl
 rw[bU];split
 ·unfold qK;split<;>rfl
 split
 ·unfold noS;repeat' split
  all_goals rfl
 ·rfl
def XW{t:Q0}{s:bC}:wW (bY t s).2.1<=3:=by
 have a:=Kr t s;have b:=Ig t s;generalize(bY t s).2.1=c at *;match c,a with
 |[],_=>simp[wW]
 |[u],_=>
  obtain⟨d,e⟩:=b u aA;have f:Dead (eX u):=by intro _ _;rw[akn d];exact e
  simp only[wW,am7 f];omega
def VB{i:Nat}{t:Q0}{x:Pr}(a:gG x):gG (jS i t x)/\dG (jS i t x)+1<=dG x+wT t:=by
 have j:=Ue t;unfold jS;by_cases c:(lJ t).2.2=0/\¬(lJ t).2.1<t.length;rotate_left
 ·rw[aj c];refine⟨⟨a.s0,a.s1,a.k0,a.k1,a.now⟩,?_⟩;unfold dG;simp only[eH,iD,lK];omega
 rw[au c];have h:=@XW (lJ t).1 x.s0;have hr1:=@XW (lJ t).1 x.s1;by_cases b:Dead t
 ·have g:=b c.1 c.2;rw[am7 b];rw[aa4 g,aa4 g];split
  ·refine⟨⟨Ol a.s0,a.s1,a.k0,a.k1,a.now⟩,?_⟩;unfold dG;simp only[iP,eH,iD,lK];omega
  ·refine⟨⟨a.s0,Ol a.s1,a.k0,a.k1,a.now⟩,?_⟩;unfold dG;simp only[iP,eH,iD,lK];omega
 ·rw[aFI b];split
  ·obtain⟨d,g2,g3⟩:=TA (now:=x.now) (bY (lJ t).1 x.s0).2.1 a.k0 (λu f=>(Ig _ _ u f).1);refine⟨⟨Ol a.s0,a.s1,d,a.k1,a.now⟩,?_⟩;unfold dG;simp only[eH,iD,lK];omega
  ·obtain⟨d,g2,g3⟩:=TA (now:=x.now) (bY (lJ t).1 x.s1).2.1 a.k1 (λu f=>(Ig _ _ u f).1);refine⟨⟨a.s0,Ol a.s1,a.k0,d,a.now⟩,?_⟩;unfold dG;simp only[eH,iD,lK];omega
def VL(t:Int):∀(m:Nat)(h:List It),h.length=m->Heap h h.length->wQ h=wS (dM m t h).1+wQ (dM m t h).2/\(∀y∈(dM m t h).2,y∈h)/\(∀u∈(dM m t h).1,∃y∈h,y.2.2=u)
 |0,h,b,c=>by obtain rfl:=Qa.1 b;exact⟨rfl,λy a=>a,λu hu=>by cases hu⟩
 |m+1,h,b,c=>by
  unfold dM;split
  ·exact⟨by simp[wS],λy a=>a,λu hu=>by cases hu⟩
  ·obtain⟨r1,r2,r3,-⟩:=XZ h m b (by rw[<-b];exact c);obtain⟨f,g2,g3⟩:=VL t m (nX h) r1 (by rw[r1];exact r2);have d:=am6 r3;simp only[wQ]at d;refine⟨?_,λy a=>r3.mem_iff.1 (zC _ (g2 y a)),λu hu=>?_⟩
   ·simp only[wS];omega
   ·rcases bI.1 hu with e|hu
    ·exact⟨at_ h 0,r3.mem_iff.1 Us,e.symm⟩
    ·obtain⟨y,a,e⟩:=g3 u hu;exact⟨y,r3.mem_iff.1 (zC _ a),e⟩
def oC(i:Nat):Wa->Pr->Pr
 |[],x=>x
 |t::r,x=>oC i r (jS i t x)
def aap{i:Nat}:∀(T:Wa){x:Pr},gG x->gG (oC i T x)/\dG (oC i T x)+T.length<=dG x+wS T
 |[],x,a=>⟨a,by simp[oC,wS]⟩
 |t::r,x,a=>by obtain⟨h1,c⟩:=VB (i:=i) (t:=t) a;obtain⟨b,g2⟩:=aap (i:=i) r h1;refine⟨b,?_⟩;simp only[oC,wS,iD];omega
def yM(x:Pr):Pr:={x with k0:={x.k0 with h:=(dM x.k0.h.length x.now x.k0.h).2}}
def xJ(x:Pr):Pr:={x with k1:={x.k1 with h:=(dM x.k1.h.length x.now x.k1.h).2}}
def NS{k:Lk}(t:Int)(a:zG k):zG {k with h:=(dM k.h.length t k.h).2}/\oN {k with h:=(dM k.h.length t k.h).2}+wS (dM k.h.length t k.h).1=oN k/\∀u∈(dM k.h.length t k.h).1,u.length<=70000:=by
 obtain⟨f,g2,g3⟩:=VL t k.h.length k.h rfl a.h;have c:=(VK t k.h.length k.h rfl a.h).1;refine⟨⟨a.f,c,a.n,λy b=>a.t y (g2 y b)⟩,?_,λu d=>?_⟩
 ·unfold oN;simp only;omega
 ·obtain⟨y,b,e⟩:=g3 u d;rw[<-e];exact a.t y b
def nP(x:Pr):Pr:=oC 1 (dM x.k0.h.length x.now x.k0.h).1 (yM x)
def qR(x:Pr):Pr:=oC 0 (dM x.k1.h.length x.now x.k1.h).1 (xJ x)
def lF(x:Pr):Pr:=qR (nP x)
def ah3{x:Pr}(a:gG x):gG (nP x)/\dG (nP x)+(dM x.k0.h.length x.now x.k0.h).1.length<=dG x:=by
 obtain⟨d1,d2,d3⟩:=NS x.now a.k0;obtain⟨b,g2⟩:=aap (i:=1) (dM x.k0.h.length x.now x.k0.h).1 (x:=yM x) ⟨a.s0,a.s1,d1,a.k1,a.now⟩;refine⟨b,?_⟩;have e:dG (yM x)+wS (dM x.k0.h.length x.now x.k0.h).1=dG x:=by unfold dG yM;simp only;omega
 unfold nP;omega
def avp{x:Pr}(a:gG x):gG (qR x)/\dG (qR x)+(dM x.k1.h.length x.now x.k1.h).1.length<=dG x:=by
 obtain⟨d1,d2,d3⟩:=NS x.now a.k1;obtain⟨b,g2⟩:=aap (i:=0) (dM x.k1.h.length x.now x.k1.h).1 (x:=xJ x) ⟨a.s0,a.s1,a.k0,d1,a.now⟩;refine⟨b,?_⟩;have e:dG (xJ x)+wS (dM x.k1.h.length x.now x.k1.h).1=dG x:=by unfold dG xJ;simp only;omega
 unfold qR;omega
def aal(i:Nat)(t:Q0)(x:Pr):(jS i t x).now=x.now:=by
 unfold jS;split
 ·split<;>rfl
 ·rfl
def aao(i:Nat):∀(T:Wa)(x:Pr),(oC i T x).now=x.now
 |[],x=>rfl
 |t::r,x=>(aao i r _).trans (aal i t x)
def Ri(x:Pr):(nP x).now=x.now:=aao 1 _ _
def ah6(x:Pr):(qR x).now=x.now:=aao 0 _ _
def NK(x:Pr):(lF x).now=x.now:=(ah6 _).trans (Ri x)
def nextL(h:List It):Option Int:=if h=[]then none else some (at_ h 0).1
def kQ(x:Pr):Option Int:=match nextL x.k0.h,nextL x.k1.h with
 |some a,some b=>some (if b<a then b else a)
 |some a,none=>some a
 |none,o=>o
def ag2{h:List It}{a t:Int}(b:nextL h=some a)(d:a<=t):(dM h.length t h).1≠[]:=by
 unfold nextL at b;split at b
 ·cases b
 next c=>
 injection b with b
 cases h with
 |nil=>exact absurd rfl c
 |cons y r=>simp only[iD];unfold dM;rw[aj (λe=>e.elim (λe=>by cases e) (λe=>ah))];simp
def oI:Nat->Pr->Pr
 |0,x=>x
 |f+1,x=>match kQ x with
  |none=>x
  |some a=>if a<=x.now then oI f (lF x)else x
def ata{h:List It}{t:Int}(b:∀a,nextL h=some a->t<a):dM h.length t h=([],h):=by
 cases d:h.length with
 |zero=>rfl
 |succ m=>
  unfold dM;rw[au];by_cases c:h=[]
  ·exact .inl c
  ·exact .inr (b _ (by unfold nextL;rw[aj c]))
def Vo{x:Pr}(k:gG x){a:Int}(d:kQ x=some a)(l:a<=x.now):gG (lF x)/\dG (lF x)<dG x:=by
 obtain⟨m,g2⟩:=ah3 k;obtain⟨g3,n⟩:=avp m;refine⟨g3,?_⟩;unfold lF;by_cases c:(dM x.k0.h.length x.now x.k0.h).1=[]
 rotate_left
 ·have:=MO.2 c;omega
 have i:∀a,nextL x.k0.h=some a->x.now<a:=λa h=>by
  rcases aeC x.now a with q|q
  ·exact q
  ·exact absurd c (ag2 h q)
 have o:nP x=x:=by have e:=ata i;unfold nP yM;rw[e];rfl
 have p:∃b,nextL x.k1.h=some b/\b<=x.now:=by
  unfold kQ at d;cases f:nextL x.k0.h with
  |none=>rw[f]at d;exact⟨a,d,l⟩
  |some r=>
   have:=i r f;rw[f]at d;cases j:nextL x.k1.h with
   |none=>rw[j]at d;injection d with d;omega
   |some b=>
    rw[j]at d;injection d with d
    refine⟨b,rfl,?_⟩;split at d<;>omega
 obtain⟨b,s,g⟩:=p;have:=MO.2 (ag2 s g);rw[o]at n⊢;omega
def alG:∀(f:Nat){x:Pr},gG x->gG (oI f x)/\dG (oI f x)<=dG x/\(oI f x).now=x.now
 |0,x,b=>⟨b,dP _,rfl⟩
 |f+1,x,b=>by
  unfold oI;cases d:kQ x with
  |none=>exact⟨b,dP _,rfl⟩
  |some a=>
   simp only;split
   ·next c=>
    obtain⟨h1,g⟩:=Vo b d c;obtain⟨e,g2,g3⟩:=alG f h1;exact⟨e,ah,g3.trans (NK x)⟩
   ·exact⟨b,dP _,rfl⟩
def run_end:∀(f:Nat){x:Pr},gG x->dG x<f->∀a,kQ (oI f x)=some a->x.now<a
 |0,x,g,h=>ah
 |f+1,x,g,h=>by
  intro a d;unfold oI at d;cases e:kQ x with
  |none=>rw[e]at d;simp only at d;rw[e]at d;cases d
  |some b=>
   rw[e]at d;simp only at d;split at d
   ·next c=>
    obtain⟨h1,i⟩:=Vo g e c;have:=run_end f h1 ah a d;rw[NK]at this;exact this
   ·next c=>rw[e]at d;injection d with d;omega
noncomputable def sG (a:Int) (x:Pr):Pr:=oI (dG x+1) {x with now:=if x.now+1<a then a else x.now+1}
noncomputable def qj:Nat->Int->Pr->Pr
 |0,_,x=>x
 |f+1,last,x=>if x.now<last then(match kQ x with
   |none=>{x with now:=last}
   |some a=>if last<a then {x with now:=last}else qj f last (sG a x))else x
def afy{a:Int}{x:Pr}(c:gG x):gG (sG a x)/\dG (sG a x)<=dG x/\(sG a x).now=(if x.now+1<a then a else x.now+1)/\∀b,kQ (sG a x)=some b->(sG a x).now<b:=by
 have d:gG {x with now:=if x.now+1<a then a else x.now+1}:=⟨c.s0,c.s1,c.k0,c.k1,by have:=c.now;simp only;split<;>omega⟩
 obtain⟨f,g2,g3⟩:=alG (dG x+1) d;have e:=run_end (dG x+1) d (show dG _<dG x+1 from Ew _);refine⟨f,g2,g3,λb g=>?_⟩;have:=e b g;rw[show(sG a x).now=_ from g3];exact this
noncomputable def zi (n:Int) (x:Pr):Pr:=qj (n.toNat+1) (x.now+n) x
def go_ok:∀(f:Nat){last:Int}{x:Pr},gG x->(last-x.now).toNat<f->gG (qj f last x)/\dG (qj f last x)<=dG x/\(x.now<=last->(qj f last x).now=last)
 |0,last,x,b,g=>ah
 |f+1,last,x,b,g=>by
  unfold qj;split;rotate_left
  ·exact⟨b,dP _,λh=>ah⟩
  next c=>
  have e:gG {x with now:=last}:=⟨b.s0,b.s1,b.k0,b.k1,by have:=b.now;simp only;omega⟩
  cases l:kQ x with
  |none=>exact⟨e,dP _,λ_=>rfl⟩
  |some a=>
   simp only;split
   ·exact⟨e,dP _,λ_=>rfl⟩
   ·next m=>
    obtain⟨i,n,j,-⟩:=afy (a:=a) b;have d:(sG a x).now<=last/\x.now<(sG a x).now:=by rw[j];split<;>omega
    obtain⟨k,g2,g3⟩:=go_ok f (last:=last) i ah;exact⟨k,ah,λ_=>g3 d.1⟩
def ajb{k:Lk}(a:zG k){B:Nat}(h:oN k<=B):k.h.length<=B/\k.n<=B/\k.f.length<=B:=by have b:=aeg k.h;have c:=a.n;unfold oN at h;omega
def alS(x:Pr)(T:Wa)(p:T.length<=1000)(n:∀t∈T,t.length<=65536)(o:0<=x.now/\x.now<=800000000000):∀(m j:Nat)(k:Lk),j+m=T.length->zG k->oN k+wW (T.drop j)<=90000->
 TT.lim 152 ([.zq 0,.l (T.map .s),.zq (T.length:Int),.zq (j:Int)]++cO {x with k0:=k})=some (.zq 0::(dW x.k1++dW (iP x.now (T.drop j) k)))
 |0,j,k,q,b,e=>by have f:¬((j:Int)<T.length):=ah;rw[iK];simp only[iP,cO,dW,dA,bD,aX];refine aB ?_;simp -implicitDefEqProofs[f]
 |m+1,j,k,q,b,e=>by
  have a:j<T.length:=ah;have f:(j:Int)<T.length:=ah;have r:IntKind.i64.wrap ((j:Int)+1)=((j+1:Nat):Int):=by rw[wrap64 ah ah];omega
  have s:T.drop j=T[j]::T.drop (j+1):=iR a;have g:at2 1 (some (.l (T.map .s))) (some (.zq (j:Int)))=some (.s T[j]):=by rw[dJ,lV,zB,jy,bZ a];rfl
  have c:T[j]∈T:=iT a;rw[s]at e⊢;generalize T[j]=t at *;have d:=n t c;have h:=anf t d;have i:=Wl d;simp only[wW]at e;obtain⟨w,y,z⟩:=ajb b (B:=90000) ah;have u:=alW x.now (eX t) k b.f ah ah ⟨o.1,ah⟩ ah b.n ah b.h;obtain⟨v,g2,g3⟩:=Yf (now:=x.now) b i;have l:=alS x T p n o m (j+1) (ny x.now (eX t) k) ah v ah;rw[show iP x.now (t::T.drop (j+1)) k=iP x.now (T.drop (j+1)) (ny x.now (eX t) k)from rfl];generalize iP x.now (T.drop (j+1)) (ny x.now (eX t) k)=E at *;generalize ny x.now (eX t) k=R at *;generalize eX t=A at *;simp only[cO,dW,dA,bD,aX]at l⊢;rw[<-r]at l;generalize T.map GV.s=D,(T.length:Int)=F at *;refine aB ?_;simp -implicitDefEqProofs[f,g,h,u,l]
def alT(x:Pr)(T:Wa)(p:T.length<=1000)(n:∀t∈T,t.length<=65536)(o:0<=x.now/\x.now<=800000000000):∀(m j:Nat)(k:Lk),j+m=T.length->zG k->oN k+wW (T.drop j)<=90000->
 TT.lim 152 ([.zq 1,.l (T.map .s),.zq (T.length:Int),.zq (j:Int)]++cO {x with k1:=k})=some (.zq 0::(dW (iP x.now (T.drop j) k)++dW x.k0))
 |0,j,k,q,b,e=>by have f:¬((j:Int)<T.length):=ah;rw[iK];simp only[iP,cO,dW,dA,bD,aX];refine aB ?_;simp -implicitDefEqProofs[f]
 |m+1,j,k,q,b,e=>by
  have a:j<T.length:=ah;have f:(j:Int)<T.length:=ah;have r:IntKind.i64.wrap ((j:Int)+1)=((j+1:Nat):Int):=by rw[wrap64 ah ah];omega
  have s:T.drop j=T[j]::T.drop (j+1):=iR a;have g:at2 1 (some (.l (T.map .s))) (some (.zq (j:Int)))=some (.s T[j]):=by rw[dJ,lV,zB,jy,bZ a];rfl
  have c:T[j]∈T:=iT a;rw[s]at e⊢;generalize T[j]=t at *;have d:=n t c;have h:=anf t d;have i:=Wl d;simp only[wW]at e;obtain⟨w,y,z⟩:=ajb b (B:=90000) ah;have u:=alW x.now (eX t) k b.f ah ah ⟨o.1,ah⟩ ah b.n ah b.h;obtain⟨v,g2,g3⟩:=Yf (now:=x.now) b i;have l:=alT x T p n o m (j+1) (ny x.now (eX t) k) ah v ah;rw[show iP x.now (t::T.drop (j+1)) k=iP x.now (T.drop (j+1)) (ny x.now (eX t) k)from rfl];generalize iP x.now (T.drop (j+1)) (ny x.now (eX t) k)=E at *;generalize ny x.now (eX t) k=R at *;generalize eX t=A at *;simp only[cO,dW,dA,bD,aX]at l⊢;rw[<-r]at l;generalize T.map GV.s=D,(T.length:Int)=F at *;refine aB ?_;simp -implicitDefEqProofs[f,g,h,u,l]
def Yd(x:Pr)(b:gG x)(T:Wa)(c:T.length<=1000)(d:∀t∈T,t.length<=65536)(e:x.now<=800000000000)(f:oN x.k0+wW T<=90000):
 TT.lim 151 ([.zq 0,.l (T.map .s)]++cO x)=some (.zq 0::(dW x.k1++dW (iP x.now T x.k0))):=by
 have h:=alS x T c d ⟨b.now,e⟩ T.length 0 x.k0 ah b.k0 (by rw[dY];exact f);rw[dY]at h;have a:((T.map GV.s).length:Int)=(T.length:Int):=by rw[gB]
 generalize iP x.now T x.k0=E at *;simp only[cO,dW,dA,bD,aX,tJ]at h⊢;generalize T.map GV.s=g,(T.length:Int)=i at *;refine aB ?_;simp -implicitDefEqProofs[a,h]
def Ye(x:Pr)(b:gG x)(T:Wa)(c:T.length<=1000)(d:∀t∈T,t.length<=65536)(e:x.now<=800000000000)(f:oN x.k1+wW T<=90000):
 TT.lim 151 ([.zq 1,.l (T.map .s)]++cO x)=some (.zq 0::(dW (iP x.now T x.k1)++dW x.k0)):=by
 have h:=alT x T c d ⟨b.now,e⟩ T.length 0 x.k1 ah b.k1 (by rw[dY];exact f);rw[dY]at h;have a:((T.map GV.s).length:Int)=(T.length:Int):=by rw[gB]
 generalize iP x.now T x.k1=E at *;simp only[cO,dW,dA,bD,aX,tJ]at h⊢;generalize T.map GV.s=g,(T.length:Int)=i at *;refine aB ?_;simp -implicitDefEqProofs[a,h]
def U7{l:List (Int×Int×Int)}(e:Int×Int×Int)(h:l.length<=100000):Jv 3 24 (some (.l (l.map zU))) (some (.l [zU e]))=some (.l ((l++[e]).map zU)):=by
 rw[GZ,au]
 ·rw[oK];rfl
 ·refine⟨rfl,?_,?_⟩<;>simp only[gB,iD,lK]<;>omega
set_option maxHeartbeats 4000000 in
def apn(i:Nat)(hi:i=0\/i=1)(t:Q0)(x:Pr)(a:gG x)(E:t.length<=70000)(k:x.now<=800000000000)(z:dG x<=80000):
 TT.lim 179 (.s t::(cO x++[.zq (i:Int)]))=some (.zq 0::gU (jS i t x)):=by
 have l:=akm t ah;have r:=aza t;unfold dG at z;have d:x.rc.length<=100000:=ah;unfold jS aha;generalize lJ t=P at *;obtain⟨p,n,e⟩:=P;simp only at l r⊢;by_cases q:e=0;rotate_left
 ·rw[aj (λh=>q h.1),aj q];have f:=U7 (x.now,(i:Int),e) d;have c:TT.lim 151 ([.zq (i:Int),.l []]++cO {x with rc:=x.rc++[(x.now,(i:Int),e)]})=some (.zq 0::(dW x.k1++dW x.k0)):=by
   rcases hi with rfl|rfl
   ·exact Yd {x with rc:=x.rc++[(x.now,((0:Nat):Int),e)]} ⟨a.s0,a.s1,a.k0,a.k1,a.now⟩ [] aA (λt h=>by cases h) k (by simp only[wW];omega)
   ·exact Ye {x with rc:=x.rc++[(x.now,((1:Nat):Int),e)]} ⟨a.s0,a.s1,a.k0,a.k1,a.now⟩ [] aA (λt h=>by cases h) k (by simp only[wW];omega)
  simp only[cO,gU,dW,dA,kU,bD,aX]at c⊢;generalize(x.rc++[(x.now,(i:Int),e)]).map zU=s at *;generalize(i:Int)=A at *;refine aB ?_;simp -implicitDefEqProofs[l,q,VQ,f,c]
 subst q;by_cases m:n<t.length
 ·rw[aj (λh=>h.2 m),au rfl];have f:=U7 (x.now,(i:Int),10) d;have c:TT.lim 151 ([.zq (i:Int),.l []]++cO {x with rc:=x.rc++[(x.now,(i:Int),10)]})=some (.zq 0::(dW x.k1++dW x.k0)):=by
   rcases hi with rfl|rfl
   ·exact Yd {x with rc:=x.rc++[(x.now,((0:Nat):Int),10)]} ⟨a.s0,a.s1,a.k0,a.k1,a.now⟩ [] aA (λt h=>by cases h) k (by simp only[wW];omega)
   ·exact Ye {x with rc:=x.rc++[(x.now,((1:Nat):Int),10)]} ⟨a.s0,a.s1,a.k0,a.k1,a.now⟩ [] aA (λt h=>by cases h) k (by simp only[wW];omega)
  simp only[cO,gU,dW,dA,kU,bD,aX]at c⊢;generalize(x.rc++[(x.now,(i:Int),10)]).map zU=s at *;generalize(i:Int)=A at *;refine aB ?_;simp -implicitDefEqProofs[l,m,VQ,f,c]
 rw[au ⟨rfl,m⟩];rcases hi with rfl|rfl
 ·rw[au rfl];have o:=ah9 p x.s0 ah a.s0;have b:=WG p x.s0;have g:=Ol (t:=p) a.s0;have v:=@XW p x.s0;have j:=Ig p x.s0;have w:=Kr p x.s0;generalize bY p x.s0=H at *;have f:=U7 (x.now,0,H.2.2) d;have c:=Yd {x with s0:=H.1,rc:=x.rc++[(x.now,0,H.2.2)]} ⟨g,a.s1,a.k0,a.k1,a.now⟩ H.2.1 ah (λu y=>(j u y).1) k (by simp only;omega);simp only[cO,gU,dW,dA,kU,WJ,bD,aX]at c o⊢;rw[b.1,b.2.1,b.2.2.1,b.2.2.2]at c;generalize iP x.now H.2.1 x.k0=K,(x.rc++[(x.now,0,H.2.2)]).map zU=s,H.2.1.map GV.s=D at *;refine aB ?_;simp -implicitDefEqProofs[l,m,VQ,o,f,c]
 ·rw[bU];have o:=ah9 p x.s1 ah a.s1;have b:=WG p x.s1;have g:=Ol (t:=p) a.s1;have v:=@XW p x.s1;have j:=Ig p x.s1;have w:=Kr p x.s1;generalize bY p x.s1=H at *;have f:=U7 (x.now,1,H.2.2) d;have c:=Ye {x with s1:=H.1,rc:=x.rc++[(x.now,1,H.2.2)]} ⟨a.s0,g,a.k0,a.k1,a.now⟩ H.2.1 ah (λu y=>(j u y).1) k (by simp only;omega);simp only[cO,gU,dW,dA,kU,WJ,bD,aX]at c o⊢;rw[b.1,b.2.1,b.2.2.1,b.2.2.2]at c;generalize iP x.now H.2.1 x.k1=K,(x.rc++[(x.now,1,H.2.2)]).map zU=s,H.2.1.map GV.s=D at *;refine aB ?_;simp -implicitDefEqProofs[l,m,VQ,o,f,c]
def aam(i:Nat)(t:Q0)(x:Pr):((jS i t x).s0.mn=x.s0.mn/\(jS i t x).s0.mx=x.s0.mx/\(jS i t x).s0.name=x.s0.name/\(jS i t x).s0.first=x.s0.first)/\((jS i t x).s1.mn=x.s1.mn/\(jS i t x).s1.mx=x.s1.mx/\(jS i t x).s1.name=x.s1.name/\(jS i t x).s1.first=x.s1.first):=by
 unfold jS;split
 ·split
  ·exact⟨WG _ _,rfl,rfl,rfl,rfl⟩
  ·exact⟨⟨rfl,rfl,rfl,rfl⟩,WG _ _⟩
 ·exact⟨⟨rfl,rfl,rfl,rfl⟩,rfl,rfl,rfl,rfl⟩
structure Fix(x y:Pr):Prop where
 a:y.s0.mn=x.s0.mn/\y.s0.mx=x.s0.mx/\y.s0.name=x.s0.name/\y.s0.first=x.s0.first
 b:y.s1.mn=x.s1.mn/\y.s1.mx=x.s1.mx/\y.s1.name=x.s1.name/\y.s1.first=x.s1.first
def Fix.refl(x:Pr):Fix x x:=⟨⟨rfl,rfl,rfl,rfl⟩,rfl,rfl,rfl,rfl⟩
def Fix.trans{x y z:Pr}(h:Fix x y)(g:Fix y z):Fix x z:=
 ⟨⟨g.a.1.trans h.a.1,g.a.2.1.trans h.a.2.1,g.a.2.2.1.trans h.a.2.2.1,g.a.2.2.2.trans h.a.2.2.2⟩,⟨g.b.1.trans h.b.1,g.b.2.1.trans h.b.2.1,g.b.2.2.1.trans h.b.2.2.1,g.b.2.2.2.trans h.b.2.2.2⟩⟩
def aan(i:Nat):∀(T:Wa)(x:Pr),Fix x (oC i T x)
 |[],x=>Fix.refl x
 |t::r,x=>Fix.trans ⟨(aam i t x).1,(aam i t x).2⟩ (aan i r _)
def ah2(x:Pr):Fix x (nP x):=Fix.trans (y:=yM x) ⟨⟨rfl,rfl,rfl,rfl⟩,rfl,rfl,rfl,rfl⟩ (aan 1 _ (yM x))
def ah5(x:Pr):Fix x (qR x):=Fix.trans (y:=xJ x) ⟨⟨rfl,rfl,rfl,rfl⟩,rfl,rfl,rfl,rfl⟩ (aan 0 _ (xJ x))
def af0(x:Pr):Fix x (lF x):=(ah2 x).trans (ah5 _)
def alD:∀(f:Nat)(x:Pr),Fix x (oI f x)
 |0,x=>Fix.refl x
 |f+1,x=>by
  unfold oI;cases kQ x with
  |none=>exact Fix.refl x
  |some a=>
   simp only;split
   ·exact(af0 x).trans (alD f _)
   ·exact Fix.refl x
def afz(a:Int)(x:Pr):Fix x (sG a x):=Fix.trans (y:={x with now:=if x.now+1<a then a else x.now+1}) ⟨⟨rfl,rfl,rfl,rfl⟩,rfl,rfl,rfl,rfl⟩ (alD _ _)
def ahT:∀(f:Nat)(last:Int)(x:Pr),Fix x (qj f last x)
 |0,last,x=>Fix.refl x
 |f+1,last,x=>by
  unfold qj;split;rotate_left
  ·exact Fix.refl x
  cases kQ x with
  |none=>exact⟨⟨rfl,rfl,rfl,rfl⟩,rfl,rfl,rfl,rfl⟩
  |some a=>
   simp only;split
   ·exact⟨⟨rfl,rfl,rfl,rfl⟩,rfl,rfl,rfl,rfl⟩
   ·exact(afz a x).trans (ahT f last _)
def aaq(i:Nat)(hi:i=0\/i=1)(T:Wa)(q:T.length<=100000)(o:∀t∈T,t.length<=70000):∀(m j:Nat)(x:Pr),j+m=T.length->gG x->x.now<=800000000000->dG x+wS (T.drop j)<=80000->
 TT.lim 178 ([.zq (1-(i:Int)),.l (T.map .s),.zq (T.length:Int),.zq (j:Int)]++cO x)=some (.zq 0::gU (oC i (T.drop j) x))
 |0,j,x,r,e,f,g=>by have h:¬((j:Int)<T.length):=ah;rw[iK];simp only[oC,cO,gU,dW,dA,kU,bD,aX];refine aB ?_;simp -implicitDefEqProofs[h]
 |m+1,j,x,r,e,f,g=>by
  have b:j<T.length:=ah;have h:(j:Int)<T.length:=ah;have s:IntKind.i64.wrap ((j:Int)+1)=((j+1:Nat):Int):=by rw[wrap64 ah ah];omega
  have u:T.drop j=T[j]::T.drop (j+1):=iR b;have k:at2 1 (some (.l (T.map .s))) (some (.zq (j:Int)))=some (.s T[j]):=by rw[dJ,lV,zB,jy,bZ b];rfl
  have c:Fj (some (.l (T.map .s))) (some (.zq (j:Int)))=some (.zq (j:Int)):=by rw[jZ,au ⟨ah,by rw[gB];omega⟩]
  have d:T[j]∈T:=iT b;rw[u]at g⊢;generalize T[j]=t at *;simp only[wS]at g;have v:=Ue t;have p:=apn i hi t x e (o t d) f ah;obtain⟨w,g2⟩:=VB (i:=i) (t:=t) e;have l:=aaq i hi T q o m (j+1) (jS i t x) ah w (by rw[aal];exact f) ah;have a:=aam i t x;have n:=aal i t x;have y:IntKind.i64.wrap (1-(1-(i:Int)))=(i:Int):=by rcases hi with rfl|rfl<;>rfl
  rw[show oC i (t::T.drop (j+1)) x=oC i (T.drop (j+1)) (jS i t x)from rfl];generalize oC i (T.drop (j+1)) (jS i t x)=E at *;generalize jS i t x=Y at *;simp only[cO,gU,dW,dA,kU,bD,aX]at p l⊢;rw[n,a.1.1,a.1.2.1,a.1.2.2.1,a.1.2.2.2,a.2.1,a.2.2.1,a.2.2.2.1,a.2.2.2.2,<-s]at l;generalize T.map GV.s=z,(T.length:Int)=A,(j:Int)=D at *;refine aB ?_;simp -implicitDefEqProofs[-jZ,-dJ,h,k,c,y,p,l]
set_option maxHeartbeats 4000000 in
def aoF(x:Pr)(m:gG x)(n:x.now<=800000000000)(o:dG x<=80000):TT.lim 170 (cO x)=some (.zq 0::gU (lF x)):=by
 have w1:IntKind.i64.wrap 1=1:=rfl;have p:IntKind.i64.wrap 2=2:=rfl;have fin:∀y:Pr,TT.lim 171 (.zq 2::cO y)=some (.zq 0::gU y):=by intro y;simp only[cO,gU,dW,dA,kU,bD,aX];refine aB ?_;simp
 have one:∀y:Pr,gG y->y.now<=800000000000->dG y<=80000->TT.lim 171 (.zq 1::cO y)=some (.zq 0::gU (qR y)):=by
  intro y c k l;obtain⟨d1,d2,d3⟩:=NS y.now c.k1;have q:=aeg y.k1.h;have d:oN y.k1<=80000:=by unfold dG at l;omega
  have i:=ag0 y.now (.zu y.k1.n) y.k1.h (by unfold oN at d;omega) c.k1.h;have j:(dM y.k1.h.length y.now y.k1.h).1.length<=100000:=by have:=(VK y.now y.k1.h.length y.k1.h rfl c.k1.h).2;unfold oN at d;omega
  have a:=aaq 0 (.inl rfl) (dM y.k1.h.length y.now y.k1.h).1 j d3 (dM y.k1.h.length y.now y.k1.h).1.length 0 (xJ y) ah ⟨c.s0,c.s1,c.k0,d1,c.now⟩ k (by rw[dY];unfold dG xJ at *;simp only at *;omega)
  rw[dY]at a;have e:=fin (qR y);have b:=ah5 y;have g:=ah6 y;rw[show oC 0 (dM y.k1.h.length y.now y.k1.h).1 (xJ y)=qR y from rfl]at a;generalize qR y=E at *;unfold xJ at a;generalize dM y.k1.h.length y.now y.k1.h=D at *;have f:((D.1.map GV.s).length:Int)=(D.1.length:Int):=by rw[gB]
  have a:TT.lim 178 ([.zq 1,.l (D.1.map .s),.zq (D.1.length:Int),.zq 0]++cO {y with k1:={y.k1 with h:=D.2}})=some (.zq 0::gU E):=a;simp only[cO,gU,dW,dA,kU,bD,aX]at a e⊢;rw[g,b.a.1,b.a.2.1,b.a.2.2.1,b.a.2.2.2,b.b.1,b.b.2.1,b.b.2.2.1,b.b.2.2.2]at e;generalize D.1.map GV.s=r,(D.1.length:Int)=s at *;refine aB ?_;simp -implicitDefEqProofs[p,i,f,a,e]
 have zero:∀y:Pr,gG y->y.now<=800000000000->dG y<=80000->TT.lim 171 (.zq 0::cO y)=some (.zq 0::gU (lF y)):=by
  intro y c k l;obtain⟨d1,d2,d3⟩:=NS y.now c.k0;have q:=aeg y.k0.h;have d:oN y.k0<=80000:=by unfold dG at l;omega
  have i:=ag0 y.now (.zu y.k0.n) y.k0.h (by unfold oN at d;omega) c.k0.h;have j:(dM y.k0.h.length y.now y.k0.h).1.length<=100000:=by have:=(VK y.now y.k0.h.length y.k0.h rfl c.k0.h).2;unfold oN at d;omega
  have a:=aaq 1 (.inr rfl) (dM y.k0.h.length y.now y.k0.h).1 j d3 (dM y.k0.h.length y.now y.k0.h).1.length 0 (yM y) ah ⟨c.s0,c.s1,d1,c.k1,c.now⟩ k (by rw[dY];unfold dG yM at *;simp only at *;omega)
  rw[dY]at a;obtain⟨t,g2⟩:=ah3 c;have g:=Ri y;have e:=one (nP y) t (by rw[g];exact k) ah;have b:=ah2 y;rw[show qR (nP y)=lF y from rfl]at e;rw[show oC 1 (dM y.k0.h.length y.now y.k0.h).1 (yM y)=nP y from rfl]at a;generalize lF y=C,nP y=E at *;unfold yM at a;generalize dM y.k0.h.length y.now y.k0.h=D at *;have f:((D.1.map GV.s).length:Int)=(D.1.length:Int):=by rw[gB]
  have a:TT.lim 178 ([.zq 0,.l (D.1.map .s),.zq (D.1.length:Int),.zq 0]++cO {y with k0:={y.k0 with h:=D.2}})=some (.zq 0::gU E):=a;simp only[cO,gU,dW,dA,kU,bD,aX]at a e⊢;rw[g,b.a.1,b.a.2.1,b.a.2.2.1,b.a.2.2.2,b.b.1,b.b.2.1,b.b.2.2.1,b.b.2.2.2]at e;generalize D.1.map GV.s=r,(D.1.length:Int)=s at *;refine aB ?_;simp -implicitDefEqProofs[w1,i,f,a,e]
 have h:=zero x m n o;generalize lF x=C at *;simp only[cO,gU,dW,dA,kU,bD,aX]at h⊢;refine aB ?_;simp -implicitDefEqProofs[h]
def Sv(x:Pr):Int:=(kQ x).getD 0
def ajZ(x:Pr):(x.k0.h=[]/\x.k1.h=[]/\kQ x=none)\/(∃n,x.k0.h.length=n+1/\x.k1.h=[]/\kQ x=some (at_ x.k0.h 0).1)\/(∃n,x.k0.h=[]/\x.k1.h.length=n+1/\kQ x=some (at_ x.k1.h 0).1)\/
 (∃n m,x.k0.h.length=n+1/\x.k1.h.length=m+1/\kQ x=some (if(at_ x.k1.h 0).1<(at_ x.k0.h 0).1 then(at_ x.k1.h 0).1 else(at_ x.k0.h 0).1)):=by
 unfold kQ nextL;cases b:x.k0.h with
 |nil=>
  cases a:x.k1.h with
  |nil=>exact .inl ⟨rfl,rfl,rfl⟩
  |cons y r=>exact .inr (.inr (.inl ⟨r.length,rfl,rfl,rfl⟩))
 |cons z q=>
  cases a:x.k1.h with
  |nil=>exact .inr (.inl ⟨q.length,rfl,rfl,rfl⟩)
  |cons y r=>exact .inr (.inr (.inr ⟨q.length,r.length,rfl,rfl,rfl⟩))
