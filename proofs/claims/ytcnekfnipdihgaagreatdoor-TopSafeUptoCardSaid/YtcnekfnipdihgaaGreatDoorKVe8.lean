/- What the trees compute: plain laws. -/
import Derived.Test.YtcnekfnipdihgaaGreatDoorKVe7
set_option linter.all false
namespace Go.Proofs.YtcnekfnipdihgaaGreatDoor
open Go Go.aP
set_option maxRecDepth 100000
namespace V
def azS(h:List It)(a n:Int)(t:Q2)(i:h.length<=100000):TT.lim 146 [.zu a,.zu n,.s t,.l (h.map dF)]=some [.zq 0,.l ((vG h (a,n,t)).map dF)]:=by have c:=aE9 (h++[(a,n,t)]) h.length (.zu n) aA (by simp;omega);have g:=bI (((h.length:Nat):Int));have b:GV.g [.zu a,.zu n,.s t]=dF (a,n,t):=rfl;have d:(dF (a,n,t)).gu 3=true:=rfl;rw[nP]at c;simp only[iU,jU]at c;have e:2*(h.length+1)*32<=281474976710656:=ah;have f:h.length<=281474976710655:=ah;unfold vG;refine aB ?_;simp -implicitDefEqProofs[b,d,e,f,g,c]
def asO(h:List It)(n:Nat)(c:GV)(e:n<=h.length)(f:h.length<=1000000):∃b:Bool,TT.lim 158 [.zq (n:Int),.l (h.map dF),c,.zq 0]=some [.zq 0,.b b,.l ((og (n+1) h 0 n).map dF)]:=by obtain⟨d,a⟩:=agR (n+1) h 0 n (.zq 0) c ah e f ah;have a:TT.lim 159 [.zq 0,.zq (n:Int),.zq 0,.l (h.map dF),c]=some [.zq 0,.zq (d:Int),.l ((og (n+1) h 0 n).map dF)]:=a;refine⟨decide ((0:Int)<(d:Int)),jC rfl rfl ?_⟩;simp[a]
def azE(h:List It)(n:Nat)(c:GV)(f:h.length=n+1)(E:h.length<=1000000)(j:Heap h (n+1)):
 TT.lim 157 [.l (h.map dF),c]=some [.zq 0,.zu (at_ h 0).1,.zu (at_ h 0).2.1,.s (at_ h 0).2.2,.l ((oD h).map dF)]:=by
 have l:(jf h 0 n).length=n+1:=by rw[FN,f]
 obtain⟨b,u⟩:=asO (jf h 0 n) n c ah ah;obtain⟨-,-,-,a⟩:=XV h n f j;have d:(og (n+1) (jf h 0 n) 0 n).length=n+1:=by rw[aaw,l]
 have m:oD h=(og (n+1) (jf h 0 n) 0 n).take n:=by unfold oD;rw[f];rfl
 have o:=Ls (h:=h) (k:=0) ah (at_ h n);have p:=Ls (h:=h.set 0 (at_ h n)) (k:=n) (by rw[IL];omega) (at_ h 0);have e:(h.set 0 (at_ h n)).set n (at_ h 0)=jf h 0 n:=rfl;rw[e]at p;rw[m];generalize jf h 0 n=S at *;generalize og (n+1) S 0 n=D at *;have q:=CQ (h:=h) (k:=0) ah;have r:=Bv (h:=h) (k:=0) ah;rw[show(((0:Nat)):Int)=0 from rfl]at q r o;have v:=CQ (h:=h) (k:=n) ah;have w:=Bv (h:=h) (k:=n) ah;have s:=CQ (h:=D) (k:=n) ah;have x:=Bv (h:=D) (k:=n) ah;have A:=Ls (h:=D) (k:=n) ah (0,0,[]);rw[a]at s;have t:(D.set n (0,0,[])).take n=D.take n:=by rw[List.take_set_of_le (dK n)]
 rw[<-t];have g:(D.set n (0,0,[])).length=n+1:=by rw[IL,d]
 generalize D.set n (0,0,[])=F,h.set 0 (at_ h n)=G at *;have B:=bI (((n:Nat):Int));have i:((n:Nat):Int)<=(n:Int)+1:=ah;clear e t m a j l;generalize at_ h n=y,at_ h 0=z at *;refine aB ?_;simp -implicitDefEqProofs[-jQ,-dA,-vN,f,d,B,r,q,w,v,o,p,u,x,s,A,g,i,aeM]
def aAr(h:List It)(n:Nat)(c:GV)(b:h.length=n+1)(d:h.length<=1000000)(e:Heap h (n+1)):
 TT.lim 156 [.l (h.map dF),c]=some [.zq 0,.zu (at_ h 0).1,.s (at_ h 0).2.2,.b true,.l ((oD h).map dF)]:=by
 have f:=azE h n c b d e;have a:¬((n:Int)+1=0):=ah;generalize at_ h 0=z,oD h=R at *;refine aB ?_;simp -implicitDefEqProofs[b,a,f]
def azT(h:List It)(a n:Int)(t:Q2)(c:h.length<=100000)(g:0<=n/\n<=1000000):
 TT.lim 145 [.zu a,.l [.s t],.zq 1,.zq 0,.l (h.map dF),.zu n]=some [.zq 0,.l ((vG h (a,n,t)).map dF),.zu (n+1)]:=by
 have d:=azS h a n t c;generalize vG h (a,n,t)=R at *;have e:TT.lim 145 [.zu a,.l [.s t],.zq 1,.zq 1,.l (R.map dF),.zu (n+1)]=some [.zq 0,.l (R.map dF),.zu (n+1)]:=by refine aB ?_;simp
 have f:=jL (n+1);have b:IntKind.i64.wrap 1=1:=rfl;refine aB ?_;simp -implicitDefEqProofs[d,f,b,e]
def az0(h:List It)(a n:Int)(t:Q2)(b:h.length<=100000)(c:0<=n/\n<=1000000):
 TT.lim 144 [.zu a,.l [.s t],.l (h.map dF),.zu n]=some [.zq 0,.l ((vG h (a,n,t)).map dF),.zu (n+1)]:=by
 have d:=azT h a n t b c;generalize vG h (a,n,t)=R at *;refine aB ?_;simp -implicitDefEqProofs[d]
def agX(now:Int)(c:GV):∀(m:Nat)(h:List It)(a:We),h.length=m->a.length+m<=100000->Heap h h.length->
 TT.lim 155 [.zu now,.l (a.map .s),.l (h.map dF),c]=some [.zq 0,.l ((a++(fQ m now h).1).map .s),.l ((fQ m now h).2.map dF)]
 |0,h,a,b,s,g=>by obtain rfl:=aeK.1 b;refine aB ?_;simp -implicitDefEqProofs[fQ]
 |m+1,h,a,b,s,g=>by
  have d:¬((m:Int)+1=0):=ah;have i:h≠[]:=by rintro rfl;simp at b
  have j:=CQ (h:=h) (k:=0) ah;have l:=Bv (h:=h) (k:=0) ah;rw[show(((0:Nat)):Int)=0 from rfl]at j l;by_cases f:now<(at_ h 0).1
  ·rw[fQ,au (.inr f)];generalize at_ h 0=z at *;refine aB ?_;simp -implicitDefEqProofs[-jQ,-dA,b,d,j,l,f]
  ·obtain⟨r1,r2,r3,-⟩:=XV h m b (by rw[<-b];exact g);have t:=aAr h m c b ah (by rw[<-b];exact g);have n:=agX now c m (oD h) (a++[(at_ h 0).2.2]) r1 (by simp;omega) (by rw[r1];exact r2);rw[fQ,aj (λe=>e.elim i f)];have r:a++(at_ h 0).2.2::(fQ m now (oD h)).1=a++[(at_ h 0).2.2]++(fQ m now (oD h)).1:=aA;rw[show(a++((at_ h 0).2.2::(fQ m now (oD h)).1,(fQ m now (oD h)).2).1)=a++[(at_ h 0).2.2]++(fQ m now (oD h)).1 from r];generalize a++[(at_ h 0).2.2]++(fQ m now (oD h)).1=O at *;show _=some [_,_,GV.l ((fQ m now (oD h)).2.map dF)]
   generalize(fQ m now (oD h)).2=u at *;rw[nP]at n;simp only[iU,jU]at n;have o:2*(a.length+1)*16<=281474976710656:=ah;have p:a.length<=281474976710655:=ah;clear r;generalize oD h=R,at_ h 0=z at *;have q:(GV.s z.2.2).gu 1=true:=rfl;refine aB ?_;simp -implicitDefEqProofs[-jQ,-dA,b,d,j,l,f,t,o,p,q,n]
def agY(now:Int)(c:GV)(h:List It)(b:h.length<=100000)(d:Heap h h.length):
 TT.lim 154 [.zu now,.l (h.map dF),c]=some [.zq 0,.l ((fQ h.length now h).1.map .s),.l ((fQ h.length now h).2.map dF)]:=by
 have a:=agX now c h.length h [] rfl (by simpa using b) d;rw[aW]at a;simp only[jU]at a;generalize fQ h.length now h=R at *;refine aB ?_;simp -implicitDefEqProofs[a]
def O4:Q2->Nat
 |[a,b,c,d]=>a.toNat+b.toNat*256+c.toNat*65536+d.toNat*16777216
 |_=>0
def apr(p s:Q2)(S:p.length<=65536)(J:s.length=4):TT.lim 167 [.s p,.s s]=some [.b (decide ((O4 s:Int)=ji p))]:=by
 have L:=aap p ah;generalize ji p=n at *;match s,J with
 |[v,w,x,z],_=>
  have g:∀y:Int,IntKind.u32.wrap y=y%((4294967296:Nat):Int):=λy=>by simp[IntKind.wrap,IntKind.signed,IntKind.bits]
  obtain⟨f,i⟩:∃c,v.toNat=c:=⟨_,rfl⟩
  obtain⟨d,j⟩:∃c,w.toNat=c:=⟨_,rfl⟩
  obtain⟨e,l⟩:∃c,x.toNat=c:=⟨_,rfl⟩
  obtain⟨h,o⟩:∃c,z.toNat=c:=⟨_,rfl⟩
  have M:=v.toNat_lt;have N:=w.toNat_lt;have O:=x.toNat_lt;have P:=z.toNat_lt;rw[show O4 [v,w,x,z]=v.toNat+w.toNat*256+x.toNat*65536+z.toNat*16777216 from rfl];rw[i]at M⊢;rw[j]at N⊢;rw[l]at O⊢;rw[o]at P⊢;have D:kM .shl .u32 (d:Int) 8=some (.i .u32 ((d*256:Nat):Int)):=OZ (k:=8) g rfl aU ah;have E:kM .shl .u32 (e:Int) 16=some (.i .u32 ((e*65536:Nat):Int)):=OZ (k:=16) g rfl aU ah;have F:kM .shl .u32 (h:Int) 24=some (.i .u32 ((h*16777216:Nat):Int)):=OZ (k:=24) g rfl aU ah;have o1:=Oq (a:=f) (b:=d) (k:=8) (m:=256) rfl ah ah;have A:=Oq (a:=f+d*256) (b:=e) (k:=16) (m:=65536) rfl ah ah;have B:=Oq (a:=f+d*256+e*65536) (b:=h) (k:=24) (m:=16777216) rfl ah ah;have w0:IntKind.u32.wrap (f:Int)=f:=by rw[g];omega
  have w1:IntKind.u32.wrap (d:Int)=d:=by rw[g];omega
  have Q:IntKind.u32.wrap (e:Int)=e:=by rw[g];omega
  have R:IntKind.u32.wrap (h:Int)=h:=by rw[g];omega
  obtain⟨T,r⟩:∃q:Int,((f+d*256+e*65536+h*16777216:Nat):Int)=q:=⟨_,rfl⟩
  obtain⟨U,G⟩:∃q:Int,((h*16777216:Nat):Int)=q:=⟨_,rfl⟩
  obtain⟨W,H⟩:∃q:Int,((f+d*256+e*65536:Nat):Int)=q:=⟨_,rfl⟩
  obtain⟨X,t⟩:∃q:Int,((e*65536:Nat):Int)=q:=⟨_,rfl⟩
  obtain⟨Y,I⟩:∃q:Int,((f+d*256:Nat):Int)=q:=⟨_,rfl⟩
  obtain⟨Z,u⟩:∃q:Int,((d*256:Nat):Int)=q:=⟨_,rfl⟩
  rw[r]at B⊢;rw[G]at F B;rw[H]at A B;rw[t]at E A;rw[I]at o1 A;rw[u]at D o1;clear G H t I u r;refine aV ?_;simp -implicitDefEqProofs[L,i,j,l,o,w0,w1,Q,R,D,E,F,o1,A,B]
def JY:Q2->Int
 |[]=>1
 |[a]=>if a=81 then 1 else 5
 |a::b::_=>if a=81 then(if b=70 then 0 else 5)else 5
def aju(a:UInt8):JY [a]=if a=81 then 1 else 5:=rfl
def axe(a b:UInt8)(r:Q2):JY (a::b::r)=if a=81 then(if b=70 then 0 else 5)else 5:=rfl
def lC(s:Q2):Q2×Int×Int:=
 if JY s≠0 then([],0,JY s)else
 if(aF (s.drop 2)).2.2≠0 then([],0,(aF (s.drop 2)).2.2)else
 if 65536<(aF (s.drop 2)).1 then([],0,4)else
 if(s.drop (2+(aF (s.drop 2)).2.1)).length<(aF (s.drop 2)).1+4 then([],0,1)else
 if(O4 (((s.drop (2+(aF (s.drop 2)).2.1)).take ((aF (s.drop 2)).1+4)).drop (aF (s.drop 2)).1):Int)=ji ((s.drop (2+(aF (s.drop 2)).2.1)).take (aF (s.drop 2)).1)then
  ((s.drop (2+(aF (s.drop 2)).2.1)).take (aF (s.drop 2)).1,((2+fZ (aF (s.drop 2)).1+(aF (s.drop 2)).1+4:Nat):Int),0)else([],0,6)
def adX(a:UInt8)(n:Nat)(b:n<256):((a.toNat:Int)=(n:Int))=(a=UInt8.ofNat n):=by
 apply propext;constructor
 ·intro h;apply Zm.1;rw[ae3];omega
 ·intro h;rw[h,ae3];omega
def axc(s:Q2)(o:s.length<=140737488351232):TT.lim 163 [.s s]=some [.zq (JY s)]:=by
 have w1:=bI ((1:Int));have l:=bI ((2:Int));have i:∀s:Q2,TT.lim 164 [.s s,.zq 2]=some [.zq 1]:=by intro s;refine aB ?_;simp
 match s,o with
 |[],_=>
  have p:JY []=1:=rfl;have q:TT.lim 164 [.s [],.zq 0]=some [.zq 0,.zq 1]:=by refine aB ?_;simp
  rw[p];refine aV ?_;simp -implicitDefEqProofs[q]
 |[a],_=>
  rw[aju];have e:=adX a 81 ah;have e:((a.toNat:Int)=81)=(a=81):=e;by_cases c:a=81
  ·rw[au c];have g:TT.lim 164 [.s [a],.zq 1]=some [.zq 0,.zq 1]:=by refine aB ?_;simp
   have d:(a=81)=True:=eq_true c;clear c;have f:TT.lim 164 [.s [a],.zq 0]=some [.zq 0,.zq 1]:=by refine aB ?_;simp -implicitDefEqProofs[w1,e,d,g]
   refine aV ?_;simp -implicitDefEqProofs[f]
  ·rw[aj c];have f:TT.lim 164 [.s [a],.zq 0]=some [.zq 0,.zq 5]:=by refine aB ?_;simp -implicitDefEqProofs[w1,e,c]
   refine aV ?_;simp -implicitDefEqProofs[f]
 |a::b::r,_=>
  rw[axe];have e:((a.toNat:Int)=81)=(a=81):=adX a 81 ah;have m:((b.toNat:Int)=70)=(b=70):=adX b 70 ah;have j:¬(0:Int)=(r.length:Int)+1+1:=ah;have n:¬(1:Int)=(r.length:Int)+1+1:=ah;have i:=i (a::b::r);by_cases c:a=81
  ·rw[au c];have d:(a=81)=True:=eq_true c;clear c;by_cases h:b=70
   ·rw[au h];have k:(b=70)=True:=eq_true h;clear h;have g:TT.lim 164 [.s (a::b::r),.zq 1]=some [.zq 1]:=by refine aB ?_;simp -implicitDefEqProofs[n,l,m,k,i]
    have f:TT.lim 164 [.s (a::b::r),.zq 0]=some [.zq 1]:=by refine aB ?_;simp -implicitDefEqProofs[j,w1,e,d,g]
    refine aV ?_;simp -implicitDefEqProofs[f]
   ·rw[aj h];have g:TT.lim 164 [.s (a::b::r),.zq 1]=some [.zq 0,.zq 5]:=by refine aB ?_;simp -implicitDefEqProofs[n,l,m,h]
    have f:TT.lim 164 [.s (a::b::r),.zq 0]=some [.zq 0,.zq 5]:=by refine aB ?_;simp -implicitDefEqProofs[j,w1,e,d,g]
    refine aV ?_;simp -implicitDefEqProofs[f]
  ·rw[aj c];have f:TT.lim 164 [.s (a::b::r),.zq 0]=some [.zq 0,.zq 5]:=by refine aB ?_;simp -implicitDefEqProofs[j,w1,e,c]
   refine aV ?_;simp -implicitDefEqProofs[f]
def akf(s:Q2)(R:s.length<=100000000):TT.lim 162 [.s s]=some [.s (lC s).1,.zq (lC s).2.1,.zq (lC s).2.2]:=by
 have h:=axc s ah;unfold lC;by_cases c:JY s=0;rotate_left
 ·rw[au c];refine aV ?_;simp -implicitDefEqProofs[h,c]
 rw[aj (by simpa using c)];rw[c]at h;have S:2<=s.length:=by
  match s,c with
  |[],c=>exact absurd c aU
  |[a],c=>rw[aju]at c;split at c<;>simp at c
  |a::b::r,_=>simp
 have m:=wC (s.drop 2) (by rw[fP];omega);have f:=@lN (s.drop 2);have o:(s.take s.length).drop 2=s.drop 2:=by rw[AP]
 have p:(2:Int)<=(s.length:Int):=ah;generalize aF (s.drop 2)=G at *;obtain⟨n,k,e⟩:=G;simp only at m f⊢;by_cases q:e=0;rotate_left
 ·rw[au q];refine aV ?_;simp -implicitDefEqProofs[h,o,p,m,q]
 rw[aj (by simpa using q)];have f:=(f q).len;rw[fP]at f;subst q;by_cases F:65536<n
 ·rw[au F];have d:(65536:Int)<n:=ah;refine aV ?_;simp -implicitDefEqProofs[h,o,p,m,d]
 rw[aj F];have d:¬(65536:Int)<n:=ah;have w:=bI ((n:Int));have i:=bI ((n:Int)+4);have x:=bI (2+(k:Int));have j:2+(k:Int)<=(s.length:Int):=ah;have y:(0:Int)<=2+(k:Int):=ah;have l:s.drop (2+(k:Int)).toNat=s.drop (2+k):=by congr 1
 have T:(s.drop (2+k)).length=s.length-(2+k):=fP;generalize s.drop (2+k)=B at *;by_cases H:B.length<n+4
 ·rw[au H];have g:(B.length:Int)<(n:Int)+4:=ah;refine aV ?_;simp -implicitDefEqProofs[h,o,p,m,d,w,i,x,j,y,l,g]
 rw[aj H];have g:¬(B.length:Int)<(n:Int)+4:=ah;have I:(0:Int)<=(n:Int):=ah;have J:(n:Int)<=(n:Int)+4:=ah;have L:(n:Int)<=(B.length:Int):=ah;have t:(n:Int)+4<=(B.length:Int):=ah;have M:((n:Int)).toNat=n:=ah;have N:((n:Int)+4).toNat=n+4:=ah;have z:(B.take n).length<=65536:=by rw[lZ];omega
 have A:((B.take (n+4)).drop n).length=4:=by rw[fP,lZ];omega
 have u:=apr (B.take n) ((B.take (n+4)).drop n) z A;have O:=ahG n ah;generalize P:(B.take (n+4)).drop n=K at *;generalize Q:B.take n=D at *;by_cases v:(O4 K:Int)=ji D
 ·rw[au v];have E:decide ((O4 K:Int)=ji D)=true:=by simpa using v
  rw[E]at u;refine aV ?_;simp -implicitDefEqProofs[h,o,p,m,d,w,i,x,j,y,l,g,I,J,L,t,M,N,Q,P,u,O]
 ·rw[aj v];have E:decide ((O4 K:Int)=ji D)=false:=by simpa using v
  rw[E]at u;refine aV ?_;simp -implicitDefEqProofs[h,o,p,m,d,w,i,x,j,y,l,g,I,J,L,t,M,N,Q,P,u,O]
def akg{p:Q2}(h:p.length<=65536):lC (jw p)=(p,(((jw p).length:Nat):Int),0):=by have i:=ayT h;have j:=aaN p;have k:=Pj 3 p.length ah ah;have d:=akf (jw p) ah;rw[i]at d;simp only[bf,xU,GV.s.injEq,GV.i.injEq,and_true,true_and]at d;obtain⟨e,f,g⟩:=d;generalize lC (jw p)=R at *;obtain⟨a,b,c⟩:=R;simp only at e f g;rw[<-e,<-f,<-g]
def ayU(s:Q2):(lC s).1.length<=s.length:=by
 unfold lC;repeat' split
 all_goals first|simp;done|(simp only[lZ,fP];omega)
structure Fa where
 dr:Bool
 c:Nat
 d:Nat
 cu:Int
 at_:Int
 sQ:Nat
def bF(f:Fa):GV:=.g [.b f.dr,.i .u8 (f.c:Int),.i .u8 (f.d:Int),.zq f.cu,.zq f.at_,.i .u8 (f.sQ:Int)]
@[simp] theorem aGQ(f:Fa):(bF f).cells=[.b f.dr,.i .u8 (f.c:Int),.i .u8 (f.d:Int),.zq f.cu,.zq f.at_,.i .u8 (f.sQ:Int)]:=rfl
structure FZ(f:Fa):Prop where
 c:f.c<=3
 d:f.d<256
 sQ:f.sQ<256
 cu:f.cu<=9223372036854775807
 at_:f.at_<=9223372036854775807
def am4(x:UInt8):zL x 0=x:=by unfold zL;rw[Nat.xor_zero,UInt8.ofNat_toNat]
def zZ(f:Fa)(t:Q2):Q2:=if 0<f.cu/\f.cu<t.length then t.take f.cu.toNat else t
def Lm(f:Fa)(u:Q2):Q2:=if f.at_<0 then u else if(u.length:Int)<=f.at_ then u else u.set f.at_.toNat (zL (u.getD f.at_.toNat 0) f.sQ)
def kU(f:Fa)(t:Q2):Q2:=Lm f (zZ f t)
def apv(f:Fa)(t:Q2):(zZ f t).length<=t.length:=by
 unfold zZ;split
 ·rw[lZ];omega
 ·omega
def aEY(f:Fa)(u:Q2):(Lm f u).length=u.length:=by
 unfold Lm;split
 ·rfl
 split
 ·rfl
 ·rw[IL]
def asN(f:Fa)(t:Q2):(kU f t).length<=t.length:=by unfold kU;rw[aEY];exact apv f t
def nU:Nat->Int->List UInt8->List It->Int->List It×Int
 |0,_,_,h,n=>(h,n)
 |m+1,a,t,h,n=>nU m (a+1) t (vG h (a,n,t)) (n+1)
def ac6(a:Int)(t:Q2):∀(m:Nat)(h:List It)(n:Int),Heap h h.length->Heap (nU m a t h n).1 (nU m a t h n).1.length/\(nU m a t h n).1.length=h.length+m/\(nU m a t h n).2=n+m
 |0,h,n,b=>⟨b,rfl,by simp[nU]⟩
 |m+1,h,n,b=>by have e:=OC h (a,n,t) b;have d:=SK h (a,n,t) b;have c:=ac6 (a+1) t m (vG h (a,n,t)) (n+1) (by rw[d];exact e.1);unfold nU;refine⟨c.1,by rw[c.2.1,d];omega,by rw[c.2.2];push_cast;omega⟩
def copies(now a:Int)(t:Q2)(L:We)(j k l:GV)(M:Nat)(p:M<=300)(q:0<=a/\a<=1000000000000):∀(m i:Nat)(h:List It)(n:Int),i+m=M->h.length+m<=100000->0<=n->n+m<=1000000->Heap h h.length->
 TT.lim 143 [.zu now,.s t,.zu a,.l (L.map .s),j,k,.zu (M:Int),.zu (i:Int),l,.l (h.map dF),.zu n]=some [.zq 0,.l ((nU m (a+i) t h n).1.map dF),.zu (nU m (a+i) t h n).2]
 |0,i,h,n,hi,r,o,s,f=>by have c:¬((i:Int)<(M:Int)):=ah;refine aB ?_;simp -implicitDefEqProofs[c,nU]
 |m+1,i,h,n,hi,r,o,s,f=>by have c:(i:Int)<(M:Int):=ah;have u:=OC h (a+i,n,t) f;have b:=SK h (a+i,n,t) f;have d:=az0 h (a+i) n t ah ⟨o,ah⟩;have g:=copies now a t L j k l M p q m (i+1) (vG h (a+i,n,t)) (n+1) ah (by rw[b];omega) ah ah (by rw[b];exact u.1);have e:a+((i+1:Nat):Int)=a+i+1:=ah;rw[e]at g;unfold nU;generalize nU m (a+i+1) t (vG h (a+i,n,t)) (n+1)=R at *;generalize vG h (a+i,n,t)=Q at *;have w1:=jL (a+(i:Int));have v:=jL ((i:Int)+1);rw[(ah:((i+1:Nat):Int)=(i:Int)+1)]at g;refine aB ?_;simp -implicitDefEqProofs[c,w1,v,d,g]
structure Lk where
 f:List Fa
 h:List It
 n:Int
def nV(now:Int)(t:Q2)(k:Lk):Lk:=match k.f with
 |[]=>{k with h:=(nU 1 now t k.h k.n).1,n:=(nU 1 now t k.h k.n).2}
 |f::r=>if f.dr=true then {k with f:=r}else {f:=r,h:=(nU (f.c+1) (now+f.d) (kU f t) k.h k.n).1,n:=(nU (f.c+1) (now+f.d) (kU f t) k.h k.n).2}
set_option maxHeartbeats 4000000 in
def alH(now:Int)(t:Q2)(k:Lk)(hf:∀f∈k.f,FZ f)(hk:k.f.length<=100000)(W:t.length<=100000000)(iZ:0<=now/\now<=900000000000)(hl:k.h.length+4<=100000)(n0:0<=k.n)(hn:k.n+4<=1000000)(hh:Heap k.h k.h.length):
 TT.lim 141 [.zu now,.l [.s t],.l (k.f.map bF),.l (k.h.map dF),.zu k.n]=some [.zq 0,.l ((nV now t k).f.map bF),.l ((nV now t k).h.map dF),.zu (nV now t k).n]:=by
 have w1:IntKind.i64.wrap 1=1:=rfl;have e:∀(O:Q3)(H:List It)(n:Int),TT.lim 142 [.zu now,.l [.s t],.zq 1,.zq 1,.l O,.l (H.map dF),.zu n]=some [.zq 0,.l O,.l (H.map dF),.zu n]:=by intro O H n;refine aB ?_;simp
 suffices h:TT.lim 142 [.zu now,.l [.s t],.zq 1,.zq 0,.l (k.f.map bF),.l (k.h.map dF),.zu k.n]=some [.zq 0,.l ((nV now t k).f.map bF),.l ((nV now t k).h.map dF),.zu (nV now t k).n] by generalize nV now t k=R,k.f.map bF=FG,k.h.map dF=HG at *;refine aB ?_;simp -implicitDefEqProofs[h]
 obtain⟨O,H,n⟩:=k;simp only at *;cases O with
 |nil=>
  unfold nV;simp only[jU];have b:=copies now now t [t] (.zq 1) (.zq 0) (.l []) 1 ah ah 1 0 H n ah ah n0 ah hh;rw[(ah:now+((0:Nat):Int)=now)]at b;have hw:=jL now;have e:=e [] (nU 1 now t H n).1 (nU 1 now t H n).2;generalize nU 1 now t H n=R at *;have b:TT.lim 143 [.zu now,.s t,.zu now,.l [.s t],.zq 1,.zq 0,.zu 1,.zu 0,.l [],.l (H.map dF),.zu n]=some [.zq 0,.l (R.1.map dF),.zu R.2]:=b;cases t with
  |nil=>refine aB ?_;simp -implicitDefEqProofs[hw,w1,b,e]
  |cons x r=>
   obtain⟨l,m,j⟩:=alK (u:=x::r) (k:=0) aA (zL x 0);have X:=am5 x 0 ah;have b0:(x::r).set 0 (zL x 0)=x::r:=by rw[am4];rfl
   rw[b0]at j;have m:at2 1 (some (.l (dH (x::r)))) (some (.zq 0))=some (.i .u8 (x.toNat:Int)):=m;have l:EL (some (.l (dH (x::r)))) (some (.zq 0))=some (.zq 0):=l;have j:FU 1 0 (some (.l (dH (x::r)))) (some (.zq 0)) (some [.i .u8 ((zL x 0).toNat:Int)])=some (.l (dH (x::r))):=j;have bk:=ZP (x::r);have bl:(dH (x::r)).length<=2^48:=by simp only[dH,gG];simp only[ig]at W⊢;omega
   have Y:¬((r.length:Int)+1<=0):=ah;have X:dh .xor .u8 (x.toNat:Int) 0=some (.i .u8 ((zL x 0).toNat:Int)):=X;have o:at2 1 (some (.l [.s (x::r)])) (some (.zq 0))=some (.s (x::r)):=rfl;generalize i:dH (x::r)=Z at *;generalize zL x 0=y at *;refine aB ?_;simp -implicitDefEqProofs[-jQ,-dA,-vN,o,i,hw,w1,Y,l,m,X,j,bk,bl,b,e]
 |cons f r=>
  unfold nV;simp only[iU];have fo:=hf f aA;have aa:(r.length:Int)+1>0:=ah;have w:((r.map bF).length:Int)=(r.length:Int):=by rw[gG]
  have o:at2 1 (some (.l [.s t])) (some (.zq 0))=some (.s t):=rfl;have z:at2 6 (some (.l (bF f::r.map bF))) (some (.zq 0))=some (bF f):=rfl;have a:Oe 6 (some (.l (bF f::r.map bF))) (some (.zq 1)) (some (.zq ((r.length:Int)+1)))=some (.l (r.map bF)):=by
   rw[nI,au]
   ·rw[(ah:((r.length:Int)+1).toNat=r.length+1),show(1:Int).toNat=1 from rfl,lS aA];rfl
   ·refine⟨ah,ah,aA,?_⟩;rw[List.all_eq_true];intro g hg;rcases bJ.1 hg with rfl|hg
    ·rfl
    ·obtain⟨x,-,rfl⟩:=su.1 hg;rfl
  by_cases U:f.dr=true
  ·rw[au U];have e:=e (r.map bF) H n;generalize r.map bF=A at *;refine aB ?_;simp -implicitDefEqProofs[-nI,-dA,o,z,w,w1,U,a,e]
  rw[aj U];have B:f.dr=false:=by simpa using U
  have c3:=fo.c;have hd:=fo.d;have b:=copies now (now+f.d) (kU f t) [t] (.zq 1) (.zq 0) (.l (r.map bF)) (f.c+1) ah ah (f.c+1) 0 H n ah ah n0 ah hh;rw[(ah:now+(f.d:Int)+((0:Nat):Int)=now+f.d)]at b;have e:=e (r.map bF) (nU (f.c+1) (now+f.d) (kU f t) H n).1 (nU (f.c+1) (now+f.d) (kU f t) H n).2;generalize nU (f.c+1) (now+f.d) (kU f t) H n=R at *;have b:TT.lim 143 [.zu now,.s (kU f t),.zu (now+f.d),.l [.s t],.zq 1,.zq 0,.zu ((f.c:Int)+1),.zu 0,.l (r.map bF),.l (H.map dF),.zu n]=some [.zq 0,.l (R.1.map dF),.zu R.2]:=by have e2:((f.c+1:Nat):Int)=(f.c:Int)+1:=ah;rw[e2]at b;exact b
  have E:=jL ((f.d:Int));have F:=jL ((f.c:Int));have G:=jL ((f.c:Int)+1);have I:=jL (now+(f.d:Int))
  have p:∀u:Q2,zZ f t=u->u.length<=100000000->(f.at_<0/\kU f t=u)\/(¬f.at_<0/\(u.length:Int)<=f.at_/\kU f t=u)\/
   (¬f.at_<0/\¬(u.length:Int)<=f.at_/\∃(x:UInt8)(y:UInt8),EL (some (.l (dH u))) (some (.zq f.at_))=some (.zq f.at_)/\at2 1 (some (.l (dH u))) (some (.zq f.at_))=some (.i .u8 (x.toNat:Int))/\dh .xor .u8 (x.toNat:Int) (f.sQ:Int)=some (.i .u8 (y.toNat:Int))/\
    FU 1 0 (some (.l (dH u))) (some (.zq f.at_)) (some [.i .u8 (y.toNat:Int)])=some (.l (dH (kU f t)))/\(dH (kU f t)).length<=2^48/\oJ (dH (kU f t))=some (kU f t)):=by
   intro u J EK;by_cases c:f.at_<0
   ·refine .inl ⟨c,?_⟩;unfold kU Lm;rw[J,au c]
   by_cases d:(u.length:Int)<=f.at_
   ·refine .inr (.inl ⟨c,d,?_⟩);unfold kU Lm;rw[J,aj c,au d]
   ·refine .inr (.inr ⟨c,d,u.getD f.at_.toNat 0,zL (u.getD f.at_.toNat 0) f.sQ,?_⟩);obtain⟨l,m,j⟩:=alK (u:=u) (k:=f.at_.toNat) ah (zL (u.getD f.at_.toNat 0) f.sQ);rw[IG ah]at l m j;have P:kU f t=u.set f.at_.toNat (zL (u.getD f.at_.toNat 0) f.sQ):=by unfold kU Lm;rw[J,aj c,aj d]
    refine⟨l,m,am5 _ _ fo.sQ,by rw[P];exact j,?_,ZP _⟩;rw[P];simp only[dH,gG,IL];omega
  by_cases q:0<f.cu
  ·by_cases L:f.cu<t.length
   ·have J:zZ f t=t.take f.cu.toNat:=by unfold zZ;rw[au ⟨q,L⟩]
    have EK:(t.take f.cu.toNat).length<=100000000:=by rw[lZ];omega
    have M:f.cu<=(t.length:Int):=ah;have N:0<=f.cu:=ah;rcases p _ J EK with⟨c,s⟩|⟨c,d,s⟩|⟨c,d,x,y,l,m,j,Q,S,T⟩
    ·rw[s]at b;generalize v:t.take f.cu.toNat=u at *;generalize r.map bF=A at *;refine aB ?_;simp -implicitDefEqProofs[-nI,-dA,o,z,w,v,w1,B,a,q,L,M,N,c,E,F,G,I,b,e]
    ·rw[s]at b;generalize v:t.take f.cu.toNat=u at *;generalize r.map bF=A at *;refine aB ?_;simp -implicitDefEqProofs[-nI,-dA,o,z,w,v,w1,B,a,q,L,M,N,c,d,E,F,G,I,b,e]
    ·generalize kU f t=D at *;generalize v:t.take f.cu.toNat=u at *;generalize i:dH u=Z at *;generalize dH D=DG,r.map bF=A at *;refine aB ?_;simp -implicitDefEqProofs[-jQ,-dA,-vN,-nI,o,z,w,i,v,w1,B,a,q,L,M,N,c,d,l,m,j,Q,S,T,E,F,G,I,b,e]
   ·have J:zZ f t=t:=by unfold zZ;rw[aj (λh=>L h.2)]
    rcases p _ J W with⟨c,s⟩|⟨c,d,s⟩|⟨c,d,x,y,l,m,j,Q,S,T⟩
    ·rw[s]at b;generalize r.map bF=A at *;refine aB ?_;simp -implicitDefEqProofs[-nI,-dA,o,z,w,w1,B,a,q,L,c,E,F,G,I,b,e]
    ·rw[s]at b;generalize r.map bF=A at *;refine aB ?_;simp -implicitDefEqProofs[-nI,-dA,o,z,w,w1,B,a,q,L,c,d,E,F,G,I,b,e]
    ·generalize kU f t=D at *;generalize i:dH t=Z at *;generalize dH D=DG,r.map bF=A at *;refine aB ?_;simp -implicitDefEqProofs[-jQ,-dA,-vN,-nI,o,z,w,i,w1,B,a,q,L,c,d,l,m,j,Q,S,T,E,F,G,I,b,e]
  ·have J:zZ f t=t:=by unfold zZ;rw[aj (λh=>q h.1)]
   rcases p _ J W with⟨c,s⟩|⟨c,d,s⟩|⟨c,d,x,y,l,m,j,Q,S,T⟩
   ·rw[s]at b;generalize r.map bF=A at *;refine aB ?_;simp -implicitDefEqProofs[-nI,-dA,o,z,w,w1,B,a,q,c,E,F,G,I,b,e]
   ·rw[s]at b;generalize r.map bF=A at *;refine aB ?_;simp -implicitDefEqProofs[-nI,-dA,o,z,w,w1,B,a,q,c,d,E,F,G,I,b,e]
   ·generalize kU f t=D at *;generalize i:dH t=Z at *;generalize dH D=DG,r.map bF=A at *;refine aB ?_;simp -implicitDefEqProofs[-jQ,-dA,-vN,-nI,o,z,w,i,w1,B,a,q,c,d,l,m,j,Q,S,T,E,F,G,I,b,e]
structure Pr where
 s0:bY
 s1:bY
 k0:Lk
 k1:Lk
 now:Int
 rc:Xs
def oZ(e:Int×Int×Int):GV:=.g [.zu e.1,.zq e.2.1,.zq e.2.2]
@[simp] theorem aGN(e:Int×Int×Int):(oZ e).cells=[.zu e.1,.zq e.2.1,.zq e.2.2]:=rfl
def VF(a b c:Int):GV.g [.zu a,.zq b,.zq c]=oZ (a,b,c):=rfl
def dQ(k:Lk):Q3:=[.l (k.f.map bF),.l (k.h.map dF),.zu k.n]
def bU(x:Pr):Q3:=[.zu x.now,.l (x.rc.map oZ)]++(dQ x.k1++(dQ x.k0++(cZ x.s1++cZ x.s0)))
def iF(x:Pr):Q3:=.l (x.rc.map oZ)::(dQ x.k1++(dQ x.k0++(kX x.s1++kX x.s0)))
def Dead(t:Q2):Prop:=(lC t).2.2=0->¬(lC t).2.1<t.length->tZ [2,7,8] (lC t).1
noncomputable def wT (t:Q2):Nat:=@ite Nat (Dead t) (Classical.propDecidable _) 2 5
def TM(t:Q2):2<=wT t/\wT t<=5:=by unfold wT;split<;>omega
def amV{t:Q2}(h:Dead t):wT t=2:=by unfold wT;rw[au h]
def aFA{t:Q2}(h:¬Dead t):wT t=5:=by unfold wT;rw[aj h]
noncomputable def wQ:List It->Nat
 |[]=>0
 |x::r=>wT x.2.2+wQ r
noncomputable def wS:We->Nat
 |[]=>0
 |x::r=>wT x+wS r
def amU{a b:List It}(h:a.Perm b):wQ a=wQ b:=by
 induction h with
 |nil=>rfl
 |cons x _ c=>simp only[wQ];omega
 |swap x y l=>simp only[wQ];omega
 |trans _ _ d e=>omega
def aFz(a b:List It):wQ (a++b)=wQ a+wQ b:=by
 induction a with
 |nil=>simp[wQ]
 |cons x r c=>simp only[bg,wQ];omega
def ad9(a:List It):2*a.length<=wQ a:=by
 induction a with
 |nil=>simp[wQ]
 |cons x r b=>have:=TM x.2.2;simp only[ig,wQ];omega
def ac7(t:Q2):∀(m:Nat)(a:Int)(h:List It)(n:Int),Heap h h.length->wQ (nU m a t h n).1=wQ h+m*wT t
 |0,a,h,n,b=>by simp[nU]
 |m+1,a,h,n,b=>by have c:=OC h (a,n,t) b;have d:=SK h (a,n,t) b;have e:=ac7 t m (a+1) (vG h (a,n,t)) (n+1) (by rw[d];exact c.1);unfold nU;rw[e,amU c.2,aFz];simp only[wQ];rw[uj];omega
def SL(t:Q2):∀(m:Nat)(a:Int)(h:List It)(n:Int),Heap h h.length->∀y∈(nU m a t h n).1,y∈h\/(y.2.2=t/\a<=y.1)
 |0,a,h,n,b,y,c=>.inl c
 |m+1,a,h,n,b,y,c=>by
  have d:=OC h (a,n,t) b;have e:=SK h (a,n,t) b;rcases SL t m (a+1) (vG h (a,n,t)) (n+1) (by rw[e];exact d.1) y c with q|⟨f,g⟩
  ·rcases iP.1 (d.2.mem_iff.1 q)with q|q
   ·exact .inl q
   ·rw[jI.1 q];exact .inr ⟨rfl,gZ _⟩
  ·exact .inr ⟨f,ah⟩
structure yV(k:Lk):Prop where
 f:∀f∈k.f,FZ f
 h:Heap k.h k.h.length
 n:0<=k.n
 t:∀y∈k.h,y.2.2.length<=70000
noncomputable def oh (k:Lk):Nat:=k.n.toNat+wQ k.h+24*k.f.length
def Yc{now:Int}{t:Q2}{k:Lk}(e:yV k)(v:t.length<=70000):yV (nV now t k)/\oh (nV now t k)<=oh k+1+wT t/\(nV now t k).f.length<=k.f.length:=by
 obtain⟨w,H,n⟩:=k;have c:=e.n;have a:=e.h;have b:=e.t;have i:=e.f;simp only at c a b i;cases w with
 |nil=>
  unfold nV;simp only;obtain⟨j,x,l⟩:=ac6 now t 1 H n a;have m:=ac7 t 1 now H n a;have o:=SL t 1 now H n a;refine⟨⟨(λf h=>by cases h),j,by simp only;omega,λy p=>?_⟩,?_,aA⟩
  ·rcases o y p with q|⟨q,-⟩
   ·exact b y q
   ·rw[q];exact v
  ·unfold oh;simp only[m,l,kF];omega
 |cons f r=>
  unfold nV;simp only;have d:∀g∈r,FZ g:=λg z=>i g (by simp[z]);by_cases s:f.dr=true
  ·rw[au s];refine⟨⟨d,a,c,b⟩,?_,aA⟩;unfold oh;simp only[ig];omega
  ·rw[aj s];have A:=i f aA;have E:=A.c;obtain⟨j,x,l⟩:=ac6 (now+f.d) (kU f t) (f.c+1) H n a;have m:=ac7 (kU f t) (f.c+1) (now+f.d) H n a;have o:=SL (kU f t) (f.c+1) (now+f.d) H n a;have B:=asN f t;refine⟨⟨d,j,by simp only;omega,λy p=>?_⟩,?_,aA⟩
   ·rcases o y p with q|⟨q,-⟩
    ·exact b y q
    ·rw[q];omega
   ·have D:=(TM (kU f t)).2;have u:(f.c+1)*wT (kU f t)<=4*5:=Nat.mul_le_mul ah D;unfold oh;simp only[m,l,ig];omega
def jH(now:Int):We->Lk->Lk
 |[],k=>k
 |t::r,k=>jH now r (nV now (jw t) k)
noncomputable def wW:We->Nat
 |[]=>0
 |x::r=>1+wT (jw x)+wW r
def V4{t:Q2}(h:t.length<=65536):(jw t).length<=70000:=by have a:=Pj 3 t.length ah ah;rw[aaN];omega
def Tc{now:Int}:∀(T:We){k:Lk},yV k->(∀t∈T,t.length<=65536)->yV (jH now T k)/\oh (jH now T k)<=oh k+wW T/\(jH now T k).f.length<=k.f.length
 |[],k,a,_=>⟨a,by simp[jH,wW],dK _⟩
 |t::r,k,a,b=>by obtain⟨h1,e,f⟩:=Yc (now:=now) a (V4 (b t aA));obtain⟨c,g,h⟩:=Tc (now:=now) r h1 (λu d=>b u (by simp[d]));exact⟨c,by simp only[jH,wW];omega,by simp only[jH];omega⟩
def ag5(t:Q2):Int:=if(lC t).2.2=0 then 10 else(lC t).2.2
def nC(i:Nat)(t:Q2)(x:Pr):Pr:=
 if(lC t).2.2=0/\¬(lC t).2.1<t.length then
  (if i=0 then {x with s0:=(fC (lC t).1 x.s0).1,k0:=jH x.now (fC (lC t).1 x.s0).2.1 x.k0,rc:=x.rc++[(x.now,0,(fC (lC t).1 x.s0).2.2)]}
   else {x with s1:=(fC (lC t).1 x.s1).1,k1:=jH x.now (fC (lC t).1 x.s1).2.1 x.k1,rc:=x.rc++[(x.now,1,(fC (lC t).1 x.s1).2.2)]})
 else {x with rc:=x.rc++[(x.now,(i:Int),ag5 t)]}
structure gI(x:Pr):Prop where
 s0:kS x.s0
 s1:kS x.s1
 k0:yV x.k0
 k1:yV x.k1
 now:0<=x.now
noncomputable def dS (x:Pr):Nat:=oh x.k0+oh x.k1+x.rc.length
def X8{b:aQ}{v:Int}{u:Q2}(h:u∈kD b v)(c:b.kind=2\/b.kind=7\/b.kind=8):u.length<=65536/\tZ [2,7,8] u:=by obtain⟨d,f⟩:=Fg h ah ah;exact⟨f,Oa d λk a=>by rw[jI.1 a];rcases c with e|e|e<;>rw[e]<;>simp⟩
def JG(t:Q2)(s:bY):∀u∈(fC t s).2.1,u.length<=65536/\tZ [2,7,8] u:=by
 intro u a;unfold fC at a;split at a;rotate_left
 ·cases a
 unfold wJ at a;split at a
 ·unfold mg at a;repeat' split at a
  all_goals first|(cases a;done)|exact X8 a (.inl rfl)|exact X8 a (.inr (.inr rfl))
 split at a
 ·unfold Bl at a;repeat' split at a
  all_goals cases a
 split at a
 ·unfold mM at a;split at a;rotate_left
  ·cases a
  simp only at a;split at a
  ·cases a
  next c=>
  rcases adT (gK (iW t (jr s)).1 (iW t (jr s)).2.1 s.vs) s.vs (iW t (jr s)).1.kind (iW t (jr s)).1.epoch (iW t (jr s)).1.base (iW t (jr s)).1.t s.sm s.h with e|e|e
  ·exact absurd e c
  ·exact X8 a (.inr (.inl e))
  ·exact X8 a (.inr (.inr e))
 split at a
 ·unfold qH at a;split at a<;>cases a
 split at a
 ·unfold noS at a;repeat' split at a
  all_goals cases a
 ·cases a
def ah5{t:Q2}{s:bY}(h:tZ [2,7,8] t):(fC t s).2.1=[]:=by
 unfold fC;split;rotate_left
 ·rfl
 next e=>
 have a:=h _ e;have a:(iW t (jr s)).1.kind=2\/(iW t (jr s)).1.kind=7\/(iW t (jr s)).1.kind=8:=by simpa using a
 unfold wJ;rw[dL];split
 ·unfold Bl;repeat' split
  all_goals rfl
 rw[dL];split
 ·unfold qH;split<;>rfl
 split
 ·unfold noS;repeat' split
  all_goals rfl
 ·rfl
def XU{t:Q2}{s:bY}:wW (fC t s).2.1<=3:=by
 have a:=aa3 t s;have b:=JG t s;generalize(fC t s).2.1=c at *;match c,a with
 |[],_=>simp[wW]
 |[u],_=>
  obtain⟨d,e⟩:=b u aA;have f:Dead (jw u):=by intro _ _;rw[akg d];exact e
  simp only[wW,amV f];omega
def Vr{i:Nat}{t:Q2}{x:Pr}(a:gI x):gI (nC i t x)/\dS (nC i t x)+1<=dS x+wT t:=by
 have m:=TM t;unfold nC;by_cases c:(lC t).2.2=0/\¬(lC t).2.1<t.length;rotate_left
 ·rw[aj c];refine⟨⟨a.s0,a.s1,a.k0,a.k1,a.now⟩,?_⟩;unfold dS;simp only[dM,ig,kF];omega
 rw[au c];have h:=@XU (lC t).1 x.s0;have j:=@XU (lC t).1 x.s1;by_cases b:Dead t
 ·have g:=b c.1 c.2;rw[amV b];rw[ah5 g,ah5 g];split
  ·refine⟨⟨NT a.s0,a.s1,a.k0,a.k1,a.now⟩,?_⟩;unfold dS;simp only[jH,dM,ig,kF];omega
  ·refine⟨⟨a.s0,NT a.s1,a.k0,a.k1,a.now⟩,?_⟩;unfold dS;simp only[jH,dM,ig,kF];omega
 ·rw[aFA b];split
  ·obtain⟨d,k,l⟩:=Tc (now:=x.now) (fC (lC t).1 x.s0).2.1 a.k0 (λu f=>(JG _ _ u f).1);refine⟨⟨NT a.s0,a.s1,d,a.k1,a.now⟩,?_⟩;unfold dS;simp only[dM,ig,kF];omega
  ·obtain⟨d,k,l⟩:=Tc (now:=x.now) (fC (lC t).1 x.s1).2.1 a.k1 (λu f=>(JG _ _ u f).1);refine⟨⟨a.s0,NT a.s1,a.k0,d,a.now⟩,?_⟩;unfold dS;simp only[dM,ig,kF];omega
def VB(t:Int):∀(m:Nat)(h:List It),h.length=m->Heap h h.length->wQ h=wS (fQ m t h).1+wQ (fQ m t h).2/\(∀y∈(fQ m t h).2,y∈h)/\(∀u∈(fQ m t h).1,∃y∈h,y.2.2=u)
 |0,h,b,c=>by obtain rfl:=aeK.1 b;exact⟨rfl,λy a=>a,λu hu=>by cases hu⟩
 |m+1,h,b,c=>by
  unfold fQ;split
  ·exact⟨by simp[wS],λy a=>a,λu hu=>by cases hu⟩
  ·obtain⟨r1,r2,r3,-⟩:=XV h m b (by rw[<-b];exact c);obtain⟨i,d,f⟩:=VB t m (oD h) r1 (by rw[r1];exact r2);have g:=amU r3;simp only[wQ]at g;refine⟨?_,λy a=>r3.mem_iff.1 (yU _ (d y a)),λu hu=>?_⟩
   ·simp only[wS];omega
   ·rcases bJ.1 hu with e|hu
    ·exact⟨at_ h 0,r3.mem_iff.1 PD,e.symm⟩
    ·obtain⟨y,a,e⟩:=f u hu;exact⟨y,r3.mem_iff.1 (yU _ a),e⟩
def rE(i:Nat):We->Pr->Pr
 |[],x=>x
 |t::r,x=>rE i r (nC i t x)
def aak{i:Nat}:∀(T:We){x:Pr},gI x->gI (rE i T x)/\dS (rE i T x)+T.length<=dS x+wS T
 |[],x,a=>⟨a,by simp[rE,wS]⟩
 |t::r,x,a=>by obtain⟨h1,c⟩:=Vr (i:=i) (t:=t) a;obtain⟨b,d⟩:=aak (i:=i) r h1;refine⟨b,?_⟩;simp only[rE,wS,ig];omega
def Aa(x:Pr):Pr:={x with k0:={x.k0 with h:=(fQ x.k0.h.length x.now x.k0.h).2}}
def Bf(x:Pr):Pr:={x with k1:={x.k1 with h:=(fQ x.k1.h.length x.now x.k1.h).2}}
def Nu{k:Lk}(t:Int)(a:yV k):yV {k with h:=(fQ k.h.length t k.h).2}/\oh {k with h:=(fQ k.h.length t k.h).2}+wS (fQ k.h.length t k.h).1=oh k/\∀u∈(fQ k.h.length t k.h).1,u.length<=70000:=by
 obtain⟨i,c,d⟩:=VB t k.h.length k.h rfl a.h;have f:=(VA t k.h.length k.h rfl a.h).1;refine⟨⟨a.f,f,a.n,λy b=>a.t y (c y b)⟩,?_,λu g=>?_⟩
 ·unfold oh;simp only;omega
 ·obtain⟨y,b,e⟩:=d u g;rw[<-e];exact a.t y b
def yE(x:Pr):Pr:=rE 1 (fQ x.k0.h.length x.now x.k0.h).1 (Aa x)
def zl(x:Pr):Pr:=rE 0 (fQ x.k1.h.length x.now x.k1.h).1 (Bf x)
def uT(x:Pr):Pr:=zl (yE x)
def ah0{x:Pr}(a:gI x):gI (yE x)/\dS (yE x)+(fQ x.k0.h.length x.now x.k0.h).1.length<=dS x:=by
 obtain⟨d1,d2,d3⟩:=Nu x.now a.k0;obtain⟨b,c⟩:=aak (i:=1) (fQ x.k0.h.length x.now x.k0.h).1 (x:=Aa x) ⟨a.s0,a.s1,d1,a.k1,a.now⟩;refine⟨b,?_⟩;have e:dS (Aa x)+wS (fQ x.k0.h.length x.now x.k0.h).1=dS x:=by unfold dS Aa;simp only;omega
 unfold yE;omega
def avb{x:Pr}(a:gI x):gI (zl x)/\dS (zl x)+(fQ x.k1.h.length x.now x.k1.h).1.length<=dS x:=by
 obtain⟨d1,d2,d3⟩:=Nu x.now a.k1;obtain⟨b,c⟩:=aak (i:=0) (fQ x.k1.h.length x.now x.k1.h).1 (x:=Bf x) ⟨a.s0,a.s1,a.k0,d1,a.now⟩;refine⟨b,?_⟩;have e:dS (Bf x)+wS (fQ x.k1.h.length x.now x.k1.h).1=dS x:=by unfold dS Bf;simp only;omega
 unfold zl;omega
def aag(i:Nat)(t:Q2)(x:Pr):(nC i t x).now=x.now:=by
 unfold nC;split
 ·split<;>rfl
 ·rfl
def aaj(i:Nat):∀(T:We)(x:Pr),(rE i T x).now=x.now
 |[],x=>rfl
 |t::r,x=>(aaj i r _).trans (aag i t x)
def ahZ(x:Pr):(yE x).now=x.now:=aaj 1 _ _
def ah2(x:Pr):(zl x).now=x.now:=aaj 0 _ _
def Vb(x:Pr):(uT x).now=x.now:=(ah2 _).trans (ahZ x)
def nextL(h:List It):Option Int:=if h=[]then none else some (at_ h 0).1
def oO(x:Pr):Option Int:=match nextL x.k0.h,nextL x.k1.h with
 |some a,some b=>some (if b<a then b else a)
 |some a,none=>some a
 |none,o=>o
def agZ{h:List It}{a t:Int}(b:nextL h=some a)(d:a<=t):(fQ h.length t h).1≠[]:=by
 unfold nextL at b;split at b
 ·cases b
 next c=>
 injection b with b
 cases h with
 |nil=>exact absurd rfl c
 |cons y r=>simp only[ig];unfold fQ;rw[aj (λe=>e.elim (λe=>by cases e) (λe=>ah))];simp
def vJ:Nat->Pr->Pr
 |0,x=>x
 |f+1,x=>match oO x with
  |none=>x
  |some a=>if a<=x.now then vJ f (uT x)else x
def asV{h:List It}{t:Int}(b:∀a,nextL h=some a->t<a):fQ h.length t h=([],h):=by
 cases d:h.length with
 |zero=>rfl
 |succ m=>
  unfold fQ;rw[au];by_cases c:h=[]
  ·exact .inl c
  ·exact .inr (b _ (by unfold nextL;rw[aj c]))
def ZW{x:Pr}(k:gI x){a:Int}(d:oO x=some a)(l:a<=x.now):gI (uT x)/\dS (uT x)<dS x:=by
 obtain⟨m,u⟩:=ah0 k;obtain⟨n,o⟩:=avb m;refine⟨n,?_⟩;unfold uT;by_cases c:(fQ x.k0.h.length x.now x.k0.h).1=[]
 rotate_left
 ·have:=LY.2 c;omega
 have i:∀a,nextL x.k0.h=some a->x.now<a:=λa h=>by
  rcases aev x.now a with q|q
  ·exact q
  ·exact absurd c (agZ h q)
 have p:yE x=x:=by have e:=asV i;unfold yE Aa;rw[e];rfl
 have r:∃b,nextL x.k1.h=some b/\b<=x.now:=by
  unfold oO at d;cases f:nextL x.k0.h with
  |none=>rw[f]at d;exact⟨a,d,l⟩
  |some s=>
   have:=i s f;rw[f]at d;cases j:nextL x.k1.h with
   |none=>rw[j]at d;injection d with d;omega
   |some b=>
    rw[j]at d;injection d with d
    refine⟨b,rfl,?_⟩;split at d<;>omega
 obtain⟨b,t,g⟩:=r;have:=LY.2 (agZ t g);rw[p]at o⊢;omega
def aln:∀(f:Nat){x:Pr},gI x->gI (vJ f x)/\dS (vJ f x)<=dS x/\(vJ f x).now=x.now
 |0,x,b=>⟨b,dK _,rfl⟩
 |f+1,x,b=>by
  unfold vJ;cases d:oO x with
  |none=>exact⟨b,dK _,rfl⟩
  |some a=>
   simp only;split
   ·next c=>
    obtain⟨h1,h⟩:=ZW b d c;obtain⟨e,i,g⟩:=aln f h1;exact⟨e,ah,g.trans (Vb x)⟩
   ·exact⟨b,dK _,rfl⟩
def run_end:∀(f:Nat){x:Pr},gI x->dS x<f->∀a,oO (vJ f x)=some a->x.now<a
 |0,x,g,h=>ah
 |f+1,x,g,h=>by
  intro a d;unfold vJ at d;cases e:oO x with
  |none=>rw[e]at d;simp only at d;rw[e]at d;cases d
  |some b=>
   rw[e]at d;simp only at d;split at d
   ·next c=>
    obtain⟨h1,i⟩:=ZW g e c;have:=run_end f h1 ah a d;rw[Vb]at this;exact this
   ·next c=>rw[e]at d;injection d with d;omega
noncomputable def uq (a:Int) (x:Pr):Pr:=vJ (dS x+1) {x with now:=if x.now+1<a then a else x.now+1}
noncomputable def wG:Nat->Int->Pr->Pr
 |0,_,x=>x
 |f+1,last,x=>if x.now<last then(match oO x with
   |none=>{x with now:=last}
   |some a=>if last<a then {x with now:=last}else wG f last (uq a x))else x
def aft{a:Int}{x:Pr}(c:gI x):gI (uq a x)/\dS (uq a x)<=dS x/\(uq a x).now=(if x.now+1<a then a else x.now+1)/\∀b,oO (uq a x)=some b->(uq a x).now<b:=by
 have d:gI {x with now:=if x.now+1<a then a else x.now+1}:=⟨c.s0,c.s1,c.k0,c.k1,by have:=c.now;simp only;split<;>omega⟩
 obtain⟨g,h,f⟩:=aln (dS x+1) d;have e:=run_end (dS x+1) d (show dS _<dS x+1 from Ce _);refine⟨g,h,f,λb i=>?_⟩;have:=e b i;rw[show(uq a x).now=_ from f];exact this
noncomputable def DU (n:Int) (x:Pr):Pr:=wG (n.toNat+1) (x.now+n) x
def go_ok:∀(f:Nat){last:Int}{x:Pr},gI x->(last-x.now).toNat<f->gI (wG f last x)/\dS (wG f last x)<=dS x/\(x.now<=last->(wG f last x).now=last)
 |0,last,x,b,g=>ah
 |f+1,last,x,b,g=>by
  unfold wG;split;rotate_left
  ·exact⟨b,dK _,λh=>ah⟩
  next c=>
  have e:gI {x with now:=last}:=⟨b.s0,b.s1,b.k0,b.k1,by have:=b.now;simp only;omega⟩
  cases m:oO x with
  |none=>exact⟨e,dK _,λ_=>rfl⟩
  |some a=>
   simp only;split
   ·exact⟨e,dK _,λ_=>rfl⟩
   ·next n=>
    obtain⟨i,o,j,-⟩:=aft (a:=a) b;have d:(uq a x).now<=last/\x.now<(uq a x).now:=by rw[j];split<;>omega
    obtain⟨k,p,l⟩:=go_ok f (last:=last) i ah;exact⟨k,ah,λ_=>l d.1⟩
def ai5{k:Lk}(a:yV k){B:Nat}(h:oh k<=B):k.h.length<=B/\k.n<=B/\k.f.length<=B:=by have b:=ad9 k.h;have c:=a.n;unfold oh at h;omega
def alD(x:Pr)(T:We)(p:T.length<=1000)(n:∀t∈T,t.length<=65536)(o:0<=x.now/\x.now<=800000000000):∀(m j:Nat)(k:Lk),j+m=T.length->yV k->oh k+wW (T.drop j)<=90000->
 TT.lim 134 ([.zq 0,.l (T.map .s),.zq (T.length:Int),.zq (j:Int)]++bU {x with k0:=k})=some (.zq 0::(dQ x.k1++dQ (jH x.now (T.drop j) k)))
 |0,j,k,q,b,e=>by have f:¬((j:Int)<T.length):=ah;rw[iE];simp only[jH,bU,dQ,cZ,bg,aW];refine aB ?_;simp -implicitDefEqProofs[f]
 |m+1,j,k,q,b,e=>by
  have a:j<T.length:=ah;have f:(j:Int)<T.length:=ah;have r:IntKind.i64.wrap ((j:Int)+1)=((j+1:Nat):Int):=by rw[wrap64 ah ah];omega
  have s:T.drop j=T[j]::T.drop (j+1):=iG a;have g:at2 1 (some (.l (T.map .s))) (some (.zq (j:Int)))=some (.s T[j]):=by rw[dA,lM,tY,iO,bV a];rfl
  have c:T[j]∈T:=gY a;rw[s]at e⊢;generalize T[j]=t at *;have d:=n t c;have h:=amZ t d;have i:=V4 d;simp only[wW]at e;obtain⟨w,y,z⟩:=ai5 b (B:=90000) ah;have u:=alH x.now (jw t) k b.f ah ah ⟨o.1,ah⟩ ah b.n ah b.h;obtain⟨v,A,D⟩:=Yc (now:=x.now) b i;have l:=alD x T p n o m (j+1) (nV x.now (jw t) k) ah v ah;rw[show jH x.now (t::T.drop (j+1)) k=jH x.now (T.drop (j+1)) (nV x.now (jw t) k)from rfl];generalize jH x.now (T.drop (j+1)) (nV x.now (jw t) k)=E at *;generalize nV x.now (jw t) k=R at *;generalize jw t=F at *;simp only[bU,dQ,cZ,bg,aW]at l⊢;rw[<-r]at l;generalize T.map GV.s=G,(T.length:Int)=H at *;refine aB ?_;simp -implicitDefEqProofs[f,g,h,u,l]
def alE(x:Pr)(T:We)(p:T.length<=1000)(n:∀t∈T,t.length<=65536)(o:0<=x.now/\x.now<=800000000000):∀(m j:Nat)(k:Lk),j+m=T.length->yV k->oh k+wW (T.drop j)<=90000->
 TT.lim 134 ([.zq 1,.l (T.map .s),.zq (T.length:Int),.zq (j:Int)]++bU {x with k1:=k})=some (.zq 0::(dQ (jH x.now (T.drop j) k)++dQ x.k0))
 |0,j,k,q,b,e=>by have f:¬((j:Int)<T.length):=ah;rw[iE];simp only[jH,bU,dQ,cZ,bg,aW];refine aB ?_;simp -implicitDefEqProofs[f]
 |m+1,j,k,q,b,e=>by
  have a:j<T.length:=ah;have f:(j:Int)<T.length:=ah;have r:IntKind.i64.wrap ((j:Int)+1)=((j+1:Nat):Int):=by rw[wrap64 ah ah];omega
  have s:T.drop j=T[j]::T.drop (j+1):=iG a;have g:at2 1 (some (.l (T.map .s))) (some (.zq (j:Int)))=some (.s T[j]):=by rw[dA,lM,tY,iO,bV a];rfl
  have c:T[j]∈T:=gY a;rw[s]at e⊢;generalize T[j]=t at *;have d:=n t c;have h:=amZ t d;have i:=V4 d;simp only[wW]at e;obtain⟨w,y,z⟩:=ai5 b (B:=90000) ah;have u:=alH x.now (jw t) k b.f ah ah ⟨o.1,ah⟩ ah b.n ah b.h;obtain⟨v,A,D⟩:=Yc (now:=x.now) b i;have l:=alE x T p n o m (j+1) (nV x.now (jw t) k) ah v ah;rw[show jH x.now (t::T.drop (j+1)) k=jH x.now (T.drop (j+1)) (nV x.now (jw t) k)from rfl];generalize jH x.now (T.drop (j+1)) (nV x.now (jw t) k)=E at *;generalize nV x.now (jw t) k=R at *;generalize jw t=F at *;simp only[bU,dQ,cZ,bg,aW]at l⊢;rw[<-r]at l;generalize T.map GV.s=G,(T.length:Int)=H at *;refine aB ?_;simp -implicitDefEqProofs[f,g,h,u,l]
def Ya(x:Pr)(b:gI x)(T:We)(c:T.length<=1000)(d:∀t∈T,t.length<=65536)(e:x.now<=800000000000)(f:oh x.k0+wW T<=90000):
 TT.lim 133 ([.zq 0,.l (T.map .s)]++bU x)=some (.zq 0::(dQ x.k1++dQ (jH x.now T x.k0))):=by
 have h:=alD x T c d ⟨b.now,e⟩ T.length 0 x.k0 ah b.k0 (by rw[dY];exact f);rw[dY]at h;have a:((T.map GV.s).length:Int)=(T.length:Int):=by rw[gG]
 generalize jH x.now T x.k0=E at *;simp only[bU,dQ,cZ,bg,aW,rY]at h⊢;generalize T.map GV.s=g,(T.length:Int)=i at *;refine aB ?_;simp -implicitDefEqProofs[a,h]
def Yb(x:Pr)(b:gI x)(T:We)(c:T.length<=1000)(d:∀t∈T,t.length<=65536)(e:x.now<=800000000000)(f:oh x.k1+wW T<=90000):
 TT.lim 133 ([.zq 1,.l (T.map .s)]++bU x)=some (.zq 0::(dQ (jH x.now T x.k1)++dQ x.k0)):=by
 have h:=alE x T c d ⟨b.now,e⟩ T.length 0 x.k1 ah b.k1 (by rw[dY];exact f);rw[dY]at h;have a:((T.map GV.s).length:Int)=(T.length:Int):=by rw[gG]
 generalize jH x.now T x.k1=E at *;simp only[bU,dQ,cZ,bg,aW,rY]at h⊢;generalize T.map GV.s=g,(T.length:Int)=i at *;refine aB ?_;simp -implicitDefEqProofs[a,h]
def UW{l:Xs}(e:Int×Int×Int)(h:l.length<=100000):Gl 3 24 (some (.l (l.map oZ))) (some (.l [oZ e]))=some (.l ((l++[e]).map oZ)):=by
 rw[nY,au]
 ·rw[nP];rfl
 ·refine⟨rfl,?_,?_⟩<;>simp only[gG,ig,kF]<;>omega
set_option maxHeartbeats 4000000 in
def ape(i:Nat)(hi:i=0\/i=1)(t:Q2)(x:Pr)(a:gI x)(D:t.length<=70000)(k:x.now<=800000000000)(z:dS x<=80000):
 TT.lim 161 (.s t::(bU x++[.zq (i:Int)]))=some (.zq 0::iF (nC i t x)):=by
 have l:=akf t ah;have r:=ayU t;unfold dS at z;have d:x.rc.length<=100000:=ah;unfold nC ag5;generalize lC t=P at *;obtain⟨p,n,e⟩:=P;simp only at l r⊢;by_cases q:e=0;rotate_left
 ·rw[aj (λh=>q h.1),aj q];have f:=UW (x.now,(i:Int),e) d;have c:TT.lim 133 ([.zq (i:Int),.l []]++bU {x with rc:=x.rc++[(x.now,(i:Int),e)]})=some (.zq 0::(dQ x.k1++dQ x.k0)):=by
   rcases hi with rfl|rfl
   ·exact Ya {x with rc:=x.rc++[(x.now,((0:Nat):Int),e)]} ⟨a.s0,a.s1,a.k0,a.k1,a.now⟩ [] aA (λt h=>by cases h) k (by simp only[wW];omega)
   ·exact Yb {x with rc:=x.rc++[(x.now,((1:Nat):Int),e)]} ⟨a.s0,a.s1,a.k0,a.k1,a.now⟩ [] aA (λt h=>by cases h) k (by simp only[wW];omega)
  simp only[bU,iF,dQ,cZ,kX,bg,aW]at c⊢;generalize(x.rc++[(x.now,(i:Int),e)]).map oZ=s at *;generalize(i:Int)=A at *;refine aB ?_;simp -implicitDefEqProofs[l,q,VF,f,c]
 subst q;by_cases m:n<t.length
 ·rw[aj (λh=>h.2 m),au rfl];have f:=UW (x.now,(i:Int),10) d;have c:TT.lim 133 ([.zq (i:Int),.l []]++bU {x with rc:=x.rc++[(x.now,(i:Int),10)]})=some (.zq 0::(dQ x.k1++dQ x.k0)):=by
   rcases hi with rfl|rfl
   ·exact Ya {x with rc:=x.rc++[(x.now,((0:Nat):Int),10)]} ⟨a.s0,a.s1,a.k0,a.k1,a.now⟩ [] aA (λt h=>by cases h) k (by simp only[wW];omega)
   ·exact Yb {x with rc:=x.rc++[(x.now,((1:Nat):Int),10)]} ⟨a.s0,a.s1,a.k0,a.k1,a.now⟩ [] aA (λt h=>by cases h) k (by simp only[wW];omega)
  simp only[bU,iF,dQ,cZ,kX,bg,aW]at c⊢;generalize(x.rc++[(x.now,(i:Int),10)]).map oZ=s at *;generalize(i:Int)=A at *;refine aB ?_;simp -implicitDefEqProofs[l,m,VF,f,c]
 rw[au ⟨rfl,m⟩];rcases hi with rfl|rfl
 ·rw[au rfl];have o:=ah6 p x.s0 ah a.s0;have b:=Wx p x.s0;have g:=NT (t:=p) a.s0;have v:=@XU p x.s0;have j:=JG p x.s0;have w:=aa3 p x.s0;generalize fC p x.s0=H at *;have f:=UW (x.now,0,H.2.2) d;have c:=Ya {x with s0:=H.1,rc:=x.rc++[(x.now,0,H.2.2)]} ⟨g,a.s1,a.k0,a.k1,a.now⟩ H.2.1 ah (λu y=>(j u y).1) k (by simp only;omega);simp only[bU,iF,dQ,cZ,kX,WB,bg,aW]at c o⊢;rw[b.1,b.2.1,b.2.2.1,b.2.2.2]at c;generalize jH x.now H.2.1 x.k0=K,(x.rc++[(x.now,0,H.2.2)]).map oZ=s,H.2.1.map GV.s=B at *;refine aB ?_;simp -implicitDefEqProofs[l,m,VF,o,f,c]
 ·rw[dL];have o:=ah6 p x.s1 ah a.s1;have b:=Wx p x.s1;have g:=NT (t:=p) a.s1;have v:=@XU p x.s1;have j:=JG p x.s1;have w:=aa3 p x.s1;generalize fC p x.s1=H at *;have f:=UW (x.now,1,H.2.2) d;have c:=Yb {x with s1:=H.1,rc:=x.rc++[(x.now,1,H.2.2)]} ⟨a.s0,g,a.k0,a.k1,a.now⟩ H.2.1 ah (λu y=>(j u y).1) k (by simp only;omega);simp only[bU,iF,dQ,cZ,kX,WB,bg,aW]at c o⊢;rw[b.1,b.2.1,b.2.2.1,b.2.2.2]at c;generalize jH x.now H.2.1 x.k1=K,(x.rc++[(x.now,1,H.2.2)]).map oZ=s,H.2.1.map GV.s=B at *;refine aB ?_;simp -implicitDefEqProofs[l,m,VF,o,f,c]
def aah(i:Nat)(t:Q2)(x:Pr):((nC i t x).s0.mn=x.s0.mn/\(nC i t x).s0.mx=x.s0.mx/\(nC i t x).s0.name=x.s0.name/\(nC i t x).s0.first=x.s0.first)/\((nC i t x).s1.mn=x.s1.mn/\(nC i t x).s1.mx=x.s1.mx/\(nC i t x).s1.name=x.s1.name/\(nC i t x).s1.first=x.s1.first):=by
 unfold nC;split
 ·split
  ·exact⟨Wx _ _,rfl,rfl,rfl,rfl⟩
  ·exact⟨⟨rfl,rfl,rfl,rfl⟩,Wx _ _⟩
 ·exact⟨⟨rfl,rfl,rfl,rfl⟩,rfl,rfl,rfl,rfl⟩
structure Fix(x y:Pr):Prop where
 a:y.s0.mn=x.s0.mn/\y.s0.mx=x.s0.mx/\y.s0.name=x.s0.name/\y.s0.first=x.s0.first
 b:y.s1.mn=x.s1.mn/\y.s1.mx=x.s1.mx/\y.s1.name=x.s1.name/\y.s1.first=x.s1.first
def Fix.refl(x:Pr):Fix x x:=⟨⟨rfl,rfl,rfl,rfl⟩,rfl,rfl,rfl,rfl⟩
def Fix.trans{x y z:Pr}(h:Fix x y)(g:Fix y z):Fix x z:=
 ⟨⟨g.a.1.trans h.a.1,g.a.2.1.trans h.a.2.1,g.a.2.2.1.trans h.a.2.2.1,g.a.2.2.2.trans h.a.2.2.2⟩,⟨g.b.1.trans h.b.1,g.b.2.1.trans h.b.2.1,g.b.2.2.1.trans h.b.2.2.1,g.b.2.2.2.trans h.b.2.2.2⟩⟩
def aai(i:Nat):∀(T:We)(x:Pr),Fix x (rE i T x)
 |[],x=>Fix.refl x
 |t::r,x=>Fix.trans ⟨(aah i t x).1,(aah i t x).2⟩ (aai i r _)
def ahY(x:Pr):Fix x (yE x):=Fix.trans (y:=Aa x) ⟨⟨rfl,rfl,rfl,rfl⟩,rfl,rfl,rfl,rfl⟩ (aai 1 _ (Aa x))
def ah1(x:Pr):Fix x (zl x):=Fix.trans (y:=Bf x) ⟨⟨rfl,rfl,rfl,rfl⟩,rfl,rfl,rfl,rfl⟩ (aai 0 _ (Bf x))
def afZ(x:Pr):Fix x (uT x):=(ahY x).trans (ah1 _)
def alk:∀(f:Nat)(x:Pr),Fix x (vJ f x)
 |0,x=>Fix.refl x
 |f+1,x=>by
  unfold vJ;cases oO x with
  |none=>exact Fix.refl x
  |some a=>
   simp only;split
   ·exact(afZ x).trans (alk f _)
   ·exact Fix.refl x
def afu(a:Int)(x:Pr):Fix x (uq a x):=Fix.trans (y:={x with now:=if x.now+1<a then a else x.now+1}) ⟨⟨rfl,rfl,rfl,rfl⟩,rfl,rfl,rfl,rfl⟩ (alk _ _)
def ahQ:∀(f:Nat)(last:Int)(x:Pr),Fix x (wG f last x)
 |0,last,x=>Fix.refl x
 |f+1,last,x=>by
  unfold wG;split;rotate_left
  ·exact Fix.refl x
  cases oO x with
  |none=>exact⟨⟨rfl,rfl,rfl,rfl⟩,rfl,rfl,rfl,rfl⟩
  |some a=>
   simp only;split
   ·exact⟨⟨rfl,rfl,rfl,rfl⟩,rfl,rfl,rfl,rfl⟩
   ·exact(afu a x).trans (ahQ f last _)
def aal(i:Nat)(hi:i=0\/i=1)(T:We)(q:T.length<=100000)(o:∀t∈T,t.length<=70000):∀(m j:Nat)(x:Pr),j+m=T.length->gI x->x.now<=800000000000->dS x+wS (T.drop j)<=80000->
 TT.lim 160 ([.zq (1-(i:Int)),.l (T.map .s),.zq (T.length:Int),.zq (j:Int)]++bU x)=some (.zq 0::iF (rE i (T.drop j) x))
 |0,j,x,r,e,f,g=>by have h:¬((j:Int)<T.length):=ah;rw[iE];simp only[rE,bU,iF,dQ,cZ,kX,bg,aW];refine aB ?_;simp -implicitDefEqProofs[h]
 |m+1,j,x,r,e,f,g=>by
  have b:j<T.length:=ah;have h:(j:Int)<T.length:=ah;have s:IntKind.i64.wrap ((j:Int)+1)=((j+1:Nat):Int):=by rw[wrap64 ah ah];omega
  have u:T.drop j=T[j]::T.drop (j+1):=iG b;have k:at2 1 (some (.l (T.map .s))) (some (.zq (j:Int)))=some (.s T[j]):=by rw[dA,lM,tY,iO,bV b];rfl
  have c:EL (some (.l (T.map .s))) (some (.zq (j:Int)))=some (.zq (j:Int)):=by rw[jQ,au ⟨ah,by rw[gG];omega⟩]
  have d:T[j]∈T:=gY b;rw[u]at g⊢;generalize T[j]=t at *;simp only[wS]at g;have v:=TM t;have p:=ape i hi t x e (o t d) f ah;obtain⟨w,z⟩:=Vr (i:=i) (t:=t) e;have l:=aal i hi T q o m (j+1) (nC i t x) ah w (by rw[aag];exact f) ah;have a:=aah i t x;have n:=aag i t x;have y:IntKind.i64.wrap (1-(1-(i:Int)))=(i:Int):=by rcases hi with rfl|rfl<;>rfl
  rw[show rE i (t::T.drop (j+1)) x=rE i (T.drop (j+1)) (nC i t x)from rfl];generalize rE i (T.drop (j+1)) (nC i t x)=E at *;generalize nC i t x=Y at *;simp only[bU,iF,dQ,cZ,kX,bg,aW]at p l⊢;rw[n,a.1.1,a.1.2.1,a.1.2.2.1,a.1.2.2.2,a.2.1,a.2.2.1,a.2.2.2.1,a.2.2.2.2,<-s]at l;generalize T.map GV.s=A,(T.length:Int)=B,(j:Int)=D at *;refine aB ?_;simp -implicitDefEqProofs[-jQ,-dA,h,k,c,y,p,l]
set_option maxHeartbeats 4000000 in
def aos(x:Pr)(m:gI x)(n:x.now<=800000000000)(o:dS x<=80000):TT.lim 152 (bU x)=some (.zq 0::iF (uT x)):=by
 have w1:IntKind.i64.wrap 1=1:=rfl;have p:IntKind.i64.wrap 2=2:=rfl;have fin:∀y:Pr,TT.lim 153 (.zq 2::bU y)=some (.zq 0::iF y):=by intro y;simp only[bU,iF,dQ,cZ,kX,bg,aW];refine aB ?_;simp
 have one:∀y:Pr,gI y->y.now<=800000000000->dS y<=80000->TT.lim 153 (.zq 1::bU y)=some (.zq 0::iF (zl y)):=by
  intro y c k l;obtain⟨d1,d2,d3⟩:=Nu y.now c.k1;have q:=ad9 y.k1.h;have d:oh y.k1<=80000:=by unfold dS at l;omega
  have i:=agY y.now (.zu y.k1.n) y.k1.h (by unfold oh at d;omega) c.k1.h;have j:(fQ y.k1.h.length y.now y.k1.h).1.length<=100000:=by have:=(VA y.now y.k1.h.length y.k1.h rfl c.k1.h).2;unfold oh at d;omega
  have a:=aal 0 (.inl rfl) (fQ y.k1.h.length y.now y.k1.h).1 j d3 (fQ y.k1.h.length y.now y.k1.h).1.length 0 (Bf y) ah ⟨c.s0,c.s1,c.k0,d1,c.now⟩ k (by rw[dY];unfold dS Bf at *;simp only at *;omega)
  rw[dY]at a;have e:=fin (zl y);have b:=ah1 y;have g:=ah2 y;rw[show rE 0 (fQ y.k1.h.length y.now y.k1.h).1 (Bf y)=zl y from rfl]at a;generalize zl y=E at *;unfold Bf at a;generalize fQ y.k1.h.length y.now y.k1.h=D at *;have f:((D.1.map GV.s).length:Int)=(D.1.length:Int):=by rw[gG]
  have a:TT.lim 160 ([.zq 1,.l (D.1.map .s),.zq (D.1.length:Int),.zq 0]++bU {y with k1:={y.k1 with h:=D.2}})=some (.zq 0::iF E):=a;simp only[bU,iF,dQ,cZ,kX,bg,aW]at a e⊢;rw[g,b.a.1,b.a.2.1,b.a.2.2.1,b.a.2.2.2,b.b.1,b.b.2.1,b.b.2.2.1,b.b.2.2.2]at e;generalize D.1.map GV.s=r,(D.1.length:Int)=s at *;refine aB ?_;simp -implicitDefEqProofs[p,i,f,a,e]
 have zero:∀y:Pr,gI y->y.now<=800000000000->dS y<=80000->TT.lim 153 (.zq 0::bU y)=some (.zq 0::iF (uT y)):=by
  intro y c k l;obtain⟨d1,d2,d3⟩:=Nu y.now c.k0;have q:=ad9 y.k0.h;have d:oh y.k0<=80000:=by unfold dS at l;omega
  have i:=agY y.now (.zu y.k0.n) y.k0.h (by unfold oh at d;omega) c.k0.h;have j:(fQ y.k0.h.length y.now y.k0.h).1.length<=100000:=by have:=(VA y.now y.k0.h.length y.k0.h rfl c.k0.h).2;unfold oh at d;omega
  have a:=aal 1 (.inr rfl) (fQ y.k0.h.length y.now y.k0.h).1 j d3 (fQ y.k0.h.length y.now y.k0.h).1.length 0 (Aa y) ah ⟨c.s0,c.s1,d1,c.k1,c.now⟩ k (by rw[dY];unfold dS Aa at *;simp only at *;omega)
  rw[dY]at a;obtain⟨t,u⟩:=ah0 c;have g:=ahZ y;have e:=one (yE y) t (by rw[g];exact k) ah;have b:=ahY y;rw[show zl (yE y)=uT y from rfl]at e;rw[show rE 1 (fQ y.k0.h.length y.now y.k0.h).1 (Aa y)=yE y from rfl]at a;generalize uT y=C,yE y=E at *;unfold Aa at a;generalize fQ y.k0.h.length y.now y.k0.h=D at *;have f:((D.1.map GV.s).length:Int)=(D.1.length:Int):=by rw[gG]
  have a:TT.lim 160 ([.zq 0,.l (D.1.map .s),.zq (D.1.length:Int),.zq 0]++bU {y with k0:={y.k0 with h:=D.2}})=some (.zq 0::iF E):=a;simp only[bU,iF,dQ,cZ,kX,bg,aW]at a e⊢;rw[g,b.a.1,b.a.2.1,b.a.2.2.1,b.a.2.2.2,b.b.1,b.b.2.1,b.b.2.2.1,b.b.2.2.2]at e;generalize D.1.map GV.s=r,(D.1.length:Int)=s at *;refine aB ?_;simp -implicitDefEqProofs[w1,i,f,a,e]
 have h:=zero x m n o;generalize uT x=C at *;simp only[bU,iF,dQ,cZ,kX,bg,aW]at h⊢;refine aB ?_;simp -implicitDefEqProofs[h]
def Si(x:Pr):Int:=(oO x).getD 0
def ajU(x:Pr):(x.k0.h=[]/\x.k1.h=[]/\oO x=none)\/(∃n,x.k0.h.length=n+1/\x.k1.h=[]/\oO x=some (at_ x.k0.h 0).1)\/(∃n,x.k0.h=[]/\x.k1.h.length=n+1/\oO x=some (at_ x.k1.h 0).1)\/
 (∃n m,x.k0.h.length=n+1/\x.k1.h.length=m+1/\oO x=some (if(at_ x.k1.h 0).1<(at_ x.k0.h 0).1 then(at_ x.k1.h 0).1 else(at_ x.k0.h 0).1)):=by
 unfold oO nextL;cases b:x.k0.h with
 |nil=>
  cases a:x.k1.h with
  |nil=>exact .inl ⟨rfl,rfl,rfl⟩
  |cons y r=>exact .inr (.inr (.inl ⟨r.length,rfl,rfl,rfl⟩))
 |cons z q=>
  cases a:x.k1.h with
  |nil=>exact .inr (.inl ⟨q.length,rfl,rfl,rfl⟩)
  |cons y r=>exact .inr (.inr (.inr ⟨q.length,r.length,rfl,rfl,rfl⟩))
