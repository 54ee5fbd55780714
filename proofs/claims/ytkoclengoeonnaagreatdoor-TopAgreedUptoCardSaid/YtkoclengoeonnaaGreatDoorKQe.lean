/- What the trees compute: plain laws. -/
import Derived.Test.YtkoclengoeonnaaGreatDoorKQe9
set_option linter.all false
namespace Go.Proofs.YtkoclengoeonnaaGreatDoor
open Go Go.aP
set_option maxRecDepth 100000
namespace Q
def Cont(V:Int)(xs:Q1)(a:Bool)(h:Sn)(t:Q0):Prop:=∀m b,kH t V=(m,b,0)->((m.kind=5\/m.kind=6)->Q9 xs (m.kind,m.epoch,m.base,m.t))/\(m.kind=7->a=true/\m.epoch<=h.1)
def Cont.mono{V:Int}{xs b:Q1}{d a:Bool}{h f:Sn}{t:Q0}(c:Cont V xs d h t)(i:∀m,Q9 xs m->Q9 b m)(j:d=true->a=true)(l:h.1<=f.1):Cont V b a f t:=λm n e=>by obtain⟨o,g⟩:=c m n e;exact⟨λk=>i _ (o k),λk=>⟨j (g k).1,Xu (g k).2 l⟩⟩
def Di.nil{xs:Q1}{told:List Tm}{back:List An}{k:List Sn}{b:Int}{c:Bool}{h:Sn}(f:Di xs told back k b c h):Di xs [] [] k b c h:=
 ⟨f.lead,f.keys,(λm d=>by cases d),(λa e=>by cases e),f.has,f.base,f.zero⟩
def W0(V:Int)(xs:Q1)(x:Pr)(f:Q0):Prop:=∃t,f=fG t/\AZ x.s0 t/\Cont V xs x.s0.sm x.s0.h t
def W1(V:Int)(a:Q1)(x:Pr)(f:Q0):Prop:=∃t,f=fG t/\Hy V x.s0 x.s1 t/\Cont V a x.s1.sm x.s1.h t
structure PL(x y:Pr):Prop where
 l:nP x.s0 x.s1 y.s0 y.s1
 h0:x.s0.h.1<=y.s0.h.1
 m0:x.s0.sm=true->y.s0.sm=true
 h1:x.s1.h.1<=y.s1.h.1
 m1:x.s1.sm=true->y.s1.sm=true
def PL.trans{x y z:Pr}(a:PL x y)(b:PL y z):PL x z:=⟨a.l.trans b.l,Xu a.h0 b.h0,λe=>b.m0 (a.m0 e),Xu a.h1 b.h1,λe=>b.m1 (a.m1 e)⟩
def PL.w0{V:Int}{xs:Q1}{x y:Pr}(p:PL x y){f:Q0}(w:W0 V xs x f):W0 V xs y f:=by obtain⟨t,e,h,c⟩:=w;exact⟨t,e,p.l.tp h,c.mono (λ_ h=>h) p.m0 p.h0⟩
def PL.w1{V:Int}{a:Q1}{x y:Pr}(p:PL x y){f:Q0}(w:W1 V a x f):W1 V a y f:=by obtain⟨t,e,h,c⟩:=w;exact⟨t,e,p.l.tq h,c.mono (λ_ h=>h) p.m1 p.h1⟩
def aic{t:Q0}(h:t.length<=65536):((iV (fG t)).2.2=0/\¬(iV (fG t)).2.1<(fG t).length)/\(iV (fG t)).1=t:=by rw[aib h];exact⟨⟨rfl,Int.lt_irrefl _⟩,rfl⟩
def apX(x:Pr)(b:iW x):TT.lim 223 (eY x)=some [.zq 0,.zu x.s0.h.1,.l (x.s0.h.2.map row),.l (x.s0.k.map sn)]:=by have a:=ajo x.s0 b.s0;simp only[eY,fU,eG,bI,bf]at a⊢;refine aB ?_;simp -implicitDefEqProofs[a]
def apY(x:Pr)(b:iW x):TT.lim 228 (eY x)=some [.zq 0,.zu x.s1.h.1,.l (x.s1.h.2.map row),.l (x.s1.k.map sn)]:=by have a:=ajo x.s1 b.s1;simp only[eY,fU,eG,bI,bf]at a⊢;refine aB ?_;simp -implicitDefEqProofs[a]
def awK(e:Int)(x:Pr):(jA e x).rc=x.rc/\(jA e x).s0.ver=x.s0.ver/\(jA e x).s0.vs=x.s0.vs/\(jA e x).s0.sm=x.s0.sm/\(jA e x).s0.h=x.s0.h/\(jA e x).s0.k=x.s0.k/\(jA e x).s0.b=x.s0.b/\(jA e x).s1.ver=x.s1.ver/\(jA e x).s1.vs=x.s1.vs/\(jA e x).s1.sm=x.s1.sm/\(jA e x).s1.h=x.s1.h/\(jA e x).s1.k=x.s1.k/\(jA e x).s1.b=x.s1.b/\(jA e x).now=x.now:=by
 unfold jA tu;split
 ·simp
 split
 ·simp
 ·simp
def awJ(e:Int)(x:Pr):Fix x (jA e x):=by
 unfold jA;split
 ·exact⟨⟨rfl,rfl,rfl,rfl⟩,rfl,rfl,rfl,rfl⟩
 split
 ·exact⟨⟨rfl,rfl,rfl,rfl⟩,rfl,rfl,rfl,rfl⟩
 ·exact Fix.refl x
def aAK(n:Int)(x:Pr):Fix x (Az n x):=agb _ _ _
def yJ(f:Q0):Prop:=¬((iV f).2.2=0/\¬(iV f).2.1<f.length)
def J9(T:Q0)(k:Lk):Prop:=∀f∈k.f,gG f T=T\/yJ (gG f T)
def NW(T:Q0)(k:Lk):Prop:=∀y∈k.h,y.2.2=T\/yJ y.2.2
def avZ(s:Q0):(iV s).2.1<=(s.length:Int):=by
 unfold iV;split
 ·exact Kt _
 next c=>
 split
 ·exact Kt _
 next a=>
 split
 ·exact Kt _
 split
 ·exact Kt _
 next b=>
 split;rotate_left
 ·exact Kt _
 have v:=kF (Classical.not_not.1 a);have d:fJ (aF (s.drop 2)).1=min (aF (s.drop 2)).2.1 (s.drop 2).length:=by have:=uH List.length v.put;rwa [kG]at this
 have e:=v.len;rw[fF]at b;simp only;omega
def alu{t:Q0}(h:¬((iV t).2.2=0/\(iV t).2.1=t.length)):yJ t:=λc=>by have:=avZ t;exact h ⟨c.1,ah⟩
def azS{now:Int}{T:Q0}{k:Lk}(e:xQ k)(c:J9 T k)(hi:NW T k):J9 T (lY now T k)/\NW T (lY now T k):=by
 obtain⟨i,H,n⟩:=k;have a:=e.h;simp only at a;cases i with
 |nil=>
  refine⟨(λf h=>by cases h),λy b=>?_⟩;rcases Qs T 1 now H n a y b with q|q
  ·exact hi y q
  ·exact .inl q.1
 |cons f r=>
  unfold lY;simp only;have d:∀g∈r,gG g T=T\/yJ (gG g T):=λg j=>c g (by simp[j]);split
  ·exact⟨d,λy b=>hi y b⟩
  ·refine⟨d,λy b=>?_⟩;rcases Qs (gG f T) (f.c+1) (now+f.d) H n a y b with q|⟨q,-⟩
   ·exact hi y q
   ·rw[q];exact c f aA
def abO{now:Int}{t:Q0}(c:t.length<=65536):∀(L:We){k:Lk},xQ k->J9 (fG t) k->NW (fG t) k->(∀u∈L,u=t)->J9 (fG t) (jP now L k)/\NW (fG t) (jP now L k)
 |[],k,a,b,hi,_=>⟨b,hi⟩
 |u::r,k,a,b,hi,d=>by have e:u=t:=d u aA;rw[e];obtain⟨f,-,-⟩:=V8 (now:=now) a (LP c);obtain⟨g,h⟩:=azS (now:=now) a b hi;exact abO c r f g h (λv i=>d v (by simp[i]))
def su(V:Int)(ok:Bool):Q0:=if ok=true then Dx V else Gw
def Sm(V:Int)(ok:Bool):(su V ok).length<=65536:=by
 unfold su Dx Gw;split
 ·exact FQ _ _ _
 ·exact FQ _ _ _
def UE(a c:Int):(helloT a c).length<=65536:=FQ _ _ _
def avP{V:Int}{ok:Bool}{p q:dh}(h:nC V ok p q)(g:q.st=2\/q.st=3):Hy V p q (su V ok)/\(dZ (su V ok) p).2.1=[]/\(dZ (su V ok) p).1.k=p.k:=by
 have a:=Sm V ok;unfold Hy;unfold su at a⊢;rcases g with f|q3
 ·obtain⟨e,-⟩:=h.q2 f;rw[au e]at a⊢;refine⟨⟨a,.inl ⟨rfl,f⟩⟩,?_⟩;by_cases d:p.st=1
  ·rw[ah9 h f d];exact⟨rfl,rfl⟩
  ·have i:qY [2] (Dx V):=by obtain⟨o,r,j,k⟩:=h.JY e;exact(Nh (b:=oW V Gt) (v:=1) (by rw[RZ j k];simp) (by simp[oW]) (by simp[oW])).1
   obtain⟨s,l⟩:=still i d;rw[l];exact⟨rfl,rfl⟩
 ·have e:=h.q3 q3;rw[aj (by rw[e];simp)]at a⊢;refine⟨⟨a,.inr (.inl ⟨rfl,q3⟩)⟩,?_⟩;by_cases d:p.st=1
  ·rw[aia h q3 d];exact⟨rfl,rfl⟩
  ·have m:¬p.st=2:=λc=>by have:=(h.p2 c).2.2;omega
   have n:kW p=1:=by unfold kW;rw[aj m]
   unfold dZ;rw[n,aiW,au rfl];unfold vU;rw[aj (by simp[oN]),aj (by simp[oN]),aj (by simp[oN]),aj (by simp[oN]),au (by simp[oN])];unfold noS;split
   ·exact⟨rfl,rfl⟩
   ·split
    ·exact⟨rfl,rfl⟩
    ·exact⟨rfl,rfl⟩
def avR{V:Int}{ok:Bool}{p q:dh}(h:nC V ok p q)(d:p.k=[]):∀u∈(jr p).1,u=helloT p.mn p.mx:=by
 intro u a;by_cases c:p.st=2
 ·exfalso;unfold jr at a;rw[au c,d]at a;simp[nY]at a
 by_cases b:p.st=3
 ·have e:jr p=([],3):=by unfold jr;rw[aj c,au h.pf,au b]
  rw[e]at a;cases a
 ·have f:=Zn h.iU.mn h.iU.le h.iU.mx;have e:jr p=([helloT p.mn p.mx],1):=by unfold jr;rw[aj c,au h.pf,aj b,h.pn,f]
  rw[e]at a;exact oz.1 a
structure TA(V:Int)(ok:Bool)(a c:Int)(x:Pr):Prop where
 s:nC V ok x.s0 x.s1
 mn:x.s0.mn=a
 mx:x.s0.mx=c
 k:x.s0.k=[]
 f0:J9 (fG (helloT a c)) x.k0
 f1:J9 (fG (su V ok)) x.k1
 t0:NW (fG (helloT a c)) x.k0
 t1:∀y∈x.k1.h,(y.2.2=fG (su V ok)/\(x.s1.st=2\/x.s1.st=3))\/yJ y.2.2
 o:iW x
def amG{V:Int}{ok:Bool}{a c:Int}{x:Pr}(h:TA V ok a c x){f:Q0}(w:f=fG (helloT a c)\/yJ f):TA V ok a c (kY 1 f x):=by
 have b:=(TD (i:=1) (t:=f) h.o).1;rcases w with rfl|w
 rotate_left
 ·unfold yJ at w;unfold kY at b⊢;rw[aj w]at b⊢;exact⟨h.s,h.mn,h.mx,h.k,h.f0,h.f1,h.t0,h.t1,b⟩
 obtain⟨l,e⟩:=aic (UE a c);have tp:AZ x.s0 (helloT a c):=⟨UE a c,.inl (by rw[h.mn,h.mx])⟩
 obtain⟨m,-,-⟩:=axa h.s tp;have j:=aby h.s;rw[h.mn,h.mx]at j;have k:(∀u∈(dZ (helloT a c) x.s1).2.1,u=su V ok)/\((dZ (helloT a c) x.s1).1.st=2\/(dZ (helloT a c) x.s1).1.st=3):=by
  rw[j];unfold su;split
  ·exact⟨λu d=>oz.1 d,.inl rfl⟩
  ·exact⟨λu d=>oz.1 d,.inr rfl⟩
 unfold kY at b⊢;rw[au l,e,aj aX]at b⊢;obtain⟨n,o⟩:=abO (now:=x.now) (Sm V ok) (dZ (helloT a c) x.s1).2.1 h.o.k1 h.f1 (λy g=>(h.t1 y g).imp And.left id) k.1;exact⟨m,h.mn,h.mx,h.k,h.f0,n,h.t0,λy g=>(o y g).imp (λq=>⟨q,k.2⟩) id,b⟩
def amF{V:Int}{ok:Bool}{a c:Int}{x:Pr}(h:TA V ok a c x){f:Q0}(w:(f=fG (su V ok)/\(x.s1.st=2\/x.s1.st=3))\/yJ f):TA V ok a c (kY 0 f x)/\(kY 0 f x).s1=x.s1:=by
 have b:=(TD (i:=0) (t:=f) h.o).1;rcases w with⟨rfl,d⟩|w
 rotate_left
 ·unfold yJ at w;unfold kY at b⊢;rw[aj w]at b⊢;exact⟨⟨h.s,h.mn,h.mx,h.k,h.f0,h.f1,h.t0,h.t1,b⟩,rfl⟩
 obtain⟨j,e⟩:=aic (Sm V ok);obtain⟨tq,k,l⟩:=avP h.s d;obtain⟨m,g,-⟩:=avQ h.s tq;unfold kY at b⊢;rw[au j,e,au rfl,k]at b⊢;exact⟨⟨m,g.mn.trans h.mn,g.mx.trans h.mx,l.trans h.k,h.f0,h.f1,h.t0,h.t1,b⟩,rfl⟩
def aeN{V:Int}{ok:Bool}{a c:Int}:∀(T:We){x:Pr},TA V ok a c x->(∀f∈T,f=fG (helloT a c)\/yJ f)->TA V ok a c (rH 1 T x)
 |[],x,h,_=>h
 |t::r,x,h,w=>aeN r (amG h (w t aA)) (λf b=>w f (by simp[b]))
def aeM{V:Int}{ok:Bool}{a c:Int}:∀(T:We){x:Pr},TA V ok a c x->(∀f∈T,(f=fG (su V ok)/\(x.s1.st=2\/x.s1.st=3))\/yJ f)->TA V ok a c (rH 0 T x)
 |[],x,h,_=>h
 |t::r,x,h,w=>by obtain⟨h1,b⟩:=amF h (w t aA);exact aeM r h1 (λf d=>by rw[b];exact w f (by simp[d]))
def arY{V:Int}{ok:Bool}{a c:Int}{x:Pr}(h:TA V ok a c x):TA V ok a c (yu x):=by obtain⟨-,d2,d3⟩:=TL x.now x.k0.h.length x.k0.h rfl h.o.k0.h;refine aeN (x:=yS x) (fC x.k0.h.length x.now x.k0.h).1 ⟨h.s,h.mn,h.mx,h.k,h.f0,h.f1,λy b=>h.t0 y (d2 y b),h.t1,⟨h.o.s0,h.o.s1,(Lj x.now h.o.k0).1,h.o.k1,h.o.now⟩⟩ (λf d=>?_);obtain⟨y,b,e⟩:=d3 f d;rw[<-e];exact h.t0 y b
def ar0{V:Int}{ok:Bool}{a c:Int}{x:Pr}(h:TA V ok a c x):TA V ok a c (yU x):=by obtain⟨-,d2,d3⟩:=TL x.now x.k1.h.length x.k1.h rfl h.o.k1.h;refine aeM (x:=zY x) (fC x.k1.h.length x.now x.k1.h).1 ⟨h.s,h.mn,h.mx,h.k,h.f0,h.f1,h.t0,λy b=>h.t1 y (d2 y b),⟨h.o.s0,h.o.s1,h.o.k0,(Lj x.now h.o.k1).1,h.o.now⟩⟩ (λf d=>?_);obtain⟨y,b,e⟩:=d3 f d;rw[<-e];exact h.t1 y b
def ajc{V:Int}{ok:Bool}{a c:Int}:∀(n:Nat){x:Pr},TA V ok a c x->TA V ok a c (uX n x)
 |0,x,h=>h
 |n+1,x,h=>by
  unfold uX;split
  ·exact h
  ·split
   ·exact ajc n (ar0 (arY h))
   ·exact h
def aaq{V:Int}{ok:Bool}{a c:Int}{x:Pr}(h:TA V ok a c x){n:Int}(b:x.now<=n):TA V ok a c {x with now:=n}:=
 ⟨h.s,h.mn,h.mx,h.k,h.f0,h.f1,h.t0,h.t1,⟨h.o.s0,h.o.s1,h.o.k0,h.o.k1,Xu h.o.now b⟩⟩
def agd{V:Int}{ok:Bool}{a c:Int}:∀(n:Nat)(last:Int){x:Pr},TA V ok a c x->TA V ok a c (vO n last x)
 |0,last,x,h=>h
 |n+1,last,x,h=>by
  unfold vO;split;rotate_left
  ·exact h
  next c=>
  split
  ·exact aaq h ah
  ·split
   ·exact aaq h ah
   ·exact agd n last (ajc _ (aaq h (by split<;>omega)))
def aAL{V:Int}{ok:Bool}{a c:Int}{x:Pr}(h:TA V ok a c x)(n:Int):TA V ok a c (Az n x):=agd _ _ h
def awL{V:Int}{ok:Bool}{a c:Int}{x:Pr}(h:TA V ok a c x):TA V ok a c (jA 0 x):=by have b:=(aiL (e:=0) h.o).1;unfold jA at b⊢;rw[au rfl]at b⊢;obtain⟨f,k,-⟩:=avS h.s;have d:=avR h.s h.k;rw[h.mn,h.mx]at d;obtain⟨g,i⟩:=abO (now:=x.now) (UE a c) (jr x.s0).1 h.o.k0 h.f0 h.t0 d;exact⟨f,h.mn,h.mx,h.k,g,h.f1,i,h.t1,b⟩
def Xf(t:Q0):Bool:=decide ((iV t).2.2=0)&&decide ((iV t).2.1=(t.length:Int))
def aB6(t:Q0)(a:t.length<=100000000):TT.lim 125 [.s t]=some [.b (Xf t)]:=by
 have h:=aaM t a;unfold Xf;by_cases c:(iV t).2.2=0
 ·refine aQ ?_;simp -implicitDefEqProofs[h,c]
 ·refine aQ ?_;simp -implicitDefEqProofs[h,c]
def acp(f:Fa)(d:f.jJ<256){t u:Q0}(e:sF f t=u)(j:u.length<=100000000):(f.at_<0/\gG f t=u)\/(¬f.at_<0/\(u.length:Int)<=f.at_/\gG f t=u)\/
 (¬f.at_<0/\¬(u.length:Int)<=f.at_/\∃(x:UInt8)(y:UInt8),BO (some (.l (bQ u))) (some (.zq f.at_))=some (.zq f.at_)/\at2 1 (some (.l (bQ u))) (some (.zq f.at_))=some (.i .u8 (x.toNat:Int))/\bV .xor .u8 (x.toNat:Int) (f.jJ:Int)=some (.i .u8 (y.toNat:Int))/\
  CX 1 0 (some (.l (bQ u))) (some (.zq f.at_)) (some [.i .u8 (y.toNat:Int)])=some (.l (bQ (gG f t)))/\(bQ (gG f t)).length<=2^48/\mg (bQ (gG f t))=some (gG f t)):=by
 by_cases a:f.at_<0
 ·refine .inl ⟨a,?_⟩;unfold gG EO;rw[e,au a]
 by_cases c:(u.length:Int)<=f.at_
 ·refine .inr (.inl ⟨a,c,?_⟩);unfold gG EO;rw[e,aj a,au c]
 ·refine .inr (.inr ⟨a,c,u.getD f.at_.toNat 0,vg (u.getD f.at_.toNat 0) f.jJ,?_⟩);obtain⟨g,h,i⟩:=abQ (u:=u) (k:=f.at_.toNat) ah (vg (u.getD f.at_.toNat 0) f.jJ);rw[Dj ah]at g h i;have b:gG f t=u.set f.at_.toNat (vg (u.getD f.at_.toNat 0) f.jJ):=by unfold gG EO;rw[e,aj a,aj c]
  refine⟨g,h,acJ _ _ d,by rw[b];exact i,?_,SG _⟩;rw[b];simp only[bQ,iw,EZ];omega
def l9(w:Q0)(f:Fa):Bool:=decide (gG f w=w) || !Xf (gG f w)
set_option maxHeartbeats 4000000 in
def ajI(w:Q0)(f:Fa)(t:f.jJ<256)(E:w.length<=100000000):TT.lim 124 [.s w,aV f]=some [.b (l9 w f)]:=by
 have v:=aB6 (gG f w) (by have:=afc f w;omega);unfold l9;by_cases g:0<f.cu
 ·by_cases k:f.cu<w.length
  ·have z:sF f w=w.take f.cu.toNat:=by unfold sF;rw[au ⟨g,k⟩]
   have H:(w.take f.cu.toNat).length<=100000000:=by rw[kG];omega
   have i:f.cu<=(w.length:Int):=ah;have j:0<=f.cu:=ah;rcases acp f t z H with⟨m,l⟩|⟨m,A,l⟩|⟨m,A,x,y,n,o,p,q,r,s⟩
   ·rw[l]at v⊢;have a:¬0<=f.at_:=ah;generalize c:w.take f.cu.toNat=u at *;by_cases e:u=w
    ·refine aQ ?_;simp -implicitDefEqProofs[g,k,i,j,c,a,e]
    ·refine aQ ?_;simp -implicitDefEqProofs[g,k,i,j,c,a,e,v]
   ·rw[l]at v⊢;have a:0<=f.at_:=ah;generalize c:w.take f.cu.toNat=u at *;have b:¬f.at_<(u.length:Int):=ah;by_cases e:u=w
    ·have I:¬f.at_<(w.length:Int):=by rw[<-e];exact b
     refine aQ ?_;simp -implicitDefEqProofs[g,k,i,j,c,a,I,e]
    ·refine aQ ?_;simp -implicitDefEqProofs[g,k,i,j,c,a,b,e,v]
   ·have a:0<=f.at_:=ah;generalize c:w.take f.cu.toNat=u at *;have b:f.at_<(u.length:Int):=ah;generalize gG f w=D at *;generalize d:bQ u=F at *;generalize B:bQ D=G at *;by_cases e:D=w
    ·refine aQ ?_;simp -implicitDefEqProofs[-iT,-dw,-oh,g,k,i,j,c,d,a,b,n,o,p,q,r,s,e]
    ·refine aQ ?_;simp -implicitDefEqProofs[-iT,-dw,-oh,g,k,i,j,c,d,a,b,n,o,p,q,r,s,e,v]
  ·have z:sF f w=w:=by unfold sF;rw[aj (λh=>k h.2)]
   rcases acp f t z E with⟨m,l⟩|⟨m,A,l⟩|⟨m,A,x,y,n,o,p,q,r,s⟩
   ·have a:¬0<=f.at_:=ah;rw[l];refine aQ ?_;simp -implicitDefEqProofs[g,k,a]
   ·have a:0<=f.at_:=ah;have b:¬f.at_<(w.length:Int):=ah;rw[l];refine aQ ?_;simp -implicitDefEqProofs[g,k,a,b]
   ·have a:0<=f.at_:=ah;have b:f.at_<(w.length:Int):=ah;generalize gG f w=D at *;generalize d:bQ w=F at *;generalize B:bQ D=G at *;by_cases e:D=w
    ·refine aQ ?_;simp -implicitDefEqProofs[-iT,-dw,-oh,g,k,d,a,b,n,o,p,q,r,s,e]
    ·refine aQ ?_;simp -implicitDefEqProofs[-iT,-dw,-oh,g,k,d,a,b,n,o,p,q,r,s,e,v]
 ·have z:sF f w=w:=by unfold sF;rw[aj (λh=>g h.1)]
  rcases acp f t z E with⟨m,l⟩|⟨m,A,l⟩|⟨m,A,x,y,n,o,p,q,r,s⟩
  ·have a:¬0<=f.at_:=ah;rw[l];refine aQ ?_;simp -implicitDefEqProofs[g,a]
  ·have a:0<=f.at_:=ah;have b:¬f.at_<(w.length:Int):=ah;rw[l];refine aQ ?_;simp -implicitDefEqProofs[g,a,b]
  ·have a:0<=f.at_:=ah;have b:f.at_<(w.length:Int):=ah;generalize gG f w=D at *;generalize d:bQ w=F at *;generalize B:bQ D=G at *;by_cases e:D=w
   ·refine aQ ?_;simp -implicitDefEqProofs[-iT,-dw,-oh,g,d,a,b,n,o,p,q,r,s,e]
   ·refine aQ ?_;simp -implicitDefEqProofs[-iT,-dw,-oh,g,d,a,b,n,o,p,q,r,s,e,v]
def amg(w:Q0)(f:Fa)(a:f.jJ<256)(b:w.length<=100000000):TT.lim 123 [.b f.dr,.i .u8 (f.c:Int),.i .u8 (f.d:Int),.zq f.cu,.zq f.at_,.i .u8 (f.jJ:Int),.s w]=some [.zq 0,.b (!l9 w f)]:=by have h:=ajI w f a b;unfold aV at h;refine aB ?_;simp -implicitDefEqProofs[h]
def agR(w:Q0)(l:List Fa)(h:∀f∈l,f.jJ<256)(p:l.length<=2000000)(k:w.length<=100000000):∀m i:Nat,i+m=l.length->
 ((l.drop i).all (l9 w)=true/\TT.lim 122 [.l (l.map aV),.zq (l.length:Int),.zq (i:Int),.s w]=some [.zq 1])\/
 ((l.drop i).all (l9 w)=false/\∃j:Nat,TT.lim 122 [.l (l.map aV),.zq (l.length:Int),.zq (i:Int),.s w]=some [.zq 0,.zq (j:Int)])
 |0,i,hi=>by have c:¬((i:Int)<l.length):=ah;rw[gJ];refine .inl ⟨rfl,?_⟩;refine aB ?_;simp -implicitDefEqProofs[c]
 |m+1,i,hi=>by
  have a:i<l.length:=ah;have c:(i:Int)<l.length:=ah;have q:IntKind.i64.wrap ((i:Int)+1)=((i+1:Nat):Int):=by rw[wrap64 ah ah];omega
  have b:at2 6 (some (.l (l.map aV))) (some (.zq (i:Int)))=some (aV l[i]):=by rw[dw,mW,xO,jf,bT a];rfl
  have r:l.drop i=l[i]::l.drop (i+1):=gW a;have d:=amg w l[i] (h _ (iq a)) k;have n:=agR w l h p k m (i+1) ah;rw[r,qJ];generalize l[i]=f,(l.drop (i+1)).all (l9 w)=R at *;rw[<-q]at n;generalize l.map aV=s,(l.length:Int)=t at *;cases o:l9 w f with
  |false=>rw[o]at d;refine .inr ⟨rfl,i,?_⟩;refine aB ?_;simp -implicitDefEqProofs[-dw,c,b,d]
  |true=>
   rw[o]at d;rcases n with⟨e,g⟩|⟨e,j,g⟩
   ·refine .inl ⟨by rw[e];rfl,?_⟩;refine aB ?_;simp -implicitDefEqProofs[-dw,c,b,d,g]
   ·refine .inr ⟨by rw[e];rfl,j,?_⟩;refine aB ?_;simp -implicitDefEqProofs[-dw,c,b,d,g]
def amL(w:Q0)(l:List Fa)(g:∀f∈l,f.jJ<256)(i:l.length<=2000000)(k:w.length<=100000000):TT.lim 120 [.l (l.map aV),.s w]=some [.zq 0,.b (!l.all (l9 w))]:=by
 have d:((l.map aV).length:Int)=(l.length:Int):=by rw[iw]
 have h:=agR w l g i k l.length 0 ah;rw[dD,qX]at h;generalize l.map aV=e,(l.length:Int)=n at *;rcases h with⟨a,b⟩|⟨a,j,b⟩
 ·rw[a];have c:TT.lim 121 [.l e,.s w]=some [.zq 0,.zq (-1)]:=by refine aB ?_;simp -implicitDefEqProofs[d,b]
  refine aB ?_;simp -implicitDefEqProofs[c]
 ·rw[a];have c:TT.lim 121 [.l e,.s w]=some [.zq 0,.zq (j:Int)]:=by refine aB ?_;simp -implicitDefEqProofs[d,b]
  have m:(0:Int)<=(j:Int):=ah;refine aB ?_;simp -implicitDefEqProofs[c,m]
def amh(w:Q0)(f:Fa)(a:f.jJ<256)(b:w.length<=100000000):TT.lim 196 [.b f.dr,.i .u8 (f.c:Int),.i .u8 (f.d:Int),.zq f.cu,.zq f.at_,.i .u8 (f.jJ:Int),.s w]=some [.zq 0,.b (!l9 w f)]:=by have h:=ajI w f a b;unfold aV at h;refine aB ?_;simp -implicitDefEqProofs[h]
def agS(w:Q0)(l:List Fa)(h:∀f∈l,f.jJ<256)(p:l.length<=2000000)(k:w.length<=100000000):∀m i:Nat,i+m=l.length->
 ((l.drop i).all (l9 w)=true/\TT.lim 195 [.l (l.map aV),.zq (l.length:Int),.zq (i:Int),.s w]=some [.zq 1])\/
 ((l.drop i).all (l9 w)=false/\∃j:Nat,TT.lim 195 [.l (l.map aV),.zq (l.length:Int),.zq (i:Int),.s w]=some [.zq 0,.zq (j:Int)])
 |0,i,hi=>by have c:¬((i:Int)<l.length):=ah;rw[gJ];refine .inl ⟨rfl,?_⟩;refine aB ?_;simp -implicitDefEqProofs[c]
 |m+1,i,hi=>by
  have a:i<l.length:=ah;have c:(i:Int)<l.length:=ah;have q:IntKind.i64.wrap ((i:Int)+1)=((i+1:Nat):Int):=by rw[wrap64 ah ah];omega
  have b:at2 6 (some (.l (l.map aV))) (some (.zq (i:Int)))=some (aV l[i]):=by rw[dw,mW,xO,jf,bT a];rfl
  have r:l.drop i=l[i]::l.drop (i+1):=gW a;have d:=amh w l[i] (h _ (iq a)) k;have n:=agS w l h p k m (i+1) ah;rw[r,qJ];generalize l[i]=f,(l.drop (i+1)).all (l9 w)=R at *;rw[<-q]at n;generalize l.map aV=s,(l.length:Int)=t at *;cases o:l9 w f with
  |false=>rw[o]at d;refine .inr ⟨rfl,i,?_⟩;refine aB ?_;simp -implicitDefEqProofs[-dw,c,b,d]
  |true=>
   rw[o]at d;rcases n with⟨e,g⟩|⟨e,j,g⟩
   ·refine .inl ⟨by rw[e];rfl,?_⟩;refine aB ?_;simp -implicitDefEqProofs[-dw,c,b,d,g]
   ·refine .inr ⟨by rw[e];rfl,j,?_⟩;refine aB ?_;simp -implicitDefEqProofs[-dw,c,b,d,g]
def amM(w:Q0)(l:List Fa)(g:∀f∈l,f.jJ<256)(i:l.length<=2000000)(k:w.length<=100000000):TT.lim 193 [.l (l.map aV),.s w]=some [.zq 0,.b (!l.all (l9 w))]:=by
 have d:((l.map aV).length:Int)=(l.length:Int):=by rw[iw]
 have h:=agS w l g i k l.length 0 ah;rw[dD,qX]at h;generalize l.map aV=e,(l.length:Int)=n at *;rcases h with⟨a,b⟩|⟨a,j,b⟩
 ·rw[a];have c:TT.lim 194 [.l e,.s w]=some [.zq 0,.zq (-1)]:=by refine aB ?_;simp -implicitDefEqProofs[d,b]
  refine aB ?_;simp -implicitDefEqProofs[c]
 ·rw[a];have c:TT.lim 194 [.l e,.s w]=some [.zq 0,.zq (j:Int)]:=by refine aB ?_;simp -implicitDefEqProofs[d,b]
  have m:(0:Int)<=(j:Int):=ah;refine aB ?_;simp -implicitDefEqProofs[c,m]
def aA8(A:Q0)(p:A.length<=65536)(a:List Fa)(E:∀f∈a,f.jJ<256)(F:a.length<=2000000)(q r s t u v b c d w g h i j k l x m y:GV):
 TT.lim 192 [q,.l (a.map aV),r,s,t,u,.l [.s A],.zq 1,.zq 0,v,b,c,d,w,g,h,i,j,k,l,x,m,y]=some [.zq (if a.all (l9 (fG A))=true then 1 else 0)]:=by
 have z:=Xh A p;have o:=amM (fG A) a E F (by have:=LP p;omega);have n:at2 1 (some (.l [.s A])) (some (.zq 0))=some (.s A):=rfl;have w1:IntKind.i64.wrap (0+1)=1:=rfl;have B:IntKind.i64.wrap 1=1:=rfl;have e:TT.lim 192 [q,.l (a.map aV),r,s,t,u,.l [.s A],.zq 1,.zq 1,v,b,c,d,w,g,h,i,j,k,l,x,m,y]=some [.zq 1]:=by refine aB ?_;simp
 generalize a.map aV=G at *;cases D:a.all (l9 (fG A))with
 |true=>rw[D]at o;refine aB ?_;simp -implicitDefEqProofs[-dw,n,z,o,w1,B,e]
 |false=>rw[D]at o;refine aB ?_;simp -implicitDefEqProofs[-dw,n,z,o,w1,B]
def aA9(H A:Q0)(y h:dh)(D:Int)(w:H.length<=65536)(E:A.length<=65536)(F:lH y)(G:dZ H y=(h,[A],D))(hf:h.mn=y.mn/\h.mx=y.mx/\h.name=y.name/\h.first=y.first)(c d:List Fa)(I:∀f∈c,f.jJ<256)(J:∀f∈d,f.jJ<256)(L:c.length<=2000000)(M:d.length<=2000000)(k a b:GV):
 TT.lim 113 ([.l (c.map aV),.l (d.map aV),k,.l [.s H],.zq 1,.zq 0]++eG y++[a,b])=some [.zq (if(c.all (l9 (fG H))&&d.all (l9 (fG A)))=true then 1 else 0)]:=by
 have l:=Xh H w;have i:=amL (fG H) c I L (by have:=LP w;omega);have j:=Zg H y ah F;rw[G]at j;have g:at2 1 (some (.l [.s H])) (some (.zq 0))=some (.s H):=rfl;have w1:IntKind.i64.wrap (0+1)=1:=rfl;have x:IntKind.i64.wrap 1=1:=rfl;have hi:=λN m n o O p q r s a b P t R=>aA8 A E d J M (.l (c.map aV)) k (.l [.s H]) (.zq 1) (.zq 0) N m n o O p q r s a b P t R;have e:∀S T U V W X Y Z y6 y7 y8 y9 u v,TT.lim 113 [S,T,k,.l [.s H],.zq 1,.zq 1,U,V,W,X,Y,Z,y6,y7,y8,y9,u,v,a,b]=some [.zq 1]:=by
  intros
  refine aB ?_;simp
 generalize c.map aV=TG,d.map aV=BG at *;simp only[Py,eG,iC,jg,bI,bf]at j⊢;cases z:c.all (l9 (fG H))with
 |false=>rw[z]at i;refine aB ?_;simp -implicitDefEqProofs[-dw,g,l,i]
 |true=>
  rw[z]at i;cases B:d.all (l9 (fG A))with
  |true=>rw[B]at hi;refine aB ?_;simp -implicitDefEqProofs[-dw,g,l,i,j,w1,x,hi,e]
  |false=>rw[B]at hi;refine aB ?_;simp -implicitDefEqProofs[-dw,g,l,i,j,w1,x,hi]
set_option maxHeartbeats 4000000 in
def ajY{V:Int}{ok:Bool}{a c:Int}(H:0<=V/\V<=1000)(n:Nat)(I:n<=60):∀(m i:Nat)(x:Pr),i+m=n->TA V ok a c x->x.now<=i->eU x<=1440+6*i->
 TT.lim 198 ([.zu V,.b ok,.zq (n:Int),.zq (i:Int)]++eY x)=some [.zq 0]
 |0,i,x,hi,p,J,L=>by have l:¬((i:Int)<(n:Int)):=ah;simp only[eY,fU,eG,bI,bf];refine aB ?_;simp -implicitDefEqProofs[l]
 |m+1,i,x,hi,p,J,L=>by
  have l:(i:Int)<(n:Int):=ah;have M:IntKind.i64.wrap ((i:Int)+1)=((i+1:Nat):Int):=by rw[wrap64 ah ah];omega
  have q:IntKind.i64.wrap V=V:=wrap64 ah ah;have w0:=p.o.now;have o:=avU 0 x p.o ah ah;have N:=awL p;obtain⟨D,g2,g3⟩:=aiL (e:=0) p.o;have b:=aAM 1 (jA 0 x) aX aX D ah ah;have r:=aAL N 1;obtain⟨E,k2,O⟩:=step_ok (n:=1) aX D;have d:=ajY H n I m (i+1) (Az 1 (jA 0 x)) ah r ah ah;have f:=apX (Az 1 (jA 0 x)) E;have g:=apY (Az 1 (jA 0 x)) E;have P:=r.s.p2;have S:=r.s.p3;have F:=r.s.q2;have G:=r.s.q3;rw[<-O]at b;obtain⟨T,U,W,X,Y,z6,z7,z8,z9,u,v,w,y,z⟩:=awK 0 x;have h:=awJ 0 x;have k:=h.trans (aAK 1 (jA 0 x));generalize Az 1 (jA 0 x)=R at *;generalize jA 0 x=Z at *;rw[<-M]at d;simp only[eY,ji,nM,fU,eG,bI,bf]at o b f g d⊢;rw[T,U,W,X,Y,z6,z7,z8,z9,u,v,w,y,z,h.a.1,h.a.2.1,h.a.2.2.1,h.a.2.2.2,h.b.1,h.b.2.1,h.b.2.2.1,h.b.2.2.2]at b;rw[k.a.1,k.a.2.1,k.a.2.2.1,k.a.2.2.2,k.b.1,k.b.2.1,k.b.2.2.1,k.b.2.2.2]at d f g;by_cases s:R.s0.st=2
  ·obtain⟨rfl,v0,j⟩:=P s;obtain⟨-,A⟩:=F j;rw[s,v0,j,A]at b f g d;refine aB ?_;simp -implicitDefEqProofs[l,o,b,f,g,q,d]
  by_cases t:R.s0.st=3
  ·have j:=S t;obtain rfl:=G j;rw[t,j]at b f g d;refine aB ?_;simp -implicitDefEqProofs[l,o,b,f,g,q,d]
  by_cases j:R.s1.st=2
  ·obtain⟨rfl,A⟩:=F j;rw[j,A]at b f g d;refine aB ?_;simp -implicitDefEqProofs[l,o,b,f,g,q,s,t,d]
  by_cases B:R.s1.st=3
  ·obtain rfl:=G B;rw[B]at b f g d;refine aB ?_;simp -implicitDefEqProofs[l,o,b,f,g,q,s,t,d]
  ·refine aB ?_;simp -implicitDefEqProofs[l,o,b,f,g,q,s,t,j,B,d]
def avb{a c:Int}(h1:1<=a)(b:a<=c)(d:c<=3):jr (newS a c [102,105,114,115,116] true)=([helloT a c],1):=by
 have e:=Zn h1 b d;show(if(0:Int)=2 then _ else if true=true then(if(0:Int)=3 then _ else(kE (sK a c zh) 1,1))else _)=_
 rw[aj aX,au rfl,aj aX,e]
def ava{V:Int}{ok:Bool}{p q:dh}(h:nC V ok p q):∃q' a,dZ (helloT p.mn p.mx) q=(q',[su V ok],a)/\(q'.mn=q.mn/\q'.mx=q.mx/\q'.name=q.name/\q'.first=q.first):=by
 rw[aby h];unfold su;split
 ·exact⟨_,_,rfl,rfl,rfl,rfl,rfl⟩
 ·exact⟨_,_,rfl,rfl,rfl,rfl,rfl⟩
def ajF{w:Q0}{f:Fa}(h:l9 w f=true):gG f w=w\/yJ (gG f w):=by
 unfold l9 at h;rcases nO _ _▸h with q|q
 ·exact .inl (Em q)
 ·refine .inr (alu λc=>?_);unfold Xf at q;rw[DN c.1,DN c.2]at q;cases q
def avc{a c x y:Int}{b d:List Fa}(h1:1<=a)(j:a<=c)(k:c<=3)(l:1<=x)(h5:x<=y)(h6:y<=3)(m:∀f∈b,EU f)(n:∀f∈d,EU f)(lt:b.length<=30)(o:d.length<=30)(st:b.all (l9 (fG (helloT a c)))=true)(p:d.all (l9 (fG (su (gY a c x y).1 (gY a c x y).2)))=true):
 TA (gY a c x y).1 (gY a c x y).2 a c (newP a c x y b d)/\eU (newP a c x y b d)<=1440:=by
 obtain⟨g,q⟩:=au8 h1 j k l h5 h6 m n lt o;exact⟨⟨⟨g.s0,g.s1,rfl,rfl,rfl,rfl,rfl,.inl rfl,.inl rfl,(λe=>by cases e),(λe=>by cases e),λ_=>rfl,λ_=>rfl,(λe=>by cases e),(λe=>by cases e)⟩,rfl,rfl,rfl,λf h=>ajF (List.all_eq_true.1 st f h),λf h=>ajF (List.all_eq_true.1 p f h),(λy i=>by cases i),(λy i=>by cases i),g⟩,q⟩
set_option maxHeartbeats 4000000 in
def aBa(a c x y r:Int)(T:0<=r/\r<256)(d h:List Fa)(lt:d.length<=2000000)(lb:h.length<=2000000)
 (U:∀f∈d++h,f.d<256/\f.jJ<256/\f.cu<=9223372036854775807/\f.at_<=9223372036854775807):
 TT.lim 3 [.g [.zu a,.zu c],.g [.zu x,.zu y],.l (d.map aV),.l (h.map aV),.i .u8 r]=some [.b true]:=by
 have b:=aqG d h [] ah ah aA aA;simp only[jg]at b;have n:=FI [102,105,114,115,116] 0 256 aA;have o:=FI [111,116,104,101,114] 0 256 aA;rw[aBN]at n;rw[aBO]at o;cases s:Uc d h []with
 |false=>rw[s]at b;generalize d.map aV=w,h.map aV=z at *;refine aQ ?_;simp -implicitDefEqProofs[b]
 |true=>
 rw[s]at b;by_cases V:1<=a/\a<=c/\c<=3;rotate_left
 ·generalize d.map aV=w at *;generalize h.map aV=z at *;by_cases i:a<1
  ·refine aQ ?_;simp -implicitDefEqProofs[b,i,o]
  by_cases j:c<a
  ·refine aQ ?_;simp -implicitDefEqProofs[b,i,j,o]
  by_cases l:255<c
  ·refine aQ ?_;simp -implicitDefEqProofs[b,i,j,l,o]
  ·have m:3<c:=ah;refine aQ ?_;simp -implicitDefEqProofs[b,i,j,l,m,o]
 obtain⟨D,E,F⟩:=V;have i:¬a<1:=ah;have j:¬c<a:=ah;have l:¬255<c:=ah;have m:¬3<c:=ah;by_cases W:1<=x/\x<=y/\y<=3;rotate_left
 ·generalize d.map aV=w at *;generalize h.map aV=z at *;by_cases p:x<1
  ·refine aQ ?_;simp -implicitDefEqProofs[b,i,j,l,m,n,p]
  by_cases q:y<x
  ·refine aQ ?_;simp -implicitDefEqProofs[b,i,j,l,m,n,p,q]
  by_cases t:255<y
  ·refine aQ ?_;simp -implicitDefEqProofs[b,i,j,l,m,n,p,q,t]
  ·have A:3<y:=ah;refine aQ ?_;simp -implicitDefEqProofs[b,i,j,l,m,n,p,q,t,A]
 obtain⟨L,M,N⟩:=W;have p:¬x<1:=ah;have q:¬y<x:=ah;have t:¬255<y:=ah;have A:¬3<y:=ah;unfold Uc at s;simp only[aO,List.all_eq_true,decide_eq_true_eq]at s;obtain⟨X,-,f3,f4,-⟩:=s;have u:∀f∈d++h,EU f:=λf k=>by obtain⟨Y,Z,q3,q4⟩:=U f k;have:=X f k;unfold Lu at this;exact⟨by have:=Em this;omega,Y,Z,q3,q4⟩
 have O:=λf k=>u f (XC h k);have P:=λf k=>u f (adg d k);have R:lH (newS a c [102,105,114,115,116] true):=Vr D E F aA;have S:lH (newS x y [111,116,104,101,114] false):=Vr L M N aA;have si:nC (gY a c x y).1 (gY a c x y).2 (newS a c [102,105,114,115,116] true) (newS x y [111,116,104,101,114] false):=⟨R,S,rfl,rfl,rfl,rfl,rfl,.inl rfl,.inl rfl,(λe=>by cases e),(λe=>by cases e),λ_=>rfl,λ_=>rfl,(λe=>by cases e),(λe=>by cases e)⟩
 have B:=abp _ R;rw[avb D E F]at B;obtain⟨y',er,he,G⟩:=ava si;have v:=aA9 (helloT a c) (su (gY a c x y).1 (gY a c x y).2) _ y' er (UE a c) (Sm _ _) S he G d h (λf k=>(O f k).jJ) (λf k=>(P f k).jJ) ah ah (.i .u8 r) (.zu a) (.zu c);simp only[newS,eG,zS,jg,iC,bI,bf]at B v;cases I:(d.all (l9 (fG (helloT a c)))&&h.all (l9 (fG (su (gY a c x y).1 (gY a c x y).2))))with
 |false=>rw[I]at v;generalize helloT a c=H,d.map aV=w,h.map aV=z at *;refine aQ ?_;simp -implicitDefEqProofs[b,i,j,l,m,n,p,q,t,A,o,B,v]
 |true=>
 rw[I]at v;obtain⟨s1,s2⟩:=aO _ _▸I;obtain⟨p1,p2⟩:=avc D E F L M N O P ah ah s1 s2;have hc:=aeP a c x y;have cT:=aeE d ah;have cB:=aeE h ah;have hv:0<=(gY a c x y).1/\(gY a c x y).1<=1000:=by
  have ht:0<=yG c y/\yG c y<=1000:=by unfold yG;split<;>omega
  unfold gY;split
  ·exact⟨Int.le_refl _,aX⟩
  ·exact ht
 have hm:0<=r.tmod 60/\r.tmod 60<60:=by rw[Int.tmod_eq_emod_of_nonneg T.1];omega
 have g:=ajY hv (r.tmod 60).toNat ah (r.tmod 60).toNat 0 _ ah p1 (AQ _) ah;rw[Dj hm.1]at g;simp only[newP,newS,eY,fU,eG,zS,jg,bI,bf,qX]at g;have w8:IntKind.u8.wrap (r.tmod 60)=r.tmod 60:=by simp only[IntKind.wrap,IntKind.signed,IntKind.bits];simp;omega
 have J:IntKind.i64.wrap (r.tmod 60)=r.tmod 60:=wrap64 ah ah;generalize helloT a c=H,gY a c x y=C,d.map aV=w,h.map aV=z at *;refine aQ ?_;simp -implicitDefEqProofs(maxSteps:=1000000) [b,i,j,l,m,n,p,q,t,A,o,B,v,hc,cT,cB,w8,J,g]
def topAgreed(gs:Q1)(h:hasArgs [(true,[.int .u64,.int .u64]),(true,[.int .u64,.int .u64]),(false,[.list true TY]),(false,[.list true TY]),(false,[.int .u8])] gs)(e:∀xs,GV.l xs∈gs->xs.length<=1048576):TT.lim 3 gs=some [.b true]:=by obtain⟨z,gs,rfl,a,h⟩:=ags h;obtain⟨A,gs,rfl,b,h⟩:=ags h;obtain⟨B,gs,rfl,j,h⟩:=Zh h;obtain⟨D,gs,rfl,k,h⟩:=Zh h;obtain⟨E,gs,rfl,l,h⟩:=Zh h;obtain rfl:=ar4 h;obtain⟨n,r1,rfl,c,a⟩:=Ad a;obtain⟨o,r2,rfl,d,a⟩:=Ad a;obtain rfl:=Zi a;obtain⟨p,rfl,-⟩:=UC c;obtain⟨q,rfl,-⟩:=UC d;obtain⟨n,r1,rfl,c,b⟩:=Ad b;obtain⟨o,r2,rfl,d,b⟩:=Ad b;obtain rfl:=Zi b;obtain⟨r,rfl,-⟩:=UC c;obtain⟨s,rfl,-⟩:=UC d;obtain⟨g,t,rfl⟩:=afG j;obtain⟨i,u,rfl⟩:=afG k;have v:=e (g.map aV) aA;have w:=e (i.map aV) aA;rw[iw]at v w;obtain⟨m,rfl,x⟩:=UD l;exact aBa p q r s m x g i ah ah λf y=>(ny.1 y).elim (t f) (u f)
