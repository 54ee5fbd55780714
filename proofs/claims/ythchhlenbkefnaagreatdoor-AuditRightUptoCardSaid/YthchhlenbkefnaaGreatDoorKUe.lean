/- What the trees compute: plain laws. -/
import Derived.Test.YthchhlenbkefnaaGreatDoorKUe9
set_option linter.all false
namespace Go.Proofs.YthchhlenbkefnaaGreatDoor
open Go Go.aN
set_option maxRecDepth 100000
namespace U
def aDO:aW 6 1=[]:=rfl
def atX{b:aO}{v:Int}(d:b.kind=2\/b.kind=5\/b.kind=6\/b.kind=7\/b.kind=8)(h1:1<=v)(f:v<=3)(a:aW b.kind v≠[]):pU b.kind<=v:=by
 rcases d with e|e|e|e|e<;>rw[e]at a⊢
 ·exact h1
 ·exact h1
 ·rcases adZ v 2 with c|c
  ·obtain rfl:v=1:=by omega
   exact absurd aDO a
  ·exact c
 ·exact h1
 ·exact h1
def akU{b:aO}{v:Int}{t:Q0}(d:yQ b [])(j:b.kind=2\/b.kind=5\/b.kind=6\/b.kind=7\/b.kind=8)(h:t∈jW b v):iK t v=(b,[],0)/\1<=v/\v<=3:=by
 unfold jW at h;split at h;rotate_left
 ·cases h
 next e=>
 obtain rfl:=jK.1 h;unfold wU at e⊢;split at e;rotate_left
 ·next c=>exact absurd e c
 next c=>
 rw[aj c];split at e
 ·exact absurd e (by decide)
 next f=>
 rw[ah f];obtain⟨a,g,i,-,-⟩:=Jf c;obtain⟨k,l⟩:=aAI c;refine⟨?_,a,g⟩;simp only;unfold bytesV at f⊢;rw[asq (aie i) a (by omega) (atX j a g i) (aeO d c) (by omega),aFQ c (gW v),af9 d c (JE b.kind v).1 (aW b.kind v) _ (λs m=>m),k,l];simp only[ne_eq,not_true_eq_false,if_false];rw[ah (λx=>x c)]
def Cont(V:Int)(xs:Q1)(a:Bool)(h:Sn)(t:Q0):Prop:=∀m b,iK t V=(m,b,0)->((m.kind=5\/m.kind=6)->zB xs (m.kind,m.epoch,m.base,m.t))/\(m.kind=7->a=true/\m.epoch<=h.1)
def ZE{V:Int}{xs:Q1}{b:Bool}{h:Sn}{t:Q0}{a:List Int}(d:sZ a t)(f:∀k∈a,k≠5/\k≠6/\k≠7):Cont V xs b h t:=λm g e=>by have:=f _ (d V (by rw[e]));rw[e]at this;exact⟨λc=>absurd c (λc=>c.elim this.1 this.2.1),λc=>absurd c this.2.2⟩
def Cont.mono{V:Int}{xs b:Q1}{d a:Bool}{h f:Sn}{t:Q0}(c:Cont V xs d h t)(i:∀m,zB xs m->zB b m)(j:d=true->a=true)(l:h.1<=f.1):Cont V b a f t:=λm n e=>by obtain⟨o,g⟩:=c m n e;exact⟨λk=>i _ (o k),λk=>⟨j (g k).1,OY (g k).2 l⟩⟩
def kN.nil{xs:Q1}{told:List Tm}{back:List An}{k:List Sn}{b:Int}{c:Bool}{h:Sn}(f:kN xs told back k b c h):kN xs [] [] k b c h:=
 ⟨f.lead,f.keys,(λm d=>by cases d),(λa e=>by cases e),f.has,f.base,f.zero⟩
def aEU{c v kd b d:Int}{t:List Row}{a:Bool}{h:Sn}(e:a=true):(kW c v kd b d t a h).2.2.1=true:=by
 unfold kW;repeat' split
 all_goals first|exact e|rfl
structure adY(V:Int)(xo xr:Q1)(ko:List Sn)(bo:Int)(so:Bool)(ho:Sn)(r:bP)(q:bP×Wc×Int):Prop where
 a:kN xo [] [] ko bo q.1.sm q.1.h
 b:kN xr [] [] q.1.k q.1.b so ho
 h:r.h.1<=q.1.h.1
 m:r.sm=true->q.1.sm=true
 c:∀u∈q.2.1,Cont V xr q.1.sm q.1.h u
def ahL{V:Int}{t:Q0}{r:bP}(O:kG r)(J:r.st=2->r.ver=V){j l:Q1}{A:List Sn}{B:Int}{o:Bool}{p:Sn}(d:kN j [] [] A B r.sm r.h)(f:kN l [] [] r.k r.b o p)(c:Cont V j o p t):adY V j l A B o p r (eX t r):=by
 have still:∀e:Int,adY V j l A B o p r (r,[],e):=λe=>⟨d,f,gW _,id,λu b=>by cases b⟩
 unfold eX;by_cases y:(iK t (jd r)).2.2=0;rotate_left
 ·rw[ah y];exact still _
 rw[aj y];have E:=U1 t (jd r);have F:r.st=2->((iK t (jd r)).1.kind=5\/(iK t (jd r)).1.kind=6->zB j ((iK t (jd r)).1.kind,(iK t (jd r)).1.epoch,(iK t (jd r)).1.base,(iK t (jd r)).1.t))/\((iK t (jd r)).1.kind=7->o=true/\(iK t (jd r)).1.epoch<=p.1):=λg=>by
  have e:jd r=V:=by unfold jd;rw[aj g];exact J g
  rw[e]at y⊢;exact c _ _ (O7 rfl (O7 rfl y))
 generalize iK t (jd r)=D at *;obtain⟨m,q,e⟩:=D;simp only at E F⊢;unfold vW;split
 ·obtain⟨L,M,P,Q,-⟩:=ahM m r;refine⟨by rw[L,M];exact d,by rw[P,Q];exact f,by rw[M];exact gW _,λe=>by rw[L];exact e,λu b=>?_⟩;unfold lS at b;have S:∀v n w,u∈jW (pI v n) w->Cont V l (lS m r).1.sm (lS m r).1.h u:=λv n w b=>ZE (EU b (by simp[pI]) (by simp[pI])).1 (λk s=>by rw[jK.1 s];simp[pI]);have g8:u∈jW qN 1->Cont V l (lS m r).1.sm (lS m r).1.h u:=λb=>ZE (EU b (by simp[qN]) (by simp[qN])).1 (λk s=>by rw[jK.1 s];simp[qN]);repeat' split at b
  all_goals first|(cases b;done)|exact S _ _ _ b|exact g8 b
 split
 ·unfold AZ;repeat' split
  all_goals exact⟨d,f,gW _,id,λu b=>by cases b⟩
 split
 ·next G=>
  unfold lX;split;rotate_left
  ·exact still _
  next g=>
  have T:=(F g).1 G;obtain⟨z,i⟩:=atV d T (gq m q r.vs) r.vs;obtain⟨-,N,-⟩:=Xh O.rc (gq m q r.vs) m.kind m.epoch m.base m.t E.t E.body.epoch;have s:=ado (gq m q r.vs) r.vs m.kind m.epoch m.base m.t r.sm r.h;have x:=@aEU (gq m q r.vs) r.vs m.kind m.epoch m.base m.t r.sm r.h;simp only at z i⊢;generalize kW (gq m q r.vs) r.vs m.kind m.epoch m.base m.t r.sm r.h=R at *;obtain⟨a,e2,sm,h⟩:=R;simp only at z i N s x⊢;refine⟨z.nil,f,i,x,λu b=>?_⟩;split at b
  ·cases b
  next c0=>
  have W:yQ (je a) []:=OT N rfl Dz.good (by simp[je]) rfl rfl;obtain⟨d1,-,-⟩:=akU W (show a.1=2\/a.1=5\/a.1=6\/a.1=7\/a.1=8 by omega) b;rw[J g]at d1;intro m' X H;rw[d1]at H;injection H with Y H
  subst Y;have Z:(je a).kind=a.1:=rfl;refine⟨λk=>?_,λk=>z.back a (by simp) k⟩;rw[Z]at k;omega
 split
 ·next k7=>
  unfold qA;split;rotate_left
  ·exact still _
  next g=>
  have I:=(ag3 f (a:=(7,m.epoch,0,0)) (λ_=>(F g).2 k7)).1;exact⟨d,I,gW _,id,λu b=>by cases b⟩
 split
 ·unfold noS;split
  ·have I:=(ag3 f (a:=(8,0,0,0)) (λe=>by simp at e)).1;exact⟨d,I,gW _,id,λu b=>by cases b⟩
  split
  ·exact⟨d,f,gW _,id,λu b=>by cases b⟩
  ·exact still _
 ·exact still _
def aki{V:Int}{s:bP}(h:kG s)(i:s.st=2->s.ver=V){xs:Q1}{j:Bool}{l:Sn}(f:kN xs [] [] s.k s.b j l):∀u∈(ji s).1,Cont V xs s.sm s.h u:=by
 intro u a;unfold ji at a;split at a
 ·next n=>
  split at a;rotate_left
  ·cases a
  next c=>
  have d:=abl (v:=s.vs) (k:=s.k) (b:=s.b) c;obtain⟨o,-⟩:=axT (V:=s.vs) f.lead c;have g:(Fq (jT s.vs s.k s.b).1).kind=(jT s.vs s.k s.b).1.1:=rfl;obtain⟨d1,-,-⟩:=akU (alU h.kp) (by rw[g];omega) a;rw[i n]at d1;intro m q e;rw[d1]at e;injection e with p e
  subst p;refine⟨λ_=>o,λk=>?_⟩;rw[g]at k;omega
 split at a
 ·split at a
  ·cases a
  ·exact ZE (EU a (by simp[sF]) (by simp[sF])).1 (λk d=>by rw[jK.1 d];simp[sF])
 ·cases a
def VS(s:bP):Prop:=s.st=2->s.vs=s.ver
def ahD{t:Q0}{s:bP}(h:VS s):VS (eX t s).1:=by
 unfold eX;split;rotate_left
 ·exact h
 unfold vW lS AZ lX qA noS;repeat' split
 all_goals first|exact h|exact λ_=>rfl|exact λe=>absurd e (by simp)
def azF{s:bP}(h:VS s):VS (qg s):=by
 intro e;refine h ?_;unfold qg ji at e;simp only at e;split at e
 ·next c=>exact c
 next c=>
 split at e
 ·split at e<;>simp at e
 ·exact e
def Lh(k:Lk):Prop:=∀f∈k.f,∀u,kJ f u=u
def aDv{now:Int}{t:Q0}{k:Lk}(e:yL k)(c:Lh k):Lh (nK now t k)/\∀y∈(nK now t k).h,y∈k.h\/(y.2.2=t/\now<=y.1):=by
 obtain⟨i,H,n⟩:=k;have a:=e.h;simp only at a;cases i with
 |nil=>exact⟨(λf h=>by cases h),λy b=>Rq t 1 now H n a y b⟩
 |cons f r=>
  unfold nK;simp only;have d:∀g∈r,∀u,kJ g u=u:=λg j=>c g (by simp[j]);split
  ·exact⟨d,λy b=>.inl b⟩
  ·refine⟨d,λy b=>?_⟩;rcases Rq (kJ f t) (f.c+1) (now+f.d) H n a y b with q|⟨q,l⟩
   ·exact .inl q
   ·exact .inr ⟨by rw[q];exact c f (by simp) t,by omega⟩
def RD{now:Int}:∀(T:Wc){k:Lk},yL k->Lh k->(∀t∈T,t.length<=65536)->Lh (jw now T k)/\∀y∈(jw now T k).h,y∈k.h\/((∃t∈T,y.2.2=jf t)/\now<=y.1)
 |[],k,a,b,_=>⟨b,λy c=>.inl c⟩
 |t::r,k,a,b,f=>by
  obtain⟨h1,-,-⟩:=Xw (now:=now) a (Vs (f t (by simp)));obtain⟨g,h⟩:=aDv (now:=now) (t:=jf t) a b;obtain⟨i,j⟩:=RD (now:=now) r h1 g (λu d=>f u (by simp[d]));refine⟨i,λy c=>?_⟩;rcases j y c with q|⟨⟨u,d,q⟩,e⟩
  ·rcases h y q with q|⟨q,e⟩
   ·exact .inl q
   ·exact .inr ⟨⟨t,by simp,q⟩,e⟩
  ·exact .inr ⟨⟨u,by simp[d],q⟩,e⟩
def W0(V:Int)(xs:Q1)(x:Pr)(f:Q0):Prop:=∃t,f=jf t/\DZ x.s0 t/\Cont V xs x.s0.sm x.s0.h t
def W1(V:Int)(a:Q1)(x:Pr)(f:Q0):Prop:=∃t,f=jf t/\LU V x.s0 x.s1 t/\Cont V a x.s1.sm x.s1.h t
structure SI(V:Int)(ok:Bool)(xs ys:Q1)(x:Pr):Prop where
 s:pG V ok x.s0 x.s1
 a:kN xs [] [] x.s0.k x.s0.b x.s1.sm x.s1.h
 b:kN ys [] [] x.s1.k x.s1.b x.s0.sm x.s0.h
 v:VS x.s0/\VS x.s1
structure PI(V:Int)(ok:Bool)(xs ys:Q1)(x:Pr):Prop where
 i:SI V ok xs ys x
 f0:Lh x.k0
 f1:Lh x.k1
 t0:∀y∈x.k0.h,W0 V xs x y.2.2
 t1:∀y∈x.k1.h,W1 V ys x y.2.2
 o:gI x
 r:(∀e∈x.rc,0<=e.1/\e.1<=x.now)/\x.rc.Pairwise (λa b=>a.1<=b.1)
structure PL(x y:Pr):Prop where
 l:nD x.s0 x.s1 y.s0 y.s1
 h0:x.s0.h.1<=y.s0.h.1
 m0:x.s0.sm=true->y.s0.sm=true
 h1:x.s1.h.1<=y.s1.h.1
 m1:x.s1.sm=true->y.s1.sm=true
def PL.self(x:Pr):PL x x:=⟨nD.self _ _,gW _,id,gW _,id⟩
def PL.trans{x y z:Pr}(a:PL x y)(b:PL y z):PL x z:=⟨a.l.trans b.l,OY a.h0 b.h0,λe=>b.m0 (a.m0 e),OY a.h1 b.h1,λe=>b.m1 (a.m1 e)⟩
def PL.w0{V:Int}{xs:Q1}{x y:Pr}(p:PL x y){f:Q0}(w:W0 V xs x f):W0 V xs y f:=by obtain⟨t,e,h,c⟩:=w;exact⟨t,e,p.l.tp h,c.mono (λ_ h=>h) p.m0 p.h0⟩
def PL.w1{V:Int}{a:Q1}{x y:Pr}(p:PL x y){f:Q0}(w:W1 V a x f):W1 V a y f:=by obtain⟨t,e,h,c⟩:=w;exact⟨t,e,p.l.tq h,c.mono (λ_ h=>h) p.m1 p.h1⟩
def akx{now:Int}{c:Ys}(h:(∀e∈c,0<=e.1/\e.1<=now)/\c.Pairwise (λa b=>a.1<=b.1))(g:0<=now)(a b:Int):(∀e∈c++[(now,a,b)],0<=e.1/\e.1<=now)/\(c++[(now,a,b)]).Pairwise (λa b=>a.1<=b.1):=by
 constructor
 ·intro e d;rcases jJ.1 d with q|q
  ·exact h.1 e q
  ·rw[jK.1 q];exact⟨g,gW _⟩
 ·refine ael.2 ⟨h.2,List.pairwise_singleton _ _,λe d f i=>?_⟩;rw[jK.1 i];exact(h.1 e d).2
def ajH{t:Q0}(h:t.length<=65536):((kU (jf t)).2.2=0/\¬(kU (jf t)).2.1<(jf t).length)/\(kU (jf t)).1=t:=by rw[ajG h];exact⟨⟨rfl,Int.lt_irrefl _⟩,rfl⟩
def aoL{V:Int}{ok:Bool}{xs k:Q1}{x:Pr}(h:PI V ok xs k x){f:Q0}(w:W0 V xs x f):PI V ok xs k (mP 1 f x)/\PL x (mP 1 f x):=by
 obtain⟨t,rfl,l,m⟩:=w;obtain⟨c,e⟩:=ajH l.1;obtain⟨n,o,p⟩:=aAe h.i.s l;have a:=ahL h.i.s.oU (λe=>(h.i.s.q2 e).2) h.i.a h.i.b m;have d:=(UW (i:=1) (t:=jf t) h.o).1;have g:=Ju t x.s1;unfold mP at d⊢;rw[aj c,e,ah (by decide)]at d⊢;obtain⟨r,s⟩:=RD (now:=x.now) (eX t x.s1).2.1 h.o.k1 h.f1 (λu b=>(g u b).1);have pl:PL x {x with s1:=(eX t x.s1).1,k1:=jw x.now (eX t x.s1).2.1 x.k1,rc:=x.rc++[(x.now,1,(eX t x.s1).2.2)]}:=⟨o,gW _,id,a.h,a.m⟩
 refine⟨⟨⟨n,a.a,a.b,h.i.v.1,ahD h.i.v.2⟩,h.f0,r,λy j=>pl.w0 (h.t0 y j),λy j=>?_,d,akx h.r h.o.now _ _⟩,pl⟩;rcases s y j with q|⟨⟨u,b,q⟩,-⟩
 ·exact pl.w1 (h.t1 y q)
 ·exact⟨u,q,p u b,a.c u b⟩
def aoK{V:Int}{ok:Bool}{xs d:Q1}{x:Pr}(h:PI V ok xs d x){f:Q0}(w:W1 V d x f):PI V ok xs d (mP 0 f x)/\PL x (mP 0 f x):=by
 obtain⟨t,rfl,l,m⟩:=w;obtain⟨c,e⟩:=ajH l.1;obtain⟨n,o,p⟩:=ayP h.i.s l;have a:=ahL h.i.s.jh (λe=>(h.i.s.p2 e).2.1) h.i.b h.i.a m;have g:=(UW (i:=0) (t:=jf t) h.o).1;have j:=Ju t x.s0;unfold mP at g⊢;rw[aj c,e,aj rfl]at g⊢;obtain⟨r,s⟩:=RD (now:=x.now) (eX t x.s0).2.1 h.o.k0 h.f0 (λu b=>(j u b).1);have pl:PL x {x with s0:=(eX t x.s0).1,k0:=jw x.now (eX t x.s0).2.1 x.k0,rc:=x.rc++[(x.now,0,(eX t x.s0).2.2)]}:=⟨o,a.h,a.m,gW _,id⟩
 refine⟨⟨⟨n,a.b,a.a,ahD h.i.v.1,h.i.v.2⟩,r,h.f1,λy k=>?_,λy k=>pl.w1 (h.t1 y k),g,akx h.r h.o.now _ _⟩,pl⟩;rcases s y k with q|⟨⟨u,b,q⟩,-⟩
 ·exact pl.w0 (h.t0 y q)
 ·exact⟨u,q,p u b,a.c u b⟩
def afQ{V:Int}{ok:Bool}{xs a:Q1}:∀(T:Wc){x:Pr},PI V ok xs a x->(∀f∈T,W0 V xs x f)->PI V ok xs a (qV 1 T x)/\PL x (qV 1 T x)
 |[],x,h,_=>⟨h,PL.self x⟩
 |t::r,x,h,w=>by obtain⟨h1,b⟩:=aoL h (w t (by simp));obtain⟨c,d⟩:=afQ r h1 (λf e=>b.w0 (w f (by simp[e])));exact⟨c,b.trans d⟩
def afP{V:Int}{ok:Bool}{xs a:Q1}:∀(T:Wc){x:Pr},PI V ok xs a x->(∀f∈T,W1 V a x f)->PI V ok xs a (qV 0 T x)/\PL x (qV 0 T x)
 |[],x,h,_=>⟨h,PL.self x⟩
 |t::r,x,h,w=>by obtain⟨h1,b⟩:=aoK h (w t (by simp));obtain⟨c,d⟩:=afP r h1 (λf e=>b.w1 (w f (by simp[e])));exact⟨c,b.trans d⟩
def au9{V:Int}{ok:Bool}{xs c:Q1}{x:Pr}(h:PI V ok xs c x):PI V ok xs c (yh x)/\PL x (yh x):=by
 obtain⟨-,d2,d3⟩:=U5 x.now x.k0.h.length x.k0.h rfl h.o.k0.h;obtain⟨d,a⟩:=afQ (x:=zN x) (fJ x.k0.h.length x.now x.k0.h).1 ⟨⟨h.i.s,h.i.a,h.i.b,h.i.v⟩,h.f0,h.f1,λy b=>h.t0 y (d2 y b),h.t1,⟨h.o.s0,h.o.s1,(ML x.now h.o.k0).1,h.o.k1,h.o.now⟩,h.r⟩ (λf g=>by obtain⟨y,b,e⟩:=d3 f g;rw[<-e];exact h.t0 y b)
 exact⟨d,⟨a.l,a.h0,a.m0,a.h1,a.m1⟩⟩
def avb{V:Int}{ok:Bool}{xs c:Q1}{x:Pr}(h:PI V ok xs c x):PI V ok xs c (yY x)/\PL x (yY x):=by
 obtain⟨-,d2,d3⟩:=U5 x.now x.k1.h.length x.k1.h rfl h.o.k1.h;obtain⟨d,a⟩:=afP (x:=AQ x) (fJ x.k1.h.length x.now x.k1.h).1 ⟨⟨h.i.s,h.i.a,h.i.b,h.i.v⟩,h.f0,h.f1,h.t0,λy b=>h.t1 y (d2 y b),⟨h.o.s0,h.o.s1,h.o.k0,(ML x.now h.o.k1).1,h.o.now⟩,h.r⟩ (λf g=>by obtain⟨y,b,e⟩:=d3 f g;rw[<-e];exact h.t1 y b)
 exact⟨d,⟨a.l,a.h0,a.m0,a.h1,a.m1⟩⟩
def anZ{V:Int}{ok:Bool}{xs a:Q1}{x:Pr}(h:PI V ok xs a x):PI V ok xs a (uG x)/\PL x (uG x):=by obtain⟨b,c⟩:=au9 h;obtain⟨d,e⟩:=avb b;exact⟨d,c.trans e⟩
def akQ{V:Int}{ok:Bool}{xs a:Q1}:∀(n:Nat){x:Pr},PI V ok xs a x->PI V ok xs a (uU n x)/\PL x (uU n x)
 |0,x,h=>⟨h,PL.self x⟩
 |n+1,x,h=>by
  unfold uU;split
  ·exact⟨h,PL.self x⟩
  ·split
   ·obtain⟨h1,b⟩:=anZ h;obtain⟨c,d⟩:=akQ n h1;exact⟨c,b.trans d⟩
   ·exact⟨h,PL.self x⟩
def abt{V:Int}{ok:Bool}{xs a:Q1}{x:Pr}(h:PI V ok xs a x){n:Int}(b:x.now<=n):PI V ok xs a {x with now:=n}/\PL x {x with now:=n}:=
 ⟨⟨⟨h.i.s,h.i.a,h.i.b,h.i.v⟩,h.f0,h.f1,h.t0,h.t1,⟨h.o.s0,h.o.s1,h.o.k0,h.o.k1,OY h.o.now b⟩,⟨λe c=>⟨(h.r.1 e c).1,OY (h.r.1 e c).2 b⟩,h.r.2⟩⟩,⟨nD.self _ _,gW _,id,gW _,id⟩⟩
def ano{V:Int}{ok:Bool}{xs b:Q1}{x:Pr}(h:PI V ok xs b x)(a:Int):PI V ok xs b (tV a x)/\PL x (tV a x):=by obtain⟨c,d⟩:=abt h (n:=if x.now+1<a then a else x.now+1) (by split<;>omega);obtain⟨e,f⟩:=akQ (dW x+1) c;exact⟨e,d.trans f⟩
def ahn{V:Int}{ok:Bool}{xs b:Q1}:∀(n:Nat)(last:Int){x:Pr},PI V ok xs b x->PI V ok xs b (vT n last x)/\PL x (vT n last x)
 |0,last,x,h=>⟨h,PL.self x⟩
 |n+1,last,x,h=>by
  unfold vT;split;rotate_left
  ·exact⟨h,PL.self x⟩
  next c=>
  split
  ·exact abt h (by omega)
  ·split
   ·exact abt h (by omega)
   ·next a _ _=>
    obtain⟨h1,d⟩:=ano h a;obtain⟨e,f⟩:=ahn n last h1;exact⟨e,d.trans f⟩
def aEs{V:Int}{ok:Bool}{xs a:Q1}{x:Pr}(h:PI V ok xs a x)(n:Int):PI V ok xs a (Dx n x)/\PL x (Dx n x):=ahn _ _ h
def azD{V:Int}{ok:Bool}{xs m:Q1}{x:Pr}(h:PI V ok xs m x)(e:Int):PI V ok xs m (kV e x)/\PL x (kV e x):=by
 have a:=(akh (e:=e) h.o).1;unfold kV at a⊢;split
 ·next c=>
  rw[aj c]at a;obtain⟨f,n,g⟩:=ayQ h.i.s;have i:=aki h.i.s.jh (λe=>(h.i.s.p2 e).2.1) h.i.a;obtain⟨j,k⟩:=RD (now:=x.now) (ji x.s0).1 h.o.k0 h.f0 (NZ x.s0);have pl:PL x {x with s0:=qg x.s0,k0:=jw x.now (ji x.s0).1 x.k0}:=⟨n,gW _,id,gW _,id⟩
  refine⟨⟨⟨f,h.i.a,h.i.b,azF h.i.v.1,h.i.v.2⟩,j,h.f1,λy b=>?_,λy b=>pl.w1 (h.t1 y b),a,h.r⟩,pl⟩;rcases k y b with q|⟨⟨u,d,q⟩,-⟩
  ·exact pl.w0 (h.t0 y q)
  ·exact⟨u,q,g u d,i u d⟩
 next c=>
 rw[ah c]at a;split
 ·next o=>
  rw[aj o]at a;obtain⟨f,g⟩:=aAm h.i.s;have i:=aki h.i.s.oU (λe=>(h.i.s.q2 e).2) h.i.b;obtain⟨j,k⟩:=RD (now:=x.now) (ji x.s1).1 h.o.k1 h.f1 (NZ x.s1);rw[f]at a⊢;have pl:PL x {x with s1:=x.s1,k1:=jw x.now (ji x.s1).1 x.k1}:=⟨nD.self _ _,gW _,id,gW _,id⟩
  refine⟨⟨⟨h.i.s,h.i.a,h.i.b,h.i.v⟩,h.f0,j,λy b=>pl.w0 (h.t0 y b),λy b=>?_,a,h.r⟩,pl⟩;rcases k y b with q|⟨⟨u,d,q⟩,-⟩
  ·exact pl.w1 (h.t1 y q)
  ·exact⟨u,q,g u d,i u d⟩
 ·exact⟨h,PL.self x⟩
def Hr(v:Sn)(e:Int)(xs:Q1):Q1:=if e=0 then ku (.zu v.1) (sn v) xs else xs
def ahr{xs:Q1}{k:List Sn}{b:Int}{a:Bool}{h:Sn}(f:kN xs [] [] k b a h){v:Sn}{m:Tm}(g:zB xs m):zB (Hr v (iW v k b).1 xs) m:=by
 unfold Hr;split;rotate_left
 ·exact g
 next c=>
 obtain⟨-,d⟩:=acB c;refine ahp g λe i j=>?_;obtain⟨l,n,o⟩:=f.keys e i j;have:=d l n;omega
def azS{V:Int}{ok:Bool}{xs f:Q1}{x:Pr}(h:PI V ok xs f x){e:Int}{v:Sn}(i:dU v.2)(h0:0<=v.1/\v.1<18446744073709551616):
 PI V ok (if e=0 then Hr v (BA e v x) xs else xs) (if e=1 then Hr v (BA e v x) f else f) (jV e v x)/\PL x (jV e v x):=by
 have a:=(akn (e:=e) h.o i h0).1;unfold jV BA at *;by_cases c:e=0
 ·have d:¬e=1:=by omega
  rw[aj c]at a⊢;rw[aj c,ah d,aj c];obtain⟨j,k⟩:=h.i.s.ajd (p':=EO v x.s0) a.s0 rfl rfl rfl rfl rfl rfl;have pl:PL x {x with s0:=EO v x.s0}:=⟨k,gW _,id,gW _,id⟩
  refine⟨⟨⟨j,ag4 h.i.a i h0,h.i.b,h.i.v⟩,h.f0,h.f1,λy b=>?_,λy b=>pl.w1 (h.t1 y b),a,h.r⟩,pl⟩;obtain⟨t,l,n,o⟩:=pl.w0 (h.t0 y b);exact⟨t,l,n,o.mono (λm g=>ahr h.i.a g) id (gW _)⟩
 rw[ah c]at a⊢;rw[ah c];by_cases d:e=1
 ·rw[aj d]at a⊢;rw[aj d,ah c,aj d];obtain⟨j,k⟩:=h.i.s.aje (q':=EO v x.s1) a.s1 rfl rfl rfl rfl rfl rfl;have pl:PL x {x with s1:=EO v x.s1}:=⟨k,gW _,id,gW _,id⟩
  refine⟨⟨⟨j,h.i.a,ag4 h.i.b i h0,h.i.v⟩,h.f0,h.f1,λy b=>pl.w0 (h.t0 y b),λy b=>?_,a,h.r⟩,pl⟩;obtain⟨t,l,n,o⟩:=pl.w1 (h.t1 y b);exact⟨t,l,n,o.mono (λm g=>ahr h.i.b g) id (gW _)⟩
 ·simp only[ah c,ah d]at a⊢;exact⟨h,PL.self x⟩
structure RX(xs:Q1):Prop where
 el:∀e g,fZ (.zu e) xs=some g->∃s:Sn,g=sn s/\s.1=e/\Tb s.2
 up:∀s l:Sn,fZ (.zu s.1) xs=some (sn s)->fZ (.zu l.1) xs=some (sn l)->s.1<=l.1->kH l.2 s.2=true
def akS:RX []:=⟨λe g h=>by simp[fZ]at h,λs l h=>by simp[fZ]at h⟩
def azQ{v:Sn}{k:List Sn}{b:Int}(h0:(iW v k b).1=0):oz v.2=0/\∀l,k.getLast? =some l->l.1<v.1/\kH v.2 l.2=true:=by
 unfold iW at h0;split at h0
 ·next c=>exact absurd h0 c
 next c=>
 split at h0
 ·cases h0
 refine⟨Classical.not_not.1 c,λl a=>?_⟩;rw[a]at h0;simp only at h0;split at h0
 ·cases h0
 split at h0
 ·cases h0
 next e d=>exact⟨by omega,by simpa using d⟩
def akT{xs:Q1}{k:List Sn}{b:Int}{u:Bool}{h:Sn}(f:kN xs [] [] k b u h)(r:RX xs){v:Sn}(w:dU v.2)(h0:0<=v.1/\v.1<18446744073709551616):RX (Hr v (iW v k b).1 xs):=by
 unfold Hr;split;rotate_left
 ·exact r
 next m=>
 obtain⟨F,x⟩:=azQ m;obtain⟨y,-⟩:=acB m;have z:=acA (b:=b) f.lead.kp w h0;have n:=z.tb v (DU y);have o:jC v.2:=n.ok.2.1;have below:∀s:Sn,fZ (.zu s.1) xs=some (sn s)->s.1<v.1/\kH v.2 s.2=true:=λs a=>by obtain⟨l,p,A⟩:=f.keys _ _ a;obtain⟨G,B⟩:=x l p;have d:=f.lead.map l (DU p);obtain⟨H,D,-,q⟩:=r.el _ _ a;rw[<-Oz D]at q;obtain⟨I,E,-,t⟩:=r.el _ _ d;rw[<-Oz E]at t;exact⟨by omega,ae0 o t.ok.2.1 q.ok.2.1 B (r.up s l a d A)⟩
 constructor
 ·intro e g i;rw[tN]at i;split at i
  ·next c=>injection i with i;exact⟨v,i.symm,c.symm,n⟩
  ·exact r.el e g i
 ·intro s l a d j;rw[tN]at a d;split at d
  ·injection d with d
   obtain rfl:=Oz d;split at a
   ·injection a with a
    obtain rfl:=Oz a;exact anm o
   ·exact(below s a).2
  ·split at a
   ·next c=>
    have:=(below l d).1;omega
   ·exact r.up s l a d j
def asx{xs:Q1}{k:List Sn}{b:Int}{i:Bool}{h:Sn}(f:kN xs [] [] k b i h)(r:RX xs):h.1<=(dY k).1/\(h.1=(dY k).1->h=dY k)/\kH (dY k).2 h.2=true:=by
 unfold dY;cases c:k.getLast? with
 |none=>
  simp only[uF];rcases f.has with⟨-,a,-⟩|⟨-,a⟩
  ·obtain⟨l,q,-⟩:=f.keys _ _ a;rw[c]at q;cases q
  ·rw[a];exact⟨Int.le_refl _,λ_=>rfl,aeZ _⟩
 |some l=>
  simp only[rV];obtain⟨d,j⟩:=f.le_last c;have g:=DU c;rcases f.has with⟨m,a,-⟩|⟨-,a⟩
  ·exact⟨d,j m,r.up h l a (f.lead.map l g) d⟩
  ·have:=f.lead.kp.pos l g;refine⟨d,λe=>?_,by rw[a];exact aeZ _⟩;rw[a]at e;simp only[zS]at e;omega
def awo(k:List Sn)(h:k.getLast?.isSome=false):dY k=zS:=by
 unfold dY;cases a:k.getLast? with
 |none=>rfl
 |some l=>rw[a]at h;cases h
def OL(a b:bP):Bool:=(a.st==2 ||a.ver==0)&&(b.st==2 ||b.ver==0)&&(!(a.st==2&&b.st==2) ||a.ver==b.ver)
def aFC{V:Int}{ok:Bool}{p q:bP}(h:pG V ok p q):OL p q=true:=by
 unfold OL;have d:=h.p2;have e:=h.q2;have c:=h.pz;have f:=h.qz;by_cases a:p.st=2
 ·obtain⟨-,g,b⟩:=d a;obtain⟨-,i⟩:=e b;simp[a,b,g,i]
 ·by_cases b:q.st=2
  ·simp[a,b,c a]
  ·simp[a,b,c a,f b]
def SmT(t:List Row):Prop:=∀r∈t,(dG r.1).length<=100
def AU(e:GV)(l:Q1):Q1:=l++[e]
def ZP(x:Pr)(b:gI x):TT.lim 362 (AU (.zq 0) (bW x))=some (Gt x.s0):=by have a:=ak7 x.s0 b.s0;simp only[AU,bW,Gt,dS,cO,bg,aX]at a⊢;refine au ?_;simp -implicitDefEqProofs[a]
def ZQ(x:Pr)(b:gI x):TT.lim 362 (AU (.zq 1) (bW x))=some (Gt x.s1):=by have a:=ak7 x.s1 b.s1;simp only[AU,bW,Gt,dS,cO,bg,aX]at a⊢;refine au ?_;simp -implicitDefEqProofs[a]
def asL(e:Int)(x:Pr)(h0:¬e=0)(h1:¬e=1):TT.lim 362 (AU (.zq e) (bW x))=some [.zq 1]:=by simp only[AU,bW,dS,cO,bg,aX];refine au ?_;simp -implicitDefEqProofs[h0,h1]
def ak8(s:bP)(a:kG s):TT.lim 244 (cO s)=some [.zq 0,.zu s.h.1,.l (s.h.2.map row),.b s.sm]:=by have h:=avj (.zq s.vs) s.sm s.h a.rc.good a.rc.no;unfold cO;refine au ?_;simp -implicitDefEqProofs[h]
def acW(s:bP)(a:kG s):TT.lim 245 (cO s)=some [.zq 0,.zu (dY s.k).1,.l ((dY s.k).2.map row),.b s.k.getLast?.isSome]:=by have h:=awJ (.zq s.vs) (.zu s.b) s.k a.kp;unfold cO;refine au ?_;simp -implicitDefEqProofs[h]
def Ie(r o:bP):Q1:=[.zu r.h.1,.l (r.h.2.map row),.zu (dY o.k).1,.l ((dY o.k).2.map row),.b r.sm,.b o.k.getLast?.isSome]
def adF(x:Pr)(a:gI x):TT.lim 361 (bW x)=some (.zq 0::(Ie x.s0 x.s1++Ie x.s1 x.s0)):=by have b:=ZP x a;have c:=ZQ x a;have d:=ak8 x.s0 a.s0;have e:=ak8 x.s1 a.s1;have f:=acW x.s0 a.s0;have g:=acW x.s1 a.s1;simp only[AU,bW,Gt,dS,cO,Ie,bg,aX]at b c d e f g⊢;generalize dY x.s0.k=h,dY x.s1.k=i at *;refine au ?_;simp -implicitDefEqProofs[b,c,d,e,f,g]
def aFD{p q:bP}(h:OL p q=true):TT.lim 368 (cO q++cO p)=some [.zq 0,.b true]:=by
 unfold OL at h;simp only[aK,oK,beq_iff_eq,wC,Bool.and_eq_false_iff,beq_eq_false_iff_ne]at h;obtain⟨⟨g,d⟩,b⟩:=h;simp only[cO,bg,aX];by_cases c:p.st=2
 ·have i:(p.st=2)=True:=eq_true c;by_cases a:q.st=2
  ·have e:p.ver=q.ver:=by
    rcases b with(b|b)|b
    ·exact absurd c b
    ·exact absurd a b
    ·exact b
   refine au ?_;simp -implicitDefEqProofs[c,a,e]
  ·have e:q.ver=0:=d.resolve_left a;refine au ?_;simp -implicitDefEqProofs[c,a,e]
 ·have f:p.ver=0:=g.resolve_left c;by_cases a:q.st=2
  ·refine au ?_;simp -implicitDefEqProofs[c,a,f]
  ·have e:q.ver=0:=d.resolve_left a;refine au ?_;simp -implicitDefEqProofs[c,a,e,f]
def anA(x:Pr)(a:gI x)(h:OL x.s0 x.s1=true):TT.lim 380 (bW x)=some [.zq 0,.b true]:=by have b:=ZP x a;have c:=ZQ x a;have d:=aFD h;simp only[AU,bW,Gt,dS,cO,bg,aX]at b c d⊢;refine au ?_;simp -implicitDefEqProofs[b,c,d]
def akG(now:Int)(l:Ys)(p:l.length<=1000000)(h1:∀e∈l,e.1<=now)(j:l.Pairwise λa b=>a.1<=b.1):∀(m i:Nat)(a:Int),i+m=l.length->(∀e∈l.drop i,a<=e.1)->TT.lim 172 [.zu now,.zu a,.l (l.map oM),.zq (l.length:Int),.zq (i:Int)]=some [.zq 1]
 |0,i,a,hi,_=>by
  have c:¬((i:Int)<l.length):=by omega
  refine au ?_;simp -implicitDefEqProofs[c]
 |m+1,i,a,hi,q=>by
  have d:i<l.length:=by omega
  have c:(i:Int)<l.length:=by omega
  have r:IntKind.i64.wrap ((i:Int)+1)=((i+1:Nat):Int):=by rw[wrap64 (by omega) (by omega)];omega
  have f:at2 3 (some (.l (l.map oM))) (some (.zq (i:Int)))=some (oM l[i]):=by rw[eF,nI,xG,iY,bT d];rfl
  have k:l.drop i=l[i]::l.drop (i+1):=iC d;have s:=q l[i] (by rw[k];exact OZ);have t:=h1 l[i] (gX d);have n:(l.drop i).Pairwise λa b=>a.1<=b.1:=j.sublist (Yt _ _);rw[k]at n;have o:=akG now l p h1 j m (i+1) l[i].1 (by omega) (iZ.1 n).1;rw[<-r]at o;generalize l[i]=e,l.map oM=u,(l.length:Int)=v at *;have g:¬e.1<a:=by omega
  have h:¬now<e.1:=by omega
  refine au ?_;simp -implicitDefEqProofs[-eF,c,f,g,h,o]
def aAR(now:Int)(l:Ys)(h0:∀e∈l,0<=e.1)(c:l.length<=1000000)(h1:∀e∈l,e.1<=now)(d:l.Pairwise λa b=>a.1<=b.1):TT.lim 171 [.l (l.map oM),.zu now]=some [.b true]:=by
 have h:=akG now l c h1 d l.length 0 0 (by omega) h0;have f:((l.map oM).length:Int)=(l.length:Int):=by rw[gG]
 simp only[sW]at h;generalize l.map oM=g,(l.length:Int)=i at *;refine aT ?_;simp -implicitDefEqProofs[f,h]
def aDs(a b:Int)(s t:GV)(h:¬a=b):TT.lim 197 [.zu a,s,.zu b,t]=some [.zq 0,.b false]:=by have c:¬b=a:=λe=>h e.symm;refine au ?_;simp -implicitDefEqProofs[h,c]
def xg(r o:bP):Bool:=if r.sm=true/\o.k.getLast?.isSome=true then decide (r.h.1=(dY o.k).1)else r.sm==o.k.getLast?.isSome
structure O3(r o:bP):Prop where
 eq:r.h.1=(dY o.k).1->r.h=dY o.k
 tl:Tb (dY o.k).2
structure Tz(r o:bP):Prop extends O3 r o where
 le:r.h.1<=(dY o.k).1
 at_:kH (dY o.k).2 r.h.2=true
 th:Tb r.h.2
def awR{r o:bP}(h:O3 r o)(a:r.sm=true)(b:o.k.getLast?.isSome=true):TT.lim 197 [.zu (dY o.k).1,.l ((dY o.k).2.map row),.zu r.h.1,.l (r.h.2.map row)]=some [.zq 0,.b (xg r o)]:=by
 unfold xg;rw[aj ⟨a,b⟩];by_cases c:r.h.1=(dY o.k).1
 ·rw[h.eq c];rw[Gq rfl];exact acU _ h.tl.good
 ·rw[Ed c];exact aDs _ _ _ _ (λe=>c e.symm)
def aiB{r o:bP}(h:O3 r o):(r.sm=false/\xg r o=(false==o.k.getLast?.isSome))\/(r.sm=true/\o.k.getLast?.isSome=false/\xg r o=false)\/(r.sm=true/\o.k.getLast?.isSome=true/\TT.lim 197 [.zu (dY o.k).1,.l ((dY o.k).2.map row),.zu r.h.1,.l (r.h.2.map row)]=some [.zq 0,.b (xg r o)]):=by
 cases a:r.sm with
 |false=>exact .inl ⟨rfl,by unfold xg;rw[a];simp⟩
 |true=>
  cases b:o.k.getLast?.isSome with
  |false=>exact .inr (.inl ⟨rfl,rfl,by unfold xg;rw[a,b];simp⟩)
  |true=>exact .inr (.inr ⟨rfl,rfl,awR h a b⟩)
def awS(x:Pr)(b:gI x)(h0:O3 x.s0 x.s1)(h1:O3 x.s1 x.s0):TT.lim 360 (bW x)=some [.zq 0,.b (xg x.s0 x.s1),.b (xg x.s1 x.s0)]:=by
 have a:=adF x b;have d0:=aiB h0;have d1:=aiB h1;simp only[bW,Ie,dS,cO,bg,aX]at a⊢;generalize xg x.s0 x.s1=c,xg x.s1 x.s0=d,dY x.s0.k=e,dY x.s1.k=f,x.s0.k.getLast?.isSome=g,x.s1.k.getLast?.isSome=h,x.s0.sm=i,x.s1.sm=j at *;rcases d0 with⟨rfl,rfl⟩|⟨rfl,rfl,rfl⟩|⟨rfl,rfl,d0⟩<;>rcases d1 with⟨rfl,rfl⟩|⟨rfl,rfl,rfl⟩|⟨rfl,rfl,d1⟩<;>refine au ?_
 ·simp[a]
 ·simp[a]
 ·simp[a,d1]
 ·simp[a]
 ·simp[a]
 ·simp[a,d1]
 ·simp[a,d0]
 ·simp[a,d0]
 ·simp[a,d0,d1]
def afe{r o:bP}(h:Tz r o):TT.lim 166 [.g (Ie r o)]=some [.b true]:=by have a:=Y5 (dY o.k).2 r.h.2 h.tl.ok.1 h.th.ok.1 h.tl.few h.th.few;rw[h.at_]at a;unfold Ie;generalize dY o.k=L at *;refine aT ?_;simp -implicitDefEqProofs[a]
structure SN(x:Pr):Prop where
 a:Tz x.s0 x.s1
 b:Tz x.s1 x.s0
 v:OL x.s0 x.s1=true
 r0:∀e∈x.rc,0<=e.1
 r1:∀e∈x.rc,e.1<=x.now
 r2:x.rc.Pairwise λa b=>a.1<=b.1
def anB(x:Pr)(h:SN x)(a:x.rc.length<=100000):TT.lim 381 (bW x)=some [.zq 0,.b true]:=by have b:=aou x.rc a;have c:=aAR x.now x.rc h.r0 (by omega) h.r1 h.r2;simp only[bW,dS,cO,bg,aX];refine au ?_;simp -implicitDefEqProofs[b,c]
set_option maxHeartbeats 2000000 in
def anC(x:Pr)(l:gI x)(h:SN x)(p:x.rc.length<=100000):TT.lim 379 (bW x)=some [.zq 0]:=by
 have a:=adF x l;have b:=anA x l h.v;have d:=anB x h p;have i:=afe h.a;have f:=afe h.b;have m:=h.a.le;have n:=h.b.le;have j:x.s0.h.1=(dY x.s1.k).1->TT.lim 197 [.zu (dY x.s1.k).1,.l ((dY x.s1.k).2.map row),.zu x.s0.h.1,.l (x.s0.h.2.map row)]=some [.zq 0,.b true]:=λc=>by rw[h.a.eq c];exact acU _ h.a.tl.good
 have e:x.s1.h.1=(dY x.s0.k).1->TT.lim 197 [.zu (dY x.s0.k).1,.l ((dY x.s0.k).2.map row),.zu x.s1.h.1,.l (x.s1.h.2.map row)]=some [.zq 0,.b true]:=λc=>by rw[h.b.eq c];exact acU _ h.b.tl.good
 unfold Ie at a i f;generalize dY x.s0.k=o,dY x.s1.k=q at *;simp only[bW,dS,cO,bg,aX]at a b d⊢;by_cases k:x.s0.h.1=q.1
 ·have j:=j k;rw[k]at a b i d j⊢;by_cases g:x.s1.h.1=o.1
  ·have e:=e g;rw[g]at a b f d e⊢;refine au ?_;simp -implicitDefEqProofs[a,b,i,f,d,j,e]
  ·refine au ?_;simp -implicitDefEqProofs[a,b,i,f,d,j,n,g]
 ·by_cases g:x.s1.h.1=o.1
  ·have e:=e g;rw[g]at a b f d e⊢;refine au ?_;simp -implicitDefEqProofs[a,b,i,f,d,e,m,k]
  ·refine au ?_;simp -implicitDefEqProofs[a,b,i,f,d,m,n,k,g]
def aAP(x:Pr)(b:gI x)(h:SN x)(c:x.rc.length<=100000):TT.lim 378 (bW x)=some [.zq 0]:=by have a:=anC x b h c;simp only[bW,dS,cO,bg,aX]at a⊢;refine au ?_;simp -implicitDefEqProofs[a]
def aeR(a:Ap)(s:bP)(d:kG s)(h:dU a.x.2):
 TT.lim 255 ([.i .u8 a.jQ,.zq a.en,.zu a.x.1,.l (a.x.2.map row),.zu a.ep,.i .u8 a.tk]++cO s)=some [.zq 0,.zu (y9 a.x a.ep s.k).1,.l ((y9 a.x a.ep s.k).2.map row)]:=by
 have c:=acW s d;have e:=aeU (dY s.k) ((dY s.k).1,IntKind.u64.wrap ((dY s.k).1+a.ep),a.x.2) (aa2 d.kp).good h;unfold y9;have f:GV.g [.zu (dY s.k).1,.l ((dY s.k).2.map row)]=sn (dY s.k):=rfl;have g:GV.g [.zu (dY s.k).1,.zu (IntKind.u64.wrap ((dY s.k).1+a.ep)),.l (a.x.2.map row)]=dl ((dY s.k).1,IntKind.u64.wrap ((dY s.k).1+a.ep),a.x.2):=rfl;generalize mM (dY s.k) ((dY s.k).1,IntKind.u64.wrap ((dY s.k).1+a.ep),a.x.2)=A at *;obtain⟨⟨j,k⟩,i⟩:=A;simp only[cO,bg,aX]at c⊢;generalize dY s.k=L at *;by_cases b:i=0
 ·rw[ah (by simpa using b)];subst b;refine au ?_;simp -implicitDefEqProofs[c,f,g,e]
 ·rw[aj b];refine au ?_;simp -implicitDefEqProofs[c,f,g,e,b]
def qR(a:Ap)(x:Pr):Sn:=if a.jQ.tmod 8=0 then a.x else if a.en=0 then y9 a.x a.ep x.s0.k else y9 a.x a.ep x.s1.k
noncomputable def xU (a:Ap) (x:Pr):Pr:=if a.jQ.tmod 8=0\/a.jQ.tmod 8=1\/a.jQ.tmod 8=2 then jV a.en (qR a x) x else if a.jQ.tmod 8=3\/a.jQ.tmod 8=4 then kV a.en x else if a.jQ.tmod 8=5\/a.jQ.tmod 8=6 then Dx a.tk x else x
def AP(a:Ap):Q1:=[.i .u8 a.jQ,.zq a.en,.zu a.x.1,.l (a.x.2.map row),.zu a.ep,.i .u8 a.tk]
def azT(e:Int)(v:Sn)(x:Pr):(jV e v x).rc=x.rc/\(jV e v x).k0=x.k0/\(jV e v x).k1=x.k1/\(jV e v x).s0.st=x.s0.st/\(jV e v x).s0.ver=x.s0.ver/\(jV e v x).s0.vs=x.s0.vs/\(jV e v x).s0.sm=x.s0.sm/\(jV e v x).s0.h=x.s0.h/\(jV e v x).s1.st=x.s1.st/\(jV e v x).s1.ver=x.s1.ver/\(jV e v x).s1.vs=x.s1.vs/\(jV e v x).s1.sm=x.s1.sm/\(jV e v x).s1.h=x.s1.h/\(jV e v x).now=x.now:=by
 unfold jV EO;split
 ·simp
 split
 ·simp
 ·simp
def azE(e:Int)(x:Pr):(kV e x).rc=x.rc/\(kV e x).s0.ver=x.s0.ver/\(kV e x).s0.vs=x.s0.vs/\(kV e x).s0.sm=x.s0.sm/\(kV e x).s0.h=x.s0.h/\(kV e x).s0.k=x.s0.k/\(kV e x).s0.b=x.s0.b/\(kV e x).s1.ver=x.s1.ver/\(kV e x).s1.vs=x.s1.vs/\(kV e x).s1.sm=x.s1.sm/\(kV e x).s1.h=x.s1.h/\(kV e x).s1.k=x.s1.k/\(kV e x).s1.b=x.s1.b/\(kV e x).now=x.now:=by
 unfold kV qg;split
 ·simp
 split
 ·simp
 ·simp
def ZM (a:Ap) (v:Sn) (x:Pr) (l:dU v.2) (m:gI x) (n:∀g h i j k:GV,TT.lim 383 ([.zq a.en,.zu v.1,.l (v.2.map row)]++bW x)=some [.zq 0,g,h,i,j,k]->
 TT.lim 382 (AP a++bW x)=some (.zq 0::.zu x.now::.l (x.rc.map oM)::(dS x.k1++(dS x.k0++[.zq x.s1.st,.zq x.s1.ver,.zq x.s1.vs,.b x.s1.sm,.zu x.s1.h.1,.l (x.s1.h.2.map row),h,i,.zq x.s0.st,.zq x.s0.ver,.zq x.s0.vs,.b x.s0.sm,.zu x.s0.h.1,.l (x.s0.h.2.map row),j,k])))):
 TT.lim 382 (AP a++bW x)=some (.zq 0::.zu (jV a.en v x).now::iI (jV a.en v x)):=by
 have o:=n _ _ _ _ _ (ayT a.en v x l m);obtain⟨p,q,r,s,t,u,w,y,z,b,c,d,e,f⟩:=azT a.en v x;rw[o];unfold iI lJ;rw[p,q,r,s,t,u,w,y,z,b,c,d,e,f];rfl
set_option maxHeartbeats 8000000 in
def asB(a:Ap)(x:Pr)(m:yH a)(i:dU a.x.2)(b:gI x)(D:x.now<=700000000000)(E:dW x<=80000):
 TT.lim 382 (AP a++bW x)=some (.zq 0::.zu (xU a x).now::iI (xU a x)):=by
 have F:=m.jQ;unfold xU;by_cases d0:a.jQ.tmod 8=0
 ·rw[aj (.inl d0)];have j:qR a x=a.x:=by unfold qR;rw[aj d0]
  rw[j];refine ZM a a.x x i b λg w y z A c=>?_;simp only[bW,AP,dS,cO,bg,aX]at c⊢;refine au ?_;simp -implicitDefEqProofs[d0,c]
 by_cases d12:a.jQ.tmod 8=1\/a.jQ.tmod 8=2
 ·rw[aj (.inr d12)];by_cases k:a.en=0
  ·have j:qR a x=y9 a.x a.ep x.s0.k:=by unfold qR;rw[ah d0,aj k]
   rw[j];have e:=aeR a x.s0 b.s0 i;have d:=ZP x b;refine ZM a _ x (WO b.s0.kp i m.v).1 b λg w y z A c=>?_;generalize y9 a.x a.ep x.s0.k=v at *;simp only[AU,bW,AP,Gt,dS,cO,bg,aX]at c e d⊢;rw[k]at c e⊢;rcases d12 with d1|d1
   ·refine au ?_;simp -implicitDefEqProofs[d1,c,e,d]
   ·refine au ?_;simp -implicitDefEqProofs[d1,c,e,d]
  by_cases o:a.en=1
  ·have j:qR a x=y9 a.x a.ep x.s1.k:=by unfold qR;rw[ah d0,ah k]
   rw[j];have e:=aeR a x.s1 b.s1 i;have d:=ZQ x b;refine ZM a _ x (WO b.s1.kp i m.v).1 b λg w y z A c=>?_;generalize y9 a.x a.ep x.s1.k=v at *;simp only[AU,bW,AP,Gt,dS,cO,bg,aX]at c e d⊢;rw[o]at c e⊢;rcases d12 with d1|d1
   ·refine au ?_;simp -implicitDefEqProofs[d1,c,e,d]
   ·refine au ?_;simp -implicitDefEqProofs[d1,c,e,d]
  ·have G:jV a.en (qR a x) x=x:=by unfold jV;rw[ah k,ah o]
   rw[G];have d:=asL a.en x k o;simp only[AU,bW,AP,iI,lJ,dS,cO,bg,aX]at d⊢;rcases d12 with d1|d1
   ·refine au ?_;simp -implicitDefEqProofs[d1,d]
   ·refine au ?_;simp -implicitDefEqProofs[d1,d]
 rw[ah (λh=>h.elim d0 d12)];by_cases p:a.jQ.tmod 8=3\/a.jQ.tmod 8=4
 ·rw[aj p];have f:=ayS a.en x b (by omega) (by omega);obtain⟨H,I,J,L,M,N,O,P,Q,q,r,s,t,u⟩:=azE a.en x;generalize kV a.en x=Z at *;simp only[bW,AP,iI,lJ,dS,cO,bg,aX]at f⊢;rw[H,I,J,L,M,N,O,P,Q,q,r,s,t,u];rcases p with d1|d1
  ·refine au ?_;simp -implicitDefEqProofs[d1,f]
  ·refine au ?_;simp -implicitDefEqProofs[d1,f]
 rw[ah p];by_cases P9:a.jQ.tmod 8=5\/a.jQ.tmod 8=6
 ·rw[aj P9];have l:=m.tk;have f:=aEt a.tk x l.1 (by omega) b D E;obtain⟨-,-,R⟩:=step_ok (n:=a.tk) l.1 b;have B:=jA (a.tk);rw[<-R]at f;generalize Dx a.tk x=Z at *;simp only[bW,AP,iI,lJ,dS,cO,bg,aX]at f⊢;rcases P9 with d1|d1
  ·refine au ?_;simp -implicitDefEqProofs[d1,B,f]
  ·refine au ?_;simp -implicitDefEqProofs[d1,B,f]
 ·rw[ah P9];have d7:a.jQ.tmod 8=7:=by have:=Int.tmod_nonneg 8 F.1;have:=Int.tmod_lt_of_pos a.jQ (show(0:Int)<8 by decide);omega
  simp only[bW,AP,iI,lJ,dS,cO,bg,aX];refine au ?_;simp -implicitDefEqProofs[d7]
def TY(a:Ap)(x:Pr)(xs:Q1):Q1:=if(a.jQ.tmod 8=0\/a.jQ.tmod 8=1\/a.jQ.tmod 8=2)/\a.en=0 then Hr (qR a x) (BA a.en (qR a x) x) xs else xs
def Ua(a:Ap)(x:Pr)(b:Q1):Q1:=if(a.jQ.tmod 8=0\/a.jQ.tmod 8=1\/a.jQ.tmod 8=2)/\a.en=1 then Hr (qR a x) (BA a.en (qR a x) x) b else b
def YW{a:Ap}{x:Pr}(b:yH a)(c:dU a.x.2)(d:gI x):dU (qR a x).2/\0<=(qR a x).1/\(qR a x).1<18446744073709551616:=by
 unfold qR;split
 ·exact⟨c,b.v⟩
 split
 ·exact WO d.s0.kp c b.v
 ·exact WO d.s1.kp c b.v
def am0{V:Int}{ok:Bool}{xs b:Q1}{x:Pr}(h:PI V ok xs b x){a:Ap}(d:yH a)(e:dU a.x.2):PI V ok (TY a x xs) (Ua a x b) (xU a x)/\PL x (xU a x):=by
 obtain⟨f,g⟩:=YW d e h.o;unfold TY Ua xU;by_cases c:a.jQ.tmod 8=0\/a.jQ.tmod 8=1\/a.jQ.tmod 8=2
 ·simp only[c,true_and,if_true];exact azS h f g
 simp only[c,false_and,if_false];split
 ·exact azD h _
 split
 ·exact aEs h _
 ·exact⟨h,PL.self x⟩
def amZ{a:Ap}{x:Pr}(g:yH a)(i:dU a.x.2)(b:gI x):gI (xU a x)/\dW (xU a x)<=dW x+6/\(xU a x).now<=x.now+255:=by
 obtain⟨j,k⟩:=YW g i b;have d:=g.tk;unfold xU;split
 ·obtain⟨c,f,h⟩:=akn (e:=a.en) b j k;exact⟨c,by omega,by omega⟩
 split
 ·obtain⟨c,f,h⟩:=akh (e:=a.en) b;exact⟨c,f,by omega⟩
 split
 ·obtain⟨c,f,h⟩:=step_ok d.1 b;exact⟨c,by omega,by omega⟩
 ·exact⟨b,by omega,by omega⟩
def azO(e:Int)(v:Sn)(x:Pr):Fix x (jV e v x):=by
 unfold jV;split
 ·exact⟨⟨rfl,rfl,rfl,rfl⟩,rfl,rfl,rfl,rfl⟩
 split
 ·exact⟨⟨rfl,rfl,rfl,rfl⟩,rfl,rfl,rfl,rfl⟩
 ·exact Fix.refl x
def azC(e:Int)(x:Pr):Fix x (kV e x):=by
 unfold kV;split
 ·exact⟨⟨rfl,rfl,rfl,rfl⟩,rfl,rfl,rfl,rfl⟩
 split
 ·exact⟨⟨rfl,rfl,rfl,rfl⟩,rfl,rfl,rfl,rfl⟩
 ·exact Fix.refl x
def aEr(n:Int)(x:Pr):Fix x (Dx n x):=ahl _ _ _
def amY(a:Ap)(x:Pr):Fix x (xU a x):=by
 unfold xU;split
 ·exact azO _ _ _
 split
 ·exact azC _ _
 split
 ·exact aEr _ _
 ·exact Fix.refl x
def am1{V:Int}{ok:Bool}{xs b:Q1}{x:Pr}(h:PI V ok xs b x){a:Ap}(g:yH a)(i:dU a.x.2)(r:RX xs/\RX b):RX (TY a x xs)/\RX (Ua a x b):=by
 obtain⟨d,f⟩:=YW g i h.o;unfold TY Ua;constructor
 ·split
  ·next c=>
   have e:BA a.en (qR a x) x=(iW (qR a x) x.s0.k x.s0.b).1:=by unfold BA;rw[aj c.2]
   rw[e];exact akT h.i.a r.1 d f
  ·exact r.1
 ·split
  ·next c=>
   have e:BA a.en (qR a x) x=(iW (qR a x) x.s1.k x.s1.b).1:=by unfold BA;rw[dA,aj c.2]
   rw[e];exact akT h.i.b r.2 d f
  ·exact r.2
def akL{xs:Q1}{r o:bP}(f:kN xs [] [] o.k o.b r.sm r.h)(rx:RX xs):Tz r o:=by obtain⟨a,b,c⟩:=asx f rx;exact⟨⟨b,aa2 f.lead.kp⟩,a,c,f.tb⟩
def au0{V:Int}{ok:Bool}{xs b:Q1}{x:Pr}(h:PI V ok xs b x)(r:RX xs/\RX b):SN x:=
 ⟨akL h.i.b r.2,akL h.i.a r.1,aFC h.i.s,λe a=>(h.r.1 e a).1,λe a=>(h.r.1 e a).2,h.r.2⟩
def aiC{r o:bP}(h0:0<=r.h.1)(a:xg r o=true):(dY o.k).1<=r.h.1:=by
 unfold xg at a;split at a
 ·have:=Bq a;omega
 ·next c=>
  have e:o.k.getLast?.isSome=false:=by
   cases h:o.k.getLast?.isSome with
   |false=>rfl
   |true=>
    rw[h]at a c;have:r.sm=true:=by simpa using a
    exact absurd ⟨this,rfl⟩ c
  rw[awo _ e];exact h0
def Nq(f:Fa):Prop:=f.cu<=0/\(f.rY=0\/f.at_<0)
def aDE(u:Q0)(k:Nat):u.set k (u.getD k 0)=u:=by
 apply Ip;intro i;rw[aee];split
 ·next e=>
  subst e;split
  ·next h=>simp[List.getD,bT h]
  ·next h=>rw[wG (by omega)]
 ·rfl
def ahF{f:Fa}(h:Nq f)(u:Q0):kJ f u=u:=by
 obtain⟨b,a⟩:=h;have e:zM f u=u:=by unfold zM;rw[ah (λc=>by omega)]
 unfold kJ;rw[e];unfold KR;split
 ·rfl
 split
 ·rfl
 ·next c _=>
  rw[a.resolve_right c,amx];exact aDE _ _
def ax9{a c x y:Int}{th bk:List Fa}(h1:1<=a)(j:a<=c)(k:c<=3)(l:1<=x)(h5:x<=y)(h6:y<=3)(h:∀f∈th,FM f/\Nq f)(i:∀f∈bk,FM f/\Nq f)(lt:th.length<=30)(m:bk.length<=30):
 PI (jY a c x y).1 (jY a c x y).2 [] [] (newP a c x y th bk)/\dW (newP a c x y th bk)<=1440:=by
 obtain⟨d,n⟩:=ax8 h1 j k l h5 h6 (λf b=>(h f b).1) (λf b=>(i f b).1) lt m;refine⟨⟨⟨⟨d.s0,d.s1,rfl,rfl,rfl,rfl,rfl,.inl rfl,.inl rfl,(λe=>by cases e),(λe=>by cases e),λ_=>rfl,λ_=>rfl,(λe=>by cases e),(λe=>by cases e)⟩,ag5,ag5,(λe=>by cases e),(λe=>by cases e)⟩,λf b u=>ahF (h f b).2 u,λf b u=>ahF (i f b).2 u,(λy g=>by cases g),(λy g=>by cases g),d,(λe o=>by cases o),List.Pairwise.nil⟩,n⟩
def atB{a:Ap}(c:yH a)(b:Gz a=true):dU a.x.2/\a.tk<=40/\SmT a.x.2:=by
 unfold Gz at b;simp only[aK]at b;refine⟨ahq c.rows b.2.1,by simpa using b.2.2.1,λr d=>?_⟩;have h:=b.2.2.2;simp only[wC,ad6]at h;have e:((dG r.1).length:Int)<=100:=by simpa[zU]using h r d
 omega
def auU{x:Pr}{B:Nat}(h:dW x<=B):x.rc.length<=B:=by unfold dW at h;omega
set_option maxHeartbeats 4000000 in
def aeX{V:Int}{ok:Bool}(b:List Ap)(p:b.length<=30)(y:∀a∈b,yH a/\Gz a=true):∀(m i:Nat)(x:Pr)(xs u:Q1),i+m=b.length->PI V ok xs u x->RX xs/\RX u->x.now<=1000*i->dW x<=1440+6*i->
 TT.lim 30 ([.l (b.map kQ),.zq (b.length:Int),.zq (i:Int)]++bW x)=some [.zq 1]
 |0,i,x,xs,u,hi,q,z,D,E=>by
  have c:¬((i:Int)<b.length):=by omega
  simp only[bW,dS,cO,bg,aX];refine au ?_;simp -implicitDefEqProofs[c]
 |m+1,i,x,xs,u,hi,q,z,D,E=>by
  have s:i<b.length:=by omega
  have c:(i:Int)<b.length:=by omega
  have F:IntKind.i64.wrap ((i:Int)+1)=((i+1:Nat):Int):=by rw[wrap64 (by omega) (by omega)];omega
  have j:at2 6 (some (.l (b.map kQ))) (some (.zq (i:Int)))=some (kQ b[i]):=by rw[eF,nI,xG,iY,bT s];rfl
  obtain⟨h,G⟩:=y _ (gX s);generalize b[i]=a at *;obtain⟨v,H,-⟩:=atB h G;have t:=asB a x h v q.o (by omega) (by omega);obtain⟨o1,I,L⟩:=amZ h v q.o;obtain⟨A,-⟩:=am0 q h v;have r1:=am1 q h v z;have g:=au0 A r1;have k:=aeX b p y m (i+1) (xU a x) _ _ (by omega) A r1 (by omega) (by omega);have d:=amY a x;generalize xU a x=Z at *;have l:=awS Z o1 g.a.toO3 g.b.toO3;have e:=aAP Z o1 g (by have:=auU I;omega);have f:=adF Z o1;have w:=aiC (r:=Z.s0) (o:=Z.s1) o1.s0.rc.ep.1;have n:=aiC (r:=Z.s1) (o:=Z.s0) o1.s1.rc.ep.1;rw[<-F]at k;unfold Ie at f;generalize xg Z.s0 Z.s1=J,xg Z.s1 Z.s0=B,dY Z.s0.k=M,dY Z.s1.k=N at *;simp only[bW,iI,AP,lJ,dS,cO,bg,aX]at t l e f k⊢;rw[d.a.1,d.a.2.1,d.a.2.2.1,d.a.2.2.2,d.b.1,d.b.2.1,d.b.2.2.1,d.b.2.2.2]at l e f k;generalize b.map kQ=O,(b.length:Int)=P at *;cases J with
  |false=>
   cases B with
   |false=>refine au ?_;simp -implicitDefEqProofs[-eF,c,j,t,l,e,k]
   |true=>have n:=n rfl;refine au ?_;simp -implicitDefEqProofs[-eF,c,j,t,l,e,f,n,k]
  |true=>
   have w:=w rfl;cases B with
   |false=>refine au ?_;simp -implicitDefEqProofs[-eF,c,j,t,l,e,f,w,k]
   |true=>have n:=n rfl;refine au ?_;simp -implicitDefEqProofs[-eF,c,j,t,l,e,f,w,n,k]
def Nv(f:Fa):Bool:=decide (f.cu<=0)&&(decide (f.rY=0) ||decide (f.at_<0))
def avd(f:Fa)(h:Nv f=true):Nq f:=by unfold Nv at h;simpa[Nq]using h
def aeW(n o p q r s t:GV)(l:List Fa)(v:l.length<=9000000000000000):∀(m i:Nat),i+m=l.length->
 TT.lim 25 [n,o,p,.l (l.map bn),.zq (l.length:Int),.zq (i:Int),q,r,s,t]=some [.zq (if(l.drop i).all Nv=true then 1 else 0)]
 |0,i,hi=>by
  have c:¬((i:Int)<l.length):=by omega
  rw[ig];refine au ?_;simp -implicitDefEqProofs[c]
 |m+1,i,hi=>by
  have g:i<l.length:=by omega
  have c:(i:Int)<l.length:=by omega
  have w:IntKind.i64.wrap ((i:Int)+1)=((i+1:Nat):Int):=by rw[wrap64 (by omega) (by omega)];omega
  have b:at2 6 (some (.l (l.map bn))) (some (.zq (i:Int)))=some (bn l[i]):=by rw[eF,nI,xG,iY,bT g];rfl
  have x:l.drop i=l[i]::l.drop (i+1):=iC g;have j:=aeW n o p q r s t l v m (i+1) (by omega);rw[x,rH];generalize l[i]=f at *;rw[<-w]at j;generalize(l.drop (i+1)).all Nv=R,l.map bn=y,(l.length:Int)=z at *;unfold Nv;by_cases h:f.cu<=0;rotate_left
  ·have a:(0:Int)<f.cu:=by omega
   refine au ?_;simp -implicitDefEqProofs[-eF,c,b,h,a]
  have a:¬(0:Int)<f.cu:=by omega
  by_cases k:f.rY=0
  ·have d:((f.rY:Int)=0)=True:=eq_true (by omega);refine au ?_;simp -implicitDefEqProofs[-eF,c,b,h,a,k,d,j]
  ·have d:¬((f.rY:Int)=0):=by omega
   by_cases u:f.at_<0
   ·have e:¬(0:Int)<=f.at_:=by omega
    refine au ?_;simp -implicitDefEqProofs[-eF,c,b,h,a,k,d,u,e,j]
   ·have e:(0:Int)<=f.at_:=by omega
    refine au ?_;simp -implicitDefEqProofs[-eF,c,b,h,a,k,d,u,e]
def ajm(a c x y:Int):Prop:=1<=a/\a<=c/\c<=3/\1<=x/\x<=y/\y<=3
set_option maxHeartbeats 4000000 in
def ank(a c x y:Int)(th bk:List Fa)(b:List Ap)(lt:th.length<=2000000000000)(D:bk.length<=2000000000000)(L:b.length<=4000000000000)(E:∀u∈b,yH u)
 (M:∀f∈th++bk,f.d<256/\f.rY<256/\f.cu<=9223372036854775807/\f.at_<=9223372036854775807):
 TT.lim 3 [.g [.zu a,.zu c],.g [.zu x,.zu y],.l (th.map bn),.l (bk.map bn),.l (b.map kQ)]=some [.b true]:=by
 have d:=atz th bk b lt D L E;have i:=afU th bk lt D;have n:=Gl [102,105,114,115,116] 0 256 (by simp);have F:=Gl [111,116,104,101,114] 0 256 (by simp);rw[aFs]at n;rw[aFt]at F;have t:((b.map kQ).length:Int)=(b.length:Int):=by rw[gG]
 have h:(((th++bk).map bn).length:Int)=((th++bk).length:Int):=by rw[gG]
 have e:=aeW (.l (th.map bn)) (.l (bk.map bn)) (.l (b.map kQ)) (.zu x) (.zu y) (.zu a) (.zu c) (th++bk) (by rw[eP];omega) (th++bk).length 0 (by omega);simp only[dN,sW]at e;cases p:Vj th bk b with
 |false=>rw[p]at d;generalize th.map bn=v,bk.map bn=w,b.map kQ=z at *;refine aT ?_;simp -implicitDefEqProofs[d]
 |true=>
 rw[p]at d;cases A:(th++bk).all Nv with
 |false=>rw[A]at e;simp only[iw,if_false]at e;generalize(th++bk).map bn=G,((th++bk).length:Int)=H,th.map bn=v,bk.map bn=w,b.map kQ=z at *;refine aT ?_;simp -implicitDefEqProofs[d,i,h,e]
 |true=>
 rw[A]at e;simp only[if_true]at e;by_cases I:ajm a c x y;rotate_left
 ·generalize(th++bk).map bn=G at *;generalize((th++bk).length:Int)=H,th.map bn=v,bk.map bn=w,b.map kQ=z at *;unfold ajm at I;by_cases j:a<1
  ·refine aT ?_;simp -implicitDefEqProofs[d,i,h,e,j]
  by_cases k:c<a
  ·refine aT ?_;simp -implicitDefEqProofs[d,i,h,e,j,k]
  by_cases l:255<c
  ·refine aT ?_;simp -implicitDefEqProofs[d,i,h,e,j,k,l]
  by_cases m:3<c
  ·refine aT ?_;simp -implicitDefEqProofs[d,i,h,e,j,k,l,m]
  by_cases o:x<1
  ·refine aT ?_;simp -implicitDefEqProofs[d,i,h,e,j,k,l,m,n,o]
  by_cases q:y<x
  ·refine aT ?_;simp -implicitDefEqProofs[d,i,h,e,j,k,l,m,n,o,q]
  by_cases s:255<y
  ·refine aT ?_;simp -implicitDefEqProofs[d,i,h,e,j,k,l,m,n,o,q,s]
  ·have B:3<y:=by omega
   refine aT ?_;simp -implicitDefEqProofs[d,i,h,e,j,k,l,m,n,o,q,s,B]
 obtain⟨N,O,P,Q,R,S⟩:=I;unfold Vj at p;simp only[aK,List.all_eq_true,decide_eq_true_eq]at p;obtain⟨T,V,f3,f4,f5⟩:=p;have r:∀f∈th++bk,FM f/\Nq f:=λf e=>by obtain⟨W,X,Y,Z⟩:=M f e;have:=T f e;unfold MS at this;exact⟨⟨by have:=Bq this;omega,W,X,Y,Z⟩,avd f (List.all_eq_true.1 A f e)⟩
 have cT:=afH th (by omega);have cB:=afH bk (by omega);obtain⟨p1,p2⟩:=ax9 (a:=a) (c:=c) (x:=x) (y:=y) (th:=th) (bk:=bk) N O P Q R S (λf e=>r f (YA _ e)) (λf e=>r f (aei _ e)) (by omega) (by omega);have g:=aeX b (by omega) (λu J=>⟨E u J,V u J⟩) b.length 0 (newP a c x y th bk) [] [] (by omega) p1 ⟨akS,akS⟩ (gW _) (by omega);simp only[newP,newS,bW,dS,cO,zS,jI,bg,aX,sW]at g;have j:¬a<1:=by omega
 have k:¬c<a:=by omega
 have l:¬255<c:=by omega
 have m:¬3<c:=by omega
 have o:¬x<1:=by omega
 have q:¬y<x:=by omega
 have s:¬255<y:=by omega
 have B:¬3<y:=by omega
 generalize(th++bk).map bn=G,((th++bk).length:Int)=H,th.map bn=v,bk.map bn=w,b.map kQ=z,(b.length:Int)=na at *;refine aT ?_;simp -implicitDefEqProofs(maxSteps:=1000000) [d,i,h,e,j,k,l,m,n,o,q,s,B,F,cT,cB,t,g]
def auditRight(gs:Q1)(h:hasArgs [(true,[.int .u64,.int .u64]),(true,[.int .u64,.int .u64]),(false,[.list true Vf]),(false,[.list true Vf]),(false,[.list true Y2])] gs)(d:∀xs,GV.l xs∈gs->xs.length<=1048576):TT.lim 3 gs=some [.b true]:=by obtain⟨A,gs,rfl,b,h⟩:=ahG h;obtain⟨B,gs,rfl,c,h⟩:=ahG h;obtain⟨D,gs,rfl,k,h⟩:=aat h;obtain⟨E,gs,rfl,l,h⟩:=aat h;obtain⟨F,gs,rfl,m,h⟩:=aat h;obtain rfl:=avf h;obtain⟨n,r1,rfl,e,b⟩:=qF b;obtain⟨o,r2,rfl,g,b⟩:=qF b;obtain rfl:=Nr b;obtain⟨p,rfl,-⟩:=Jv e;obtain⟨q,rfl,-⟩:=Jv g;obtain⟨n,r1,rfl,e,c⟩:=qF c;obtain⟨o,r2,rfl,g,c⟩:=qF c;obtain rfl:=Nr c;obtain⟨r,rfl,-⟩:=Jv e;obtain⟨s,rfl,-⟩:=Jv g;obtain⟨i,t,rfl⟩:=agQ k;obtain⟨j,u,rfl⟩:=agQ l;obtain⟨a,v,rfl⟩:=anj m;have w:=d (i.map bn) (by simp);have x:=d (j.map bn) (by simp);have y:=d (a.map kQ) (by simp);rw[gG]at w x y;exact ank p q r s i j a (by omega) (by omega) (by omega) v λf z=>(jJ.1 z).elim (t f) (u f)
