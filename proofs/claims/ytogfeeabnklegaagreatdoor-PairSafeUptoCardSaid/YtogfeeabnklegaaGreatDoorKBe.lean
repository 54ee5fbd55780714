/- What the trees compute: plain laws. -/
import Derived.Test.YtogfeeabnklegaaGreatDoorKBe9
set_option linter.all false
namespace Go.Proofs.YtogfeeabnklegaaGreatDoor
open Go Go.aP
set_option maxRecDepth 100000
namespace B
def aDQ:aT 6 1=[]:=rfl
def auu{b:aQ}{v:Int}(d:b.kind=2\/b.kind=5\/b.kind=6\/b.kind=7\/b.kind=8)(h1:1<=v)(f:v<=3)(a:aT b.kind v≠[]):qQ b.kind<=v:=by
 rcases d with e|e|e|e|e<;>rw[e]at a⊢
 ·exact h1
 ·exact h1
 ·rcases aeC v 2 with c|c
  ·obtain rfl:v=1:=ah;exact absurd aDQ a
  ·exact c
 ·exact h1
 ·exact h1
def Ya{b:aQ}{v:Int}{t:Q0}(d:xH b [])(j:b.kind=2\/b.kind=5\/b.kind=6\/b.kind=7\/b.kind=8)(h:t∈jr b v):je t v=(b,[],0)/\1<=v/\v<=3:=by
 unfold jr at h;split at h;rotate_left
 ·cases h
 next e=>
 obtain rfl:=jW.1 h;unfold qO at e⊢;split at e;rotate_left
 ·next c=>exact absurd e c
 next c=>
 rw[au c];split at e
 ·exact absurd e aV
 next f=>
 rw[aj f];obtain⟨a,g,i,-,-⟩:=Ht c;obtain⟨k,l⟩:=aAW c;refine⟨?_,a,g⟩;simp only;unfold bytesV at f⊢;rw[asR (aiU i) a ah (auu j a g i) (ZI d c) ah,aFO c (gq v),agI d c (KC b.kind v).1 (aT b.kind v) _ (λs m=>m),k,l];simp only[ne_eq,not_true_eq_false,if_false];rw[aj (λx=>x c)]
def Cont(V:Int)(xs:Q1)(a:Bool)(h:Sn)(t:Q0):Prop:=∀m b,je t V=(m,b,0)->((m.kind=5\/m.kind=6)->zA xs (m.kind,m.epoch,m.base,m.t))/\(m.kind=7->a=true/\m.epoch<=h.1)
def aat{V:Int}{xs:Q1}{b:Bool}{h:Sn}{t:Q0}{a:List Int}(d:rY a t)(f:∀k∈a,k≠5/\k≠6/\k≠7):Cont V xs b h t:=λm g e=>by have:=f _ (d V (by rw[e]));rw[e]at this;exact⟨λc=>absurd c (λc=>c.elim this.1 this.2.1),λc=>absurd c this.2.2⟩
def Cont.mono{V:Int}{xs b:Q1}{d a:Bool}{h f:Sn}{t:Q0}(c:Cont V xs d h t)(i:∀m,zA xs m->zA b m)(j:d=true->a=true)(l:h.1<=f.1):Cont V b a f t:=λm n e=>by obtain⟨o,g⟩:=c m n e;exact⟨λk=>i _ (o k),λk=>⟨j (g k).1,xu (g k).2 l⟩⟩
def jc.nil{xs:Q1}{told:List Tm}{back:List An}{k:List Sn}{b:Int}{c:Bool}{h:Sn}(f:jc xs told back k b c h):jc xs [] [] k b c h:=
 ⟨f.lead,f.keys,(λm d=>by cases d),(λa e=>by cases e),f.has,f.base,f.zero⟩
def aEV{c v kd b d:Int}{t:List Row}{a:Bool}{h:Sn}(e:a=true):(iH c v kd b d t a h).2.2.1=true:=by
 unfold iH;repeat' split
 all_goals first|exact e|rfl
structure aeB(V:Int)(xo xr:Q1)(ko:List Sn)(bo:Int)(so:Bool)(ho:Sn)(r:bC)(q:bC×Wa×Int):Prop where
 a:jc xo [] [] ko bo q.1.sm q.1.h
 b:jc xr [] [] q.1.k q.1.b so ho
 h:r.h.1<=q.1.h.1
 m:r.sm=true->q.1.sm=true
 c:∀u∈q.2.1,Cont V xr q.1.sm q.1.h u
def aiq{V:Int}{t:Q0}{r:bC}(P:kD r)(L:r.st=2->r.ver=V){j l:Q1}{A:List Sn}{E:Int}{o:Bool}{p:Sn}(d:jc j [] [] A E r.sm r.h)(f:jc l [] [] r.k r.b o p)(c:Cont V j o p t):aeB V j l A E o p r (bY t r):=by
 have still:∀e:Int,aeB V j l A E o p r (r,[],e):=λe=>⟨d,f,gq _,id,λu b=>by cases b⟩
 unfold bY;by_cases y:(je t (iY r)).2.2=0;rotate_left
 ·rw[aj y];exact still _
 rw[au y];have F:=VH t (iY r);have G:r.st=2->((je t (iY r)).1.kind=5\/(je t (iY r)).1.kind=6->zA j ((je t (iY r)).1.kind,(je t (iY r)).1.epoch,(je t (iY r)).1.base,(je t (iY r)).1.t))/\((je t (iY r)).1.kind=7->o=true/\(je t (iY r)).1.epoch<=p.1):=λg=>by
  have e:iY r=V:=by unfold iY;rw[au g];exact L g
  rw[e]at y⊢;exact c _ _ (Jp rfl (Jp rfl y))
 generalize je t (iY r)=D at *;obtain⟨m,q,e⟩:=D;simp only at F G⊢;unfold uq;split
 ·obtain⟨M,N,Q,S,-⟩:=air m r;refine⟨by rw[M,N];exact d,by rw[Q,S];exact f,by rw[N];exact gq _,λe=>by rw[M];exact e,λu b=>?_⟩;unfold mW at b;have g2:∀v n w,u∈jr (qJ v n) w->Cont V l (mW m r).1.sm (mW m r).1.h u:=λv n w b=>aat (Eb b (by simp[qJ]) (by simp[qJ])).1 (λk s=>by rw[jW.1 s];simp[qJ]);have T:u∈jr rW 1->Cont V l (mW m r).1.sm (mW m r).1.h u:=λb=>aat (Eb b (by simp[rW]) (by simp[rW])).1 (λk s=>by rw[jW.1 s];simp[rW]);repeat' split at b
  all_goals first|(cases b;done)|exact g2 _ _ _ b|exact T b
 split
 ·unfold BR;repeat' split
  all_goals exact⟨d,f,gq _,id,λu b=>by cases b⟩
 split
 ·next H=>
  unfold lY;split;rotate_left
  ·exact still _
  next g=>
  have U:=(G g).1 H;obtain⟨z,i⟩:=ahF d U (fC m q r.vs) r.vs;obtain⟨-,O,-⟩:=Tf P.rc (fC m q r.vs) m.kind m.epoch m.base m.t F.t F.body.epoch;have s:=adZ (fC m q r.vs) r.vs m.kind m.epoch m.base m.t r.sm r.h;have x:=@aEV (fC m q r.vs) r.vs m.kind m.epoch m.base m.t r.sm r.h;simp only at z i⊢;generalize iH (fC m q r.vs) r.vs m.kind m.epoch m.base m.t r.sm r.h=R at *;obtain⟨a,e2,sm,h⟩:=R;simp only at z i O s x⊢;refine⟨z.nil,f,i,x,λu b=>?_⟩;split at b
  ·cases b
  next c0=>
  have W:xH (iE a) []:=Me O rfl CW.good (by simp[iE]) rfl rfl;obtain⟨d1,-,-⟩:=Ya W (ah:a.1=2\/a.1=5\/a.1=6\/a.1=7\/a.1=8) b;rw[L g]at d1;intro m' X I;rw[d1]at I;injection I with Y I
  subst Y;have Z:(iE a).kind=a.1:=rfl;refine⟨λk=>?_,λk=>z.back a aA k⟩;rw[Z]at k;omega
 split
 ·next k7=>
  unfold qK;split;rotate_left
  ·exact still _
  next g=>
  have J:=(aaR f (a:=(7,m.epoch,0,0)) (λ_=>(G g).2 k7)).1;exact⟨d,J,gq _,id,λu b=>by cases b⟩
 split
 ·unfold noS;split
  ·have J:=(aaR f (a:=(8,0,0,0)) (λe=>by simp at e)).1;exact⟨d,J,gq _,id,λu b=>by cases b⟩
  split
  ·exact⟨d,f,gq _,id,λu b=>by cases b⟩
  ·exact still _
 ·exact still _
def akU{V:Int}{s:bC}(h:kD s)(i:s.st=2->s.ver=V){xs:Q1}{j:Bool}{l:Sn}(f:jc xs [] [] s.k s.b j l):∀u∈(gy s).1,Cont V xs s.sm s.h u:=by
 intro u a;unfold gy at a;split at a
 ·next n=>
  split at a;rotate_left
  ·cases a
  next c=>
  have d:=OD (v:=s.vs) (k:=s.k) (b:=s.b) c;obtain⟨o,-⟩:=OC (V:=s.vs) f.lead c;have g:(pq (cZ s.vs s.k s.b).1).kind=(cZ s.vs s.k s.b).1.1:=rfl;obtain⟨d1,-,-⟩:=Ya (ad1 h.kp) (by rw[g];omega) a;rw[i n]at d1;intro m q e;rw[d1]at e;injection e with p e
  subst p;refine⟨λ_=>o,λk=>?_⟩;rw[g]at k;omega
 split at a
 ·split at a
  ·cases a
  ·exact aat (Eb a (by simp[uj]) (by simp[uj])).1 (λk d=>by rw[jW.1 d];simp[uj])
 ·cases a
def VS(s:bC):Prop:=s.st=2->s.vs=s.ver
def aib{t:Q0}{s:bC}(h:VS s):VS (bY t s).1:=by
 unfold bY;split;rotate_left
 ·exact h
 unfold uq mW BR lY qK noS;repeat' split
 all_goals first|exact h|exact λ_=>rfl|exact λe=>absurd e aA
def azM{s:bC}(h:VS s):VS (lq s):=by
 intro e;refine h ?_;unfold lq gy at e;simp only at e;split at e
 ·next c=>exact c
 next c=>
 split at e
 ·split at e<;>simp at e
 ·exact e
def MH(k:Lk):Prop:=∀f∈k.f,∀u,kX f u=u
def aDx{now:Int}{t:Q0}{k:Lk}(e:zG k)(c:MH k):MH (ny now t k)/\∀y∈(ny now t k).h,y∈k.h\/(y.2.2=t/\now<=y.1):=by
 obtain⟨i,H,n⟩:=k;have a:=e.h;simp only at a;cases i with
 |nil=>exact⟨(λf h=>by cases h),λy b=>SX t 1 now H n a y b⟩
 |cons f r=>
  unfold ny;simp only;have d:∀g∈r,∀u,kX g u=u:=λg j=>c g (by simp[j]);split
  ·exact⟨d,λy b=>.inl b⟩
  ·refine⟨d,λy b=>?_⟩;rcases SX (kX f t) (f.c+1) (now+f.d) H n a y b with q|⟨q,l⟩
   ·exact .inl q
   ·exact .inr ⟨by rw[q];exact c f aA t,ah⟩
def Tv{now:Int}:∀(T:Wa){k:Lk},zG k->MH k->(∀t∈T,t.length<=65536)->MH (iP now T k)/\∀y∈(iP now T k).h,y∈k.h\/((∃t∈T,y.2.2=eX t)/\now<=y.1)
 |[],k,a,b,_=>⟨b,λy c=>.inl c⟩
 |t::r,k,a,b,f=>by
  obtain⟨h1,-,-⟩:=Yf (now:=now) a (Wl (f t aA));obtain⟨g,h⟩:=aDx (now:=now) (t:=eX t) a b;obtain⟨i,g2⟩:=Tv (now:=now) r h1 g (λu d=>f u (by simp[d]));refine⟨i,λy c=>?_⟩;rcases g2 y c with q|⟨⟨u,d,q⟩,e⟩
  ·rcases h y q with q|⟨q,e⟩
   ·exact .inl q
   ·exact .inr ⟨⟨t,aA,q⟩,e⟩
  ·exact .inr ⟨⟨u,by simp[d],q⟩,e⟩
def W0(V:Int)(xs:Q1)(x:Pr)(f:Q0):Prop:=∃t,f=eX t/\EC x.s0 t/\Cont V xs x.s0.sm x.s0.h t
def W1(V:Int)(a:Q1)(x:Pr)(f:Q0):Prop:=∃t,f=eX t/\Nh V x.s0 x.s1 t/\Cont V a x.s1.sm x.s1.h t
structure SI(V:Int)(ok:Bool)(xs ys:Q1)(x:Pr):Prop where
 s:pI V ok x.s0 x.s1
 a:jc xs [] [] x.s0.k x.s0.b x.s1.sm x.s1.h
 b:jc ys [] [] x.s1.k x.s1.b x.s0.sm x.s0.h
 v:VS x.s0/\VS x.s1
structure PI(V:Int)(ok:Bool)(xs ys:Q1)(x:Pr):Prop where
 i:SI V ok xs ys x
 f0:MH x.k0
 f1:MH x.k1
 t0:∀y∈x.k0.h,W0 V xs x y.2.2
 t1:∀y∈x.k1.h,W1 V ys x y.2.2
 o:gG x
 r:(∀e∈x.rc,0<=e.1/\e.1<=x.now)/\x.rc.Pairwise (λa b=>a.1<=b.1)
structure PL(x y:Pr):Prop where
 l:og x.s0 x.s1 y.s0 y.s1
 h0:x.s0.h.1<=y.s0.h.1
 m0:x.s0.sm=true->y.s0.sm=true
 h1:x.s1.h.1<=y.s1.h.1
 m1:x.s1.sm=true->y.s1.sm=true
def PL.self(x:Pr):PL x x:=⟨og.self _ _,gq _,id,gq _,id⟩
def PL.trans{x y z:Pr}(a:PL x y)(b:PL y z):PL x z:=⟨a.l.trans b.l,xu a.h0 b.h0,λe=>b.m0 (a.m0 e),xu a.h1 b.h1,λe=>b.m1 (a.m1 e)⟩
def PL.w0{V:Int}{xs:Q1}{x y:Pr}(p:PL x y){f:Q0}(w:W0 V xs x f):W0 V xs y f:=by obtain⟨t,e,h,c⟩:=w;exact⟨t,e,p.l.tp h,c.mono (λ_ h=>h) p.m0 p.h0⟩
def PL.w1{V:Int}{a:Q1}{x y:Pr}(p:PL x y){f:Q0}(w:W1 V a x f):W1 V a y f:=by obtain⟨t,e,h,c⟩:=w;exact⟨t,e,p.l.tq h,c.mono (λ_ h=>h) p.m1 p.h1⟩
def alk{now:Int}{c:List (Int×Int×Int)}(h:(∀e∈c,0<=e.1/\e.1<=now)/\c.Pairwise (λa b=>a.1<=b.1))(g:0<=now)(a b:Int):(∀e∈c++[(now,a,b)],0<=e.1/\e.1<=now)/\(c++[(now,a,b)]).Pairwise (λa b=>a.1<=b.1):=by
 constructor
 ·intro e d;rcases jP.1 d with q|q
  ·exact h.1 e q
  ·rw[jW.1 q];exact⟨g,gq _⟩
 ·refine aeY.2 ⟨h.2,List.pairwise_singleton _ _,λe d f i=>?_⟩;rw[jW.1 i];exact(h.1 e d).2
def XJ{t:Q0}(h:t.length<=65536):((lJ (eX t)).2.2=0/\¬(lJ (eX t)).2.1<(eX t).length)/\(lJ (eX t)).1=t:=by rw[akn h];exact⟨⟨rfl,Int.lt_irrefl _⟩,rfl⟩
def apl{V:Int}{ok:Bool}{xs k:Q1}{x:Pr}(h:PI V ok xs k x){f:Q0}(w:W0 V xs x f):PI V ok xs k (jS 1 f x)/\PL x (jS 1 f x):=by
 obtain⟨t,rfl,l,m⟩:=w;obtain⟨c,e⟩:=XJ l.1;obtain⟨n,g2,g3⟩:=alh h.i.s l;have a:=aiq h.i.s.oW (λe=>(h.i.s.q2 e).2) h.i.a h.i.b m;have d:=(VB (i:=1) (t:=eX t) h.o).1;have g:=Ig t x.s1;unfold jS at d⊢;rw[au c,e,aj aV]at d⊢;obtain⟨o,p⟩:=Tv (now:=x.now) (bY t x.s1).2.1 h.o.k1 h.f1 (λu b=>(g u b).1);have pl:PL x {x with s1:=(bY t x.s1).1,k1:=iP x.now (bY t x.s1).2.1 x.k1,rc:=x.rc++[(x.now,1,(bY t x.s1).2.2)]}:=⟨g2,gq _,id,a.h,a.m⟩
 refine⟨⟨⟨n,a.a,a.b,h.i.v.1,aib h.i.v.2⟩,h.f0,o,λy j=>pl.w0 (h.t0 y j),λy j=>?_,d,alk h.r h.o.now _ _⟩,pl⟩;rcases p y j with q|⟨⟨u,b,q⟩,-⟩
 ·exact pl.w1 (h.t1 y q)
 ·exact⟨u,q,g3 u b,a.c u b⟩
def apk{V:Int}{ok:Bool}{xs d:Q1}{x:Pr}(h:PI V ok xs d x){f:Q0}(w:W1 V d x f):PI V ok xs d (jS 0 f x)/\PL x (jS 0 f x):=by
 obtain⟨t,rfl,l,m⟩:=w;obtain⟨c,e⟩:=XJ l.1;obtain⟨n,g2,g3⟩:=ay4 h.i.s l;have a:=aiq h.i.s.iW (λe=>(h.i.s.p2 e).2.1) h.i.b h.i.a m;have g:=(VB (i:=0) (t:=eX t) h.o).1;have j:=Ig t x.s0;unfold jS at g⊢;rw[au c,e,au rfl]at g⊢;obtain⟨o,p⟩:=Tv (now:=x.now) (bY t x.s0).2.1 h.o.k0 h.f0 (λu b=>(j u b).1);have pl:PL x {x with s0:=(bY t x.s0).1,k0:=iP x.now (bY t x.s0).2.1 x.k0,rc:=x.rc++[(x.now,0,(bY t x.s0).2.2)]}:=⟨g2,a.h,a.m,gq _,id⟩
 refine⟨⟨⟨n,a.b,a.a,aib h.i.v.1,h.i.v.2⟩,o,h.f1,λy k=>?_,λy k=>pl.w1 (h.t1 y k),g,alk h.r h.o.now _ _⟩,pl⟩;rcases p y k with q|⟨⟨u,b,q⟩,-⟩
 ·exact pl.w0 (h.t0 y q)
 ·exact⟨u,q,g3 u b,a.c u b⟩
def ags{V:Int}{ok:Bool}{xs a:Q1}:∀(T:Wa){x:Pr},PI V ok xs a x->(∀f∈T,W0 V xs x f)->PI V ok xs a (oC 1 T x)/\PL x (oC 1 T x)
 |[],x,h,_=>⟨h,PL.self x⟩
 |t::r,x,h,w=>by obtain⟨h1,b⟩:=apl h (w t aA);obtain⟨c,g2⟩:=ags r h1 (λf d=>b.w0 (w f (by simp[d])));exact⟨c,b.trans g2⟩
def agr{V:Int}{ok:Bool}{xs a:Q1}:∀(T:Wa){x:Pr},PI V ok xs a x->(∀f∈T,W1 V a x f)->PI V ok xs a (oC 0 T x)/\PL x (oC 0 T x)
 |[],x,h,_=>⟨h,PL.self x⟩
 |t::r,x,h,w=>by obtain⟨h1,b⟩:=apk h (w t aA);obtain⟨c,g2⟩:=agr r h1 (λf d=>b.w1 (w f (by simp[d])));exact⟨c,b.trans g2⟩
def avo{V:Int}{ok:Bool}{xs b:Q1}{x:Pr}(h:PI V ok xs b x):PI V ok xs b (nP x)/\PL x (nP x):=by
 obtain⟨-,d2,d3⟩:=VL x.now x.k0.h.length x.k0.h rfl h.o.k0.h;obtain⟨c,g2⟩:=ags (x:=yM x) (dM x.k0.h.length x.now x.k0.h).1 ⟨⟨h.i.s,h.i.a,h.i.b,h.i.v⟩,h.f0,h.f1,λy a=>h.t0 y (d2 y a),h.t1,⟨h.o.s0,h.o.s1,(NS x.now h.o.k0).1,h.o.k1,h.o.now⟩,h.r⟩ (λf d=>by obtain⟨y,a,e⟩:=d3 f d;rw[<-e];exact h.t0 y a)
 exact⟨c,⟨g2.l,g2.h0,g2.m0,g2.h1,g2.m1⟩⟩
def avq{V:Int}{ok:Bool}{xs b:Q1}{x:Pr}(h:PI V ok xs b x):PI V ok xs b (qR x)/\PL x (qR x):=by
 obtain⟨-,d2,d3⟩:=VL x.now x.k1.h.length x.k1.h rfl h.o.k1.h;obtain⟨c,g2⟩:=agr (x:=xJ x) (dM x.k1.h.length x.now x.k1.h).1 ⟨⟨h.i.s,h.i.a,h.i.b,h.i.v⟩,h.f0,h.f1,h.t0,λy a=>h.t1 y (d2 y a),⟨h.o.s0,h.o.s1,h.o.k0,(NS x.now h.o.k1).1,h.o.now⟩,h.r⟩ (λf d=>by obtain⟨y,a,e⟩:=d3 f d;rw[<-e];exact h.t1 y a)
 exact⟨c,⟨g2.l,g2.h0,g2.m0,g2.h1,g2.m1⟩⟩
def aoE{V:Int}{ok:Bool}{xs a:Q1}{x:Pr}(h:PI V ok xs a x):PI V ok xs a (lF x)/\PL x (lF x):=by obtain⟨b,c⟩:=avo h;obtain⟨d,g2⟩:=avq b;exact⟨d,c.trans g2⟩
def alI{V:Int}{ok:Bool}{xs a:Q1}:∀(n:Nat){x:Pr},PI V ok xs a x->PI V ok xs a (oI n x)/\PL x (oI n x)
 |0,x,h=>⟨h,PL.self x⟩
 |n+1,x,h=>by
  unfold oI;split
  ·exact⟨h,PL.self x⟩
  ·split
   ·obtain⟨h1,b⟩:=aoE h;obtain⟨c,g2⟩:=alI n h1;exact⟨c,b.trans g2⟩
   ·exact⟨h,PL.self x⟩
def ab7{V:Int}{ok:Bool}{xs a:Q1}{x:Pr}(h:PI V ok xs a x){n:Int}(b:x.now<=n):PI V ok xs a {x with now:=n}/\PL x {x with now:=n}:=
 ⟨⟨⟨h.i.s,h.i.a,h.i.b,h.i.v⟩,h.f0,h.f1,h.t0,h.t1,⟨h.o.s0,h.o.s1,h.o.k0,h.o.k1,xu h.o.now b⟩,⟨λe c=>⟨(h.r.1 e c).1,xu (h.r.1 e c).2 b⟩,h.r.2⟩⟩,⟨og.self _ _,gq _,id,gq _,id⟩⟩
def an9{V:Int}{ok:Bool}{xs b:Q1}{x:Pr}(h:PI V ok xs b x)(a:Int):PI V ok xs b (sG a x)/\PL x (sG a x):=by obtain⟨c,d⟩:=ab7 h (n:=if x.now+1<a then a else x.now+1) (by split<;>omega);obtain⟨e,g2⟩:=alI (dG x+1) c;exact⟨e,d.trans g2⟩
def ahV{V:Int}{ok:Bool}{xs b:Q1}:∀(n:Nat)(last:Int){x:Pr},PI V ok xs b x->PI V ok xs b (qj n last x)/\PL x (qj n last x)
 |0,last,x,h=>⟨h,PL.self x⟩
 |n+1,last,x,h=>by
  unfold qj;split;rotate_left
  ·exact⟨h,PL.self x⟩
  next c=>
  split
  ·exact ab7 h ah
  ·split
   ·exact ab7 h ah
   ·next a _ _=>
    obtain⟨h1,d⟩:=an9 h a;obtain⟨e,g2⟩:=ahV n last h1;exact⟨e,d.trans g2⟩
def adL{V:Int}{ok:Bool}{xs a:Q1}{x:Pr}(h:PI V ok xs a x)(n:Int):PI V ok xs a (zi n x)/\PL x (zi n x):=ahV _ _ h
def SS{V:Int}{ok:Bool}{xs l:Q1}{x:Pr}(h:PI V ok xs l x)(e:Int):PI V ok xs l (iw e x)/\PL x (iw e x):=by
 have a:=(D6 (e:=e) h.o).1;unfold iw at a⊢;split
 ·next c=>
  rw[au c]at a;obtain⟨f,g2,g3⟩:=akj h.i.s;have g:=akU h.i.s.iW (λe=>(h.i.s.p2 e).2.1) h.i.a;obtain⟨i,j⟩:=Tv (now:=x.now) (gy x.s0).1 h.o.k0 h.f0 (IJ x.s0);have pl:PL x {x with s0:=lq x.s0,k0:=iP x.now (gy x.s0).1 x.k0}:=⟨g2,gq _,id,gq _,id⟩
  refine⟨⟨⟨f,h.i.a,h.i.b,azM h.i.v.1,h.i.v.2⟩,i,h.f1,λy b=>?_,λy b=>pl.w1 (h.t1 y b),a,h.r⟩,pl⟩;rcases j y b with q|⟨⟨u,d,q⟩,-⟩
  ·exact pl.w0 (h.t0 y q)
  ·exact⟨u,q,g3 u d,g u d⟩
 next c=>
 rw[aj c]at a;split
 ·next m=>
  rw[au m]at a;obtain⟨f,g3⟩:=alj h.i.s;have g:=akU h.i.s.oW (λe=>(h.i.s.q2 e).2) h.i.b;obtain⟨i,j⟩:=Tv (now:=x.now) (gy x.s1).1 h.o.k1 h.f1 (IJ x.s1);rw[f]at a⊢;have pl:PL x {x with s1:=x.s1,k1:=iP x.now (gy x.s1).1 x.k1}:=⟨og.self _ _,gq _,id,gq _,id⟩
  refine⟨⟨⟨h.i.s,h.i.a,h.i.b,h.i.v⟩,h.f0,i,λy b=>pl.w0 (h.t0 y b),λy b=>?_,a,h.r⟩,pl⟩;rcases j y b with q|⟨⟨u,d,q⟩,-⟩
  ·exact pl.w1 (h.t1 y q)
  ·exact⟨u,q,g3 u d,g u d⟩
 ·exact⟨h,PL.self x⟩
def A8(v:Sn)(e:Int)(xs:Q1):Q1:=if e=0 then kH (.zu v.1) (sn v) xs else xs
def ahZ{xs:Q1}{k:List Sn}{b:Int}{a:Bool}{h:Sn}(f:jc xs [] [] k b a h){v:Sn}{m:Tm}(g:zA xs m):zA (A8 v (jU v k b).1 xs) m:=by
 unfold A8;split;rotate_left
 ·exact g
 next c=>
 obtain⟨-,d⟩:=ak5 c;refine ahX g λe i j=>?_;obtain⟨l,n,o⟩:=f.keys e i j;have:=d l n;omega
def az4{V:Int}{ok:Bool}{xs f:Q1}{x:Pr}(h:PI V ok xs f x){e:Int}{v:Sn}(i:eF v.2)(h0:0<=v.1/\v.1<18446744073709551616):
 PI V ok (if e=0 then A8 v (AY e v x) xs else xs) (if e=1 then A8 v (AY e v x) f else f) (kR e v x)/\PL x (kR e v x):=by
 have a:=(ak6 (e:=e) h.o i h0).1;unfold kR AY at *;by_cases c:e=0
 ·have d:¬e=1:=ah;rw[au c]at a⊢;rw[au c,aj d,au c];obtain⟨j,g2⟩:=h.i.s.ajN (p':=FU v x.s0) a.s0 rfl rfl rfl rfl rfl rfl;have pl:PL x {x with s0:=FU v x.s0}:=⟨g2,gq _,id,gq _,id⟩
  refine⟨⟨⟨j,ahD h.i.a i h0,h.i.b,h.i.v⟩,h.f0,h.f1,λy b=>?_,λy b=>pl.w1 (h.t1 y b),a,h.r⟩,pl⟩;obtain⟨t,k,l,n⟩:=pl.w0 (h.t0 y b);exact⟨t,k,l,n.mono (λm g=>ahZ h.i.a g) id (gq _)⟩
 rw[aj c]at a⊢;rw[aj c];by_cases d:e=1
 ·rw[au d]at a⊢;rw[au d,aj c,au d];obtain⟨j,g2⟩:=h.i.s.ajO (q':=FU v x.s1) a.s1 rfl rfl rfl rfl rfl rfl;have pl:PL x {x with s1:=FU v x.s1}:=⟨g2,gq _,id,gq _,id⟩
  refine⟨⟨⟨j,h.i.a,ahD h.i.b i h0,h.i.v⟩,h.f0,h.f1,λy b=>pl.w0 (h.t0 y b),λy b=>?_,a,h.r⟩,pl⟩;obtain⟨t,k,l,n⟩:=pl.w1 (h.t1 y b);exact⟨t,k,l,n.mono (λm g=>ahZ h.i.b g) id (gq _)⟩
 ·simp only[aj c,aj d]at a⊢;exact⟨h,PL.self x⟩
def uM(t:List Row):Prop:=∀r∈t,(dN r.1).length<=100
def ou(xs:Q1):Prop:=∀s:Sn,gZ (.zu s.1) xs=some (sn s)->uM s.2
def alB:∀(t:List Row)(a:Q0),(∀r∈t,0<=r.2/\r.2<18446744073709551616)->uM t->(lX a t).length<=140*t.length
 |[],a,_,_=>by simp[lX]
 |r::t,a,h1,c=>by have d:=alB t (dN r.1) (λx b=>h1 x (by simp[b])) (λx b=>c x (by simp[b]));have k:=c r aA;have e:=aci a (dN r.1) ah;have f:=h1 r aA;have g:=nY (n:=r.2.toNat) ah;simp only[lX,eH,iD];omega
def ay5{t:List Row}(h:Tb t)(a:uM t):(AZ t).1.length<=36000:=by
 unfold AZ;split
 ·simp
 ·have c:=nY (n:=t.length) (by have:=h.ok.1;omega);have d:=alB t [] (λr b=>(h.rows.2 r b).2) a;have:=h.ok.1;simp only[qC,eH];omega
def jg:Option Pl->Bool
 |some .t=>true
 |_=>false
def JO:List dU->Nat
 |[]=>0
 |s::l=>(if jg (placeOf s.name)=true then 1 else 0)+JO l
def am4{b:aQ}{T:Nat}(d:∀p,(bg b p).2.length<=if jg (some p)=true then T else 0):∀c:List dU,wL (lQ b c)<=40*c.length+T*JO c
 |[]=>by simp[lQ,wL]
 |s::l=>by
  have j:=am4 d l;have k:∀f,xU b s=some f->wF f<=40+T*(if jg (placeOf s.name)=true then 1 else 0):=by
   intro f a;unfold xU at a;cases e:placeOf s.name with
   |none=>rw[e]at a;cases a
   |some p=>
    rw[e]at a;simp only at a;split at a
    ·cases a
    ·injection a with a
     subst a;have:=d p;simp only[wL,wF];by_cases g:jg (some p)=true
     ·rw[au g]at this⊢;omega
     ·rw[aj g]at this⊢;omega
  have h:JO (s::l)=(if jg (placeOf s.name)=true then 1 else 0)+JO l:=rfl;rw[Fz,h,Nat.mul_add T];generalize T*(if jg (placeOf s.name)=true then 1 else 0)=Q,T*JO l=R at *;simp only[iD];cases i:xU b s with
  |none=>simp only[aX];omega
  |some f=>have:=k f i;simp only[MS,wL];omega
def apf{k v:Int}(a:k=5\/k=6\/k=7\/k=8)(h1:1<=v)(c:v<=3):JO (aT k v)<=1:=by have b:v=1\/v=2\/v=3:=ah;rcases a with rfl|rfl|rfl|rfl<;>rcases b with rfl|rfl|rfl<;>decide
def alL{b:aQ}{v:Int}(f:xH b [])(g:b.kind=5\/b.kind=6\/b.kind=7\/b.kind=8)(d:fC b [] v=0)(h:∀p,(bg b p).2.length<=if jg (some p)=true then 36000 else 0):jr b v=[(qO b [] v).1]/\(qO b [] v).1.length<=65536:=by
 obtain⟨i,j,-,-,-⟩:=Ht d;have e:=ZI f d;obtain⟨k,-⟩:=Sl (a:=lQ b (aT b.kind v)) (b:=[]) (Qn d);have l:wL (wH b [] v)<=40*8+36000:=by unfold wH;rw[am5 k,pX];have o:=am4 h (aT b.kind v);have m:=apf g i j;have q:=FB b.kind v;have r:36000*JO (aT b.kind v)<=36000*1:=UC _ m;omega
 have s:=J4 (dO (wH b [] v)+1) (wH b [] v) ah e.ok (QK (dO (wH b [] v)+1) (wH b [] v) ah e.ok 0 0 e.chk (gq 0)) ah;have t:=nY (n:=b.kind.toNat) ah;have c:¬65536<(bytesV b [] v).length:=by unfold bytesV;rw[eH];omega
 unfold jr qO;rw[au d,aj c];exact⟨aA,by simp only;omega⟩
def JW:∀(n s:List Row),∀r∈jB n s,∃x∈n,x.1=r.1
 |[],s,r,h=>by simp[jB]at h
 |x::n,[],r,h=>by
  unfold jB at h;split at h
  ·obtain⟨y,a,e⟩:=JW n [] r h;exact⟨y,by simp[a],e⟩
  ·rcases bI.1 h with h|h
   ·exact⟨x,aA,by rw[h]⟩
   ·obtain⟨y,a,e⟩:=JW n [] r h;exact⟨y,by simp[a],e⟩
 |x::n,l::b,r,h=>by
  unfold jB at h;split at h
  ·split at h
   ·obtain⟨y,a,e⟩:=JW n b r h;exact⟨y,by simp[a],e⟩
   ·rcases bI.1 h with h|h
    ·exact⟨x,aA,by rw[h]⟩
    ·obtain⟨y,a,e⟩:=JW n b r h;exact⟨y,by simp[a],e⟩
  ·split at h
   ·obtain⟨y,a,e⟩:=JW n (l::b) r h;exact⟨y,by simp[a],e⟩
   ·rcases bI.1 h with h|h
    ·exact⟨x,aA,by rw[h]⟩
    ·obtain⟨y,a,e⟩:=JW n (l::b) r h;exact⟨y,by simp[a],e⟩
def asX{n s:List Row}(h:uM n):uM (jB n s):=λr a=>by obtain⟨x,b,e⟩:=JW n s r a;rw[<-e];exact h x b
def an5{s:Sn}{d:Dl}(h0:(lM s d).2=0)(gs:eF s.2)(b:eF d.2.2)(h1:uM s.2)(h:uM d.2.2):uM (lM s d).1.2:=by
 obtain⟨o1,i,-,a,j⟩:=Nq h0;have f:Tb s.2:=⟨o1,gs.rows,gs.few⟩
 have g:Tb d.2.2:=⟨(agc i).2,b.rows,b.few⟩
 rw[j];simp only;unfold tog at a⊢;split at a
 ·cases a
 next m k=>
 split at a
 ·cases a
 next c=>
 rw[aj c];obtain⟨-,-,l,-⟩:=Si s.2 d.2.2 f.rise g.rise f.pos g.pos k;intro r n;obtain⟨x,o,e⟩:=l r n;rw[<-e];exact o.elim (h1 x) (h x)
def aEY(m:Tm)(a:Tb m.2.2.2)(b:uM m.2.2.2)(p:Pl):(bg (pq m) p).2.length<=if jg (some p)=true then 36000 else 0:=by
 have h:=ay5 a b;cases p<;>simp only[jg,bg]<;>first|(simp[pq,jQ];done)|skip
 show(if m.2.2.2=[]then[]else(AZ m.2.2.2).1).length<=36000
 split
 ·simp
 ·exact h
def anZ(a:An)(p:Pl):(bg (iE a) p).2.length<=if jg (some p)=true then 36000 else 0:=by cases p<;>simp[jg,bg,iE]
structure Way(V:Int)(p q:bC):Prop where
 p2:p.st=2
 q2:q.st=2
 pv:p.ver=V/\p.vs=V
 qv:q.ver=V/\q.vs=V
 op:kD p
 oq:kD q
 v1:1<=V
 v3:V<=3
def yc(q:bC)(r:Bool×Sn):bC:={q with sm:=r.1,h:=r.2}
def Ee(p:bC)(r:List Sn×Int):bC:={p with k:=r.1,b:=r.2}
def aEW{v kd a b:Int}{t:List Row}{c:Bool}{h:Sn}(d:kd=5\/kd=6):(iH 0 v kd a b t c h).1.1=7\/(iH 0 v kd a b t c h).1.1=8:=by
 unfold iH;rw[aj aA];rcases d with rfl|rfl
 ·rw[au rfl];split<;>simp
 ·rw[aj aV,au rfl];repeat' split
  all_goals simp
set_option maxHeartbeats 1000000 in
def ana{V:Int}{p q:bC}(w:Way V p q){xs:Q1}(f:jc xs [] [] p.k p.b q.sm q.h)(W:ou xs):
 ((gy p).1=[]/\(cZ V p.k p.b).2≠0)\/((cZ V p.k p.b).2=0/\∃t u,(gy p).1=[t]/\t.length<=65536/\(bY t q).1=yc q (gV V p.k p.b q.sm q.h).2/\(bY t q).2.1=[u]/\u.length<=65536/\∀p',p'.st=2->p'.ver=V->p'.k=p.k->p'.b=p.b->(bY u p').1=Ee p' (gV V p.k p.b q.sm q.h).1/\(bY u p').2.1=[]):=by
 have e:(gy p).1=if(cZ V p.k p.b).2=0 then jr (pq (cZ V p.k p.b).1) V else[]:=by unfold gy;rw[au w.p2,w.pv.2,w.pv.1];split<;>rfl
 rw[e];by_cases d:(cZ V p.k p.b).2=0;rotate_left
 ·rw[aj d];exact .inl ⟨rfl,d⟩
 rw[au d];refine .inr ⟨d,?_⟩;obtain⟨x,l,y,e2,-,X,Y⟩:=OC (V:=V) f.lead d;have z:=aaf w.v1 w.v3 x λe=>(X e).1;have h:=ad1 (v:=V) (b:=p.b) w.op.kp;have A:=f.lead.map l (zF y);have tl:=w.op.kp.tb l (zF y);have i:=W l A;have g:uM (cZ V p.k p.b).1.2.2.2/\Tb (cZ V p.k p.b).1.2.2.2:=by
  rcases x with⟨O,D,-,-,-⟩|⟨O,D,P,s,l2,m4,m5,m6,m7,m8,m9⟩
  ·exact⟨by rw[Y O];exact i,D⟩
  ·refine⟨?_,D⟩;unfold cZ;rw[y];simp only;have Z:∀s:Sn,uM (qg s l).1.2.2:=λs=>by
    unfold qg;repeat' split
    all_goals first|exact asX i|(intro r j;simp[zD]at j)
   split
   ·intro r j;simp at j
   split
   ·exact i
   ·split
    ·split
     ·exact i
     ·split
      ·intro r j;simp at j
      ·exact Z _
    ·exact i
 have hk:=OD d;unfold gV;rw[au d,z];generalize(cZ V p.k p.b).1=M at *;obtain⟨Q,s2⟩:=alL h (v:=V) (by have S:(pq M).kind=M.1:=rfl;omega) z (aEY M g.2 g.1);have k:(qO (pq M) [] V).1∈jr (pq M) V:=by rw[Q];simp
 obtain⟨d1,-,-⟩:=Ya h (by have S:(pq M).kind=M.1:=rfl;omega) k;rw[Q];generalize(qO (pq M) [] V).1=t at *;have E:=Tf w.oq.rc 0 M.1 M.2.1 M.2.2.1 M.2.2.2 g.2.good (by rcases x with⟨-,-,P,-⟩|⟨-,-,P,-⟩<;>omega);have T:=@aEW V M.1 M.2.1 M.2.2.1 M.2.2.2 q.sm q.h hk;rw[w.qv.2]at E;have o:bY t q=(yc q (iH 0 V M.1 M.2.1 M.2.2.1 M.2.2.2 q.sm q.h).2.2,jr (iE (iH 0 V M.1 M.2.1 M.2.2.1 M.2.2.2 q.sm q.h).1) V,(iH 0 V M.1 M.2.1 M.2.2.1 M.2.2.2 q.sm q.h).2.1):=by
  have F:iY q=V:=by unfold iY;rw[au w.q2];exact w.qv.1
  unfold bY;rw[F,d1];simp only[if_true];have S:(pq M).kind=M.1:=rfl;unfold uq;rw[bU,bU,lV];unfold lY;rw[au w.q2,show iH (fC (pq M) [] q.vs) q.vs (pq M).kind (pq M).epoch (pq M).base (pq M).t q.sm q.h=iH 0 V M.1 M.2.1 M.2.2.1 M.2.2.2 q.sm q.h from by rw[w.qv.2,show fC (pq M) [] V=0 from z];rfl,bU];refine Jp rfl (Jp ?_ rfl);show jr _ q.ver=_
  rw[w.qv.1]
 generalize iH 0 V M.1 M.2.1 M.2.2.1 M.2.2.2 q.sm q.h=R at *;obtain⟨a,c,r⟩:=R;simp only at E T o⊢;obtain⟨-,G,H⟩:=E;have I:fC (iE a) [] V=0:=by
  rcases H with q|⟨-,q⟩
  ·omega
  ·exact q
 have m:xH (iE a) []:=Me G rfl CW.good (by simp[iE]) rfl rfl;have aa:(iE a).kind=a.1:=rfl;obtain⟨U,s4⟩:=alL m (v:=V) ah I (anZ a);have J:(qO (iE a) [] V).1∈jr (iE a) V:=by rw[U];simp
 obtain⟨d2,-,-⟩:=Ya m ah J;rw[U]at o;generalize(qO (iE a) [] V).1=u at *;refine⟨t,u,rfl,s2,by rw[o],by rw[o],s4,λp' L hv n N=>?_⟩;have F:iY p'=V:=by unfold iY;rw[au L];exact hv
 unfold bY;rw[F,d2];simp only[if_true];unfold uq;rw[bU,bU,bU];unfold GY Ee;rcases T with h7|h8
 ·rw[lV,au h7];unfold qK;rw[au L,n,N];exact⟨rfl,rfl⟩
 ·rw[bU,lV,bU,au h8];unfold noS;rw[au L,<-n];exact⟨rfl,rfl⟩
def JX(e:GV)(l:Q1):Q1:=e::l
def ag6(x:Pr)(b:gG x):TT.lim 35 (JX (.zq 0) (cO x))=some (JY x.s0):=by have a:=Yg x.s0 b.s0;simp only[JX,cO,JY,dW,dA,bD,aX]at a⊢;refine aB ?_;simp -implicitDefEqProofs[a]
def ag7(x:Pr)(b:gG x):TT.lim 35 (JX (.zq 1) (cO x))=some (JY x.s1):=by have a:=Yg x.s1 b.s1;simp only[JX,cO,JY,dW,dA,bD,aX]at a⊢;refine aB ?_;simp -implicitDefEqProofs[a]
def Yh(s:bC)(a:kD s):TT.lim 68 (dA s)=some [.zq 0,.zu s.h.1,.l (s.h.2.map row),.b s.sm]:=by have h:=avz (.zq s.vs) s.sm s.h a.rc.good a.rc.no;unfold dA;refine aB ?_;simp -implicitDefEqProofs[h]
def adz(s:bC)(a:kD s):TT.lim 44 (dA s)=some [.zq 0,.zu (jT s.k).1,.l ((jT s.k).2.map row),.b s.k.getLast?.isSome]:=by have h:=aw0 (.zq s.vs) (.zu s.b) s.k a.kp;unfold dA;refine aB ?_;simp -implicitDefEqProofs[h]
def afr(a:Ap)(s:bC)(d:kD s)(h:eF a.x.2):
 TT.lim 43 ([.i .u8 a.kY,.zq a.en,.zu a.x.1,.l (a.x.2.map row),.zu a.ep,.i .u8 a.tk]++dA s)=some [.zq 0,.zu (CJ a.x a.ep s.k).1,.l ((CJ a.x a.ep s.k).2.map row)]:=by
 have c:=adz s d;have e:=afu (jT s.k) ((jT s.k).1,IntKind.u64.wrap ((jT s.k).1+a.ep),a.x.2) (abI d.kp).good h;unfold CJ;have f:GV.g [.zu (jT s.k).1,.l ((jT s.k).2.map row)]=sn (jT s.k):=rfl;have g:GV.g [.zu (jT s.k).1,.zu (IntKind.u64.wrap ((jT s.k).1+a.ep)),.l (a.x.2.map row)]=dl ((jT s.k).1,IntKind.u64.wrap ((jT s.k).1+a.ep),a.x.2):=rfl;generalize lM (jT s.k) ((jT s.k).1,IntKind.u64.wrap ((jT s.k).1+a.ep),a.x.2)=A at *;obtain⟨⟨j,k⟩,i⟩:=A;simp only[dA,bD,aX]at c⊢;generalize jT s.k=L at *;by_cases b:i=0
 ·rw[aj (by simpa using b)];subst b;refine aB ?_;simp -implicitDefEqProofs[c,f,g,e]
 ·rw[au b];refine aB ?_;simp -implicitDefEqProofs[c,f,g,e,b]
def az5(e:Int)(v:Sn)(x:Pr):(kR e v x).rc=x.rc/\(kR e v x).k0=x.k0/\(kR e v x).k1=x.k1/\(kR e v x).s0.st=x.s0.st/\(kR e v x).s0.ver=x.s0.ver/\(kR e v x).s0.vs=x.s0.vs/\(kR e v x).s0.sm=x.s0.sm/\(kR e v x).s0.h=x.s0.h/\(kR e v x).s1.st=x.s1.st/\(kR e v x).s1.ver=x.s1.ver/\(kR e v x).s1.vs=x.s1.vs/\(kR e v x).s1.sm=x.s1.sm/\(kR e v x).s1.h=x.s1.h/\(kR e v x).now=x.now:=by
 unfold kR FU;split
 ·simp
 split
 ·simp
 ·simp
def ac5(e:Int)(x:Pr):(iw e x).rc=x.rc/\(iw e x).s0.ver=x.s0.ver/\(iw e x).s0.vs=x.s0.vs/\(iw e x).s0.sm=x.s0.sm/\(iw e x).s0.h=x.s0.h/\(iw e x).s0.k=x.s0.k/\(iw e x).s0.b=x.s0.b/\(iw e x).s1.ver=x.s1.ver/\(iw e x).s1.vs=x.s1.vs/\(iw e x).s1.sm=x.s1.sm/\(iw e x).s1.h=x.s1.h/\(iw e x).s1.k=x.s1.k/\(iw e x).s1.b=x.s1.b/\(iw e x).now=x.now:=by
 unfold iw lq;split
 ·simp
 split
 ·simp
 ·simp
def ak3(e:Int)(v:Sn)(x:Pr):Fix x (kR e v x):=by
 unfold kR;split
 ·exact⟨⟨rfl,rfl,rfl,rfl⟩,rfl,rfl,rfl,rfl⟩
 split
 ·exact⟨⟨rfl,rfl,rfl,rfl⟩,rfl,rfl,rfl,rfl⟩
 ·exact Fix.refl x
def IG(e:Int)(x:Pr):Fix x (iw e x):=by
 unfold iw;split
 ·exact⟨⟨rfl,rfl,rfl,rfl⟩,rfl,rfl,rfl,rfl⟩
 split
 ·exact⟨⟨rfl,rfl,rfl,rfl⟩,rfl,rfl,rfl,rfl⟩
 ·exact Fix.refl x
def Yy(n:Int)(x:Pr):Fix x (zi n x):=ahT _ _ _
def Om(f:Fa):Prop:=f.cu<=0/\(f.tY=0\/f.at_<0)
def aDG(u:Q0)(k:Nat):u.set k (u.getD k 0)=u:=by
 apply Jf;intro i;rw[aeR];split
 ·next e=>
  subst e;split
  ·next h=>simp[List.getD,bZ h]
  ·next h=>rw[xA ah]
 ·rfl
def aie{f:Fa}(h:Om f)(u:Q0):kX f u=u:=by
 obtain⟨b,a⟩:=h;have e:AB f u=u:=by unfold AB;rw[aj (λc=>ah)]
 unfold kX;rw[e];unfold LY;split
 ·rfl
 split
 ·rfl
 ·next c _=>
  rw[a.resolve_right c,anj];exact aDG _ _
def ays{a c x y:Int}{th bk:List Fa}(h1:1<=a)(j:a<=c)(k:c<=3)(l:1<=x)(h5:x<=y)(h6:y<=3)(h:∀f∈th,Gx f/\Om f)(i:∀f∈bk,Gx f/\Om f)(lt:th.length<=30)(m:bk.length<=30):
 PI (jK a c x y).1 (jK a c x y).2 [] [] (newP a c x y th bk)/\dG (newP a c x y th bk)<=1440:=by
 obtain⟨d,n⟩:=ayr h1 j k l h5 h6 (λf b=>(h f b).1) (λf b=>(i f b).1) lt m;refine⟨⟨⟨⟨d.s0,d.s1,rfl,rfl,rfl,rfl,rfl,.inl rfl,.inl rfl,(λe=>by cases e),(λe=>by cases e),λ_=>rfl,λ_=>rfl,(λe=>by cases e),(λe=>by cases e)⟩,ahE,ahE,(λe=>by cases e),(λe=>by cases e)⟩,λf b u=>aie (h f b).2 u,λf b u=>aie (i f b).2 u,(λy g=>by cases g),(λy g=>by cases g),d,(λe o=>by cases o),List.Pairwise.nil⟩,n⟩
def az6(y:It):rV [] y=[y]:=by unfold rV Ag;rw[au (.inl rfl)];rfl
def az8{y z:It}(h:y.1<z.1):rV [y] z=[y,z]:=by
 unfold rV Ag;have e:lg (at_ ([y]++[z]) [y].length) (at_ ([y]++[z]) (par [y].length))=false:=by rw[show at_ ([y]++[z]) [y].length=z by simp[at_],show at_ ([y]++[z]) (par [y].length)=y by simp[at_,par]];unfold lg;rw[bU];exact ER ah
 rw[au (.inr e)];rfl
def VN{y:It}{t:Int}(h:y.1<=t):dM 1 t [y]=([y.2.2],[]):=by unfold dM;rw[aj (λc=>c.elim (λc=>by cases c) (λc=>by have c:t<y.1:=c;omega))];rfl
def aA3(y z:It):nX [y,z]=[z]:=by unfold nX oD;rw[au (.inl aA)];rfl
def atb{y z:It}{t:Int}(h:y.1<=t)(a:z.1<=t):dM 2 t [y,z]=([y.2.2,z.2.2],[]):=by unfold dM;rw[aj (λc=>c.elim (λc=>by cases c) (λc=>by have c:t<y.1:=c;omega)),aA3,VN a];rfl
def ag1(t:Int):dM 0 t []=([],[]):=rfl
def qy(h:List It)(n:Int):Lk:=⟨[],h,n⟩
def Tz{now:Int}{T:Wa}(a:T.length<=1)(n:Int):∃b,iP now T (qy [] n)=qy (T.map λt=>(now,n,eX t)) b:=by
 match T,a with
 |[],_=>exact⟨n,rfl⟩
 |[t],_=>refine⟨n+1,?_⟩;simp only[iP,ny,qy,mY,az6,iU,jH]
def aDw{now:Int}{T:Wa}(a:T.length<=1){y:It}(b:y.1<now)(n:Int):∃c,iP now T (qy [y] n)=qy (y::T.map λt=>(now,n,eX t)) c:=by
 match T,a with
 |[],_=>exact⟨n,rfl⟩
 |[t],_=>refine⟨n+1,?_⟩;simp only[iP,ny,qy,mY,iU,jH];rw[az8 b]
def apm{t:Q0}(a:t.length<=65536)(x:Pr):jS 1 (eX t) x ={x with s1:=(bY t x.s1).1,k1:=iP x.now (bY t x.s1).2.1 x.k1,rc:=x.rc++[(x.now,1,(bY t x.s1).2.2)]}:=by obtain⟨c,e⟩:=XJ a;unfold jS;rw[au c,e,aj aV]
def VA{t:Q0}(a:t.length<=65536)(x:Pr):jS 0 (eX t) x ={x with s0:=(bY t x.s0).1,k0:=iP x.now (bY t x.s0).2.1 x.k0,rc:=x.rc++[(x.now,0,(bY t x.s0).2.2)]}:=by obtain⟨c,e⟩:=XJ a;unfold jS;rw[au c,e,au rfl]
structure At(x:Pr)(p q:bC)(h0 h1:List It):Prop where
 s0:x.s0=p
 s1:x.s1=q
 k0:∃n,x.k0=qy h0 n
 k1:∃n,x.k1=qy h1 n
def tx(a n:Int)(T:Wa):List It:=T.map λt=>(a,n,eX t)
def hr1(T:Wa)(s:bC):bC×Wa:=match T with
 |[]=>(s,[])
 |t::_=>((bY t s).1,(bY t s).2.1)
def ah1{x:Pr}{p q:bC}{T:Wa}{a n:Int}{h1:List It}(h:At x p q (tx a n T) h1)(k:T.length<=1)(l:∀t∈T,t.length<=65536)(o:a<=x.now)(r:h1=[]\/∃y,h1=[y]/\y.1<x.now):
 ∃m,At (nP x) p (hr1 T q).1 [] (h1++tx x.now m (hr1 T q).2):=by
 obtain⟨d,i,⟨b,k0⟩,⟨c,f⟩⟩:=h;match T,k with
 |[],_=>
  refine⟨0,?_⟩;have e:nP x=x:=by
   unfold nP yM;rw[k0];show oC 1 (dM 0 x.now []).1 {x with k0:={qy [] b with h:=(dM 0 x.now []).2}}=x
   rw[ag1];show {x with k0:=qy [] b}=x
   rw[show qy [] b=x.k0 from k0.symm]
  rw[e];exact⟨d,i,⟨b,k0⟩,⟨c,by rw[f];simp[tx,hr1]⟩⟩
 |[t],_=>
  have s:=l t aA;have e:nP x=jS 1 (eX t) {x with k0:=qy [] b}:=by
   unfold nP yM;rw[k0];show oC 1 (dM 1 x.now [(a,n,eX t)]).1 {x with k0:={qy [(a,n,eX t)] b with h:=(dM 1 x.now [(a,n,eX t)]).2}}=_
   rw[VN (y:=(a,n,eX t)) o];rfl
  have j:=Kr t q;rw[e,apm s];simp only;rw[i];rcases r with rfl|⟨y,rfl,u⟩
  ·obtain⟨g,q⟩:=Tz (now:=x.now) j c;refine⟨c,d,rfl,⟨b,rfl⟩,⟨g,?_⟩⟩;simp only;rw[f,q];rfl
  ·obtain⟨g,q⟩:=aDw (now:=x.now) j u c;refine⟨c,d,rfl,⟨b,rfl⟩,⟨g,?_⟩⟩;simp only;rw[f,q];rfl
def ah4{x:Pr}{p q:bC}{B R:Wa}{a n b m:Int}(h:At x p q [] (tx a n B++tx b m R))(F:B.length<=1)(G:R.length<=1)(r:∀t∈B,t.length<=65536)(v:∀t∈R,t.length<=65536)(A:a<=x.now)(D:b<=x.now)(E:∀t∈R,∀s,(bY t s).2.1=[]):
 ∃k,At (qR x) (hr1 R (hr1 B p).1).1 q (tx x.now k (hr1 B p).2) []:=by
 obtain⟨f,g,⟨d,i⟩,⟨c,k1⟩⟩:=h;match B,F,R,G with
 |[],_,[],_=>
  refine⟨0,?_⟩;have e:qR x=x:=by
   unfold qR xJ;rw[k1];show oC 0 (dM 0 x.now []).1 {x with k1:={qy [] c with h:=(dM 0 x.now []).2}}=x
   rw[ag1];show {x with k1:=qy [] c}=x
   rw[show qy [] c=x.k1 from k1.symm]
  rw[e];exact⟨f,g,⟨d,by rw[i];simp[tx,hr1]⟩,⟨c,k1⟩⟩
 |[],_,[u],_=>
  have j:=v u aA;have e:qR x=jS 0 (eX u) {x with k1:=qy [] c}:=by
   unfold qR xJ;rw[k1];show oC 0 (dM 1 x.now [(b,m,eX u)]).1 {x with k1:={qy [(b,m,eX u)] c with h:=(dM 1 x.now [(b,m,eX u)]).2}}=_
   rw[VN (y:=(b,m,eX u)) D];rfl
  rw[e,VA j];simp only;rw[f,E u aA];exact⟨0,rfl,g,⟨d,by simp only[iP];rw[i];simp[tx,hr1]⟩,⟨c,rfl⟩⟩
 |[t],_,[],_=>
  have l:=r t aA;have e:qR x=jS 0 (eX t) {x with k1:=qy [] c}:=by
   unfold qR xJ;rw[k1];show oC 0 (dM 1 x.now [(a,n,eX t)]).1 {x with k1:={qy [(a,n,eX t)] c with h:=(dM 1 x.now [(a,n,eX t)]).2}}=_
   rw[VN (y:=(a,n,eX t)) A];rfl
  rw[e,VA l];simp only;rw[f];obtain⟨o,w⟩:=Tz (now:=x.now) (Kr t p) d;refine⟨d,rfl,g,⟨o,?_⟩,⟨c,rfl⟩⟩;simp only;rw[i,w];rfl
 |[t],_,[u],_=>
  have l:=r t aA;have j:=v u aA;have e:qR x=jS 0 (eX u) (jS 0 (eX t) {x with k1:=qy [] c}):=by
   unfold qR xJ;rw[k1];show oC 0 (dM 2 x.now [(a,n,eX t),(b,m,eX u)]).1 {x with k1:={qy [(a,n,eX t),(b,m,eX u)] c with h:=(dM 2 x.now [(a,n,eX t),(b,m,eX u)]).2}}=_
   rw[atb (y:=(a,n,eX t)) (z:=(b,m,eX u)) A D];rfl
  rw[e,VA l,VA j];simp only;rw[f,E u aA];obtain⟨o,w⟩:=Tz (now:=x.now) (Kr t p) d;refine⟨d,rfl,g,⟨o,?_⟩,⟨c,rfl⟩⟩;simp only[iP];rw[i,w];rfl
def Ea(p q:bC):bC×bC:=
 ((hr1 (hr1 (gy p).1 q).2 (hr1 (gy q).1 (lq p)).1).1,(hr1 (hr1 (gy q).1 (lq p)).2 (hr1 (gy p).1 q).1).1)
def aiz(T:Wa)(s:bC):(hr1 T s).2.length<=1:=by
 unfold hr1;split
 ·simp
 ·exact Kr _ _
def aiA(T:Wa)(s:bC):∀u∈(hr1 T s).2,u.length<=65536/\∀b,(bY u b).2.1=[]:=by
 unfold hr1;split
 ·intro u a;cases a
 ·intro u a;obtain⟨c,d⟩:=Ig _ _ u a;exact⟨c,λb=>aa4 d⟩
def av2{T:Wa}(h:∀u∈T,∀a,(bY u a).2.1=[])(s:bC):(hr1 T s).2=[]:=by
 unfold hr1;split
 ·rfl
 ·next t _=>exact h t aA s
def alH{n:Nat}{x:Pr}(e:gG x)(b:dG x<n){a:Int}(c:kQ x=some a)(d:a<=x.now):∃m,oI n x=oI m (lF x)/\dG (lF x)<m/\gG (lF x):=by
 match n,b with
 |n+1,b=>
  obtain⟨f,g⟩:=Vo e c d;refine⟨n,?_,ah,f⟩;show(match kQ x with|none=>x|some a=>if a<=x.now then oI n (lF x)else x)=_
  rw[c];simp only;rw[au d]
def alF{n:Nat}{x:Pr}(b:kQ x=none):oI n x=x:=by
 match n with
 |0=>rfl
 |n+1=>
  show(match kQ x with|none=>x|some a=>if a<=x.now then oI n (lF x)else x)=x
  rw[b]
def ab3{x:Pr}(h0:x.k0.h=[])(h1:x.k1.h=[]):kQ x=none:=by unfold kQ nextL;rw[h0,h1];rfl
def ab4{x:Pr}{p q:bC}{h0 h1:List It}(h:At x p q h0 h1){a:Int}(c:h0≠[]\/h1≠[])(b:∀y∈h0++h1,y.1=a):kQ x=some a:=by
 obtain⟨-,-,⟨k,d⟩,⟨m,e⟩⟩:=h;have f:x.k0.h=h0:=by rw[d];rfl
 have g:x.k1.h=h1:=by rw[e];rfl
 unfold kQ nextL;rw[f,g];match h0,h1 with
 |[],[]=>exact absurd rfl (c.elim (λh=>absurd rfl h) id)
 |[],z::r=>
  have:=b z aA;rw[au rfl,aj aA];show some z.1=_
  rw[this]
 |y::l,[]=>
  have:=b y aA;rw[aj aA,au rfl];show some y.1=_
  rw[this]
 |y::l,z::r=>
  have i:=b y aA;have j:=b z aA;rw[aj aA,aj aA];show some (if z.1<y.1 then z.1 else y.1)=_
  rw[i,j];simp
def TU{a n:Int}{T:Wa}(h:T≠[]):tx a n T≠[]:=by
 cases T with
 |nil=>exact absurd rfl h
 |cons t r=>simp[tx]
def TS{a n:Int}{T:Wa}:∀y∈tx a n T,y.1=a:=by intro y b;obtain⟨t,-,rfl⟩:=rZ.1 b;rfl
def aBI{z:Pr}(r:gG z){p q:bC}{A B:Wa}{n m:Int}(h:At z p q (tx (z.now-1) n A) (tx (z.now-1) m B))(H:A.length<=1)(E:B.length<=1)(I:∀t∈A,t.length<=65536)(J:∀t∈B,t.length<=65536)(s:A≠[]\/B≠[]){f:Nat}(L:dG z<f):
 At (oI f z) (hr1 (hr1 A q).2 (hr1 B p).1).1 (hr1 (hr1 B p).2 (hr1 A q).1).1 [] []/\(oI f z).now=z.now:=by
 have v:=ab4 h (s.imp TU TU) (λy j=>(jP.1 j).elim (TS y) (TS y));obtain⟨V,M,N,o1⟩:=alH r L v ah;obtain⟨W,F⟩:=ah1 h H I ah (by
  match B,E with
  |[],_=>exact .inl rfl
  |[u],_=>exact .inr ⟨_,rfl,by show z.now-1<z.now;omega⟩)
 have O:(nP z).now=z.now:=Ri z;have sA:=aiA A q;rw[O.symm]at F;obtain⟨X,c⟩:=ah4 (x:=nP z) (a:=(nP z).now-1) (b:=(nP z).now) F E (aiz A q) J (λt d=>(sA t d).1) ah (gq _) (λt d=>(sA t d).2);have k:(lF z).now=z.now:=NK z;have c:At (lF z) _ _ _ _:=c;rw[M];have sB:=aiA B p;have P:=aiz B p;generalize hr1 A q=e,hr1 B p=g at *;by_cases G:g.2=[]
 ·rw[G]at c⊢;have c:At (lF z) (hr1 e.2 g.1).1 e.1 [] []:=c;obtain⟨-,-,⟨Q,w⟩,⟨R,D⟩⟩:=id c;rw[alF (ab3 (by rw[w];rfl) (by rw[D];rfl))];exact⟨c,k⟩
 ·have i:=ab4 c (.inl (TU G)) (λy j=>by rw[pX]at j;exact TS y j);obtain⟨Y,S,g2,T⟩:=alH o1 N i ah;obtain⟨Z,l⟩:=ah1 c P (λt d=>(sB t d).1) ah (.inl rfl);have U:=av2 (λt d=>(sB t d).2) e.1;rw[U]at l;have l:At (nP (lF z)) (hr1 e.2 g.1).1 (hr1 g.2 e.1).1 [] (tx 0 0 []++tx 0 0 []):=l;obtain⟨k4,o⟩:=ah4 (x:=nP (lF z)) (a:=0) (b:=0) l aA aA aA aA (by have:=T.now;have:(nP (lF z)).now=z.now:=(Ri _).trans k;have:=r.now;omega) (by have:(nP (lF z)).now=z.now:=(Ri _).trans k;have:=r.now;omega) aA;have o:At (lF (lF z)) (hr1 e.2 g.1).1 (hr1 g.2 e.1).1 [] []:=o;obtain⟨-,-,⟨Q,w⟩,⟨R,D⟩⟩:=id o;rw[S,alF (ab3 (by rw[w];rfl) (by rw[D];rfl))];exact⟨o,(NK _).trans k⟩
noncomputable def jJ (x:Pr):Pr:=zi 1 (iw 1 (iw 0 x))
def aA9{x:Pr}(D:gG x){p q:bC}(h:At x p q [] [])(E:lq q=q):At (jJ x) (Ea p q).1 (Ea p q).2 [] []/\(jJ x).now=x.now+1:=by
 obtain⟨r,s,⟨t,F⟩,⟨u,G⟩⟩:=h;have H:=IJ p;have I:=IJ q;have v:=SQ p;have w:=SQ q;obtain⟨o1,-,-⟩:=D6 (e:=0) D;obtain⟨d,-,-⟩:=D6 (e:=1) o1;have b:∃n m,At (iw 1 (iw 0 x)) (lq p) q (tx x.now n (gy p).1) (tx x.now m (gy q).1)/\(iw 1 (iw 0 x)).now=x.now:=by
  obtain⟨J,L⟩:=Tz (now:=x.now) v t;obtain⟨M,N⟩:=Tz (now:=x.now) w u;unfold iw;rw[au rfl,aj aV,au rfl];refine⟨t,u,⟨by simp only[r],by simp only[s];exact E,⟨J,?_⟩,⟨M,?_⟩⟩,rfl⟩
  ·simp only[r];rw[F,L];rfl
  ·simp only[s];rw[G,N];rfl
 obtain⟨n,m,b,R⟩:=b;unfold jJ Ea;generalize iw 1 (iw 0 x)=y,(gy p).1=A,(gy q).1=B,lq p=O at *;unfold zi;show At (qj 2 (y.now+1) y) _ _ _ _/\(qj 2 (y.now+1) y).now=_
 by_cases a:A=[]/\B=[]
 ·obtain⟨rfl,rfl⟩:=a;obtain⟨g,i,⟨j,d0⟩,⟨k,d1⟩⟩:=b;have l:kQ y=none:=ab3 (by rw[d0];rfl) (by rw[d1];rfl);have e:qj 2 (y.now+1) y ={y with now:=y.now+1}:=by unfold qj;rw[lV,l]
  rw[e];exact⟨⟨g,i,⟨j,d0⟩,⟨k,d1⟩⟩,by simp only;omega⟩
 ·have a:A≠[]\/B≠[]:=by
   by_cases c:A=[]
   ·exact .inr λb=>a ⟨c,b⟩
   ·exact .inl c
  have l:=ab4 b (a.imp TU TU) (λz o=>(jP.1 o).elim (TS z) (TS z));have P:gG {y with now:=y.now+1}:=⟨d.s0,d.s1,d.k0,d.k1,by have:=d.now;simp only;omega⟩
  obtain⟨g,i,⟨j,d0⟩,⟨k,d1⟩⟩:=b;have o:At {y with now:=y.now+1} O q (tx (({y with now:=y.now+1}:Pr).now-1) n A) (tx (({y with now:=y.now+1}:Pr).now-1) m B):=⟨g,i,⟨j,by simp only;rw[d0];congr 2;omega⟩,⟨k,by simp only;rw[d1];congr 2;omega⟩⟩
  obtain⟨r1,r2⟩:=aBI P o v w H I a (f:=dG y+1) (by show dG y<dG y+1;omega);have e:qj 2 (y.now+1) y=oI (dG y+1) {y with now:=y.now+1}:=by
   have Q:sG x.now y=oI (dG y+1) {y with now:=y.now+1}:=by unfold sG;rw[bU]
   unfold qj;rw[lV,l];simp only;rw[bU,Q];unfold qj;rw[aj (by rw[r2];simp only;omega)]
  rw[e];exact⟨r1,by rw[r2];simp only;omega⟩
def aEt{t:Q0}{s:bC}(a:rY [5,6] t)(b:s.st≠2):(bY t s).1=s/\(bY t s).2.1=[]:=by
 unfold bY;split;rotate_left
 ·exact⟨rfl,rfl⟩
 next e=>
 have h:=a _ e;simp only[bI,List.not_mem_nil,or_false]at h;unfold uq;rw[bU,bU,au h];unfold lY;rw[aj b];exact⟨rfl,rfl⟩
def aAC{V:Int}{ok:Bool}{p q:bC}(h:pI V ok p q):∀t∈(gy q).1,rY [5,6] t:=by
 intro t a;unfold gy at a;rw[h.qf]at a;split at a;rotate_left
 ·cases a
 split at a;rotate_left
 ·cases a
 next f=>
 have g:=OD (v:=q.vs) (k:=q.k) (b:=q.b) f;have e:(pq (cZ q.vs q.k q.b).1).kind=(cZ q.vs q.k q.b).1.1:=rfl;obtain⟨d,-⟩:=Eb a (by rw[e];omega) (by rw[e];omega);rw[e]at d;exact KA d λk c=>by rw[jW.1 c];rcases g with e|e<;>rw[e]<;>simp
def aA5{V:Int}{ok:Bool}{p q:bC}(h:pI V ok p q)(k:p.st≠2)(l:p.st≠3):Fin ok (Ea p q).1 (Ea p q).2:=by
 have m:=ais h.iW.mn h.iW.le h.iW.mx;have e:gy p=([helloT p.mn p.mx],1):=by unfold gy;rw[aj k,au h.pf,aj l,h.pn,m]
 have g:lq p ={p with st:=1}:=by unfold lq;rw[e]
 obtain⟨i,-,n⟩:=akj h;obtain⟨a,-⟩:=alh i (n (helloT p.mn p.mx) (by rw[e];simp));have c:=ali i;rw[g]at c a;simp only at c;have o:hr1 (gy q).1 {p with st:=1}=({p with st:=1},[]):=by
  have u:=aAC h;unfold hr1;split
  ·rfl
  ·next t r v=>
   obtain⟨w,x⟩:=aEt (s:={p with st:=1}) (u t (by rw[v];simp)) aA;rw[w,x]
 unfold Ea;rw[e,g,o];have j:hr1 [helloT p.mn p.mx] q=((bY (helloT p.mn p.mx) q).1,(bY (helloT p.mn p.mx) q).2.1):=rfl;rw[c]at a j;simp only;rw[j];cases b:ok with
 |true=>subst b;simp only[reduceIte]at a⊢;have d:=aki a rfl rfl;have f:hr1 [EF V] {p with st:=1}=((bY (EF V) {p with st:=1}).1,(bY (EF V) {p with st:=1}).2.1):=rfl;rw[f,d];unfold Fin;rw[au rfl];exact⟨rfl,rfl⟩
 |false=>subst b;simp only[reduceIte,iZ]at a⊢;have d:=akk a rfl rfl;have f:hr1 [FV] {p with st:=1}=((bY FV {p with st:=1}).1,(bY FV {p with st:=1}).2.1):=rfl;rw[f,d];unfold Fin;rw[aj aA];exact⟨rfl,rfl⟩
def auc{V:Int}{ok:Bool}{p q:bC}(h:pI V ok p q)(c:p.st=2\/p.st=3):Fin ok p q:=by
 unfold Fin;rcases c with c|c
 ·obtain⟨e,-,b⟩:=h.p2 c;rw[au e];exact⟨c,b⟩
 ·have a:=h.p3 c;rw[aj (by rw[h.q3 a];simp)];exact⟨c,a⟩
def Tj{V:Int}{ok:Bool}{xs a:Q1}{x:Pr}(h:PI V ok xs a x):PI V ok xs a (jJ x)/\PL x (jJ x):=by obtain⟨b,c⟩:=SS h 0;obtain⟨d,e⟩:=SS b 1;obtain⟨f,g⟩:=adL d 1;exact⟨f,(c.trans e).trans g⟩
def Qt(x:Pr):Prop:=At x x.s0 x.s1 [] []
def SY{V:Int}{ok:Bool}{xs e:Q1}{x:Pr}(h:PI V ok xs e x)(q:Qt x):Qt (jJ x)/\(jJ x).s0=(Ea x.s0 x.s1).1/\(jJ x).s1=(Ea x.s0 x.s1).2/\(jJ x).now=x.now+1:=by obtain⟨r1,r2⟩:=aA9 h.o q (alj h.i.s).1;obtain⟨a,b,c,d⟩:=id r1;exact⟨⟨rfl,rfl,c,d⟩,a,b,r2⟩
def auk{V:Int}{ok:Bool}{xs a:Q1}{x:Pr}(h:PI V ok xs a x)(q:Qt x):Fin ok (jJ x).s0 (jJ x).s1:=by
 obtain⟨-,b,d,-⟩:=SY h q;by_cases c:x.s0.st=2\/x.s0.st=3
 ·exact(Tj h).2.l.fin (auc h.i.s c)
 ·rw[b,d];exact aA5 h.i.s (λe=>c (.inl e)) (λe=>c (.inr e))
def Xw{V:Int}{k:List Sn}{b:Int}(h:(cZ V k b).2≠0)(a:Bool)(g:Sn):gV V k b a g=((k,b),a,g):=by unfold gV;rw[aj h]
def aA7{V:Int}{p q:bC}(w:Way V p q)(w':Way V q p){xs v:Q1}(f:jc xs [] [] p.k p.b q.sm q.h)(y:jc v [] [] q.k q.b p.sm p.h)(z:ou xs)(A:ou v):
 Ea p q=(Ee (yc p (gV V q.k q.b p.sm p.h).2) (gV V p.k p.b q.sm q.h).1,Ee (yc q (gV V p.k p.b q.sm q.h).2) (gV V q.k q.b p.sm p.h).1):=by
 have D:lq p=p:=by
  unfold lq gy;rw[au w.p2];have e:({p with st:=2}:bC)=p:=by rw[<-w.p2]
  split<;>exact e
 unfold Ea;rw[D];have a:=ana w f z;have b:=ana w' y A;have J:yc p (p.sm,p.h)=p:=rfl;have L:yc q (q.sm,q.h)=q:=rfl;have M:Ee p (p.k,p.b)=p:=rfl;have N:Ee q (q.k,q.b)=q:=rfl;rcases a with⟨j,E⟩|⟨-,t,u,j,-,F,G,-,x⟩
 ·rw[Xw E,j];rcases b with⟨c,k⟩|⟨-,l,d,c,-,m,n,-,o⟩
  ·rw[Xw k,c];rfl
  ·rw[c];have r:hr1 [l] p=(yc p (gV V q.k q.b p.sm p.h).2,[d]):=by unfold hr1;simp only;rw[m,n]
   rw[r];obtain⟨g,h⟩:=o q w.q2 w.qv.1 rfl rfl;have i:hr1 [d] q=(Ee q (gV V q.k q.b p.sm p.h).1,[]):=by unfold hr1;simp only;rw[g,h]
   have s:hr1 [] q=(q,[]):=rfl;rw[s];simp only;rw[i];rfl
 ·rw[j];have r:hr1 [t] q=(yc q (gV V p.k p.b q.sm q.h).2,[u]):=by unfold hr1;simp only;rw[F,G]
  rw[r];rcases b with⟨c,k⟩|⟨-,l,d,c,-,m,n,-,o⟩
  ·rw[Xw k,c];obtain⟨g,h⟩:=x p w.p2 w.pv.1 rfl rfl;have i:hr1 [u] p=(Ee p (gV V p.k p.b q.sm q.h).1,[]):=by unfold hr1;simp only;rw[g,h]
   have s:hr1 [] p=(p,[]):=rfl;rw[s];simp only;rw[i];rfl
  ·rw[c];have H:hr1 [l] p=(yc p (gV V q.k q.b p.sm p.h).2,[d]):=by unfold hr1;simp only;rw[m,n]
   rw[H];obtain⟨g,h⟩:=x (yc p (gV V q.k q.b p.sm p.h).2) w.p2 w.pv.1 rfl rfl;obtain⟨d1,d2⟩:=o (yc q (gV V p.k p.b q.sm q.h).2) w.q2 w.qv.1 rfl rfl;have i:hr1 [u] (yc p (gV V q.k q.b p.sm p.h).2)=(Ee (yc p (gV V q.k q.b p.sm p.h).2) (gV V p.k p.b q.sm q.h).1,[]):=by unfold hr1;simp only;rw[g,h]
   have I:hr1 [d] (yc q (gV V p.k p.b q.sm q.h).2)=(Ee (yc q (gV V p.k p.b q.sm q.h).2) (gV V q.k q.b p.sm p.h).1,[]):=by unfold hr1;simp only;rw[d1,d2]
   simp only;rw[i,I]
def Has(k:List Sn)(a:Bool)(h:Sn):Prop:=∀l,k.getLast? =some l->a=true/\h=l
def Dn(k:List Sn)(b:Int):Prop:=∀l,k.getLast? =some l->b=l.1
def agP{xs:Q1}{k:List Sn}{b:Int}{c:Bool}{h:Sn}(f:jc xs [] [] k b c h)(d:Dn k b):Has k c h:=λl a=>by
 have i:=f.lead.kp.pos l (zF a);obtain⟨j,g⟩:=f.le_last a;have:=d l a;rcases f.base with q|⟨e,m⟩
 ·omega
 ·exact⟨e,g e ah⟩
def avx{xs:Q1}{k:List Sn}{b V:Int}{a:Bool}{h:Sn}(f:jc xs [] [] k b a h)(g:Has k a h):Has (gV V k b a h).1.1 (gV V k b a h).2.1 (gV V k b a h).2.2:=λl c=>by obtain⟨-,-,e⟩:=X6 f V;rw[e]at c;obtain⟨rfl,rfl⟩:=g l c;have:=alA f c rfl V;rw[this];exact⟨rfl,rfl⟩
def aF2{xs:Q1}{k:List Sn}{b V:Int}{a:Bool}{h:Sn}(f:jc xs [] [] k b a h)(h1:1<=V)(d:V<=3)(g:b=0):Has (gV V k b a h).1.1 (gV V k b a h).2.1 (gV V k b a h).2.2:=λl c=>by
 obtain⟨-,-,e⟩:=X6 f V;rw[e]at c;rcases alz f c V h1 d ah with q|⟨q,-⟩
 ·rw[q];exact⟨rfl,rfl⟩
 ·exact absurd g q
def an1{xs:Q1}{k:List Sn}{b V:Int}{c:Bool}{h:Sn}(f:jc xs [] [] k b c h)(h1:1<=V)(g:V<=3):Has (gV V k b c h).1.1 (gV V k b c h).2.1 (gV V k b c h).2.2\/(gV V k b c h).1.2=0:=by
 obtain⟨-,-,e⟩:=X6 f V;cases d:k.getLast? with
 |none=>refine .inl λl a=>?_;rw[e,d]at a;cases a
 |some l=>
  rcases alz f d V h1 g (aw7 f.lead)with q|⟨-,q⟩
  ·refine .inl λi a=>?_;rw[e,d]at a;injection a with a
   rw[q,a];exact⟨rfl,rfl⟩
  ·exact .inr q
def aii{xs:Q1}{k:List Sn}{b V:Int}{d:Bool}{h:Sn}(f:jc xs [] [] k b d h)(h1:1<=V)(r:V<=3)(g:Has k d h):Dn (gV V k b d h).1.1 (gV V k b d h).1.2:=λl a=>by
 obtain⟨-,-,e⟩:=X6 f V;rw[e]at a;obtain⟨rfl,rfl⟩:=g l a;have o:=zF a;by_cases j:h.1=b
 ·have c:(cZ V k b).2≠0:=by unfold cZ;rw[a];simp only;rw[au j];simp
  rw[Xw c];exact j.symm
 have c:(cZ V k b).2=0:=by
  unfold cZ;rw[a];simp only;rw[aj j];cases m:jC b k with
  |none=>rfl
  |some i=>
   obtain⟨s,p,-,hi⟩:=EY m;obtain⟨t,-⟩:=Xi f.lead.kp a j m p;simp only[p];split
   ·rw[aj (by simp[t])]
   ·rfl
 obtain⟨u,A,n,D,-,v,-⟩:=OC f.lead c;rw[a]at n;injection n with n
 subst n;have w:=aaf h1 r u λe=>(v e).1;have x:=OD c;have y:b<h.1:=by have:=f.lead.kp.pos h o;rcases f.base with q|⟨-,q⟩<;>omega
 have z:(iH 0 V (cZ V k b).1.1 (cZ V k b).1.2.1 (cZ V k b).1.2.2.1 (cZ V k b).1.2.2.2 true h).1=(7,h.1,0,0):=by
  unfold iH;rw[aj aA];rcases x with e|e
  ·rw[au e,au ⟨rfl,ah⟩]
  ·rw[bU,au e,au ⟨rfl,ah⟩]
 unfold gV;rw[au c,w];simp only;rw[z];unfold GY;rw[au rfl];unfold sD;rw[aj (by simp only;omega)];cases m:jC h.1 k with
 |none=>exact absurd rfl (aue m h o)
 |some i=>rfl
def asY{xs:Q1}{k:List Sn}{b V:Int}{a:Bool}{h:Sn}(f:jc xs [] [] k b a h)(h1:1<=V)(c:V<=3)(d:Dn k b):Dn (gV V k b a h).1.1 (gV V k b a h).1.2:=aii f h1 c (agP f d)
structure OI(V:Int)(xs ys:Q1)(x:Pr):Prop where
 i:PI V true xs ys x
 q:Qt x
 p2:x.s0.st=2
 q2:x.s1.st=2
def OI.way{V:Int}{xs e:Q1}{x:Pr}(h:OI V xs e x):Way V x.s0 x.s1/\Way V x.s1 x.s0:=by obtain⟨-,-,c,d⟩:=h.i.i.s.I5 rfl;have a:=(h.i.i.s.p2 h.p2).2.1;have b:=(h.i.i.s.q2 h.q2).2;have w0:=(h.i.i.v.1 h.p2).trans a;have w1:=(h.i.i.v.2 h.q2).trans b;exact⟨⟨h.p2,h.q2,⟨a,w0⟩,⟨b,w1⟩,h.i.i.s.iW,h.i.i.s.oW,c,d⟩,⟨h.q2,h.p2,⟨b,w1⟩,⟨a,w0⟩,h.i.i.s.oW,h.i.i.s.iW,c,d⟩⟩
def OI.Pe{V:Int}{xs a:Q1}{x:Pr}(h:OI V xs a x)(b:ou xs)(c:ou a):OI V xs a (jJ x)/\(jJ x).now=x.now+1/\
 (((jJ x).s0.k,(jJ x).s0.b),(jJ x).s1.sm,(jJ x).s1.h)=gV V x.s0.k x.s0.b x.s1.sm x.s1.h/\(((jJ x).s1.k,(jJ x).s1.b),(jJ x).s0.sm,(jJ x).s0.h)=gV V x.s1.k x.s1.b x.s0.sm x.s0.h:=by
 obtain⟨w,d⟩:=h.way;obtain⟨f,g2⟩:=Tj h.i;obtain⟨r1,r2,r3,g⟩:=SY h.i h.q;have e:=aA7 w d h.i.i.a h.i.i.b b c;rw[e]at r2 r3;refine⟨⟨f,r1,g2.l.p2 h.p2,g2.l.q2 h.q2⟩,g,?_,?_⟩
 ·rw[r2,r3];rfl
 ·rw[r2,r3];rfl
def Both(P:List Sn->Int->Bool->Sn->Prop)(x:Pr):Prop:=P x.s0.k x.s0.b x.s1.sm x.s1.h/\P x.s1.k x.s1.b x.s0.sm x.s0.h
def OI.both{V:Int}{xs e:Q1}{x:Pr}(h:OI V xs e x)(m:ou xs)(n:ou e){P Q:List Sn->Int->Bool->Sn->Prop}(f:Both P x)(d:∀o k b c g,jc o [] [] k b c g->1<=V->V<=3->P k b c g->Q (gV V k b c g).1.1 (gV V k b c g).1.2 (gV V k b c g).2.1 (gV V k b c g).2.2):Both Q (jJ x):=by obtain⟨-,-,p,r⟩:=h.Pe m n;obtain⟨-,-,j,l⟩:=h.i.i.s.I5 rfl;have a:=d xs _ _ _ _ h.i.i.a j l f.1;have b:=d e _ _ _ _ h.i.i.b j l f.2;rw[<-p]at a;rw[<-r]at b;exact⟨a,b⟩
noncomputable def lW:Nat->Pr->Pr
 |0,x=>x
 |n+1,x=>lW n (jJ x)
def aj7{V:Int}{xs a:Q1}(c:ou xs)(e:ou a):∀(n:Nat){x:Pr},OI V xs a x->Both (λk b _ _=>Dn k b) x->OI V xs a (lW n x)/\Both (λk b _ _=>Dn k b) (lW n x)/\(lW n x).now=x.now+n
 |0,x,h,d=>⟨h,d,by simp[lW]⟩
 |n+1,x,h,d=>by obtain⟨h1,i,-⟩:=h.Pe c e;have d1:=h.both (Q:=λk b _ _=>Dn k b) c e d (λo k b p g f j l d=>asY f j l d);obtain⟨m,g2,g3⟩:=aj7 c e n h1 d1;exact⟨m,g2,by rw[show lW (n+1) x=lW n (jJ x)from rfl,g3,i];push_cast;omega⟩
def ayG{V:Int}{xs l:Q1}(a:ou xs)(c:ou l){x:Pr}(h:OI V xs l x)(n:Nat):OI V xs l (lW (n+3) x)/\Both (λk b _ _=>Dn k b) (lW (n+3) x)/\(lW (n+3) x).now=x.now+n+3:=by obtain⟨m,q,-⟩:=h.Pe a c;have d1:=h.both (P:=λ_ _ _ _=>True) (Q:=λk b e g=>Has k e g\/b=0) a c ⟨trivial,trivial⟩ (λo k b e g f i j _=>an1 f i j);obtain⟨p,r,-⟩:=m.Pe a c;have d2:=m.both (Q:=λk b e g=>Has k e g) a c d1 (λo k b e g f i j d=>d.elim (avx f) (aF2 f i j));obtain⟨s,t,-⟩:=p.Pe a c;have d3:=p.both (Q:=λk b _ _=>Dn k b) a c d2 (λo k b e g f i j d=>aii f i j d);obtain⟨u,g2,g3⟩:=aj7 a c n s d3;exact⟨u,g2,by rw[show lW (n+3) x=lW n (jJ (jJ (jJ x)))from rfl,g3,t,r,q];omega⟩
def acB{V:Int}{ok:Bool}{xs a:Q1}:∀(n:Nat){x:Pr},PI V ok xs a x->Qt x->PI V ok xs a (lW n x)/\PL x (lW n x)/\Qt (lW n x)/\(lW n x).now=x.now+n
 |0,x,h,q=>⟨h,PL.self x,q,by simp[lW]⟩
 |n+1,x,h,q=>by obtain⟨h1,b⟩:=Tj h;obtain⟨c,-,-,d⟩:=SY h q;obtain⟨e,g2,g3,f⟩:=acB n h1 c;exact⟨e,b.trans g2,g3,by rw[show lW (n+1) x=lW n (jJ x)from rfl,f,d];push_cast;omega⟩
def aDR{V:Int}{ok:Bool}{xs c:Q1}{x:Pr}(h:PI V ok xs c x)(q:Qt x)(g:ou xs)(i:ou c):Fin ok (lW 6 x).s0 (lW 6 x).s1/\(ok=true->Both (λk b _ _=>Dn k b) (lW 6 x)):=by have a:=auk h q;obtain⟨d,j⟩:=Tj h;obtain⟨f,-,-,-⟩:=SY h q;obtain⟨-,g2,-,-⟩:=acB 5 d f;refine⟨g2.l.fin a,λe=>?_⟩;subst e;unfold Fin at a;rw[au rfl]at a;exact(ayG g i ⟨d,f,a.1,a.2⟩ 2).2.1
def at7{a:Ap}(c:Aj a)(b:Ia a=true):eF a.x.2/\a.tk<=40/\uM a.x.2:=by
 unfold Ia at b;simp only[aO]at b;refine⟨ahY c.rows b.2.1,by simpa using b.2.2.1,λr d=>?_⟩;have h:=b.2.2.2;simp only[yx,aeI]at h;have e:((dN r.1).length:Int)<=100:=by simpa[AP]using h r d
 omega
def Ii(f:Fa):Bool:=decide (f.cu<=0)&&(decide (f.tY=0) ||decide (f.at_<0))
def avs(f:Fa)(h:Ii f=true):Om f:=by unfold Ii at h;simpa[Om]using h
def ajW(a c x y:Int):Prop:=1<=a/\a<=c/\c<=3/\1<=x/\x<=y/\y<=3
def awY{xs:Q1}{k:List Sn}{b:Int}(f:Lead xs k b)(a:ou xs):uM (jT k).2:=by
 unfold jT;cases c:k.getLast? with
 |none=>intro r d;simp[zS]at d
 |some l=>exact a l (f.map l (zF c))
def aj1{xs:Q1}{k:List Sn}{b:Int}(f:Lead xs k b)(d:ou xs){v:Sn}{e:Int}(g:eF v.2)(a:uM v.2):uM (CJ v e k).2:=by
 unfold CJ;split
 ·exact a
 ·next c=>exact an5 (Classical.not_not.1 c) (abI f.kp).good g (awY f d) a
def alf{xs:Q1}{v:Sn}{e:Int}(b:ou xs)(c:uM v.2):ou (A8 v e xs):=by
 unfold A8;split;rotate_left
 ·exact b
 intro s a;rw[vH]at a;split at a
 ·injection a with a
  rw[<-TI a];exact c
 ·exact b s a
def amc:ou []:=λs h=>by simp[gZ]at h
def aA6{V:Int}{ok:Bool}{xs a:Q1}{x:Pr}(h:PI V ok xs a x):gG (jJ x)/\dG (jJ x)<=dG x+12/\Fix x (jJ x):=by obtain⟨b,g2,g3⟩:=D6 (e:=0) h.o;obtain⟨c,f,g⟩:=D6 (e:=1) b;obtain⟨d,i,j⟩:=step_ok (n:=1) aV c;exact⟨d,by unfold jJ;omega,((IG 0 x).trans (IG 1 _)).trans (Yy 1 _)⟩
def aAH{x:Pr}(h:S9 x=true):Qt x:=by
 unfold S9 at h;simp only[aO,decide_eq_true_eq]at h;obtain⟨c,d,g,i⟩:=h;have e:∀k:Lk,k.h=[]->k.f.length=0->∃n,k=qy [] n:=λk a b=>⟨k.n,by
  match k,a,b with
  |⟨f,h,n⟩,a,b=>have a:h=[]:=a;have b:f=[]:=Qa.1 b;rw[a,b];rfl⟩
 exact⟨rfl,rfl,e _ c d,e _ g i⟩
def ag8(x:Pr)(b:gG x):TT.lim 67 (cO x)=some [.zq 0,.zu x.s0.h.1,.l (x.s0.h.2.map row),.l (x.s0.k.map sn)]:=by have a:=Yg x.s0 b.s0;simp only[cO,dW,dA,bD,aX]at a⊢;refine aB ?_;simp -implicitDefEqProofs[a]
def ag9(x:Pr)(b:gG x):TT.lim 77 (cO x)=some [.zq 0,.zu x.s1.h.1,.l (x.s1.h.2.map row),.l (x.s1.k.map sn)]:=by have a:=Yg x.s1 b.s1;simp only[cO,dW,dA,bD,aX]at a⊢;refine aB ?_;simp -implicitDefEqProofs[a]
set_option maxHeartbeats 4000000 in
def QZ{V:Int}{ok:Bool}{xs r:Q1}{x:Pr}(h:PI V ok xs r x)(w:0<=V/\V<=1000){w0 w1:Int}(h0:w0<=x.s0.h.1)(h1:w1<=x.s1.h.1):
 TT.lim 78 ([.zu V,.b ok,.zu w0,.zu w1,.l r,.l xs]++cO x)=some [.zq 0,.b true,.zu x.s0.h.1,.zu x.s1.h.1]:=by
 have l:IntKind.i64.wrap V=V:=wrap64 ah ah;have b:=ag8 x h.o;have c:=ag9 x h.o;have g0:=Yh x.s0 h.o.s0;have d:=Yh x.s1 h.o.s1;have v:=h.i.s.p2;have u:=h.i.s.q2;have f:x.s0.sm=true->gZ (.zu x.s0.h.1) r=some (.g [.zu x.s0.h.1,.l (x.s0.h.2.map row)]):=λe=>by
  rcases h.i.b.has with⟨-,q,-⟩|⟨q,-⟩
  ·exact q
  ·rw[e]at q;cases q
 have a:x.s1.sm=true->gZ (.zu x.s1.h.1) xs=some (.g [.zu x.s1.h.1,.l (x.s1.h.2.map row)]):=λe=>by
  rcases h.i.a.has with⟨-,q,-⟩|⟨q,-⟩
  ·exact q
  ·rw[e]at q;cases q
 have m:=Yc x.s0.h h.i.b.tb.good;have n:=Yc x.s1.h h.i.a.tb.good;have g:¬x.s0.h.1<w0:=ah;have i:¬x.s1.h.1<w1:=ah;simp only[cO,dW,dA,bD,aX]at b c g0 d⊢;generalize x.s0.sm=s,x.s1.sm=o at *;by_cases j:x.s0.st=2
 ·obtain⟨rfl,t,k⟩:=v j;obtain⟨-,p⟩:=u k;rw[j,t,k,p]at b c;rw[j,t]at g0;rw[k,p]at d;rw[j,t,k,p];cases s with
  |false=>
   cases o with
   |false=>refine aB ?_;simp -implicitDefEqProofs[b,c,g0,d,g,i,l]
   |true=>have a:=a rfl;refine aB ?_;simp -implicitDefEqProofs[b,c,g0,d,g,i,l,a,n]
  |true=>
   have f:=f rfl;cases o with
   |false=>refine aB ?_;simp -implicitDefEqProofs[b,c,g0,d,g,i,l,f,m]
   |true=>have a:=a rfl;refine aB ?_;simp -implicitDefEqProofs[b,c,g0,d,g,i,l,f,m,a,n]
 by_cases k:x.s1.st=2
 ·obtain⟨rfl,p⟩:=u k;rw[k,p]at b c d;rw[k,p];cases s with
  |false=>
   cases o with
   |false=>refine aB ?_;simp -implicitDefEqProofs[b,c,g0,d,g,i,l,j]
   |true=>have a:=a rfl;refine aB ?_;simp -implicitDefEqProofs[b,c,g0,d,g,i,l,j,a,n]
  |true=>
   have f:=f rfl;cases o with
   |false=>refine aB ?_;simp -implicitDefEqProofs[b,c,g0,d,g,i,l,j,f,m]
   |true=>have a:=a rfl;refine aB ?_;simp -implicitDefEqProofs[b,c,g0,d,g,i,l,j,f,m,a,n]
 cases s with
 |false=>
  cases o with
  |false=>refine aB ?_;simp -implicitDefEqProofs[b,c,g0,d,g,i,j,k]
  |true=>have a:=a rfl;refine aB ?_;simp -implicitDefEqProofs[b,c,g0,d,g,i,j,k,a,n]
 |true=>
  have f:=f rfl;cases o with
  |false=>refine aB ?_;simp -implicitDefEqProofs[b,c,g0,d,g,i,j,k,f,m]
  |true=>have a:=a rfl;refine aB ?_;simp -implicitDefEqProofs[b,c,g0,d,g,i,j,k,f,m,a,n]
def mF(a:Ap)(x:Pr):Sn:=if a.en=0 then CJ a.x a.ep x.s0.k else CJ a.x a.ep x.s1.k
noncomputable def yT (a:Ap) (x:Pr):Pr:=if a.kY.tmod 8=0\/a.kY.tmod 8=1\/a.kY.tmod 8=2 then kR a.en (mF a x) x else if a.kY.tmod 8=3\/a.kY.tmod 8=4 then iw a.en x else zi a.tk x
def O1(a:Ap)(x:Pr)(xs:Q1):Q1:=if(a.kY.tmod 8=0\/a.kY.tmod 8=1\/a.kY.tmod 8=2)/\a.en=0 then A8 (mF a x) (AY a.en (mF a x) x) xs else xs
def O3(a:Ap)(x:Pr)(b:Q1):Q1:=if(a.kY.tmod 8=0\/a.kY.tmod 8=1\/a.kY.tmod 8=2)/\a.en=1 then A8 (mF a x) (AY a.en (mF a x) x) b else b
def ada{a:Ap}{x:Pr}(b:Aj a)(c:eF a.x.2)(d:gG x):eF (mF a x).2/\0<=(mF a x).1/\(mF a x).1<18446744073709551616:=by
 unfold mF;split
 ·exact aj0 d.s0.kp c b.v
 ·exact aj0 d.s1.kp c b.v
def akZ{V:Int}{ok:Bool}{xs b:Q1}{x:Pr}(h:PI V ok xs b x){a:Ap}(d:Aj a)(e:eF a.x.2):PI V ok (O1 a x xs) (O3 a x b) (yT a x)/\PL x (yT a x):=by
 obtain⟨f,g⟩:=ada d e h.o;unfold O1 O3 yT;by_cases c:a.kY.tmod 8=0\/a.kY.tmod 8=1\/a.kY.tmod 8=2
 ·simp only[c,true_and,if_true];exact az4 h f g
 simp only[c,false_and,if_false];split
 ·exact SS h _
 ·exact adL h _
def azT{a:Ap}{x:Pr}(f:Aj a)(g:eF a.x.2)(c:gG x):gG (yT a x)/\dG (yT a x)<=dG x+6/\(yT a x).now<=x.now+255:=by
 obtain⟨h,i⟩:=ada f g c;have d:=f.tk;unfold yT;split
 ·obtain⟨b,g2,g3⟩:=ak6 (e:=a.en) c h i;exact⟨b,ah,ah⟩
 split
 ·obtain⟨b,g2,g3⟩:=D6 (e:=a.en) c;exact⟨b,g2,ah⟩
 ·obtain⟨b,g2,g3⟩:=step_ok d.1 c;exact⟨b,ah,ah⟩
def azR(a:Ap)(x:Pr):Fix x (yT a x):=by
 unfold yT;split
 ·exact ak3 _ _ _
 split
 ·exact IG _ _
 ·exact Yy _ _
def azU{V:Int}{ok:Bool}{xs b:Q1}{x:Pr}(h:PI V ok xs b x){a:Ap}(c:eF a.x.2)(d:uM a.x.2)(r:ou xs/\ou b):ou (O1 a x xs)/\ou (O3 a x b):=by
 have e:uM (mF a x).2:=by
  unfold mF;split
  ·exact aj1 h.i.a.lead r.1 c d
  ·exact aj1 h.i.b.lead r.2 c d
 unfold O1 O3;constructor
 ·split
  ·exact alf r.1 e
  ·exact r.1
 ·split
  ·exact alf r.2 e
  ·exact r.2
def CQ(t b a:GV)(n i V w0 w1:Int)(c xs:Q1)(ok:Bool)(x:Pr):Q1:=[t,b,a,.zq n,.zq i,.zu V,.zu w0,.zu w1,.l c,.l xs,.b ok]++cO x
set_option maxHeartbeats 8000000 in
def azV{V:Int}{ok:Bool}{xs Q:Q1}{x:Pr}(h:PI V ok xs Q x)(R:0<=V/\V<=1000){w0 w1:Int}(h0:w0<=x.s0.h.1)(h1:w1<=x.s1.h.1)(a:Ap)(O:Aj a)(P:eF a.x.2)(t b:GV)(S:Q1)(n i j:Int)(f:at2 6 (some (.l S)) (some (.zq i))=some (kM a))(c:i<n)(o:IntKind.i64.wrap (i+1)=j)(jw:x.now<=600000)(hg:dG x<=60000):
 ∃u0 u1,u0<=(yT a x).s0.h.1/\u1<=(yT a x).s1.h.1/\∀p,TT.lim 34 (CQ t b (.l S) n j V u0 u1 (O3 a x Q) (O1 a x xs) ok (yT a x))=some p->TT.lim 34 (CQ t b (.l S) n i V w0 w1 Q xs ok x)=some p:=by
 have hd:=O.kY;obtain⟨A,M⟩:=akZ h O P;have D:=M.h0;have E:=M.h1;obtain⟨v1,v2⟩:=ada O P h.o;unfold O1 O3 yT at *;by_cases w:a.kY.tmod 8=0\/a.kY.tmod 8=1\/a.kY.tmod 8=2
 ·simp only[w,true_and,if_true]at A M D E⊢;by_cases z:a.en=0\/a.en=1;rotate_left
  ·have c0:¬a.en=0:=λe=>z (.inl e);have c1:¬a.en=1:=λe=>z (.inr e);have ep:kR a.en (mF a x) x=x:=by unfold kR;rw[aj c0,aj c1]
   rw[ep,aj c0,aj c1];refine⟨w0,w1,h0,h1,λp g=>?_⟩;simp only[CQ,cO,dW,dA,bD,aX]at g⊢;by_cases y:a.en<0
   ·rcases w with d|d|d
    ·refine aB ?_;simp -implicitDefEqProofs[-dJ,c,f,o,d,y,g]
    ·refine aB ?_;simp -implicitDefEqProofs[-dJ,c,f,o,d,y,g]
    ·refine aB ?_;simp -implicitDefEqProofs[-dJ,c,f,o,d,y,g]
   ·have F:1<a.en:=ah;rcases w with d|d|d
    ·refine aB ?_;simp -implicitDefEqProofs[-dJ,c,f,o,d,y,F,g]
    ·refine aB ?_;simp -implicitDefEqProofs[-dJ,c,f,o,d,y,F,g]
    ·refine aB ?_;simp -implicitDefEqProofs[-dJ,c,f,o,d,y,F,g]
  have y:¬a.en<0:=ah;have F:¬1<a.en:=ah;have k:=QZ A R (xu h0 D) (xu h1 E);have m:=ay6 a.en (mF a x) x v1 h.o;obtain⟨T,U,W,X,Y,z6,z7,z8,z9,G,H,I,J,Ug⟩:=az5 a.en (mF a x) x;have l:=ak3 a.en (mF a x) x;refine⟨_,_,gq _,gq _,λp g=>?_⟩;have hn:∃s:bC,TT.lim 35 (JX (.zq a.en) (cO x))=some (JY s)/\TT.lim 43 ([.i .u8 a.kY,.zq a.en,.zu a.x.1,.l (a.x.2.map row),.zu a.ep,.i .u8 a.tk]++dA s)=some [.zq 0,.zu (mF a x).1,.l ((mF a x).2.map row)]:=by
   unfold mF;rcases z with e|e
   ·refine⟨x.s0,?_,?_⟩
    ·rw[e];exact ag6 x h.o
    ·rw[au e];exact afr a x.s0 h.o.s0 P
   ·refine⟨x.s1,?_,?_⟩
    ·rw[e];exact ag7 x h.o
    ·rw[bU];exact afr a x.s1 h.o.s1 P
  obtain⟨s,r,u⟩:=hn;have hX:AY a.en (mF a x) x=0->∀L,A8 (mF a x) (AY a.en (mF a x) x) L=kH (.zu (mF a x).1) (.g [.zu (mF a x).1,.l ((mF a x).2.map row)]) L:=λe L=>by unfold A8;rw[au e];rfl
  have hY:¬AY a.en (mF a x) x=0->∀L,A8 (mF a x) (AY a.en (mF a x) x) L=L:=λe L=>by unfold A8;rw[aj e]
  generalize AY a.en (mF a x) x=er at *;generalize mF a x=v at *;generalize kR a.en v x=Z at *;simp only[CQ,JX,JY,cO,dW,dA,bD,aX]at k m r u g⊢;rw[T,U,W,X,Y,z6,z7,z8,z9,G,H,I,J,Ug,l.a.1,l.a.2.1,l.a.2.2.1,l.a.2.2.2,l.b.1,l.b.2.1,l.b.2.2.1,l.b.2.2.2]at k g;by_cases q:er=0
  ·rw[hX q,hX q]at k g;rcases z with e|e
   ·rw[e]at k g m r u;simp only[if_true,if_false,reduceCtorEq,Int.zero_ne_one,(by decide:¬(0:Int)=1)]at k g;rcases w with d|d|d
    ·refine aB ?_;simp -implicitDefEqProofs[-dJ,c,f,o,d,e,q,r,u,m,k,g]
    ·refine aB ?_;simp -implicitDefEqProofs[-dJ,c,f,o,d,e,q,r,u,m,k,g]
    ·refine aB ?_;simp -implicitDefEqProofs[-dJ,c,f,o,d,e,q,r,u,m,k,g]
   ·rw[e]at k g m r u;simp only[if_true,if_false,reduceCtorEq,(by decide:¬(1:Int)=0)]at k g;rcases w with d|d|d
    ·refine aB ?_;simp -implicitDefEqProofs[-dJ,c,f,o,d,e,q,r,u,m,k,g]
    ·refine aB ?_;simp -implicitDefEqProofs[-dJ,c,f,o,d,e,q,r,u,m,k,g]
    ·refine aB ?_;simp -implicitDefEqProofs[-dJ,c,f,o,d,e,q,r,u,m,k,g]
  ·rw[hY q,hY q,ite_self,ite_self]at k g;rcases w with d|d|d
   ·refine aB ?_;simp -implicitDefEqProofs[-dJ,c,f,o,d,y,F,q,r,u,m,k,g]
   ·refine aB ?_;simp -implicitDefEqProofs[-dJ,c,f,o,d,y,F,q,r,u,m,k,g]
   ·refine aB ?_;simp -implicitDefEqProofs[-dJ,c,f,o,d,y,F,q,r,u,m,k,g]
 simp only[w,false_and,if_false]at A M D E⊢;have d0:¬a.kY.tmod 8=0:=λe=>w (.inl e);have d1:¬a.kY.tmod 8=1:=λe=>w (.inr (.inl e));have d2:¬a.kY.tmod 8=2:=λe=>w (.inr (.inr e));by_cases JQ:a.kY.tmod 8=3\/a.kY.tmod 8=4
 ·simp only[JQ,if_true]at A M D E⊢;have k:=QZ A R (xu h0 D) (xu h1 E);have m:=acA a.en x h.o ah ah;obtain⟨T,U,W,X,Y,z6,z7,z8,z9,G,H,I,J,Ug⟩:=ac5 a.en x;have l:=IG a.en x;refine⟨_,_,gq _,gq _,λp g=>?_⟩;generalize iw a.en x=Z at *;simp only[CQ,cO,dW,dA,bD,aX]at k m g⊢;rw[T,U,W,X,Y,z6,z7,z8,z9,G,H,I,J,Ug,l.a.1,l.a.2.1,l.a.2.2.1,l.a.2.2.2,l.b.1,l.b.2.1,l.b.2.2.1,l.b.2.2.2]at k g;rcases JQ with d|d
  ·refine aB ?_;simp -implicitDefEqProofs[-dJ,c,f,o,d,m,k,g]
  ·refine aB ?_;simp -implicitDefEqProofs[-dJ,c,f,o,d,m,k,g]
 ·simp only[JQ,if_false]at A M D E⊢;have d3:¬a.kY.tmod 8=3:=λe=>JQ (.inl e);have d4:¬a.kY.tmod 8=4:=λe=>JQ (.inr e);have N:=O.tk;have k:=QZ A R (xu h0 D) (xu h1 E);have m:=amk a.tk x N.1 ah h.o ah ah;obtain⟨-,-,h3⟩:=step_ok (n:=a.tk) N.1 h.o;have wt:=jV (a.tk);have l:=Yy a.tk x;refine⟨_,_,gq _,gq _,λp g=>?_⟩;rw[<-h3]at m;generalize zi a.tk x=Z at *;simp only[CQ,cO,gU,kU,dW,dA,bD,aX]at k m g⊢;rw[l.a.1,l.a.2.1,l.a.2.2.1,l.a.2.2.2,l.b.1,l.b.2.1,l.b.2.2.1,l.b.2.2.2]at k g;refine aB ?_;simp -implicitDefEqProofs[-dJ,c,f,o,d0,d1,d2,d3,d4,wt,m,k,g]
set_option maxHeartbeats 4000000 in
def akY{V:Int}{ok:Bool}(z:0<=V/\V<=1000)(t b:GV)(d:List Ap)(l:d.length<=30)(A:∀a∈d,Aj a/\Ia a=true):∀(m i:Nat)(x:Pr)(xs j:Q1)(w0 w1:Int),i+m=d.length->PI V ok xs j x->ou xs/\ou j->w0<=x.s0.h.1->w1<=x.s1.h.1->x.now<=1000*i->dG x<=1440+6*i->
 ∃y e f o p,PI V ok e f y/\(ou e/\ou f)/\o<=y.s0.h.1/\p<=y.s1.h.1/\Fix x y/\y.now<=30000/\dG y<=1620/\TT.lim 34 (CQ t b (.l (d.map kM)) d.length i V w0 w1 j xs ok x)=some ([.zq 1,.zu o,.zu p,.l f,.l e,.zu y.now]++gU y)
 |0,i,x,xs,j,w0,w1,hi,k,r,h0,h1,D,E=>by have c:¬((i:Int)<d.length):=ah;refine⟨x,xs,j,w0,w1,k,r,h0,h1,Fix.refl x,ah,ah,?_⟩;simp only[CQ,cO,gU,kU,dW,dA,bD,aX];refine aB ?_;simp -implicitDefEqProofs[c]
 |m+1,i,x,xs,j,w0,w1,hi,k,r,h0,h1,D,E=>by
  have n:i<d.length:=ah;have c:(i:Int)<d.length:=ah;have F:IntKind.i64.wrap ((i:Int)+1)=((i+1:Nat):Int):=by rw[wrap64 ah ah];omega
  have s:at2 6 (some (.l (d.map kM))) (some (.zq (i:Int)))=some (kM d[i]):=by rw[dJ,lV,zB,jy,bZ n];rfl
  obtain⟨g,G⟩:=A _ (iT n);generalize d[i]=a at *;obtain⟨q,H,u⟩:=at7 g G;obtain⟨o,p,I,J,h⟩:=azV k z h0 h1 a g q t b (d.map kM) d.length i _ s c F ah ah;obtain⟨o1,U,W⟩:=azT g q k.o;obtain⟨L,-⟩:=akZ k g q;obtain⟨y,e,f,v,w,M,N,O,P,Q,R,S,T⟩:=akY z t b d l A m (i+1) (yT a x) _ _ o p ah L (azU k q u r) I J ah ah;exact⟨y,e,f,v,w,M,N,O,P,(azR a x).trans Q,R,S,h _ T⟩
noncomputable def yu (n:Int) (x:Pr):Pr:=zi n (iw 1 (iw 0 x))
def aFK{V:Int}{ok:Bool}{xs a:Q1}{x:Pr}(h:PI V ok xs a x)(n:Int):PI V ok xs a (yu n x)/\PL x (yu n x):=by obtain⟨b,g2⟩:=SS h 0;obtain⟨c,d⟩:=SS b 1;obtain⟨e,f⟩:=adL c n;exact⟨e,(g2.trans d).trans f⟩
def aFJ{x:Pr}(h:gG x){n:Int}(a:0<=n):gG (yu n x)/\dG (yu n x)<=dG x+12/\(yu n x).now=x.now+n/\Fix x (yu n x):=by obtain⟨b,g2,g3⟩:=D6 (e:=0) h;obtain⟨c,f,g⟩:=D6 (e:=1) b;obtain⟨d,i,j⟩:=step_ok (n:=n) a c;exact⟨d,by unfold yu;omega,by unfold yu;omega,((IG 0 x).trans (IG 1 _)).trans (Yy n _)⟩
def am8(x:Pr)(h:gG x)(n:Int)(h0:0<=n)(h1:n<=1000)(jw:x.now<=600000)(hg:dG x<=60000):
 ∃M q r s t u v w y N q1 z A D E F G H:GV,TT.lim 81 (.zq 0::cO x)=some [.zq 0,M,q,r,s,t,u,v,w,y]/\
  TT.lim 81 [.zq 1,.zu x.now,.l (x.rc.map zU),q,r,s,t,u,v,.zu x.s1.mn,.zu x.s1.mx,.s x.s1.name,.b x.s1.first,w,.zq x.s1.ver,.zq x.s1.vs,.b x.s1.sm,.zu x.s1.h.1,.l (x.s1.h.2.map row),.l (x.s1.k.map sn),.zu x.s1.b,.zu x.s0.mn,.zu x.s0.mx,.s x.s0.name,.b x.s0.first,y,.zq x.s0.ver,.zq x.s0.vs,.b x.s0.sm,.zu x.s0.h.1,.l (x.s0.h.2.map row),.l (x.s0.k.map sn),.zu x.s0.b]=some [.zq 0,N,q1,z,A,D,E,F,G,H]/\
  TT.lim 167 [.zu n,.zu x.now,.l (x.rc.map zU),q1,z,A,D,E,F,.zu x.s1.mn,.zu x.s1.mx,.s x.s1.name,.b x.s1.first,G,.zq x.s1.ver,.zq x.s1.vs,.b x.s1.sm,.zu x.s1.h.1,.l (x.s1.h.2.map row),.l (x.s1.k.map sn),.zu x.s1.b,.zu x.s0.mn,.zu x.s0.mx,.s x.s0.name,.b x.s0.first,H,.zq x.s0.ver,.zq x.s0.vs,.b x.s0.sm,.zu x.s0.h.1,.l (x.s0.h.2.map row),.l (x.s0.k.map sn),.zu x.s0.b]=some (.zq 0::.zu (yu n x).now::gU (yu n x)):=by
 have I:=acA 0 x h ah ah;obtain⟨J,g2,g3⟩:=D6 (e:=0) h;have d:=acA 1 (iw 0 x) J ah ah;obtain⟨L,k2,k3⟩:=D6 (e:=1) J;have c:=amk n (iw 1 (iw 0 x)) h0 ah L ah ah;obtain⟨-,-,O⟩:=step_ok (n:=n) h0 L;rw[<-O,show zi n (iw 1 (iw 0 x))=yu n x from rfl]at c;obtain⟨P,Q,S,T,U,V,X,Y,z9,f,g,i,j,Ug⟩:=ac5 0 x;obtain⟨y1,y2,y3,y4,y5,y6,y7,y8,y9,k,l,m,o,p⟩:=ac5 1 (iw 0 x);have a:=IG 0 x;have b:=IG 1 (iw 0 x);generalize yu n x=R,iw 1 (iw 0 x)=W at *;generalize iw 0 x=Z at *;simp only[cO,gU,kU,dW,dA,bD,aX]at I d c⊢;rw[y1,y2,y3,y4,y5,y6,y7,y8,y9,k,l,m,o,p,b.a.1,b.a.2.1,b.a.2.2.1,b.a.2.2.2,b.b.1,b.b.2.1,b.b.2.2.1,b.b.2.2.2]at c;rw[P,Q,S,T,U,V,X,Y,z9,f,g,i,j,Ug,a.a.1,a.a.2.1,a.a.2.2.1,a.a.2.2.2,a.b.1,a.b.2.1,a.b.2.2.1,a.b.2.2.2]at d c;exact⟨_,_,_,_,_,_,_,_,_,_,_,_,_,_,_,_,_,_,I,d,c⟩
set_option maxHeartbeats 4000000 in
def ak1{V:Int}{ok:Bool}{xs g:Q1}(j:0<=V/\V<=1000)(n:Nat)(q:n<=100):∀(m i:Nat)(x:Pr)(w0 w1:Int),i+m=n->PI V ok xs g x->w0<=x.s0.h.1->w1<=x.s1.h.1->x.now<=30000+260*i->dG x<=1620+12*i->
 ∃y d e,PI V ok xs g y/\d<=y.s0.h.1/\e<=y.s1.h.1/\Fix x y/\y.now<=30000+260*n/\dG y<=1620+12*n/\TT.lim 232 ([.zq n,.zq i,.zu V,.zu w0,.zu w1,.l g,.l xs,.b ok]++cO x)=some ([.zq 1,.zu d,.zu e,.zu y.now]++gU y)
 |0,i,x,w0,w1,hi,b,h0,h1,r,s=>by have c:¬((i:Int)<(n:Int)):=ah;refine⟨x,w0,w1,b,h0,h1,Fix.refl x,ah,ah,?_⟩;simp only[cO,gU,kU,dW,dA,bD,aX];refine aB ?_;simp -implicitDefEqProofs[c]
 |m+1,i,x,w0,w1,hi,b,h0,h1,r,s=>by
  have c:(i:Int)<(n:Int):=ah;have t:IntKind.i64.wrap ((i:Int)+1)=((i+1:Nat):Int):=by rw[wrap64 ah ah];omega
  have w:=b.o.now;obtain⟨H,I,J,L,M,N,O,P,Q,S,T,U,W,X,Y,Z,q7,q8,k,l,o⟩:=am8 x b.o 260 aV aV ah ah;obtain⟨p,g2⟩:=aFK b 260;obtain⟨k1,k2,k3,a⟩:=aFJ b.o (n:=260) aV;have u:=g2.h0;have v:=g2.h1;have h:=QZ p j (xu h0 u) (xu h1 v);obtain⟨y,d,e,z,A,D,E,F,G,f⟩:=ak1 j n q m (i+1) (yu 260 x) _ _ ah p (gq _) (gq _) ah ah;refine⟨y,d,e,z,A,D,a.trans E,F,G,?_⟩;rw[<-t]at f;generalize yu 260 x=R,gU y=OY at *;simp only[cO,gU,kU,dW,dA,bD,aX]at k l o h f⊢;rw[a.a.1,a.a.2.1,a.a.2.2.1,a.a.2.2.2,a.b.1,a.b.2.1,a.b.2.2.1,a.b.2.2.2]at h f;refine aB ?_;simp -implicitDefEqProofs[c,k,l,o,h,f]
set_option maxHeartbeats 4000000 in
def ak0{V:Int}{ok:Bool}{xs s:Q1}(d e f g h j:GV):∀(m:Nat)(i:Int)(x:Pr),i+m=6->0<=i->PI V ok xs s x->Qt x->x.now<=70000+i->dG x<=4000+12*i->
 Fix x (lW m x)/\dG (lW m x)<=5000/\TT.lim 234 ([.zq i,d,e,f,g,h,j]++cO x)=some (.zq 0::.zu (lW m x).now::gU (lW m x))
 |0,i,x,hi,h0,b,n,t,u=>by
  have c:¬i<6:=ah;refine⟨Fix.refl x,by show dG x<=5000;omega,?_⟩;show TT.lim 234 ([.zq i,d,e,f,g,h,j]++cO x)=some (.zq 0::.zu x.now::gU x)
  simp only[cO,gU,kU,dW,dA,bD,aX];refine aB ?_;simp -implicitDefEqProofs[c]
 |m+1,i,x,hi,h0,b,n,t,u=>by
  have c:i<6:=ah;have v:IntKind.i64.wrap (i+1)=i+1:=wrap64 ah ah;obtain⟨o1,A,a⟩:=aA6 b;obtain⟨o,-⟩:=Tj b;obtain⟨p,-,-,w⟩:=SY b n;obtain⟨y,z,k⟩:=ak0 d e f g h j m (i+1) (jJ x) ah ah o p ah ah;refine⟨a.trans y,z,?_⟩;show TT.lim 234 ([.zq i,d,e,f,g,h,j]++cO x)=some (.zq 0::.zu (lW m (jJ x)).now::gU (lW m (jJ x)))
  generalize lW m (jJ x)=Y at *;obtain⟨D,o,E,F,G,H,I,J,L,M,p,N,O,w,P,Q,S,T,q,r,l⟩:=am8 x b.o 1 aV aV ah ah;rw[show yu 1 x=jJ x from rfl]at l;generalize jJ x=R,gU Y=U at *;simp only[cO,gU,kU,dW,dA,bD,aX]at q r l k⊢;rw[a.a.1,a.a.2.1,a.a.2.2.1,a.a.2.2.2,a.b.1,a.b.2.1,a.b.2.2.1,a.b.2.2.2]at k;refine aB ?_;simp -implicitDefEqProofs[c,v,q,r,l,k]
def agQ{xs:Q1}{r o:bC}(f:jc xs [] [] o.k o.b r.sm r.h)(d:Dn o.k o.b):r.sm=o.k.getLast?.isSome/\r.h=jT o.k:=by
 unfold jT;cases b:o.k.getLast? with
 |none=>
  rcases f.has with⟨-,a,-⟩|⟨c,a⟩
  ·obtain⟨l,q,-⟩:=f.keys _ _ a;rw[b]at q;cases q
  ·exact⟨c,a⟩
 |some l=>obtain⟨a,e⟩:=agP f d l b;exact⟨a,e⟩
def azS{V:Int}{ok:Bool}{xs A:Q1}{x:Pr}(h:PI V ok xs A x)(d:Both (λk b _ _=>Dn k b) x)(e f g i j l:GV):
 TT.lim 235 ([.zq 0,e,f,g,i,j,l]++cO x)=some [.zq 1]:=by
 have m:=ag6 x h.o;have n:=ag7 x h.o;have g0:=Yh x.s0 h.o.s0;have o:=Yh x.s1 h.o.s1;have a:=adz x.s0 h.o.s0;have c:=adz x.s1 h.o.s1;obtain⟨D,E⟩:=agQ h.i.b d.2;obtain⟨F,G⟩:=agQ h.i.a d.1;have p:=Yc x.s0.h h.i.b.tb.good;have q:=Yc x.s1.h h.i.a.tb.good;rw[<-D,<-E]at c;rw[<-F,<-G]at a;have w1:IntKind.i64.wrap (0+1)=1:=rfl;have r:IntKind.i64.wrap (1+1)=2:=rfl;have s:IntKind.i64.wrap (1-0)=1:=rfl;have t:IntKind.i64.wrap (1-1)=0:=rfl;have u:IntKind.i64.wrap 1=1:=rfl;have v:IntKind.i64.wrap 2=2:=rfl;have w:IntKind.i64.wrap 0=0:=rfl;simp only[JX,JY,cO,dW,dA,bD,aX]at m n g0 o a c⊢;have y:TT.lim 235 ([.zq 2,e,f,g,i,j,l]++cO x)=some [.zq 1]:=by simp only[cO,dW,dA,bD,aX];refine aB ?_;simp
 have z:TT.lim 235 ([.zq 1,e,f,g,i,j,l]++cO x)=some [.zq 1]:=by simp only[cO,dW,dA,bD,aX]at y⊢;refine aB ?_;simp -implicitDefEqProofs[m,n,g0,o,a,c,p,q,w1,r,s,t,u,v,w,y]
 simp only[cO,dW,dA,bD,aX]at z;refine aB ?_;simp -implicitDefEqProofs[m,n,g0,o,a,c,p,q,w1,r,s,t,u,v,w,z]
def akX(l:List Fa)(p:l.length<=9000000000000000):∀(m i:Nat),i+m=l.length->
 ((l.drop i).all Ii=true/\TT.lim 26 [.l (l.map bf),.zq (l.length:Int),.zq (i:Int)]=some [.zq 1])\/
 ((l.drop i).all Ii=false/\∃j:Nat,TT.lim 26 [.l (l.map bf),.zq (l.length:Int),.zq (i:Int)]=some [.zq 0,.zq (j:Int)])
 |0,i,hi=>by have c:¬((i:Int)<l.length):=ah;rw[iK];refine .inl ⟨rfl,?_⟩;refine aB ?_;simp -implicitDefEqProofs[c]
 |m+1,i,hi=>by
  have n:i<l.length:=ah;have c:(i:Int)<l.length:=ah;have q:IntKind.i64.wrap ((i:Int)+1)=((i+1:Nat):Int):=by rw[wrap64 ah ah];omega
  have a:at2 6 (some (.l (l.map bf))) (some (.zq (i:Int)))=some (bf l[i]):=by rw[dJ,lV,zB,jy,bZ n];rfl
  have r:l.drop i=l[i]::l.drop (i+1):=iR n;have o:=akX l p m (i+1) ah;rw[r,uG];generalize l[i]=f at *;rw[<-q]at o;generalize(l.drop (i+1)).all Ii=R,l.map bf=s,(l.length:Int)=t at *;unfold Ii;by_cases d:f.cu<=0;rotate_left
  ·refine .inr ⟨by simp[d],i,?_⟩;refine aB ?_;simp -implicitDefEqProofs[-dJ,c,a,d]
  by_cases e:f.tY=0
  ·have b:((f.tY:Int)=0)=True:=eq_true ah;rcases o with⟨g,h⟩|⟨g,j,h⟩
   ·refine .inl ⟨by simp[d,e,g],?_⟩;refine aB ?_;simp -implicitDefEqProofs[-dJ,c,a,d,e,b,h]
   ·refine .inr ⟨by simp[d,e,g],j,?_⟩;refine aB ?_;simp -implicitDefEqProofs[-dJ,c,a,d,e,b,h]
  have b:¬((f.tY:Int)=0):=ah;by_cases k:f.at_<0
  ·rcases o with⟨g,h⟩|⟨g,j,h⟩
   ·refine .inl ⟨by simp[d,k,g],?_⟩;refine aB ?_;simp -implicitDefEqProofs[-dJ,c,a,d,e,b,k,h]
   ·refine .inr ⟨by simp[d,k,g],j,?_⟩;refine aB ?_;simp -implicitDefEqProofs[-dJ,c,a,d,e,b,k,h]
  ·refine .inr ⟨by simp[d,e,k],i,?_⟩;refine aB ?_;simp -implicitDefEqProofs[-dJ,c,a,d,e,b,k]
def azQ(l:List Fa)(f:l.length<=9000000000000000):TT.lim 24 [.l (l.map bf)]=some [.b (!l.all Ii)]:=by
 have d:((l.map bf).length:Int)=(l.length:Int):=by rw[gB]
 have h:=akX l f l.length 0 ah;rw[dY,tJ]at h;generalize l.map bf=e,(l.length:Int)=i at *;rcases h with⟨a,b⟩|⟨a,j,b⟩
 ·rw[a];have c:TT.lim 25 [.l e]=some [.zq (-1)]:=by refine aW ?_;simp -implicitDefEqProofs[d,b]
  refine aW ?_;simp -implicitDefEqProofs[c]
 ·rw[a];have c:TT.lim 25 [.l e]=some [.zq (j:Int)]:=by refine aW ?_;simp -implicitDefEqProofs[d,b]
  have g:(0:Int)<=(j:Int):=ah;refine aW ?_;simp -implicitDefEqProofs[c,g]
set_option maxHeartbeats 8000000 in
def azW(a c x y:Int)(th bk:List Fa)(b:List Ap)(lt:th.length<=2000000000000)(lb:bk.length<=2000000000000)(la:b.length<=4000000000000)(ho:∀u∈b,Aj u)
 (fo:∀f∈th++bk,f.d<256/\f.tY<256/\f.cu<=9223372036854775807/\f.at_<=9223372036854775807):
 TT.lim 2 [.g [.zu a,.zu c],.g [.zu x,.zu y],.l (th.map bf),.l (bk.map bf),.l (b.map kM)]=some [.b true]:=by
 have d:=at1 th bk b lt lb la ho;have h:=agx th bk lt lb;have o:=Hr [102,105,114,115,116] 0 256 aA;have Q:=Hr [111,116,104,101,114] 0 256 aA;rw[aFr]at o;rw[aFs]at Q;have v:((b.map kM).length:Int)=(b.length:Int):=by rw[gB]
 have w:((th.map bf).length:Int)=(th.length:Int):=by rw[gB]
 have z:((bk.map bf).length:Int)=(bk.length:Int):=by rw[gB]
 have e:=azQ (th++bk) (by rw[eH];omega);cases I:V5 th bk b with
 |false=>rw[I]at d;generalize th.map bf=J,bk.map bf=L,b.map kM=M at *;refine aW ?_;simp -implicitDefEqProofs[d]
 |true=>
 rw[I]at d;cases hH:(th++bk).all Ii with
 |false=>rw[hH]at e;generalize(th++bk).map bf=S,th.map bf=J,bk.map bf=L,b.map kM=M at *;refine aW ?_;simp -implicitDefEqProofs[d,h,e]
 |true=>
 rw[hH]at e;by_cases hN:ajW a c x y;rotate_left
 ·generalize(th++bk).map bf=S at *;generalize th.map bf=J,bk.map bf=L,b.map kM=M at *;unfold ajW at hN;by_cases i:a<1
  ·refine aW ?_;simp -implicitDefEqProofs[d,h,e,i]
  by_cases l:c<a
  ·refine aW ?_;simp -implicitDefEqProofs[d,h,e,i,l]
  by_cases m:255<c
  ·refine aW ?_;simp -implicitDefEqProofs[d,h,e,i,l,m]
  by_cases n:3<c
  ·refine aW ?_;simp -implicitDefEqProofs[d,h,e,i,l,m,n]
  by_cases p:x<1
  ·refine aW ?_;simp -implicitDefEqProofs[d,h,e,i,l,m,n,o,p]
  by_cases A:y<x
  ·refine aW ?_;simp -implicitDefEqProofs[d,h,e,i,l,m,n,o,p,A]
  by_cases H:255<y
  ·refine aW ?_;simp -implicitDefEqProofs[d,h,e,i,l,m,n,o,p,A,H]
  ·have N:3<y:=ah;refine aW ?_;simp -implicitDefEqProofs[d,h,e,i,l,m,n,o,p,A,H,N]
 obtain⟨n1,n2,n3,n4,n5,n6⟩:=hN;unfold V5 at I;simp only[aO,List.all_eq_true,decide_eq_true_eq]at I;obtain⟨f1,f2,f3,f4,f5⟩:=I;have O:∀f∈th++bk,Gx f/\Om f:=λf e=>by obtain⟨q1,q2,q3,q4⟩:=fo f e;have:=f1 f e;unfold NZ at this;exact⟨⟨by have:=DX this;omega,q1,q2,q3,q4⟩,avs f (List.all_eq_true.1 hH f e)⟩
 have cT:=agi th ah;have cB:=agi bk ah;obtain⟨p1,p2⟩:=ays (a:=a) (c:=c) (x:=x) (y:=y) (th:=th) (bk:=bk) n1 n2 n3 n4 n5 n6 (λf e=>O f (Zm _ e)) (λf e=>O f (aeU _ e)) ah ah;have T:0<=(jK a c x y).1/\(jK a c x y).1<=1000:=by
  have ht:0≤CX c y/\CX c y≤1000:=by
   unfold CX;split<;>omega
  unfold jK;split
  ·exact⟨gq _,by decide⟩
  ·exact ht
 obtain⟨Y,xs,ys,w0,w1,u1,u2,u3,aa,u4,u5,u6,D⟩:=akY T (.l (th.map bf)) (.l (bk.map bf)) b ah (λu hu=>⟨ho u hu,f2 u hu⟩) b.length 0 (newP a c x y th bk) [] [] 0 0 ah p1 ⟨amc,amc⟩ (gq _) (gq _) (gq _) ah;have g:=agu a c x y;obtain⟨Z,v0,v1,U,t3,ab,t4,t5,t6,g2⟩:=ak1 T (th.length+bk.length+1) ah (th.length+bk.length+1) 0 Y w0 w1 ah u1 u3 aa ah ah;have ac:IntKind.i64.wrap (IntKind.i64.wrap ((th.length:Int)+(bk.length:Int))+1)=((th.length+bk.length+1:Nat):Int):=by rw[bH ((th.length:Int)+(bk.length:Int)),wrap64 ah ah];push_cast;rfl
 rw[<-ac]at g2;have E:=u4.trans t4;have g3:=aAG Z;have d1:Y.s0.mn=a/\Y.s0.mx=c/\Y.s0.name=[102,105,114,115,116]/\Y.s0.first=true:=u4.a;have d2:Y.s1.mn=x/\Y.s1.mx=y/\Y.s1.name=[111,116,104,101,114]/\Y.s1.first=false:=u4.b;have j:Z.s0.mn=a/\Z.s0.mx=c/\Z.s0.name=[102,105,114,115,116]/\Z.s0.first=true:=E.a;have k:Z.s1.mn=x/\Z.s1.mx=y/\Z.s1.name=[111,116,104,101,114]/\Z.s1.first=false:=E.b;have i:¬a<1:=ah;have l:¬c<a:=ah;have m:¬255<c:=ah;have n:¬3<c:=ah;have p:¬x<1:=ah;have A:¬y<x:=ah;have H:¬255<y:=ah;have N:¬3<y:=ah;generalize hC:jK a c x y=C at *;obtain⟨V,ok⟩:=C;simp only at T p1 u1 U D g2 g;cases hQ:S9 Z with
 |false=>rw[hQ]at g3;simp only[CQ,newP,newS,cO,gU,kU,dW,dA,zS,jH,bD,aX,tJ]at D g2 g3;rw[d1.1,d1.2.1,d1.2.2.1,d1.2.2.2,d2.1,d2.2.1,d2.2.2.1,d2.2.2.2]at g2;rw[j.1,j.2.1,j.2.2.1,j.2.2.2,k.1,k.2.1,k.2.2.1,k.2.2.2]at g3;generalize (th++bk).map bf=S,th.map bf=J,bk.map bf=L,b.map kM=M,(b.length:Int)=na at *;refine aW ?_;simp -implicitDefEqProofs(maxSteps:=1000000) [d,h,e,i,l,m,n,o,p,A,H,N,Q,cT,cB,v,w,z,g,D,g2,g3]
 |true=>
 rw[hQ]at g3;have q:=aAH hQ;obtain⟨x1,x2,F⟩:=ak0 (.zu V) (.zu v0) (.zu v1) (.l ys) (.l xs) (.b ok) 6 0 Z aV (gq _) U q ah ah;obtain⟨W,l1,k3,k4⟩:=acB 6 U q;obtain⟨X,s2⟩:=aDR U q u2.1 u2.2;have P:=E.trans x1;have l2:=l1.h0;have l3:=l1.h1;generalize lW 6 Z=R at *;have G:=QZ W T (xu t3 l2) (xu ab l3);have r:R.s0.mn=a/\R.s0.mx=c/\R.s0.name=[102,105,114,115,116]/\R.s0.first=true:=P.a;have s:R.s1.mn=x/\R.s1.mx=y/\R.s1.name=[111,116,104,101,114]/\R.s1.first=false:=P.b;cases ok with
 |false=>unfold Fin at X;rw[aj aA]at X;have t:=ag8 R W.o;have g7:=ag9 R W.o;simp only[CQ,newP,newS,cO,gU,kU,dW,dA,zS,jH,bD,aX,tJ]at D g2 g3 F G t g7;rw[d1.1,d1.2.1,d1.2.2.1,d1.2.2.2,d2.1,d2.2.1,d2.2.2.1,d2.2.2.2]at g2;rw[j.1,j.2.1,j.2.2.1,j.2.2.2,k.1,k.2.1,k.2.2.1,k.2.2.2]at g3 F;rw[r.1,r.2.1,r.2.2.1,r.2.2.2,s.1,s.2.1,s.2.2.1,s.2.2.2]at G t g7;rw[X.1,X.2]at F G t g7;generalize (th++bk).map bf=S,th.map bf=J,bk.map bf=L,b.map kM=M,(b.length:Int)=na at *;refine aW ?_;simp -implicitDefEqProofs(maxSteps:=1000000) [d,h,e,i,l,m,n,o,p,A,H,N,Q,cT,cB,v,w,z,g,D,g2,g3,F,G,t,g7]
 |true=>have t:=azS W (s2 rfl) (.zu V) (.b true) (.zu v0) (.zu v1) (.l ys) (.l xs);simp only[CQ,newP,newS,cO,gU,kU,dW,dA,zS,jH,bD,aX,tJ]at D g2 g3 F G t;rw[d1.1,d1.2.1,d1.2.2.1,d1.2.2.2,d2.1,d2.2.1,d2.2.2.1,d2.2.2.2]at g2;rw[j.1,j.2.1,j.2.2.1,j.2.2.2,k.1,k.2.1,k.2.2.1,k.2.2.2]at g3 F;rw[r.1,r.2.1,r.2.2.1,r.2.2.2,s.1,s.2.1,s.2.2.1,s.2.2.2]at G t;generalize (th++bk).map bf=S,th.map bf=J,bk.map bf=L,b.map kM=M,(b.length:Int)=na at *;refine aW ?_;simp -implicitDefEqProofs(maxSteps:=1000000) [d,h,e,i,l,m,n,o,p,A,H,N,Q,cT,cB,v,w,z,g,D,g2,g3,F,G,t]
def pairSafe(gs:Q1)(h:hasArgs [(true,[.int .u64,.int .u64]),(true,[.int .u64,.int .u64]),(false,[.list true VZ]),(false,[.list true VZ]),(false,[.list true ZN])] gs)(d:∀xs,GV.l xs∈gs->xs.length<=1048576):TT.lim 2 gs=some [.b true]:=by obtain⟨z,gs,rfl,b,h⟩:=aif h;obtain⟨A,gs,rfl,c,h⟩:=aif h;obtain⟨D,gs,rfl,k,h⟩:=aa5 h;obtain⟨E,gs,rfl,l,h⟩:=aa5 h;obtain⟨F,gs,rfl,m,h⟩:=aa5 h;obtain rfl:=avu h;obtain⟨n,r1,rfl,e,b⟩:=rE b;obtain⟨g2,r2,rfl,g,b⟩:=rE b;obtain rfl:=Oo b;obtain⟨o,rfl,-⟩:=Ko e;obtain⟨p,rfl,-⟩:=Ko g;obtain⟨n,r1,rfl,e,c⟩:=rE c;obtain⟨g2,r2,rfl,g,c⟩:=rE c;obtain rfl:=Oo c;obtain⟨q,rfl,-⟩:=Ko e;obtain⟨r,rfl,-⟩:=Ko g;obtain⟨i,s,rfl⟩:=ahq k;obtain⟨j,t,rfl⟩:=ahq l;obtain⟨a,u,rfl⟩:=an6 m;have v:=d (i.map bf) aA;have w:=d (j.map bf) aA;have x:=d (a.map kM) aA;rw[gB]at v w x;exact azW o p q r i j a ah ah ah u λf y=>(jP.1 y).elim (s f) (t f)
