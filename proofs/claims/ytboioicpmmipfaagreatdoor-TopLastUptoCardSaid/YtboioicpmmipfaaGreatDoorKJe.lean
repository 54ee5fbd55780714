/- What the trees compute: plain laws. -/
import Derived.Test.YtboioicpmmipfaaGreatDoorKJe9
set_option linter.all false
namespace Go.Proofs.YtboioicpmmipfaaGreatDoor
open Go Go.aP
set_option maxRecDepth 100000
namespace J
def aEL:aT 6 1=[]:=rfl
def au3{b:aQ}{v:Int}(d:b.kind=2\/b.kind=5\/b.kind=6\/b.kind=7\/b.kind=8)(h1:1<=v)(f:v<=3)(a:aT b.kind v≠[]):qQ b.kind<=v:=by
 rcases d with e|e|e|e|e<;>rw[e]at a⊢
 ·exact h1
 ·exact h1
 ·rcases aeP v 2 with c|c
  ·obtain rfl:v=1:=ah;exact absurd aEL a
  ·exact c
 ·exact h1
 ·exact h1
def Yb{b:aQ}{v:Int}{t:Q0}(d:xH b [])(j:b.kind=2\/b.kind=5\/b.kind=6\/b.kind=7\/b.kind=8)(h:t∈jw b v):jh t v=(b,[],0)/\1<=v/\v<=3:=by
 unfold jw at h;split at h;rotate_left
 ·cases h
 next e=>
 obtain rfl:=jX.1 h;unfold qO at e⊢;split at e;rotate_left
 ·next c=>exact absurd e c
 next c=>
 rw[au c];split at e
 ·exact absurd e aU
 next f=>
 rw[aj f];obtain⟨a,g,i,-,-⟩:=Hr c;obtain⟨k,l⟩:=aBH c;refine⟨?_,a,g⟩;simp only;unfold bytesV at f⊢;rw[atp (ajc i) a ah (au3 j a g i) (ZF d c) ah,aGM c (iG v),agY d c (Kz b.kind v).1 (aT b.kind v) _ (λs m=>m),k,l];simp only[ne_eq,not_true_eq_false,if_false];rw[aj (λx=>x c)]
def Cont(V:Int)(xs:Q1)(a:Bool)(h:Sn)(t:Q0):Prop:=∀m b,jh t V=(m,b,0)->((m.kind=5\/m.kind=6)->zC xs (m.kind,m.epoch,m.base,m.t))/\(m.kind=7->a=true/\m.epoch<=h.1)
def aat{V:Int}{xs:Q1}{b:Bool}{h:Sn}{t:Q0}{a:List Int}(d:rY a t)(f:∀k∈a,k≠5/\k≠6/\k≠7):Cont V xs b h t:=λm g e=>by have:=f _ (d V (by rw[e]));rw[e]at this;exact⟨λc=>absurd c (λc=>c.elim this.1 this.2.1),λc=>absurd c this.2.2⟩
def Cont.mono{V:Int}{xs b:Q1}{d a:Bool}{h f:Sn}{t:Q0}(c:Cont V xs d h t)(i:∀m,zC xs m->zC b m)(j:d=true->a=true)(l:h.1<=f.1):Cont V b a f t:=λm n e=>by obtain⟨o,g⟩:=c m n e;exact⟨λk=>i _ (o k),λk=>⟨j (g k).1,PV (g k).2 l⟩⟩
def iW.nil{xs:Q1}{told:List Tm}{back:List An}{k:List Sn}{b:Int}{c:Bool}{h:Sn}(f:iW xs told back k b c h):iW xs [] [] k b c h:=
 ⟨f.lead,f.keys,(λm d=>by cases d),(λa e=>by cases e),f.has,f.base,f.zero⟩
def aFQ{c v kd b d:Int}{t:List Row}{a:Bool}{h:Sn}(e:a=true):(iL c v kd b d t a h).2.2.1=true:=by
 unfold iL;repeat' split
 all_goals first|exact e|rfl
structure aeO(V:Int)(xo xr:Q1)(ko:List Sn)(bo:Int)(so:Bool)(ho:Sn)(r:bf)(q:bf×Wa×Int):Prop where
 a:iW xo [] [] ko bo q.1.sm q.1.h
 b:iW xr [] [] q.1.k q.1.b so ho
 h:r.h.1<=q.1.h.1
 m:r.sm=true->q.1.sm=true
 c:∀u∈q.2.1,Cont V xr q.1.sm q.1.h u
def aiI{V:Int}{t:Q0}{r:bf}(P:kF r)(L:r.st=2->r.ver=V){j l:Q1}{A:List Sn}{B:Int}{o:Bool}{p:Sn}(d:iW j [] [] A B r.sm r.h)(f:iW l [] [] r.k r.b o p)(c:Cont V j o p t):aeO V j l A B o p r (bZ t r):=by
 have still:∀e:Int,aeO V j l A B o p r (r,[],e):=λe=>⟨d,f,iG _,id,λu b=>by cases b⟩
 unfold bZ;by_cases y:(jh t (jf r)).2.2=0;rotate_left
 ·rw[aj y];exact still _
 rw[au y];have E:=VF t (jf r);have F:r.st=2->((jh t (jf r)).1.kind=5\/(jh t (jf r)).1.kind=6->zC j ((jh t (jf r)).1.kind,(jh t (jf r)).1.epoch,(jh t (jf r)).1.base,(jh t (jf r)).1.t))/\((jh t (jf r)).1.kind=7->o=true/\(jh t (jf r)).1.epoch<=p.1):=λg=>by
  have e:jf r=V:=by unfold jf;rw[au g];exact L g
  rw[e]at y⊢;exact c _ _ (Jr rfl (Jr rfl y))
 generalize jh t (jf r)=D at *;obtain⟨m,q,e⟩:=D;simp only at E F⊢;unfold uw;split
 ·obtain⟨M,N,Q,S,-⟩:=aiJ m r;refine⟨by rw[M,N];exact d,by rw[Q,S];exact f,by rw[N];exact iG _,λe=>by rw[M];exact e,λu b=>?_⟩;unfold mX at b;have T:∀v n w,u∈jw (qJ v n) w->Cont V l (mX m r).1.sm (mX m r).1.h u:=λv n w b=>aat (D9 b (by simp[qJ]) (by simp[qJ])).1 (λk s=>by rw[jX.1 s];simp[qJ]);have U:u∈jw rW 1->Cont V l (mX m r).1.sm (mX m r).1.h u:=λb=>aat (D9 b (by simp[rW]) (by simp[rW])).1 (λk s=>by rw[jX.1 s];simp[rW]);repeat' split at b
  all_goals first|(cases b;done)|exact T _ _ _ b|exact U b
 split
 ·unfold BR;repeat' split
  all_goals exact⟨d,f,iG _,id,λu b=>by cases b⟩
 split
 ·next G=>
  unfold l9;split;rotate_left
  ·exact still _
  next g=>
  have W:=(F g).1 G;obtain⟨z,i⟩:=ahV d W (fE m q r.vs) r.vs;obtain⟨-,O,-⟩:=S9 P.rc (fE m q r.vs) m.kind m.epoch m.base m.t E.t E.body.epoch;have s:=aed (fE m q r.vs) r.vs m.kind m.epoch m.base m.t r.sm r.h;have x:=@aFQ (fE m q r.vs) r.vs m.kind m.epoch m.base m.t r.sm r.h;simp only at z i⊢;generalize iL (fE m q r.vs) r.vs m.kind m.epoch m.base m.t r.sm r.h=R at *;obtain⟨a,e2,sm,h⟩:=R;simp only at z i O s x⊢;refine⟨z.nil,f,i,x,λu b=>?_⟩;split at b
  ·cases b
  next c0=>
  have X:xH (iF a) []:=Md O rfl CU.good (by simp[iF]) rfl rfl;obtain⟨d1,-,-⟩:=Yb X (ah:a.1=2\/a.1=5\/a.1=6\/a.1=7\/a.1=8) b;rw[L g]at d1;intro m' Y H;rw[d1]at H;injection H with Z H
  subst Z;have ek:(iF a).kind=a.1:=rfl;refine⟨λk=>?_,λk=>z.back a aA k⟩;rw[ek]at k;omega
 split
 ·next k7=>
  unfold qK;split;rotate_left
  ·exact still _
  next g=>
  have I:=(aaU f (a:=(7,m.epoch,0,0)) (λ_=>(F g).2 k7)).1;exact⟨d,I,iG _,id,λu b=>by cases b⟩
 split
 ·unfold noS;split
  ·have I:=(aaU f (a:=(8,0,0,0)) (λe=>by simp at e)).1;exact⟨d,I,iG _,id,λu b=>by cases b⟩
  split
  ·exact⟨d,f,iG _,id,λu b=>by cases b⟩
  ·exact still _
 ·exact still _
def alc{V:Int}{s:bf}(h:kF s)(i:s.st=2->s.ver=V){xs:Q1}{j:Bool}{l:Sn}(f:iW xs [] [] s.k s.b j l):∀u∈(fH s).1,Cont V xs s.sm s.h u:=by
 intro u a;unfold fH at a;split at a
 ·next n=>
  split at a;rotate_left
  ·cases a
  next c=>
  have d:=Oy (v:=s.vs) (k:=s.k) (b:=s.b) c;obtain⟨o,-⟩:=Ox (V:=s.vs) f.lead c;have g:(oZ (cZ s.vs s.k s.b).1).kind=(cZ s.vs s.k s.b).1.1:=rfl;obtain⟨d1,-,-⟩:=Yb (aee h.kp) (by rw[g];omega) a;rw[i n]at d1;intro m q e;rw[d1]at e;injection e with p e
  subst p;refine⟨λ_=>o,λk=>?_⟩;rw[g]at k;omega
 split at a
 ·split at a
  ·cases a
  ·exact aat (D9 a (by simp[um]) (by simp[um])).1 (λk d=>by rw[jX.1 d];simp[um])
 ·cases a
def VS(s:bf):Prop:=s.st=2->s.vs=s.ver
def aix{t:Q0}{s:bf}(h:VS s):VS (bZ t s).1:=by
 unfold bZ;split;rotate_left
 ·exact h
 unfold uw mX BR l9 qK noS;repeat' split
 all_goals first|exact h|exact λ_=>rfl|exact λe=>absurd e aA
def aAC{s:bf}(h:VS s):VS (jU s):=by
 intro e;refine h ?_;unfold jU fH at e;simp only at e;split at e
 ·next c=>exact c
 next c=>
 split at e
 ·split at e<;>simp at e
 ·exact e
def MG(k:Lk):Prop:=∀f∈k.f,∀u,lg f u=u
def aEt{now:Int}{t:Q0}{k:Lk}(i:zH k)(c:MG k):MG (nC now t k)/\∀y∈(nC now t k).h,y∈k.h\/(y.2.2=t/\now<=y.1):=by
 obtain⟨j,d,n⟩:=k;have a:=i.h;simp only at a;cases j with
 |nil=>exact⟨(λf h=>by cases h),λy b=>SS t 1 now d n a y b⟩
 |cons f r=>
  unfold nC;simp only;have e:∀g∈r,∀u,lg g u=u:=λg l=>c g (by simp[l]);split
  ·exact⟨e,λy b=>.inl b⟩
  ·refine⟨e,λy b=>?_⟩;rcases SS (lg f t) (f.c+1) (now+f.d) d n a y b with q|⟨q,m⟩
   ·exact .inl q
   ·exact .inr ⟨by rw[q];exact c f aA t,ah⟩
def Tn{now:Int}:∀(T:Wa){k:Lk},zH k->MG k->(∀t∈T,t.length<=65536)->MG (iU now T k)/\∀y∈(iU now T k).h,y∈k.h\/((∃t∈T,y.2.2=fA t)/\now<=y.1)
 |[],k,a,b,_=>⟨b,λy c=>.inl c⟩
 |t::r,k,a,b,f=>by
  obtain⟨h1,-,-⟩:=Yf (now:=now) a (Wj (f t aA));obtain⟨g,h⟩:=aEt (now:=now) (t:=fA t) a b;obtain⟨i,j⟩:=Tn (now:=now) r h1 g (λu d=>f u (by simp[d]));refine⟨i,λy c=>?_⟩;rcases j y c with q|⟨⟨u,d,q⟩,e⟩
  ·rcases h y q with q|⟨q,e⟩
   ·exact .inl q
   ·exact .inr ⟨⟨t,aA,q⟩,e⟩
  ·exact .inr ⟨⟨u,by simp[d],q⟩,e⟩
def W0(V:Int)(xs:Q1)(x:Pr)(f:Q0):Prop:=∃t,f=fA t/\Ez x.s0 t/\Cont V xs x.s0.sm x.s0.h t
def W1(V:Int)(a:Q1)(x:Pr)(f:Q0):Prop:=∃t,f=fA t/\Nc V x.s0 x.s1 t/\Cont V a x.s1.sm x.s1.h t
structure SI(V:Int)(ok:Bool)(xs ys:Q1)(x:Pr):Prop where
 s:pG V ok x.s0 x.s1
 a:iW xs [] [] x.s0.k x.s0.b x.s1.sm x.s1.h
 b:iW ys [] [] x.s1.k x.s1.b x.s0.sm x.s0.h
 v:VS x.s0/\VS x.s1
structure PI(V:Int)(ok:Bool)(xs ys:Q1)(x:Pr):Prop where
 i:SI V ok xs ys x
 f0:MG x.k0
 f1:MG x.k1
 t0:∀y∈x.k0.h,W0 V xs x y.2.2
 t1:∀y∈x.k1.h,W1 V ys x y.2.2
 o:gK x
 r:(∀e∈x.rc,0<=e.1/\e.1<=x.now)/\x.rc.Pairwise (λa b=>a.1<=b.1)
structure PL(x y:Pr):Prop where
 l:og x.s0 x.s1 y.s0 y.s1
 h0:x.s0.h.1<=y.s0.h.1
 m0:x.s0.sm=true->y.s0.sm=true
 h1:x.s1.h.1<=y.s1.h.1
 m1:x.s1.sm=true->y.s1.sm=true
def PL.self(x:Pr):PL x x:=⟨og.self _ _,iG _,id,iG _,id⟩
def PL.trans{x y z:Pr}(a:PL x y)(b:PL y z):PL x z:=⟨a.l.trans b.l,PV a.h0 b.h0,λe=>b.m0 (a.m0 e),PV a.h1 b.h1,λe=>b.m1 (a.m1 e)⟩
def PL.w0{V:Int}{xs:Q1}{x y:Pr}(p:PL x y){f:Q0}(w:W0 V xs x f):W0 V xs y f:=by obtain⟨t,e,h,c⟩:=w;exact⟨t,e,p.l.tp h,c.mono (λ_ h=>h) p.m0 p.h0⟩
def PL.w1{V:Int}{a:Q1}{x y:Pr}(p:PL x y){f:Q0}(w:W1 V a x f):W1 V a y f:=by obtain⟨t,e,h,c⟩:=w;exact⟨t,e,p.l.tq h,c.mono (λ_ h=>h) p.m1 p.h1⟩
def alB{now:Int}{c:List (Int×Int×Int)}(h:(∀e∈c,0<=e.1/\e.1<=now)/\c.Pairwise (λa b=>a.1<=b.1))(g:0<=now)(a b:Int):(∀e∈c++[(now,a,b)],0<=e.1/\e.1<=now)/\(c++[(now,a,b)]).Pairwise (λa b=>a.1<=b.1):=by
 constructor
 ·intro e d;rcases jQ.1 d with q|q
  ·exact h.1 e q
  ·rw[jX.1 q];exact⟨g,iG _⟩
 ·refine afb.2 ⟨h.2,List.pairwise_singleton _ _,λe d f i=>?_⟩;rw[jX.1 i];exact(h.1 e d).2
def XK{t:Q0}(h:t.length<=65536):((lM (fA t)).2.2=0/\¬(lM (fA t)).2.1<(fA t).length)/\(lM (fA t)).1=t:=by rw[akG h];exact⟨⟨rfl,Int.lt_irrefl _⟩,rfl⟩
def apO{V:Int}{ok:Bool}{xs k:Q1}{x:Pr}(h:PI V ok xs k x){f:Q0}(w:W0 V xs x f):PI V ok xs k (jT 1 f x)/\PL x (jT 1 f x):=by
 obtain⟨t,rfl,l,m⟩:=w;obtain⟨c,e⟩:=XK l.1;obtain⟨n,o,g3⟩:=alx h.i.s l;have a:=aiI h.i.s.oV (λe=>(h.i.s.q2 e).2) h.i.a h.i.b m;have d:=(VA (i:=1) (t:=fA t) h.o).1;have g:=Ig t x.s1;unfold jT at d⊢;rw[au c,e,aj aU]at d⊢;obtain⟨p,r⟩:=Tn (now:=x.now) (bZ t x.s1).2.1 h.o.k1 h.f1 (λu b=>(g u b).1);have pl:PL x {x with s1:=(bZ t x.s1).1,k1:=iU x.now (bZ t x.s1).2.1 x.k1,rc:=x.rc++[(x.now,1,(bZ t x.s1).2.2)]}:=⟨o,iG _,id,a.h,a.m⟩
 refine⟨⟨⟨n,a.a,a.b,h.i.v.1,aix h.i.v.2⟩,h.f0,p,λy j=>pl.w0 (h.t0 y j),λy j=>?_,d,alB h.r h.o.now _ _⟩,pl⟩;rcases r y j with q|⟨⟨u,b,q⟩,-⟩
 ·exact pl.w1 (h.t1 y q)
 ·exact⟨u,q,g3 u b,a.c u b⟩
def apN{V:Int}{ok:Bool}{xs d:Q1}{x:Pr}(h:PI V ok xs d x){f:Q0}(w:W1 V d x f):PI V ok xs d (jT 0 f x)/\PL x (jT 0 f x):=by
 obtain⟨t,rfl,l,m⟩:=w;obtain⟨c,e⟩:=XK l.1;obtain⟨n,o,g3⟩:=azO h.i.s l;have a:=aiI h.i.s.je (λe=>(h.i.s.p2 e).2.1) h.i.b h.i.a m;have g:=(VA (i:=0) (t:=fA t) h.o).1;have j:=Ig t x.s0;unfold jT at g⊢;rw[au c,e,au rfl]at g⊢;obtain⟨p,r⟩:=Tn (now:=x.now) (bZ t x.s0).2.1 h.o.k0 h.f0 (λu b=>(j u b).1);have pl:PL x {x with s0:=(bZ t x.s0).1,k0:=iU x.now (bZ t x.s0).2.1 x.k0,rc:=x.rc++[(x.now,0,(bZ t x.s0).2.2)]}:=⟨o,a.h,a.m,iG _,id⟩
 refine⟨⟨⟨n,a.b,a.a,aix h.i.v.1,h.i.v.2⟩,p,h.f1,λy k=>?_,λy k=>pl.w1 (h.t1 y k),g,alB h.r h.o.now _ _⟩,pl⟩;rcases r y k with q|⟨⟨u,b,q⟩,-⟩
 ·exact pl.w0 (h.t0 y q)
 ·exact⟨u,q,g3 u b,a.c u b⟩
def agG{V:Int}{ok:Bool}{xs a:Q1}:∀(T:Wa){x:Pr},PI V ok xs a x->(∀f∈T,W0 V xs x f)->PI V ok xs a (oC 1 T x)/\PL x (oC 1 T x)
 |[],x,h,_=>⟨h,PL.self x⟩
 |t::r,x,h,w=>by obtain⟨h1,b⟩:=apO h (w t aA);obtain⟨c,d⟩:=agG r h1 (λf e=>b.w0 (w f (by simp[e])));exact⟨c,b.trans d⟩
def agF{V:Int}{ok:Bool}{xs a:Q1}:∀(T:Wa){x:Pr},PI V ok xs a x->(∀f∈T,W1 V a x f)->PI V ok xs a (oC 0 T x)/\PL x (oC 0 T x)
 |[],x,h,_=>⟨h,PL.self x⟩
 |t::r,x,h,w=>by obtain⟨h1,b⟩:=apN h (w t aA);obtain⟨c,d⟩:=agF r h1 (λf e=>b.w1 (w f (by simp[e])));exact⟨c,b.trans d⟩
def av5{V:Int}{ok:Bool}{xs c:Q1}{x:Pr}(h:PI V ok xs c x):PI V ok xs c (nP x)/\PL x (nP x):=by
 obtain⟨-,d2,d3⟩:=VK x.now x.k0.h.length x.k0.h rfl h.o.k0.h;obtain⟨d,a⟩:=agG (x:=yQ x) (dM x.k0.h.length x.now x.k0.h).1 ⟨⟨h.i.s,h.i.a,h.i.b,h.i.v⟩,h.f0,h.f1,λy b=>h.t0 y (d2 y b),h.t1,⟨h.o.s0,h.o.s1,(NJ x.now h.o.k0).1,h.o.k1,h.o.now⟩,h.r⟩ (λf g=>by obtain⟨y,b,e⟩:=d3 f g;rw[<-e];exact h.t0 y b)
 exact⟨d,⟨a.l,a.h0,a.m0,a.h1,a.m1⟩⟩
def av7{V:Int}{ok:Bool}{xs c:Q1}{x:Pr}(h:PI V ok xs c x):PI V ok xs c (qR x)/\PL x (qR x):=by
 obtain⟨-,d2,d3⟩:=VK x.now x.k1.h.length x.k1.h rfl h.o.k1.h;obtain⟨d,a⟩:=agF (x:=xJ x) (dM x.k1.h.length x.now x.k1.h).1 ⟨⟨h.i.s,h.i.a,h.i.b,h.i.v⟩,h.f0,h.f1,h.t0,λy b=>h.t1 y (d2 y b),⟨h.o.s0,h.o.s1,h.o.k0,(NJ x.now h.o.k1).1,h.o.now⟩,h.r⟩ (λf g=>by obtain⟨y,b,e⟩:=d3 f g;rw[<-e];exact h.t1 y b)
 exact⟨d,⟨a.l,a.h0,a.m0,a.h1,a.m1⟩⟩
def ao3{V:Int}{ok:Bool}{xs a:Q1}{x:Pr}(h:PI V ok xs a x):PI V ok xs a (lG x)/\PL x (lG x):=by obtain⟨b,c⟩:=av5 h;obtain⟨d,e⟩:=av7 b;exact⟨d,c.trans e⟩
def alW{V:Int}{ok:Bool}{xs a:Q1}:∀(n:Nat){x:Pr},PI V ok xs a x->PI V ok xs a (oI n x)/\PL x (oI n x)
 |0,x,h=>⟨h,PL.self x⟩
 |n+1,x,h=>by
  unfold oI;split
  ·exact⟨h,PL.self x⟩
  ·split
   ·obtain⟨h1,b⟩:=ao3 h;obtain⟨c,d⟩:=alW n h1;exact⟨c,b.trans d⟩
   ·exact⟨h,PL.self x⟩
def ab9{V:Int}{ok:Bool}{xs a:Q1}{x:Pr}(h:PI V ok xs a x){n:Int}(b:x.now<=n):PI V ok xs a {x with now:=n}/\PL x {x with now:=n}:=
 ⟨⟨⟨h.i.s,h.i.a,h.i.b,h.i.v⟩,h.f0,h.f1,h.t0,h.t1,⟨h.o.s0,h.o.s1,h.o.k0,h.o.k1,PV h.o.now b⟩,⟨λe c=>⟨(h.r.1 e c).1,PV (h.r.1 e c).2 b⟩,h.r.2⟩⟩,⟨og.self _ _,iG _,id,iG _,id⟩⟩
def aow{V:Int}{ok:Bool}{xs b:Q1}{x:Pr}(h:PI V ok xs b x)(a:Int):PI V ok xs b (sG a x)/\PL x (sG a x):=by obtain⟨c,d⟩:=ab9 h (n:=if x.now+1<a then a else x.now+1) (by split<;>omega);obtain⟨e,f⟩:=alW (dL x+1) c;exact⟨e,d.trans f⟩
def aie{V:Int}{ok:Bool}{xs b:Q1}:∀(n:Nat)(last:Int){x:Pr},PI V ok xs b x->PI V ok xs b (ql n last x)/\PL x (ql n last x)
 |0,last,x,h=>⟨h,PL.self x⟩
 |n+1,last,x,h=>by
  unfold ql;split;rotate_left
  ·exact⟨h,PL.self x⟩
  next c=>
  split
  ·exact ab9 h ah
  ·split
   ·exact ab9 h ah
   ·next a _ _=>
    obtain⟨h1,d⟩:=aow h a;obtain⟨e,f⟩:=aie n last h1;exact⟨e,d.trans f⟩
def adW{V:Int}{ok:Bool}{xs a:Q1}{x:Pr}(h:PI V ok xs a x)(n:Int):PI V ok xs a (zl n x)/\PL x (zl n x):=aie _ _ h
def adf{V:Int}{ok:Bool}{xs l:Q1}{x:Pr}(h:PI V ok xs l x)(e:Int):PI V ok xs l (gI e x)/\PL x (gI e x):=by
 have a:=(IE (e:=e) h.o).1;unfold gI at a⊢;split
 ·next c=>
  rw[au c]at a;obtain⟨f,m,g3⟩:=akC h.i.s;have g:=alc h.i.s.je (λe=>(h.i.s.p2 e).2.1) h.i.a;obtain⟨i,j⟩:=Tn (now:=x.now) (fH x.s0).1 h.o.k0 h.f0 (IG x.s0);have pl:PL x {x with s0:=jU x.s0,k0:=iU x.now (fH x.s0).1 x.k0}:=⟨m,iG _,id,iG _,id⟩
  refine⟨⟨⟨f,h.i.a,h.i.b,aAC h.i.v.1,h.i.v.2⟩,i,h.f1,λy b=>?_,λy b=>pl.w1 (h.t1 y b),a,h.r⟩,pl⟩;rcases j y b with q|⟨⟨u,d,q⟩,-⟩
  ·exact pl.w0 (h.t0 y q)
  ·exact⟨u,q,g3 u d,g u d⟩
 next c=>
 rw[aj c]at a;split
 ·next n=>
  rw[au n]at a;obtain⟨f,g3⟩:=alz h.i.s;have g:=alc h.i.s.oV (λe=>(h.i.s.q2 e).2) h.i.b;obtain⟨i,j⟩:=Tn (now:=x.now) (fH x.s1).1 h.o.k1 h.f1 (IG x.s1);rw[f]at a⊢;have pl:PL x {x with s1:=x.s1,k1:=iU x.now (fH x.s1).1 x.k1}:=⟨og.self _ _,iG _,id,iG _,id⟩
  refine⟨⟨⟨h.i.s,h.i.a,h.i.b,h.i.v⟩,h.f0,i,λy b=>pl.w0 (h.t0 y b),λy b=>?_,a,h.r⟩,pl⟩;rcases j y b with q|⟨⟨u,d,q⟩,-⟩
  ·exact pl.w1 (h.t1 y q)
  ·exact⟨u,q,g3 u d,g u d⟩
 ·exact⟨h,PL.self x⟩
def IJ(v:Sn)(e:Int)(xs:Q1):Q1:=if e=0 then kV (.zu v.1) (sn v) xs else xs
def aik{xs:Q1}{k:List Sn}{b:Int}{a:Bool}{h:Sn}(f:iW xs [] [] k b a h){v:Sn}{m:Tm}(g:zC xs m):zC (IJ v (jV v k b).1 xs) m:=by
 unfold IJ;split;rotate_left
 ·exact g
 next c=>
 obtain⟨-,d⟩:=ali c;refine aii g λe i j=>?_;obtain⟨l,n,o⟩:=f.keys e i j;have:=d l n;omega
def aAO{V:Int}{ok:Bool}{xs f:Q1}{x:Pr}(h:PI V ok xs f x){e:Int}{v:Sn}(i:dX v.2)(h0:0<=v.1/\v.1<18446744073709551616):
 PI V ok (if e=0 then IJ v (Ls e v x) xs else xs) (if e=1 then IJ v (Ls e v x) f else f) (kM e v x)/\PL x (kM e v x):=by
 have a:=(alj (e:=e) h.o i h0).1;unfold kM Ls at *;by_cases c:e=0
 ·have d:¬e=1:=ah;rw[au c]at a⊢;rw[au c,aj d,au c];obtain⟨j,k⟩:=h.i.s.aj9 (p':=FP v x.s0) a.s0 rfl rfl rfl rfl rfl rfl;have pl:PL x {x with s0:=FP v x.s0}:=⟨k,iG _,id,iG _,id⟩
  refine⟨⟨⟨j,ahT h.i.a i h0,h.i.b,h.i.v⟩,h.f0,h.f1,λy b=>?_,λy b=>pl.w1 (h.t1 y b),a,h.r⟩,pl⟩;obtain⟨t,l,n,o⟩:=pl.w0 (h.t0 y b);exact⟨t,l,n,o.mono (λm g=>aik h.i.a g) id (iG _)⟩
 rw[aj c]at a⊢;rw[aj c];by_cases d:e=1
 ·rw[au d]at a⊢;rw[au d,aj c,au d];obtain⟨j,k⟩:=h.i.s.akb (q':=FP v x.s1) a.s1 rfl rfl rfl rfl rfl rfl;have pl:PL x {x with s1:=FP v x.s1}:=⟨k,iG _,id,iG _,id⟩
  refine⟨⟨⟨j,h.i.a,ahT h.i.b i h0,h.i.v⟩,h.f0,h.f1,λy b=>pl.w0 (h.t0 y b),λy b=>?_,a,h.r⟩,pl⟩;obtain⟨t,l,n,o⟩:=pl.w1 (h.t1 y b);exact⟨t,l,n,o.mono (λm g=>aik h.i.b g) id (iG _)⟩
 ·simp only[aj c,aj d]at a⊢;exact⟨h,PL.self x⟩
def uM(t:List Row):Prop:=∀r∈t,(dN r.1).length<=100
def ou(xs:Q1):Prop:=∀s:Sn,iC (.zu s.1) xs=some (sn s)->uM s.2
def alP:∀(t:List Row)(a:Q0),(∀r∈t,0<=r.2/\r.2<18446744073709551616)->uM t->(lZ a t).length<=140*t.length
 |[],a,_,_=>by simp[lZ]
 |r::t,a,h1,c=>by have d:=alP t (dN r.1) (λx b=>h1 x (by simp[b])) (λx b=>c x (by simp[b]));have k:=c r aA;have e:=acn a (dN r.1) ah;have f:=h1 r aA;have g:=nY (n:=r.2.toNat) ah;simp only[lZ,eP,iE];omega
def azP{t:List Row}(h:Tb t)(a:uM t):(AY t).1.length<=36000:=by
 unfold AY;split
 ·simp
 ·have c:=nY (n:=t.length) (by have:=h.ok.1;omega);have d:=alP t [] (λr b=>(h.rows.2 r b).2) a;have:=h.ok.1;simp only[qC,eP];omega
def iK:Option Pl->Bool
 |some .t=>true
 |_=>false
def JR:List dU->Nat
 |[]=>0
 |s::l=>(if iK (placeOf s.name)=true then 1 else 0)+JR l
def anr{b:aQ}{T:Nat}(d:∀p,(bC b p).2.length<=if iK (some p)=true then T else 0):∀c:List dU,wL (lU b c)<=40*c.length+T*JR c
 |[]=>by simp[lU,wL]
 |s::l=>by
  have j:=anr d l;have k:∀f,xU b s=some f->wF f<=40+T*(if iK (placeOf s.name)=true then 1 else 0):=by
   intro f a;unfold xU at a;cases e:placeOf s.name with
   |none=>rw[e]at a;cases a
   |some p=>
    rw[e]at a;simp only at a;split at a
    ·cases a
    ·injection a with a
     subst a;have:=d p;simp only[wL,wF];by_cases g:iK (some p)=true
     ·rw[au g]at this⊢;omega
     ·rw[aj g]at this⊢;omega
  have h:JR (s::l)=(if iK (placeOf s.name)=true then 1 else 0)+JR l:=rfl;rw[Fp,h,Nat.mul_add T];generalize T*(if iK (placeOf s.name)=true then 1 else 0)=Q,T*JR l=R at *;simp only[iE];cases i:xU b s with
  |none=>simp only[aZ];omega
  |some f=>have:=k f i;simp only[MR,wL];omega
def apJ{k v:Int}(a:k=5\/k=6\/k=7\/k=8)(h1:1<=v)(c:v<=3):JR (aT k v)<=1:=by have b:v=1\/v=2\/v=3:=ah;rcases a with rfl|rfl|rfl|rfl<;>rcases b with rfl|rfl|rfl<;>decide
def alZ{b:aQ}{v:Int}(f:xH b [])(g:b.kind=5\/b.kind=6\/b.kind=7\/b.kind=8)(d:fE b [] v=0)(h:∀p,(bC b p).2.length<=if iK (some p)=true then 36000 else 0):jw b v=[(qO b [] v).1]/\(qO b [] v).1.length<=65536:=by
 obtain⟨i,j,-,-,-⟩:=Hr d;have e:=ZF f d;obtain⟨k,-⟩:=RY (a:=lU b (aT b.kind v)) (b:=[]) (Qg d);have l:wL (wI b [] v)<=40*8+36000:=by unfold wI;rw[ant k,pY];have o:=anr h (aT b.kind v);have m:=apJ g i j;have q:=Fq b.kind v;have r:36000*JR (aT b.kind v)<=36000*1:=Ux _ m;omega
 have s:=JZ (dO (wI b [] v)+1) (wI b [] v) ah e.ok (QF (dO (wI b [] v)+1) (wI b [] v) ah e.ok 0 0 e.chk (iG 0)) ah;have t:=nY (n:=b.kind.toNat) ah;have c:¬65536<(bytesV b [] v).length:=by unfold bytesV;rw[eP];omega
 unfold jw qO;rw[au d,aj c];exact⟨aA,by simp only;omega⟩
def JW:∀(n s:List Row),∀r∈jC n s,∃x∈n,x.1=r.1
 |[],s,r,h=>by simp[jC]at h
 |x::n,[],r,h=>by
  unfold jC at h;split at h
  ·obtain⟨y,a,e⟩:=JW n [] r h;exact⟨y,by simp[a],e⟩
  ·rcases bH.1 h with h|h
   ·exact⟨x,aA,by rw[h]⟩
   ·obtain⟨y,a,e⟩:=JW n [] r h;exact⟨y,by simp[a],e⟩
 |x::n,l::b,r,h=>by
  unfold jC at h;split at h
  ·split at h
   ·obtain⟨y,a,e⟩:=JW n b r h;exact⟨y,by simp[a],e⟩
   ·rcases bH.1 h with h|h
    ·exact⟨x,aA,by rw[h]⟩
    ·obtain⟨y,a,e⟩:=JW n b r h;exact⟨y,by simp[a],e⟩
  ·split at h
   ·obtain⟨y,a,e⟩:=JW n (l::b) r h;exact⟨y,by simp[a],e⟩
   ·rcases bH.1 h with h|h
    ·exact⟨x,aA,by rw[h]⟩
    ·obtain⟨y,a,e⟩:=JW n (l::b) r h;exact⟨y,by simp[a],e⟩
def atv{n s:List Row}(h:uM n):uM (jC n s):=λr a=>by obtain⟨x,b,e⟩:=JW n s r a;rw[<-e];exact h x b
def aos{s:Sn}{d:Dl}(h0:(lS s d).2=0)(gs:dX s.2)(b:dX d.2.2)(h1:uM s.2)(h:uM d.2.2):uM (lS s d).1.2:=by
 obtain⟨o1,i,-,a,j⟩:=Np h0;have f:Tb s.2:=⟨o1,gs.rows,gs.few⟩
 have g:Tb d.2.2:=⟨(agt i).2,b.rows,b.few⟩
 rw[j];simp only;unfold tog at a⊢;split at a
 ·cases a
 next m k=>
 split at a
 ·cases a
 next c=>
 rw[aj c];obtain⟨-,-,l,-⟩:=RV s.2 d.2.2 f.rise g.rise f.pos g.pos k;intro r n;obtain⟨x,o,e⟩:=l r n;rw[<-e];exact o.elim (h1 x) (h x)
def aFU(m:Tm)(a:Tb m.2.2.2)(b:uM m.2.2.2)(p:Pl):(bC (oZ m) p).2.length<=if iK (some p)=true then 36000 else 0:=by
 have h:=azP a b;cases p<;>simp only[iK,bC]<;>first|(simp[oZ,jR];done)|skip
 show(if m.2.2.2=[]then[]else(AY m.2.2.2).1).length<=36000
 split
 ·simp
 ·exact h
def aom(a:An)(p:Pl):(bC (iF a) p).2.length<=if iK (some p)=true then 36000 else 0:=by cases p<;>simp[iK,bC,iF]
structure Way(V:Int)(p q:bf):Prop where
 p2:p.st=2
 q2:q.st=2
 pv:p.ver=V/\p.vs=V
 qv:q.ver=V/\q.vs=V
 op:kF p
 oq:kF q
 v1:1<=V
 v3:V<=3
def yt(q:bf)(r:Bool×Sn):bf:={q with sm:=r.1,h:=r.2}
def Ec(p:bf)(r:List Sn×Int):bf:={p with k:=r.1,b:=r.2}
def aFR{v kd a b:Int}{t:List Row}{c:Bool}{h:Sn}(d:kd=5\/kd=6):(iL 0 v kd a b t c h).1.1=7\/(iL 0 v kd a b t c h).1.1=8:=by
 unfold iL;rw[aj aA];rcases d with rfl|rfl
 ·rw[au rfl];split<;>simp
 ·rw[aj aU,au rfl];repeat' split
  all_goals simp
set_option maxHeartbeats 1000000 in
def anx{V:Int}{p q:bf}(w:Way V p q){xs:Q1}(f:iW xs [] [] p.k p.b q.sm q.h)(W:ou xs):
 ((fH p).1=[]/\(cZ V p.k p.b).2≠0)\/((cZ V p.k p.b).2=0/\∃t u,(fH p).1=[t]/\t.length<=65536/\(bZ t q).1=yt q (gW V p.k p.b q.sm q.h).2/\(bZ t q).2.1=[u]/\u.length<=65536/\∀p',p'.st=2->p'.ver=V->p'.k=p.k->p'.b=p.b->(bZ u p').1=Ec p' (gW V p.k p.b q.sm q.h).1/\(bZ u p').2.1=[]):=by
 have e:(fH p).1=if(cZ V p.k p.b).2=0 then jw (oZ (cZ V p.k p.b).1) V else[]:=by unfold fH;rw[au w.p2,w.pv.2,w.pv.1];split<;>rfl
 rw[e];by_cases d:(cZ V p.k p.b).2=0;rotate_left
 ·rw[aj d];exact .inl ⟨rfl,d⟩
 rw[au d];refine .inr ⟨d,?_⟩;obtain⟨x,l,y,e2,-,X,Y⟩:=Ox (V:=V) f.lead d;have z:=aaf w.v1 w.v3 x λe=>(X e).1;have h:=aee (v:=V) (b:=p.b) w.op.kp;have A:=f.lead.map l (yE y);have tl:=w.op.kp.tb l (yE y);have i:=W l A;have g:uM (cZ V p.k p.b).1.2.2.2/\Tb (cZ V p.k p.b).1.2.2.2:=by
  rcases x with⟨O,B,-,-,-⟩|⟨O,B,P,s,l2,m4,m5,m6,m7,m8,m9⟩
  ·exact⟨by rw[Y O];exact i,B⟩
  ·refine⟨?_,B⟩;unfold cZ;rw[y];simp only;have Z:∀s:Sn,uM (qh s l).1.2.2:=λs=>by
    unfold qh;repeat' split
    all_goals first|exact atv i|(intro r j;simp[zD]at j)
   split
   ·intro r j;simp at j
   split
   ·exact i
   ·split
    ·split
     ·exact i
     ·split
      ·intro r j;simp at j
      ·exact Z _
    ·exact i
 have hk:=Oy d;unfold gW;rw[au d,z];generalize(cZ V p.k p.b).1=M at *;obtain⟨Q,s2⟩:=alZ h (v:=V) (by have S:(oZ M).kind=M.1:=rfl;omega) z (aFU M g.2 g.1);have k:(qO (oZ M) [] V).1∈jw (oZ M) V:=by rw[Q];simp
 obtain⟨d1,-,-⟩:=Yb h (by have S:(oZ M).kind=M.1:=rfl;omega) k;rw[Q];generalize(qO (oZ M) [] V).1=t at *;have D:=S9 w.oq.rc 0 M.1 M.2.1 M.2.2.1 M.2.2.2 g.2.good (by rcases x with⟨-,-,P,-⟩|⟨-,-,P,-⟩<;>omega);have T:=@aFR V M.1 M.2.1 M.2.2.1 M.2.2.2 q.sm q.h hk;rw[w.qv.2]at D;have o:bZ t q=(yt q (iL 0 V M.1 M.2.1 M.2.2.1 M.2.2.2 q.sm q.h).2.2,jw (iF (iL 0 V M.1 M.2.1 M.2.2.1 M.2.2.2 q.sm q.h).1) V,(iL 0 V M.1 M.2.1 M.2.2.1 M.2.2.2 q.sm q.h).2.1):=by
  have E:jf q=V:=by unfold jf;rw[au w.q2];exact w.qv.1
  unfold bZ;rw[E,d1];simp only[if_true];have S:(oZ M).kind=M.1:=rfl;unfold uw;rw[bW,bW,lY];unfold l9;rw[au w.q2,show iL (fE (oZ M) [] q.vs) q.vs (oZ M).kind (oZ M).epoch (oZ M).base (oZ M).t q.sm q.h=iL 0 V M.1 M.2.1 M.2.2.1 M.2.2.2 q.sm q.h from by rw[w.qv.2,show fE (oZ M) [] V=0 from z];rfl,bW];refine Jr rfl (Jr ?_ rfl);show jw _ q.ver=_
  rw[w.qv.1]
 generalize iL 0 V M.1 M.2.1 M.2.2.1 M.2.2.2 q.sm q.h=R at *;obtain⟨a,c,r⟩:=R;simp only at D T o⊢;obtain⟨-,F,G⟩:=D;have H:fE (iF a) [] V=0:=by
  rcases G with q|⟨-,q⟩
  ·omega
  ·exact q
 have m:xH (iF a) []:=Md F rfl CU.good (by simp[iF]) rfl rfl;have aa:(iF a).kind=a.1:=rfl;obtain⟨U,s4⟩:=alZ m (v:=V) ah H (aom a);have I:(qO (iF a) [] V).1∈jw (iF a) V:=by rw[U];simp
 obtain⟨d2,-,-⟩:=Yb m ah I;rw[U]at o;generalize(qO (iF a) [] V).1=u at *;refine⟨t,u,rfl,s2,by rw[o],by rw[o],s4,λp' L hv n N=>?_⟩;have E:jf p'=V:=by unfold jf;rw[au L];exact hv
 unfold bZ;rw[E,d2];simp only[if_true];unfold uw;rw[bW,bW,bW];unfold GX Ec;rcases T with h7|h8
 ·rw[lY,au h7];unfold qK;rw[au L,n,N];exact⟨rfl,rfl⟩
 ·rw[bW,lY,bW,au h8];unfold noS;rw[au L,<-n];exact⟨rfl,rfl⟩
def BO(e:GV)(l:Q1):Q1:=e::l
def aaD(x:Pr)(b:gK x):TT.lim 300 (BO (.zq 0) (dw x))=some (Hz x.s0):=by have a:=amb x.s0 b.s0;simp only[BO,dw,Hz,dZ,dH,bG,aZ]at a⊢;refine aB ?_;simp -implicitDefEqProofs[a]
def aaE(x:Pr)(b:gK x):TT.lim 300 (BO (.zq 1) (dw x))=some (Hz x.s1):=by have a:=amb x.s1 b.s1;simp only[BO,dw,Hz,dZ,dH,bG,aZ]at a⊢;refine aB ?_;simp -implicitDefEqProofs[a]
def atN(e:Int)(x:Pr)(h0:¬e=0)(h1:¬e=1):TT.lim 300 (BO (.zq e) (dw x))=some [.zq 1]:=by simp only[BO,dw,dZ,dH,bG,aZ];refine aB ?_;simp -implicitDefEqProofs[h0,h1]
def amc(s:bf)(a:kF s):TT.lim 312 (dH s)=some [.zq 0,.zu s.h.1,.l (s.h.2.map row),.b s.sm]:=by have h:=awi (.zq s.vs) s.sm s.h a.rc.good a.rc.no;unfold dH;refine aB ?_;simp -implicitDefEqProofs[h]
def adH(s:bf)(a:kF s):TT.lim 202 (dH s)=some [.zq 0,.zu (iq s.k).1,.l ((iq s.k).2.map row),.b s.k.getLast?.isSome]:=by have h:=axG (.zq s.vs) (.zu s.b) s.k a.kp;unfold dH;refine aB ?_;simp -implicitDefEqProofs[h]
def YZ(r o:bf):Q1:=[.zu r.h.1,.l (r.h.2.map row),.zu (iq o.k).1,.l ((iq o.k).2.map row),.b r.sm,.b o.k.getLast?.isSome]
def aGI(x:Pr)(a:gK x):TT.lim 311 (dw x)=some (.zq 0::(YZ x.s0 x.s1++YZ x.s1 x.s0)):=by have b:=aaD x a;have c:=aaE x a;have d:=amc x.s0 a.s0;have e:=amc x.s1 a.s1;have f:=adH x.s0 a.s0;have g:=adH x.s1 a.s1;simp only[BO,dw,Hz,dZ,dH,YZ,bG,aZ]at b c d e f g⊢;generalize iq x.s0.k=h,iq x.s1.k=i at *;refine aB ?_;simp -implicitDefEqProofs[b,c,d,e,f,g]
def aEp(a b:Int)(s t:GV)(h:¬a=b):TT.lim 316 [.zu a,s,.zu b,t]=some [.zq 0,.b false]:=by have c:¬b=a:=λe=>h e.symm;refine aB ?_;simp -implicitDefEqProofs[h,c]
def xW(r o:bf):Bool:=if r.sm=true/\o.k.getLast?.isSome=true then decide (r.h.1=(iq o.k).1)else r.sm==o.k.getLast?.isSome
structure PZ(r o:bf):Prop where
 eq:r.h.1=(iq o.k).1->r.h=iq o.k
 tl:Tb (iq o.k).2
def axP{r o:bf}(h:PZ r o)(a:r.sm=true)(b:o.k.getLast?.isSome=true):TT.lim 316 [.zu (iq o.k).1,.l ((iq o.k).2.map row),.zu r.h.1,.l (r.h.2.map row)]=some [.zq 0,.b (xW r o)]:=by
 unfold xW;rw[au ⟨a,b⟩];by_cases c:r.h.1=(iq o.k).1
 ·rw[h.eq c];rw[EN rfl];exact aEk _ h.tl.good
 ·rw[Dx c];exact aEp _ _ _ _ (λe=>c e.symm)
def ajv{r o:bf}(h:PZ r o):(r.sm=false/\xW r o=(false==o.k.getLast?.isSome))\/(r.sm=true/\o.k.getLast?.isSome=false/\xW r o=false)\/(r.sm=true/\o.k.getLast?.isSome=true/\TT.lim 316 [.zu (iq o.k).1,.l ((iq o.k).2.map row),.zu r.h.1,.l (r.h.2.map row)]=some [.zq 0,.b (xW r o)]):=by
 cases a:r.sm with
 |false=>exact .inl ⟨rfl,by unfold xW;rw[a];simp⟩
 |true=>
  cases b:o.k.getLast?.isSome with
  |false=>exact .inr (.inl ⟨rfl,rfl,by unfold xW;rw[a,b];simp⟩)
  |true=>exact .inr (.inr ⟨rfl,rfl,axP h a b⟩)
def axQ(x:Pr)(c:gK x)(h0:PZ x.s0 x.s1)(h1:PZ x.s1 x.s0):TT.lim 310 (dw x)=some [.zq 0,.b (xW x.s0 x.s1),.b (xW x.s1 x.s0)]:=by
 have a:=aGI x c;have b:=ajv h0;have d1:=ajv h1;simp only[dw,YZ,dZ,dH,bG,aZ]at a⊢;generalize xW x.s0 x.s1=d,xW x.s1 x.s0=e,iq x.s0.k=f,iq x.s1.k=g,x.s0.k.getLast?.isSome=h,x.s1.k.getLast?.isSome=i,x.s0.sm=j,x.s1.sm=k at *;rcases b with⟨rfl,rfl⟩|⟨rfl,rfl,rfl⟩|⟨rfl,rfl,b⟩<;>rcases d1 with⟨rfl,rfl⟩|⟨rfl,rfl,rfl⟩|⟨rfl,rfl,d1⟩<;>refine aB ?_
 ·simp[a]
 ·simp[a]
 ·simp[a,d1]
 ·simp[a]
 ·simp[a]
 ·simp[a,d1]
 ·simp[a,b]
 ·simp[a,b]
 ·simp[a,b,d1]
def afE(a:Ap)(s:bf)(d:kF s)(h:dX a.x.2):
 TT.lim 201 ([.i .u8 a.kK,.zq a.en,.zu a.x.1,.l (a.x.2.map row),.zu a.ep,.i .u8 a.tk]++dH s)=some [.zq 0,.zu (xY a.x a.ep s.k).1,.l ((xY a.x a.ep s.k).2.map row)]:=by
 have c:=adH s d;have e:=afH (iq s.k) ((iq s.k).1,IntKind.u64.wrap ((iq s.k).1+a.ep),a.x.2) (Xi d.kp).good h;unfold xY;have f:GV.g [.zu (iq s.k).1,.l ((iq s.k).2.map row)]=sn (iq s.k):=rfl;have g:GV.g [.zu (iq s.k).1,.zu (IntKind.u64.wrap ((iq s.k).1+a.ep)),.l (a.x.2.map row)]=dl ((iq s.k).1,IntKind.u64.wrap ((iq s.k).1+a.ep),a.x.2):=rfl;generalize lS (iq s.k) ((iq s.k).1,IntKind.u64.wrap ((iq s.k).1+a.ep),a.x.2)=A at *;obtain⟨⟨j,k⟩,i⟩:=A;simp only[dH,bG,aZ]at c⊢;generalize iq s.k=L at *;by_cases b:i=0
 ·rw[aj (by simpa using b)];subst b;refine aB ?_;simp -implicitDefEqProofs[c,f,g,e]
 ·rw[au b];refine aB ?_;simp -implicitDefEqProofs[c,f,g,e,b]
def uN(a:Ap)(x:Pr):Sn:=if a.kK.tmod 8=0 then a.x else if a.en=0 then xY a.x a.ep x.s0.k else xY a.x a.ep x.s1.k
noncomputable def yM (a:Ap) (x:Pr):Pr:=if a.kK.tmod 8=0\/a.kK.tmod 8=1\/a.kK.tmod 8=2 then kM a.en (uN a x) x else if a.kK.tmod 8=3\/a.kK.tmod 8=4 then gI a.en x else if a.kK.tmod 8=5\/a.kK.tmod 8=6 then zl a.tk x else x
def BN(a:Ap):Q1:=[.i .u8 a.kK,.zq a.en,.zu a.x.1,.l (a.x.2.map row),.zu a.ep,.i .u8 a.tk]
def aAP(e:Int)(v:Sn)(x:Pr):(kM e v x).rc=x.rc/\(kM e v x).k0=x.k0/\(kM e v x).k1=x.k1/\(kM e v x).s0.st=x.s0.st/\(kM e v x).s0.ver=x.s0.ver/\(kM e v x).s0.vs=x.s0.vs/\(kM e v x).s0.sm=x.s0.sm/\(kM e v x).s0.h=x.s0.h/\(kM e v x).s1.st=x.s1.st/\(kM e v x).s1.ver=x.s1.ver/\(kM e v x).s1.vs=x.s1.vs/\(kM e v x).s1.sm=x.s1.sm/\(kM e v x).s1.h=x.s1.h/\(kM e v x).now=x.now:=by
 unfold kM FP;split
 ·simp
 split
 ·simp
 ·simp
def adg(e:Int)(x:Pr):(gI e x).rc=x.rc/\(gI e x).s0.ver=x.s0.ver/\(gI e x).s0.vs=x.s0.vs/\(gI e x).s0.sm=x.s0.sm/\(gI e x).s0.h=x.s0.h/\(gI e x).s0.k=x.s0.k/\(gI e x).s0.b=x.s0.b/\(gI e x).s1.ver=x.s1.ver/\(gI e x).s1.vs=x.s1.vs/\(gI e x).s1.sm=x.s1.sm/\(gI e x).s1.h=x.s1.h/\(gI e x).s1.k=x.s1.k/\(gI e x).s1.b=x.s1.b/\(gI e x).now=x.now:=by
 unfold gI jU;split
 ·simp
 split
 ·simp
 ·simp
def aaA (a:Ap) (v:Sn) (x:Pr) (i:dX v.2) (j:gK x) (k:∀g f h g3 g4:GV,TT.lim 298 ([.zq a.en,.zu v.1,.l (v.2.map row)]++dw x)=some [.zq 0,g,f,h,g3,g4]->
 TT.lim 297 (BN a++dw x)=some (.zq 0::.zu x.now::.l (x.rc.map AB)::(dZ x.k1++(dZ x.k0++[.zq x.s1.st,.zq x.s1.ver,.zq x.s1.vs,.b x.s1.sm,.zu x.s1.h.1,.l (x.s1.h.2.map row),f,h,.zq x.s0.st,.zq x.s0.ver,.zq x.s0.vs,.b x.s0.sm,.zu x.s0.h.1,.l (x.s0.h.2.map row),g3,g4])))):
 TT.lim 297 (BN a++dw x)=some (.zq 0::.zu (kM a.en v x).now::gG (kM a.en v x)):=by
 have l:=k _ _ _ _ _ (azQ a.en v x i j);obtain⟨m,n,o,p,q,r,s,t,u,b,c,d,e,w⟩:=aAP a.en v x;rw[l];unfold gG kD;rw[m,n,o,p,q,r,s,t,u,b,c,d,e,w];rfl
set_option maxHeartbeats 8000000 in
def atB(a:Ap)(x:Pr)(p:Ai a)(k:dX a.x.2)(b:gK x)(A:x.now<=700000000000)(B:dL x<=80000):
 TT.lim 297 (BN a++dw x)=some (.zq 0::.zu (yM a x).now::gG (yM a x)):=by
 have D:=p.kK;unfold yM;by_cases j:a.kK.tmod 8=0
 ·rw[au (.inl j)];have l:uN a x=a.x:=by unfold uN;rw[au j]
  rw[l];refine aaA a a.x x k b λg w y g3 g4 c=>?_;simp only[dw,BN,dZ,dH,bG,aZ]at c⊢;refine aB ?_;simp -implicitDefEqProofs[j,c]
 by_cases d12:a.kK.tmod 8=1\/a.kK.tmod 8=2
 ·rw[au (.inr d12)];by_cases m:a.en=0
  ·have l:uN a x=xY a.x a.ep x.s0.k:=by unfold uN;rw[aj j,au m]
   rw[l];have e:=afE a x.s0 b.s0 k;have d:=aaD x b;refine aaA a _ x (XA b.s0.kp k p.v).1 b λg w y g3 g4 c=>?_;generalize xY a.x a.ep x.s0.k=v at *;simp only[BO,dw,BN,Hz,dZ,dH,bG,aZ]at c e d⊢;rw[m]at c e⊢;rcases d12 with d1|d1
   ·refine aB ?_;simp -implicitDefEqProofs[d1,c,e,d]
   ·refine aB ?_;simp -implicitDefEqProofs[d1,c,e,d]
  by_cases q:a.en=1
  ·have l:uN a x=xY a.x a.ep x.s1.k:=by unfold uN;rw[aj j,aj m]
   rw[l];have e:=afE a x.s1 b.s1 k;have d:=aaE x b;refine aaA a _ x (XA b.s1.kp k p.v).1 b λg w y g3 g4 c=>?_;generalize xY a.x a.ep x.s1.k=v at *;simp only[BO,dw,BN,Hz,dZ,dH,bG,aZ]at c e d⊢;rw[q]at c e⊢;rcases d12 with d1|d1
   ·refine aB ?_;simp -implicitDefEqProofs[d1,c,e,d]
   ·refine aB ?_;simp -implicitDefEqProofs[d1,c,e,d]
  ·have E:kM a.en (uN a x) x=x:=by unfold kM;rw[aj m,aj q]
   rw[E];have d:=atN a.en x m q;simp only[BO,dw,BN,gG,kD,dZ,dH,bG,aZ]at d⊢;rcases d12 with d1|d1
   ·refine aB ?_;simp -implicitDefEqProofs[d1,d]
   ·refine aB ?_;simp -implicitDefEqProofs[d1,d]
 rw[aj (λh=>h.elim j d12)];by_cases i:a.kK.tmod 8=3\/a.kK.tmod 8=4
 ·rw[au i];have f:=SE a.en x b ah ah;obtain⟨F,G,H,I,L,M,N,O,P,r,s,t,u,Q⟩:=adg a.en x;generalize gI a.en x=Z at *;simp only[dw,BN,gG,kD,dZ,dH,bG,aZ]at f⊢;rw[F,G,H,I,L,M,N,O,P,r,s,t,u,Q];rcases i with d1|d1
  ·refine aB ?_;simp -implicitDefEqProofs[d1,f]
  ·refine aB ?_;simp -implicitDefEqProofs[d1,f]
 rw[aj i];by_cases QI:a.kK.tmod 8=5\/a.kK.tmod 8=6
 ·rw[au QI];have o:=p.tk;have f:=adX a.tk x o.1 ah b A B;obtain⟨-,-,R⟩:=step_ok (n:=a.tk) o.1 b;have z:=jW (a.tk);rw[<-R]at f;generalize zl a.tk x=Z at *;simp only[dw,BN,gG,kD,dZ,dH,bG,aZ]at f⊢;rcases QI with d1|d1
  ·refine aB ?_;simp -implicitDefEqProofs[d1,z,f]
  ·refine aB ?_;simp -implicitDefEqProofs[d1,z,f]
 ·rw[aj QI];have d7:a.kK.tmod 8=7:=by have:=Int.tmod_nonneg 8 D.1;have:=Int.tmod_lt_of_pos a.kK (show(0:Int)<8 by decide);omega
  simp only[dw,BN,gG,kD,dZ,dH,bG,aZ];refine aB ?_;simp -implicitDefEqProofs[d7]
def U0(a:Ap)(x:Pr)(xs:Q1):Q1:=if(a.kK.tmod 8=0\/a.kK.tmod 8=1\/a.kK.tmod 8=2)/\a.en=0 then IJ (uN a x) (Ls a.en (uN a x) x) xs else xs
def U1(a:Ap)(x:Pr)(b:Q1):Q1:=if(a.kK.tmod 8=0\/a.kK.tmod 8=1\/a.kK.tmod 8=2)/\a.en=1 then IJ (uN a x) (Ls a.en (uN a x) x) b else b
def afw{a:Ap}{x:Pr}(b:Ai a)(c:dX a.x.2)(d:gK x):dX (uN a x).2/\0<=(uN a x).1/\(uN a x).1<18446744073709551616:=by
 unfold uN;split
 ·exact⟨c,b.v⟩
 split
 ·exact XA d.s0.kp c b.v
 ·exact XA d.s1.kp c b.v
def an9{V:Int}{ok:Bool}{xs b:Q1}{x:Pr}(h:PI V ok xs b x){a:Ap}(d:Ai a)(e:dX a.x.2):PI V ok (U0 a x xs) (U1 a x b) (yM a x)/\PL x (yM a x):=by
 obtain⟨f,g⟩:=afw d e h.o;unfold U0 U1 yM;by_cases c:a.kK.tmod 8=0\/a.kK.tmod 8=1\/a.kK.tmod 8=2
 ·simp only[c,true_and,if_true];exact aAO h f g
 simp only[c,false_and,if_false];split
 ·exact adf h _
 split
 ·exact adW h _
 ·exact⟨h,PL.self x⟩
def an8{a:Ap}{x:Pr}(g:Ai a)(h:dX a.x.2)(b:gK x):gK (yM a x)/\dL (yM a x)<=dL x+6/\(yM a x).now<=x.now+255:=by
 obtain⟨i,j⟩:=afw g h b;have d:=g.tk;unfold yM;split
 ·obtain⟨c,f,g3⟩:=alj (e:=a.en) b i j;exact⟨c,ah,ah⟩
 split
 ·obtain⟨c,f,g3⟩:=IE (e:=a.en) b;exact⟨c,f,ah⟩
 split
 ·obtain⟨c,f,g3⟩:=step_ok d.1 b;exact⟨c,ah,ah⟩
 ·exact⟨b,ah,ah⟩
def aAL(e:Int)(v:Sn)(x:Pr):Fix x (kM e v x):=by
 unfold kM;split
 ·exact⟨⟨rfl,rfl,rfl,rfl⟩,rfl,rfl,rfl,rfl⟩
 split
 ·exact⟨⟨rfl,rfl,rfl,rfl⟩,rfl,rfl,rfl,rfl⟩
 ·exact Fix.refl x
def SK(e:Int)(x:Pr):Fix x (gI e x):=by
 unfold gI;split
 ·exact⟨⟨rfl,rfl,rfl,rfl⟩,rfl,rfl,rfl,rfl⟩
 split
 ·exact⟨⟨rfl,rfl,rfl,rfl⟩,rfl,rfl,rfl,rfl⟩
 ·exact Fix.refl x
def adV(n:Int)(x:Pr):Fix x (zl n x):=aib _ _ _
def an7(a:Ap)(x:Pr):Fix x (yM a x):=by
 unfold yM;split
 ·exact aAL _ _ _
 split
 ·exact SK _ _
 split
 ·exact adV _ _
 ·exact Fix.refl x
def ajM{xs:Q1}{r o:bf}(f:iW xs [] [] o.k o.b r.sm r.h):PZ r o:=by
 refine⟨λe=>?_,Xi f.lead.kp⟩;unfold iq at e⊢;cases b:o.k.getLast? with
 |none=>
  rcases f.has with⟨-,a,-⟩|⟨-,a⟩
  ·obtain⟨l,q,-⟩:=f.keys _ _ a;rw[b]at q;cases q
  ·exact a
 |some l=>
  rw[b]at e;rcases f.has with⟨c,-,-⟩|⟨-,a⟩
  ·exact(f.le_last b).2 c e
  ·have:=f.lead.kp.pos l (yE b);rw[a]at e;simp only[tX,zS]at e;omega
def Oe(f:Fa):Prop:=f.cu<=0/\(f.tZ=0\/f.at_<0)
def aEC(u:Q0)(k:Nat):u.set k (u.getD k 0)=u:=by
 apply Jh;intro i;rw[ae4];split
 ·next e=>
  subst e;split
  ·next h=>simp[List.getD,cO h]
  ·next h=>rw[xB ah]
 ·rfl
def aiz{f:Fa}(h:Oe f)(u:Q0):lg f u=u:=by
 obtain⟨b,a⟩:=h;have e:AA f u=u:=by unfold AA;rw[aj (λc=>ah)]
 unfold lg;rw[e];unfold LX;split
 ·rfl
 split
 ·rfl
 ·next c _=>
  rw[a.resolve_right c,anF];exact aEC _ _
def ay9{a c x y:Int}{th bk:List Fa}(h1:1<=a)(j:a<=c)(k:c<=3)(l:1<=x)(h5:x<=y)(h6:y<=3)(h:∀f∈th,Gw f/\Oe f)(i:∀f∈bk,Gw f/\Oe f)(lt:th.length<=30)(m:bk.length<=30):
 PI (kJ a c x y).1 (kJ a c x y).2 [] [] (newP a c x y th bk)/\dL (newP a c x y th bk)<=1440:=by
 obtain⟨d,n⟩:=ay8 h1 j k l h5 h6 (λf b=>(h f b).1) (λf b=>(i f b).1) lt m;refine⟨⟨⟨⟨d.s0,d.s1,rfl,rfl,rfl,rfl,rfl,.inl rfl,.inl rfl,(λe=>by cases e),(λe=>by cases e),λ_=>rfl,λ_=>rfl,(λe=>by cases e),(λe=>by cases e)⟩,ahU,ahU,(λe=>by cases e),(λe=>by cases e)⟩,λf b u=>aiz (h f b).2 u,λf b u=>aiz (i f b).2 u,(λy g=>by cases g),(λy g=>by cases g),d,(λe o=>by cases o),List.Pairwise.nil⟩,n⟩
def aAQ(y:It):rV [] y=[y]:=by unfold rV Af;rw[au (.inl rfl)];rfl
def aAS{y z:It}(h:y.1<z.1):rV [y] z=[y,z]:=by
 unfold rV Af;have e:lu (at_ ([y]++[z]) [y].length) (at_ ([y]++[z]) (par [y].length))=false:=by rw[show at_ ([y]++[z]) [y].length=z by simp[at_],show at_ ([y]++[z]) (par [y].length)=y by simp[at_,par]];unfold lu;rw[bW];exact Dx ah
 rw[au (.inr e)];rfl
def VL{y:It}{t:Int}(h:y.1<=t):dM 1 t [y]=([y.2.2],[]):=by unfold dM;rw[aj (λc=>c.elim (λc=>by cases c) (λc=>by have c:t<y.1:=c;omega))];rfl
def aBO(y z:It):nX [y,z]=[z]:=by unfold nX oD;rw[au (.inl aA)];rfl
def atM{y z:It}{t:Int}(h:y.1<=t)(a:z.1<=t):dM 2 t [y,z]=([y.2.2,z.2.2],[]):=by unfold dM;rw[aj (λc=>c.elim (λc=>by cases c) (λc=>by have c:t<y.1:=c;omega)),aBO,VL a];rfl
def ahl(t:Int):dM 0 t []=([],[]):=rfl
def pV(h:List It)(n:Int):Lk:=⟨[],h,n⟩
def Tq{now:Int}{T:Wa}(a:T.length<=1)(n:Int):∃b,iU now T (pV [] n)=pV (T.map λt=>(now,n,fA t)) b:=by
 match T,a with
 |[],_=>exact⟨n,rfl⟩
 |[t],_=>refine⟨n+1,?_⟩;simp only[iU,nC,pV,mZ,aAQ,jc,jJ]
def aEs{now:Int}{T:Wa}(a:T.length<=1){y:It}(b:y.1<now)(n:Int):∃c,iU now T (pV [y] n)=pV (y::T.map λt=>(now,n,fA t)) c:=by
 match T,a with
 |[],_=>exact⟨n,rfl⟩
 |[t],_=>refine⟨n+1,?_⟩;simp only[iU,nC,pV,mZ,jc,jJ];rw[aAS b]
def apP{t:Q0}(a:t.length<=65536)(x:Pr):jT 1 (fA t) x ={x with s1:=(bZ t x.s1).1,k1:=iU x.now (bZ t x.s1).2.1 x.k1,rc:=x.rc++[(x.now,1,(bZ t x.s1).2.2)]}:=by obtain⟨c,e⟩:=XK a;unfold jT;rw[au c,e,aj aU]
def Vz{t:Q0}(a:t.length<=65536)(x:Pr):jT 0 (fA t) x ={x with s0:=(bZ t x.s0).1,k0:=iU x.now (bZ t x.s0).2.1 x.k0,rc:=x.rc++[(x.now,0,(bZ t x.s0).2.2)]}:=by obtain⟨c,e⟩:=XK a;unfold jT;rw[au c,e,au rfl]
structure At(x:Pr)(p q:bf)(h0 h1:List It):Prop where
 s0:x.s0=p
 s1:x.s1=q
 k0:∃n,x.k0=pV h0 n
 k1:∃n,x.k1=pV h1 n
def tx(a n:Int)(T:Wa):List It:=T.map λt=>(a,n,fA t)
def hr1(T:Wa)(s:bf):bf×Wa:=match T with
 |[]=>(s,[])
 |t::_=>((bZ t s).1,(bZ t s).2.1)
def ain{x:Pr}{p q:bf}{T:Wa}{a n:Int}{h1:List It}(h:At x p q (tx a n T) h1)(k:T.length<=1)(l:∀t∈T,t.length<=65536)(o:a<=x.now)(r:h1=[]\/∃y,h1=[y]/\y.1<x.now):
 ∃m,At (nP x) p (hr1 T q).1 [] (h1++tx x.now m (hr1 T q).2):=by
 obtain⟨d,i,⟨b,k0⟩,⟨c,f⟩⟩:=h;match T,k with
 |[],_=>
  refine⟨0,?_⟩;have e:nP x=x:=by
   unfold nP yQ;rw[k0];show oC 1 (dM 0 x.now []).1 {x with k0:={pV [] b with h:=(dM 0 x.now []).2}}=x
   rw[ahl];show {x with k0:=pV [] b}=x
   rw[show pV [] b=x.k0 from k0.symm]
  rw[e];exact⟨d,i,⟨b,k0⟩,⟨c,by rw[f];simp[tx,hr1]⟩⟩
 |[t],_=>
  have s:=l t aA;have e:nP x=jT 1 (fA t) {x with k0:=pV [] b}:=by
   unfold nP yQ;rw[k0];show oC 1 (dM 1 x.now [(a,n,fA t)]).1 {x with k0:={pV [(a,n,fA t)] b with h:=(dM 1 x.now [(a,n,fA t)]).2}}=_
   rw[VL (y:=(a,n,fA t)) o];rfl
  have j:=Ko t q;rw[e,apP s];simp only;rw[i];rcases r with rfl|⟨y,rfl,u⟩
  ·obtain⟨g,q⟩:=Tq (now:=x.now) j c;refine⟨c,d,rfl,⟨b,rfl⟩,⟨g,?_⟩⟩;simp only;rw[f,q];rfl
  ·obtain⟨g,q⟩:=aEs (now:=x.now) j u c;refine⟨c,d,rfl,⟨b,rfl⟩,⟨g,?_⟩⟩;simp only;rw[f,q];rfl
def aiq{x:Pr}{p q:bf}{B R:Wa}{a n b m:Int}(h:At x p q [] (tx a n B++tx b m R))(F:B.length<=1)(G:R.length<=1)(r:∀t∈B,t.length<=65536)(v:∀t∈R,t.length<=65536)(A:a<=x.now)(D:b<=x.now)(E:∀t∈R,∀s,(bZ t s).2.1=[]):
 ∃k,At (qR x) (hr1 R (hr1 B p).1).1 q (tx x.now k (hr1 B p).2) []:=by
 obtain⟨f,g,⟨d,i⟩,⟨c,k1⟩⟩:=h;match B,F,R,G with
 |[],_,[],_=>
  refine⟨0,?_⟩;have e:qR x=x:=by
   unfold qR xJ;rw[k1];show oC 0 (dM 0 x.now []).1 {x with k1:={pV [] c with h:=(dM 0 x.now []).2}}=x
   rw[ahl];show {x with k1:=pV [] c}=x
   rw[show pV [] c=x.k1 from k1.symm]
  rw[e];exact⟨f,g,⟨d,by rw[i];simp[tx,hr1]⟩,⟨c,k1⟩⟩
 |[],_,[u],_=>
  have j:=v u aA;have e:qR x=jT 0 (fA u) {x with k1:=pV [] c}:=by
   unfold qR xJ;rw[k1];show oC 0 (dM 1 x.now [(b,m,fA u)]).1 {x with k1:={pV [(b,m,fA u)] c with h:=(dM 1 x.now [(b,m,fA u)]).2}}=_
   rw[VL (y:=(b,m,fA u)) D];rfl
  rw[e,Vz j];simp only;rw[f,E u aA];exact⟨0,rfl,g,⟨d,by simp only[iU];rw[i];simp[tx,hr1]⟩,⟨c,rfl⟩⟩
 |[t],_,[],_=>
  have l:=r t aA;have e:qR x=jT 0 (fA t) {x with k1:=pV [] c}:=by
   unfold qR xJ;rw[k1];show oC 0 (dM 1 x.now [(a,n,fA t)]).1 {x with k1:={pV [(a,n,fA t)] c with h:=(dM 1 x.now [(a,n,fA t)]).2}}=_
   rw[VL (y:=(a,n,fA t)) A];rfl
  rw[e,Vz l];simp only;rw[f];obtain⟨o,w⟩:=Tq (now:=x.now) (Ko t p) d;refine⟨d,rfl,g,⟨o,?_⟩,⟨c,rfl⟩⟩;simp only;rw[i,w];rfl
 |[t],_,[u],_=>
  have l:=r t aA;have j:=v u aA;have e:qR x=jT 0 (fA u) (jT 0 (fA t) {x with k1:=pV [] c}):=by
   unfold qR xJ;rw[k1];show oC 0 (dM 2 x.now [(a,n,fA t),(b,m,fA u)]).1 {x with k1:={pV [(a,n,fA t),(b,m,fA u)] c with h:=(dM 2 x.now [(a,n,fA t),(b,m,fA u)]).2}}=_
   rw[atM (y:=(a,n,fA t)) (z:=(b,m,fA u)) A D];rfl
  rw[e,Vz l,Vz j];simp only;rw[f,E u aA];obtain⟨o,w⟩:=Tq (now:=x.now) (Ko t p) d;refine⟨d,rfl,g,⟨o,?_⟩,⟨c,rfl⟩⟩;simp only[iU];rw[i,w];rfl
def D8(p q:bf):bf×bf:=
 ((hr1 (hr1 (fH p).1 q).2 (hr1 (fH q).1 (jU p)).1).1,(hr1 (hr1 (fH q).1 (jU p)).2 (hr1 (fH p).1 q).1).1)
def aiR(T:Wa)(s:bf):(hr1 T s).2.length<=1:=by
 unfold hr1;split
 ·simp
 ·exact Ko _ _
def aiS(T:Wa)(s:bf):∀u∈(hr1 T s).2,u.length<=65536/\∀b,(bZ u b).2.1=[]:=by
 unfold hr1;split
 ·intro u a;cases a
 ·intro u a;obtain⟨c,d⟩:=Ig _ _ u a;exact⟨c,λb=>aa7 d⟩
def awL{T:Wa}(h:∀u∈T,∀a,(bZ u a).2.1=[])(s:bf):(hr1 T s).2=[]:=by
 unfold hr1;split
 ·rfl
 ·next t _=>exact h t aA s
def alV{n:Nat}{x:Pr}(e:gK x)(b:dL x<n){a:Int}(c:kU x=some a)(d:a<=x.now):∃m,oI n x=oI m (lG x)/\dL (lG x)<m/\gK (lG x):=by
 match n,b with
 |n+1,b=>
  obtain⟨f,g⟩:=Vm e c d;refine⟨n,?_,ah,f⟩;show(match kU x with|none=>x|some a=>if a<=x.now then oI n (lG x)else x)=_
  rw[c];simp only;rw[au d]
def alT{n:Nat}{x:Pr}(b:kU x=none):oI n x=x:=by
 match n with
 |0=>rfl
 |n+1=>
  show(match kU x with|none=>x|some a=>if a<=x.now then oI n (lG x)else x)=x
  rw[b]
def ab5{x:Pr}(h0:x.k0.h=[])(h1:x.k1.h=[]):kU x=none:=by unfold kU nextL;rw[h0,h1];rfl
def ab6{x:Pr}{p q:bf}{h0 h1:List It}(h:At x p q h0 h1){a:Int}(c:h0≠[]\/h1≠[])(b:∀y∈h0++h1,y.1=a):kU x=some a:=by
 obtain⟨-,-,⟨k,d⟩,⟨m,e⟩⟩:=h;have f:x.k0.h=h0:=by rw[d];rfl
 have g:x.k1.h=h1:=by rw[e];rfl
 unfold kU nextL;rw[f,g];match h0,h1 with
 |[],[]=>exact absurd rfl (c.elim (λh=>absurd rfl h) id)
 |[],z::r=>
  have:=b z aA;rw[au rfl,aj aA];show some z.1=_
  rw[this]
 |y::l,[]=>
  have:=b y aA;rw[aj aA,au rfl];show some y.1=_
  rw[this]
 |y::l,z::r=>
  have i:=b y aA;have j:=b z aA;rw[aj aA,aj aA];show some (if z.1<y.1 then z.1 else y.1)=_
  rw[i,j];simp
def TN{a n:Int}{T:Wa}(h:T≠[]):tx a n T≠[]:=by
 cases T with
 |nil=>exact absurd rfl h
 |cons t r=>simp[tx]
def TM{a n:Int}{T:Wa}:∀y∈tx a n T,y.1=a:=by intro y b;obtain⟨t,-,rfl⟩:=rZ.1 b;rfl
def aCw{z:Pr}(r:gK z){p q:bf}{A B:Wa}{n m:Int}(h:At z p q (tx (z.now-1) n A) (tx (z.now-1) m B))(H:A.length<=1)(E:B.length<=1)(I:∀t∈A,t.length<=65536)(L:∀t∈B,t.length<=65536)(s:A≠[]\/B≠[]){f:Nat}(M:dL z<f):
 At (oI f z) (hr1 (hr1 A q).2 (hr1 B p).1).1 (hr1 (hr1 B p).2 (hr1 A q).1).1 [] []/\(oI f z).now=z.now:=by
 have v:=ab6 h (s.imp TN TN) (λy j=>(jQ.1 j).elim (TM y) (TM y));obtain⟨W,N,O,o1⟩:=alV r M v ah;obtain⟨X,F⟩:=ain h H I ah (by
  match B,E with
  |[],_=>exact .inl rfl
  |[u],_=>exact .inr ⟨_,rfl,by show z.now-1<z.now;omega⟩)
 have P:(nP z).now=z.now:=Q8 z;have sA:=aiS A q;rw[P.symm]at F;obtain⟨Y,c⟩:=aiq (x:=nP z) (a:=(nP z).now-1) (b:=(nP z).now) F E (aiR A q) L (λt d=>(sA t d).1) ah (iG _) (λt d=>(sA t d).2);have k:(lG z).now=z.now:=NC z;have c:At (lG z) _ _ _ _:=c;rw[N];have sB:=aiS B p;have Q:=aiR B p;generalize hr1 A q=e,hr1 B p=g at *;by_cases G:g.2=[]
 ·rw[G]at c⊢;have c:At (lG z) (hr1 e.2 g.1).1 e.1 [] []:=c;obtain⟨-,-,⟨R,w⟩,⟨S,D⟩⟩:=id c;rw[alT (ab5 (by rw[w];rfl) (by rw[D];rfl))];exact⟨c,k⟩
 ·have i:=ab6 c (.inl (TN G)) (λy j=>by rw[pY]at j;exact TM y j);obtain⟨Z,T,g2,U⟩:=alV o1 O i ah;obtain⟨k3,l⟩:=ain c Q (λt d=>(sB t d).1) ah (.inl rfl);have V:=awL (λt d=>(sB t d).2) e.1;rw[V]at l;have l:At (nP (lG z)) (hr1 e.2 g.1).1 (hr1 g.2 e.1).1 [] (tx 0 0 []++tx 0 0 []):=l;obtain⟨k4,o⟩:=aiq (x:=nP (lG z)) (a:=0) (b:=0) l aA aA aA aA (by have:=U.now;have:(nP (lG z)).now=z.now:=(Q8 _).trans k;have:=r.now;omega) (by have:(nP (lG z)).now=z.now:=(Q8 _).trans k;have:=r.now;omega) aA;have o:At (lG (lG z)) (hr1 e.2 g.1).1 (hr1 g.2 e.1).1 [] []:=o;obtain⟨-,-,⟨R,w⟩,⟨S,D⟩⟩:=id o;rw[T,alT (ab5 (by rw[w];rfl) (by rw[D];rfl))];exact⟨o,(NC _).trans k⟩
noncomputable def jG (x:Pr):Pr:=zl 1 (gI 1 (gI 0 x))
def aBU{x:Pr}(E:gK x){p q:bf}(h:At x p q [] [])(F:jU q=q):At (jG x) (D8 p q).1 (D8 p q).2 [] []/\(jG x).now=x.now+1:=by
 obtain⟨s,t,⟨u,G⟩,⟨v,H⟩⟩:=h;have I:=IG p;have L:=IG q;have w:=SL p;have D:=SL q;obtain⟨o1,-,-⟩:=IE (e:=0) E;obtain⟨d,-,-⟩:=IE (e:=1) o1;have b:∃n m,At (gI 1 (gI 0 x)) (jU p) q (tx x.now n (fH p).1) (tx x.now m (fH q).1)/\(gI 1 (gI 0 x)).now=x.now:=by
  obtain⟨M,N⟩:=Tq (now:=x.now) w u;obtain⟨O,P⟩:=Tq (now:=x.now) D v;unfold gI;rw[au rfl,aj aU,au rfl];refine⟨u,v,⟨by simp only[s],by simp only[t];exact F,⟨M,?_⟩,⟨O,?_⟩⟩,rfl⟩
  ·simp only[s];rw[G,N];rfl
  ·simp only[t];rw[H,P];rfl
 obtain⟨n,m,b,T⟩:=b;unfold jG D8;generalize gI 1 (gI 0 x)=y,(fH p).1=A,(fH q).1=B,jU p=Q at *;unfold zl;show At (ql 2 (y.now+1) y) _ _ _ _/\(ql 2 (y.now+1) y).now=_
 by_cases a:A=[]/\B=[]
 ·obtain⟨rfl,rfl⟩:=a;obtain⟨i,j,⟨k,g⟩,⟨l,d1⟩⟩:=b;have o:kU y=none:=ab5 (by rw[g];rfl) (by rw[d1];rfl);have e:ql 2 (y.now+1) y ={y with now:=y.now+1}:=by unfold ql;rw[lY,o]
  rw[e];exact⟨⟨i,j,⟨k,g⟩,⟨l,d1⟩⟩,by simp only;omega⟩
 ·have a:A≠[]\/B≠[]:=by
   by_cases c:A=[]
   ·exact .inr λb=>a ⟨c,b⟩
   ·exact .inl c
  have o:=ab6 b (a.imp TN TN) (λz r=>(jQ.1 r).elim (TM z) (TM z));have R:gK {y with now:=y.now+1}:=⟨d.s0,d.s1,d.k0,d.k1,by have:=d.now;simp only;omega⟩
  obtain⟨i,j,⟨k,g⟩,⟨l,d1⟩⟩:=b;have r:At {y with now:=y.now+1} Q q (tx (({y with now:=y.now+1}:Pr).now-1) n A) (tx (({y with now:=y.now+1}:Pr).now-1) m B):=⟨i,j,⟨k,by simp only;rw[g];congr 2;omega⟩,⟨l,by simp only;rw[d1];congr 2;omega⟩⟩
  obtain⟨r1,r2⟩:=aCw R r w D I L a (f:=dL y+1) (by show dL y<dL y+1;omega);have e:ql 2 (y.now+1) y=oI (dL y+1) {y with now:=y.now+1}:=by
   have S:sG x.now y=oI (dL y+1) {y with now:=y.now+1}:=by unfold sG;rw[bW]
   unfold ql;rw[lY,o];simp only;rw[bW,S];unfold ql;rw[aj (by rw[r2];simp only;omega)]
  rw[e];exact⟨r1,by rw[r2];simp only;omega⟩
def aFp{t:Q0}{s:bf}(a:rY [5,6] t)(b:s.st≠2):(bZ t s).1=s/\(bZ t s).2.1=[]:=by
 unfold bZ;split;rotate_left
 ·exact⟨rfl,rfl⟩
 next e=>
 have h:=a _ e;simp only[bH,List.not_mem_nil,or_false]at h;unfold uw;rw[bW,bW,au h];unfold l9;rw[aj b];exact⟨rfl,rfl⟩
def aBn{V:Int}{ok:Bool}{p q:bf}(h:pG V ok p q):∀t∈(fH q).1,rY [5,6] t:=by
 intro t a;unfold fH at a;rw[h.qf]at a;split at a;rotate_left
 ·cases a
 split at a;rotate_left
 ·cases a
 next f=>
 have g:=Oy (v:=q.vs) (k:=q.k) (b:=q.b) f;have e:(oZ (cZ q.vs q.k q.b).1).kind=(cZ q.vs q.k q.b).1.1:=rfl;obtain⟨d,-⟩:=D9 a (by rw[e];omega) (by rw[e];omega);rw[e]at d;exact Ky d λk c=>by rw[jX.1 c];rcases g with e|e<;>rw[e]<;>simp
def aBQ{V:Int}{ok:Bool}{p q:bf}(h:pG V ok p q)(k:p.st≠2)(l:p.st≠3):Fin ok (D8 p q).1 (D8 p q).2:=by
 have m:=aiK h.je.mn h.je.le h.je.mx;have e:fH p=([helloT p.mn p.mx],1):=by unfold fH;rw[aj k,au h.pf,aj l,h.pn,m]
 have g:jU p ={p with st:=1}:=by unfold jU;rw[e]
 obtain⟨i,-,n⟩:=akC h;obtain⟨a,-⟩:=alx i (n (helloT p.mn p.mx) (by rw[e];simp));have c:=aly i;rw[g]at c a;simp only at c;have o:hr1 (fH q).1 {p with st:=1}=({p with st:=1},[]):=by
  have u:=aBn h;unfold hr1;split
  ·rfl
  ·next t r v=>
   obtain⟨w,x⟩:=aFp (s:={p with st:=1}) (u t (by rw[v];simp)) aA;rw[w,x]
 unfold D8;rw[e,g,o];have j:hr1 [helloT p.mn p.mx] q=((bZ (helloT p.mn p.mx) q).1,(bZ (helloT p.mn p.mx) q).2.1):=rfl;rw[c]at a j;simp only;rw[j];cases b:ok with
 |true=>subst b;simp only[reduceIte]at a⊢;have d:=akB a rfl rfl;have f:hr1 [ED V] {p with st:=1}=((bZ (ED V) {p with st:=1}).1,(bZ (ED V) {p with st:=1}).2.1):=rfl;rw[f,d];unfold Fin;rw[au rfl];exact⟨rfl,rfl⟩
 |false=>subst b;simp only[reduceIte,iI]at a⊢;have d:=akD a rfl rfl;have f:hr1 [FQ] {p with st:=1}=((bZ FQ {p with st:=1}).1,(bZ FQ {p with st:=1}).2.1):=rfl;rw[f,d];unfold Fin;rw[aj aA];exact⟨rfl,rfl⟩
def auL{V:Int}{ok:Bool}{p q:bf}(h:pG V ok p q)(c:p.st=2\/p.st=3):Fin ok p q:=by
 unfold Fin;rcases c with c|c
 ·obtain⟨e,-,b⟩:=h.p2 c;rw[au e];exact⟨c,b⟩
 ·have a:=h.p3 c;rw[aj (by rw[h.q3 a];simp)];exact⟨c,a⟩
def Td{V:Int}{ok:Bool}{xs a:Q1}{x:Pr}(h:PI V ok xs a x):PI V ok xs a (jG x)/\PL x (jG x):=by obtain⟨b,c⟩:=adf h 0;obtain⟨d,e⟩:=adf b 1;obtain⟨f,g⟩:=adW d 1;exact⟨f,(c.trans e).trans g⟩
def Qt(x:Pr):Prop:=At x x.s0 x.s1 [] []
def SV{V:Int}{ok:Bool}{xs e:Q1}{x:Pr}(h:PI V ok xs e x)(q:Qt x):Qt (jG x)/\(jG x).s0=(D8 x.s0 x.s1).1/\(jG x).s1=(D8 x.s0 x.s1).2/\(jG x).now=x.now+1:=by obtain⟨r1,r2⟩:=aBU h.o q (alz h.i.s).1;obtain⟨a,b,c,d⟩:=id r1;exact⟨⟨rfl,rfl,c,d⟩,a,b,r2⟩
def auT{V:Int}{ok:Bool}{xs a:Q1}{x:Pr}(h:PI V ok xs a x)(q:Qt x):Fin ok (jG x).s0 (jG x).s1:=by
 obtain⟨-,b,d,-⟩:=SV h q;by_cases c:x.s0.st=2\/x.s0.st=3
 ·exact(Td h).2.l.fin (auL h.i.s c)
 ·rw[b,d];exact aBQ h.i.s (λe=>c (.inl e)) (λe=>c (.inr e))
def Xw{V:Int}{k:List Sn}{b:Int}(h:(cZ V k b).2≠0)(a:Bool)(g:Sn):gW V k b a g=((k,b),a,g):=by unfold gW;rw[aj h]
def aBS{V:Int}{p q:bf}(w:Way V p q)(w':Way V q p){xs v:Q1}(f:iW xs [] [] p.k p.b q.sm q.h)(y:iW v [] [] q.k q.b p.sm p.h)(z:ou xs)(A:ou v):
 D8 p q=(Ec (yt p (gW V q.k q.b p.sm p.h).2) (gW V p.k p.b q.sm q.h).1,Ec (yt q (gW V p.k p.b q.sm q.h).2) (gW V q.k q.b p.sm p.h).1):=by
 have B:jU p=p:=by
  unfold jU fH;rw[au w.p2];have e:({p with st:=2}:bf)=p:=by rw[<-w.p2]
  split<;>exact e
 unfold D8;rw[B];have a:=anx w f z;have b:=anx w' y A;have I:yt p (p.sm,p.h)=p:=rfl;have L:yt q (q.sm,q.h)=q:=rfl;have M:Ec p (p.k,p.b)=p:=rfl;have N:Ec q (q.k,q.b)=q:=rfl;rcases a with⟨j,D⟩|⟨-,t,u,j,-,E,F,-,x⟩
 ·rw[Xw D,j];rcases b with⟨c,k⟩|⟨-,l,d,c,-,m,n,-,o⟩
  ·rw[Xw k,c];rfl
  ·rw[c];have r:hr1 [l] p=(yt p (gW V q.k q.b p.sm p.h).2,[d]):=by unfold hr1;simp only;rw[m,n]
   rw[r];obtain⟨g,h⟩:=o q w.q2 w.qv.1 rfl rfl;have i:hr1 [d] q=(Ec q (gW V q.k q.b p.sm p.h).1,[]):=by unfold hr1;simp only;rw[g,h]
   have s:hr1 [] q=(q,[]):=rfl;rw[s];simp only;rw[i];rfl
 ·rw[j];have r:hr1 [t] q=(yt q (gW V p.k p.b q.sm q.h).2,[u]):=by unfold hr1;simp only;rw[E,F]
  rw[r];rcases b with⟨c,k⟩|⟨-,l,d,c,-,m,n,-,o⟩
  ·rw[Xw k,c];obtain⟨g,h⟩:=x p w.p2 w.pv.1 rfl rfl;have i:hr1 [u] p=(Ec p (gW V p.k p.b q.sm q.h).1,[]):=by unfold hr1;simp only;rw[g,h]
   have s:hr1 [] p=(p,[]):=rfl;rw[s];simp only;rw[i];rfl
  ·rw[c];have G:hr1 [l] p=(yt p (gW V q.k q.b p.sm p.h).2,[d]):=by unfold hr1;simp only;rw[m,n]
   rw[G];obtain⟨g,h⟩:=x (yt p (gW V q.k q.b p.sm p.h).2) w.p2 w.pv.1 rfl rfl;obtain⟨d1,d2⟩:=o (yt q (gW V p.k p.b q.sm q.h).2) w.q2 w.qv.1 rfl rfl;have i:hr1 [u] (yt p (gW V q.k q.b p.sm p.h).2)=(Ec (yt p (gW V q.k q.b p.sm p.h).2) (gW V p.k p.b q.sm q.h).1,[]):=by unfold hr1;simp only;rw[g,h]
   have H:hr1 [d] (yt q (gW V p.k p.b q.sm q.h).2)=(Ec (yt q (gW V p.k p.b q.sm q.h).2) (gW V q.k q.b p.sm p.h).1,[]):=by unfold hr1;simp only;rw[d1,d2]
   simp only;rw[i,H]
def Has(k:List Sn)(a:Bool)(h:Sn):Prop:=∀l,k.getLast? =some l->a=true/\h=l
def Dn(k:List Sn)(b:Int):Prop:=∀l,k.getLast? =some l->b=l.1
def ag8{xs:Q1}{k:List Sn}{b:Int}{c:Bool}{h:Sn}(f:iW xs [] [] k b c h)(d:Dn k b):Has k c h:=λl a=>by
 have i:=f.lead.kp.pos l (yE a);obtain⟨j,g⟩:=f.le_last a;have:=d l a;rcases f.base with q|⟨e,m⟩
 ·omega
 ·exact⟨e,g e ah⟩
def awg{xs:Q1}{k:List Sn}{b V:Int}{a:Bool}{h:Sn}(f:iW xs [] [] k b a h)(g:Has k a h):Has (gW V k b a h).1.1 (gW V k b a h).2.1 (gW V k b a h).2.2:=λl c=>by obtain⟨-,-,e⟩:=X7 f V;rw[e]at c;obtain⟨rfl,rfl⟩:=g l c;have:=alO f c rfl V;rw[this];exact⟨rfl,rfl⟩
def aG2{xs:Q1}{k:List Sn}{b V:Int}{a:Bool}{h:Sn}(f:iW xs [] [] k b a h)(h1:1<=V)(d:V<=3)(g:b=0):Has (gW V k b a h).1.1 (gW V k b a h).2.1 (gW V k b a h).2.2:=λl c=>by
 obtain⟨-,-,e⟩:=X7 f V;rw[e]at c;rcases alN f c V h1 d ah with q|⟨q,-⟩
 ·rw[q];exact⟨rfl,rfl⟩
 ·exact absurd g q
def aoo{xs:Q1}{k:List Sn}{b V:Int}{c:Bool}{h:Sn}(f:iW xs [] [] k b c h)(h1:1<=V)(g:V<=3):Has (gW V k b c h).1.1 (gW V k b c h).2.1 (gW V k b c h).2.2\/(gW V k b c h).1.2=0:=by
 obtain⟨-,-,e⟩:=X7 f V;cases d:k.getLast? with
 |none=>refine .inl λl a=>?_;rw[e,d]at a;cases a
 |some l=>
  rcases alN f d V h1 g (axN f.lead)with q|⟨-,q⟩
  ·refine .inl λi a=>?_;rw[e,d]at a;injection a with a
   rw[q,a];exact⟨rfl,rfl⟩
  ·exact .inr q
def aiB{xs:Q1}{k:List Sn}{b V:Int}{d:Bool}{h:Sn}(f:iW xs [] [] k b d h)(h1:1<=V)(r:V<=3)(g:Has k d h):Dn (gW V k b d h).1.1 (gW V k b d h).1.2:=λl a=>by
 obtain⟨-,-,e⟩:=X7 f V;rw[e]at a;obtain⟨rfl,rfl⟩:=g l a;have o:=yE a;by_cases j:h.1=b
 ·have c:(cZ V k b).2≠0:=by unfold cZ;rw[a];simp only;rw[au j];simp
  rw[Xw c];exact j.symm
 have c:(cZ V k b).2=0:=by
  unfold cZ;rw[a];simp only;rw[aj j];cases m:jD b k with
  |none=>rfl
  |some i=>
   obtain⟨s,p,-,hi⟩:=EU m;obtain⟨t,-⟩:=Xh f.lead.kp a j m p;simp only[p];split
   ·rw[aj (by simp[t])]
   ·rfl
 obtain⟨u,A,n,B,-,v,-⟩:=Ox f.lead c;rw[a]at n;injection n with n
 subst n;have w:=aaf h1 r u λe=>(v e).1;have x:=Oy c;have y:b<h.1:=by have:=f.lead.kp.pos h o;rcases f.base with q|⟨-,q⟩<;>omega
 have z:(iL 0 V (cZ V k b).1.1 (cZ V k b).1.2.1 (cZ V k b).1.2.2.1 (cZ V k b).1.2.2.2 true h).1=(7,h.1,0,0):=by
  unfold iL;rw[aj aA];rcases x with e|e
  ·rw[au e,au ⟨rfl,ah⟩]
  ·rw[bW,au e,au ⟨rfl,ah⟩]
 unfold gW;rw[au c,w];simp only;rw[z];unfold GX;rw[au rfl];unfold sD;rw[aj (by simp only;omega)];cases m:jD h.1 k with
 |none=>exact absurd rfl (auN m h o)
 |some i=>rfl
def atw{xs:Q1}{k:List Sn}{b V:Int}{a:Bool}{h:Sn}(f:iW xs [] [] k b a h)(h1:1<=V)(c:V<=3)(d:Dn k b):Dn (gW V k b a h).1.1 (gW V k b a h).1.2:=aiB f h1 c (ag8 f d)
def atx{V:Int}{k:List Sn}{b:Int}(d:Dn k b):(cZ V k b).2≠0:=by
 unfold cZ;cases a:k.getLast? with
 |none=>simp
 |some l=>simp only;rw[au (d l a).symm];simp
structure OI(V:Int)(xs ys:Q1)(x:Pr):Prop where
 i:PI V true xs ys x
 q:Qt x
 p2:x.s0.st=2
 q2:x.s1.st=2
def OI.way{V:Int}{xs e:Q1}{x:Pr}(h:OI V xs e x):Way V x.s0 x.s1/\Way V x.s1 x.s0:=by obtain⟨-,-,c,d⟩:=h.i.i.s.I7 rfl;have a:=(h.i.i.s.p2 h.p2).2.1;have b:=(h.i.i.s.q2 h.q2).2;have w0:=(h.i.i.v.1 h.p2).trans a;have w1:=(h.i.i.v.2 h.q2).trans b;exact⟨⟨h.p2,h.q2,⟨a,w0⟩,⟨b,w1⟩,h.i.i.s.je,h.i.i.s.oV,c,d⟩,⟨h.q2,h.p2,⟨b,w1⟩,⟨a,w0⟩,h.i.i.s.oV,h.i.i.s.je,c,d⟩⟩
def OI.O3{V:Int}{xs a:Q1}{x:Pr}(h:OI V xs a x)(c:ou xs)(d:ou a):OI V xs a (jG x)/\(jG x).now=x.now+1/\
 (((jG x).s0.k,(jG x).s0.b),(jG x).s1.sm,(jG x).s1.h)=gW V x.s0.k x.s0.b x.s1.sm x.s1.h/\(((jG x).s1.k,(jG x).s1.b),(jG x).s0.sm,(jG x).s0.h)=gW V x.s1.k x.s1.b x.s0.sm x.s0.h:=by
 obtain⟨w,f⟩:=h.way;obtain⟨g,b⟩:=Td h.i;obtain⟨r1,r2,r3,j⟩:=SV h.i h.q;have e:=aBS w f h.i.i.a h.i.i.b c d;rw[e]at r2 r3;refine⟨⟨g,r1,b.l.p2 h.p2,b.l.q2 h.q2⟩,j,?_,?_⟩
 ·rw[r2,r3];rfl
 ·rw[r2,r3];rfl
def Both(P:List Sn->Int->Bool->Sn->Prop)(x:Pr):Prop:=P x.s0.k x.s0.b x.s1.sm x.s1.h/\P x.s1.k x.s1.b x.s0.sm x.s0.h
def OI.both{V:Int}{xs e:Q1}{x:Pr}(h:OI V xs e x)(m:ou xs)(n:ou e){P Q:List Sn->Int->Bool->Sn->Prop}(f:Both P x)(d:∀o k b c g,iW o [] [] k b c g->1<=V->V<=3->P k b c g->Q (gW V k b c g).1.1 (gW V k b c g).1.2 (gW V k b c g).2.1 (gW V k b c g).2.2):Both Q (jG x):=by obtain⟨-,-,p,r⟩:=h.O3 m n;obtain⟨-,-,j,l⟩:=h.i.i.s.I7 rfl;have a:=d xs _ _ _ _ h.i.i.a j l f.1;have b:=d e _ _ _ _ h.i.i.b j l f.2;rw[<-p]at a;rw[<-r]at b;exact⟨a,b⟩
noncomputable def lN:Nat->Pr->Pr
 |0,x=>x
 |n+1,x=>lN n (jG x)
def akr{V:Int}{xs a:Q1}(c:ou xs)(e:ou a):∀(n:Nat){x:Pr},OI V xs a x->Both (λk b _ _=>Dn k b) x->OI V xs a (lN n x)/\Both (λk b _ _=>Dn k b) (lN n x)/\(lN n x).now=x.now+n
 |0,x,h,d=>⟨h,d,by simp[lN]⟩
 |n+1,x,h,d=>by obtain⟨h1,i,-⟩:=h.O3 c e;have d1:=h.both (Q:=λk b _ _=>Dn k b) c e d (λp k b q g f j l d=>atw f j l d);obtain⟨m,o,g3⟩:=akr c e n h1 d1;exact⟨m,o,by rw[show lN (n+1) x=lN n (jG x)from rfl,g3,i];push_cast;omega⟩
def azn{V:Int}{xs l:Q1}(a:ou xs)(c:ou l){x:Pr}(h:OI V xs l x)(n:Nat):OI V xs l (lN (n+3) x)/\Both (λk b _ _=>Dn k b) (lN (n+3) x)/\(lN (n+3) x).now=x.now+n+3:=by obtain⟨m,q,-⟩:=h.O3 a c;have d1:=h.both (P:=λ_ _ _ _=>True) (Q:=λk b e g=>Has k e g\/b=0) a c ⟨trivial,trivial⟩ (λo k b e g f i j _=>aoo f i j);obtain⟨p,r,-⟩:=m.O3 a c;have d2:=m.both (Q:=λk b e g=>Has k e g) a c d1 (λo k b e g f i j d=>d.elim (awg f) (aG2 f i j));obtain⟨s,t,-⟩:=p.O3 a c;have d3:=p.both (Q:=λk b _ _=>Dn k b) a c d2 (λo k b e g f i j d=>aiB f i j d);obtain⟨u,v,g3⟩:=akr a c n s d3;exact⟨u,v,by rw[show lN (n+3) x=lN n (jG (jG (jG x)))from rfl,g3,t,r,q];omega⟩
def acF{V:Int}{ok:Bool}{xs a:Q1}:∀(n:Nat){x:Pr},PI V ok xs a x->Qt x->PI V ok xs a (lN n x)/\PL x (lN n x)/\Qt (lN n x)/\(lN n x).now=x.now+n
 |0,x,h,q=>⟨h,PL.self x,q,by simp[lN]⟩
 |n+1,x,h,q=>by obtain⟨h1,b⟩:=Td h;obtain⟨c,-,-,d⟩:=SV h q;obtain⟨e,f,g3,g4⟩:=acF n h1 c;exact⟨e,b.trans f,g3,by rw[show lN (n+1) x=lN n (jG x)from rfl,g4,d];push_cast;omega⟩
def aEM{V:Int}{ok:Bool}{xs c:Q1}{x:Pr}(h:PI V ok xs c x)(q:Qt x)(g:ou xs)(i:ou c):Fin ok (lN 6 x).s0 (lN 6 x).s1/\(ok=true->Both (λk b _ _=>Dn k b) (lN 6 x)):=by have a:=auT h q;obtain⟨d,l⟩:=Td h;obtain⟨f,-,-,-⟩:=SV h q;obtain⟨-,j,-,-⟩:=acF 5 d f;refine⟨j.l.fin a,λe=>?_⟩;subst e;unfold Fin at a;rw[au rfl]at a;exact(azn g i ⟨d,f,a.1,a.2⟩ 2).2.1
def ag9{xs:Q1}{r o:bf}(f:iW xs [] [] o.k o.b r.sm r.h)(d:Dn o.k o.b):xW r o=true:=by
 unfold xW;cases a:o.k.getLast? with
 |none=>
  simp only[Zn,iI,and_false,if_false];rcases f.has with⟨-,b,-⟩|⟨c,-⟩
  ·obtain⟨l,q,-⟩:=f.keys _ _ b;rw[a]at q;cases q
  ·rw[c];rfl
 |some l=>
  obtain⟨b,g⟩:=ag8 f d l a;rw[au ⟨b,rfl⟩];have e:iq o.k=l:=by unfold iq;rw[a];rfl
  rw[e,g];exact EN rfl
def aha{V:Int}{p q:bf}(w:Way V p q)(d:Dn p.k p.b):(fH p).1=[]:=by unfold fH;rw[au w.p2,aj (atx d)]
def auI{a:Ap}(c:Ai a)(b:Ia a=true):dX a.x.2/\a.tk<=40/\uM a.x.2:=by
 unfold Ia at b;simp only[aO]at b;refine⟨aij c.rows b.2.1,by simpa using b.2.2.1,λr d=>?_⟩;have h:=b.2.2.2;simp only[yB,aeV]at h;have e:((dN r.1).length:Int)<=100:=by simpa[AP]using h r d
 omega
def Oj(f:Fa):Bool:=decide (f.cu<=0)&&(decide (f.tZ=0) ||decide (f.at_<0))
def av9(f:Fa)(h:Oj f=true):Oe f:=by unfold Oj at h;simpa[Oe]using h
def akj(a c x y:Int):Prop:=1<=a/\a<=c/\c<=3/\1<=x/\x<=y/\y<=3
def axE{xs:Q1}{k:List Sn}{b:Int}(f:Lead xs k b)(a:ou xs):uM (iq k).2:=by
 unfold iq;cases c:k.getLast? with
 |none=>intro r d;simp[zS]at d
 |some l=>exact a l (f.map l (yE c))
def akn{xs:Q1}{k:List Sn}{b:Int}(f:Lead xs k b)(d:ou xs){v:Sn}{e:Int}(g:dX v.2)(a:uM v.2):uM (xY v e k).2:=by
 unfold xY;split
 ·exact a
 ·next c=>exact aos (Classical.not_not.1 c) (Xi f.kp).good g (axE f d) a
def alu{xs:Q1}{v:Sn}{e:Int}(b:ou xs)(c:uM v.2):ou (IJ v e xs):=by
 unfold IJ;split;rotate_left
 ·exact b
 intro s a;rw[vH]at a;split at a
 ·injection a with a
  rw[<-TA a];exact c
 ·exact b s a
def aoa{V:Int}{ok:Bool}{xs b:Q1}{x:Pr}(h:PI V ok xs b x){a:Ap}(d:dX a.x.2)(c:uM a.x.2)(r:ou xs/\ou b):ou (U0 a x xs)/\ou (U1 a x b):=by
 have e:uM (uN a x).2:=by
  unfold uN;split
  ·exact c
  split
  ·exact akn h.i.a.lead r.1 d c
  ·exact akn h.i.b.lead r.2 d c
 unfold U0 U1;constructor
 ·split
  ·exact alu r.1 e
  ·exact r.1
 ·split
  ·exact alu r.2 e
  ·exact r.2
def amu:ou []:=λs h=>by simp[iC]at h
set_option maxHeartbeats 4000000 in
def amV{V:Int}{ok:Bool}(s t u v:GV)(b:List Ap)(j:b.length<=30)(w:∀a∈b,Ai a/\Ia a=true):∀(m i:Nat)(x:Pr)(xs k:Q1),i+m=b.length->PI V ok xs k x->ou xs/\ou k->x.now<=1000*i->dL x<=1440+6*i->
 ∃y e f,PI V ok e f y/\(ou e/\ou f)/\Fix x y/\y.now<=30000/\dL y<=1620/\TT.lim 30 ([.l (b.map kR),.zq (b.length:Int),.zq (i:Int)]++dw x++[s,t,u,v])=some (.zq 0::.zu y.now::gG y)
 |0,i,x,xs,k,hi,h,p,A,B=>by have c:¬((i:Int)<b.length):=ah;refine⟨x,xs,k,h,p,Fix.refl x,ah,ah,?_⟩;simp only[dw,gG,kD,dZ,dH,bG,aZ];refine aB ?_;simp -implicitDefEqProofs[c]
 |m+1,i,x,xs,k,hi,h,p,A,B=>by
  have l:i<b.length:=ah;have c:(i:Int)<b.length:=ah;have D:IntKind.i64.wrap ((i:Int)+1)=((i+1:Nat):Int):=by rw[wrap64 ah ah];omega
  have q:at2 6 (some (.l (b.map kR))) (some (.zq (i:Int)))=some (kR b[i]):=by rw[fO,lY,zF,jA,cO l];rfl
  obtain⟨g,E⟩:=w _ (iZ l);generalize b[i]=a at *;obtain⟨n,F,r⟩:=auI g E;have z:=atB a x g n h.o ah ah;obtain⟨o1,O,P⟩:=an8 g n h.o;obtain⟨G,-⟩:=an9 h g n;obtain⟨y,e,f,H,I,L,M,N,o⟩:=amV s t u v b j w m (i+1) (yM a x) _ _ ah G (aoa h n r p) ah ah;have d:=an7 a x;refine⟨y,e,f,H,I,d.trans L,M,N,?_⟩;generalize yM a x=Z at *;rw[<-D]at o;generalize gG y=Q at *;simp only[dw,gG,BN,kD,dZ,dH,bG,aZ]at z o⊢;rw[d.a.1,d.a.2.1,d.a.2.2.1,d.a.2.2.2,d.b.1,d.b.2.1,d.b.2.2.1,d.b.2.2.2]at o;generalize b.map kR=R,(b.length:Int)=S at *;refine aB ?_;simp -implicitDefEqProofs[-fO,c,q,z,o]
def aBR{V:Int}{ok:Bool}{xs a:Q1}{x:Pr}(h:PI V ok xs a x):gK (jG x)/\dL (jG x)<=dL x+12/\Fix x (jG x):=by obtain⟨b,f,g3⟩:=IE (e:=0) h.o;obtain⟨c,g,i⟩:=IE (e:=1) b;obtain⟨d,j,k⟩:=step_ok (n:=1) aU c;exact⟨d,by unfold jG;omega,((SK 0 x).trans (SK 1 _)).trans (adV 1 _)⟩
set_option maxHeartbeats 4000000 in
def amW{V:Int}{ok:Bool}{xs y:Q1}:∀(m:Nat)(i:Int)(x:Pr),i+m=6->0<=i->PI V ok xs y x->Qt x->x.now<=40000+i->dL x<=1620+12*i->
 Fix x (lN m x)/\dL (lN m x)<=1700/\TT.lim 309 (.zq i::dw x)=some (.zq 0::.zu (lN m x).now::gG (lN m x))
 |0,i,x,hi,h0,f,u,z,A=>by
  have c:¬i<6:=ah;refine⟨Fix.refl x,by show dL x<=1700;omega,?_⟩;show TT.lim 309 (.zq i::dw x)=some (.zq 0::.zu x.now::gG x)
  simp only[dw,gG,kD,dZ,dH,bG,aZ];refine aB ?_;simp -implicitDefEqProofs[c]
 |m+1,i,x,hi,h0,f,u,z,A=>by
  have c:i<6:=ah;have B:IntKind.i64.wrap (i+1)=i+1:=wrap64 ah ah;obtain⟨o1,o2,a⟩:=aBR f;obtain⟨D,-⟩:=Td f;obtain⟨E,-,-,q4⟩:=SV f u;obtain⟨F,G,h⟩:=amW m (i+1) (jG x) ah ah D E ah ah;refine⟨a.trans F,G,?_⟩;show TT.lim 309 (.zq i::dw x)=some (.zq 0::.zu (lN m (jG x)).now::gG (lN m (jG x)))
  generalize lN m (jG x)=Y at *;have n0:=f.o.now;have v:=SE 0 x f.o ah ah;obtain⟨w,g2,g3⟩:=IE (e:=0) f.o;have j:=SE 1 (gI 0 x) w ah ah;obtain⟨H,k2,k3⟩:=IE (e:=1) w;have g:=adX 1 (gI 1 (gI 0 x)) aU aU H ah ah;rw[show zl 1 (gI 1 (gI 0 x))=jG x from rfl,show(gI 1 (gI 0 x)).now+1=(jG x).now from ah]at g;obtain⟨I,L,M,N,O,P,Q,S,T,k,l,n,o,U⟩:=adg 0 x;obtain⟨X,y2,y3,y4,y5,y6,y7,y8,y9,p,q,r,s,t⟩:=adg 1 (gI 0 x);have b:=SK 0 x;have d:=SK 1 (gI 0 x);generalize jG x=R,gI 1 (gI 0 x)=W at *;generalize gI 0 x=Z,gG Y=OY at *;simp only[dw,gG,kD,dZ,dH,bG,aZ]at v j g h⊢;rw[X,y2,y3,y4,y5,y6,y7,y8,y9,p,q,r,s,t,d.a.1,d.a.2.1,d.a.2.2.1,d.a.2.2.2,d.b.1,d.b.2.1,d.b.2.2.1,d.b.2.2.2]at g;rw[I,L,M,N,O,P,Q,S,T,k,l,n,o,U,b.a.1,b.a.2.1,b.a.2.2.1,b.a.2.2.2,b.b.1,b.b.2.1,b.b.2.2.1,b.b.2.2.2]at j g;rw[a.a.1,a.a.2.1,a.a.2.2.1,a.a.2.2.2,a.b.1,a.b.2.1,a.b.2.2.1,a.b.2.2.2]at h;refine aB ?_;simp -implicitDefEqProofs[c,B,v,j,g,h]
def aBs{x:Pr}(h:LC x=true):Qt x:=by
 unfold LC at h;simp only[aO,decide_eq_true_eq]at h;obtain⟨c,d,g,i⟩:=h;have e:∀k:Lk,k.h=[]->k.f.length=0->∃n,k=pV [] n:=λk a b=>⟨k.n,by
  match k,a,b with
  |⟨f,h,n⟩,a,b=>have a:h=[]:=a;have b:f=[]:=PX.1 b;rw[a,b];rfl⟩
 exact⟨rfl,rfl,e _ c d,e _ g i⟩
def aBr{x:Pr}(h:Qt x):LC x=true:=by obtain⟨-,-,⟨c,a⟩,⟨d,b⟩⟩:=h;unfold LC;rw[a,b];simp[pV]
def aAA{x:Pr}(a:x.s0.st=2)(b:(fH x.s0).1=[]):gI 0 x=x/\OT 0 x=0:=by
 have e:(fH x.s0).2=2:=by unfold fH;rw[au a];split<;>rfl
 have c:jU x.s0=x.s0:=by unfold jU;rw[e,<-a]
 unfold gI OT;rw[au rfl,au rfl,b,c];exact⟨rfl,rfl⟩
def aAB{x:Pr}(a:x.s1.st=2)(b:(fH x.s1).1=[]):gI 1 x=x/\OT 1 x=0:=by
 have e:(fH x.s1).2=2:=by unfold fH;rw[au a];split<;>rfl
 have c:jU x.s1=x.s1:=by unfold jU;rw[e,<-a]
 unfold gI OT;rw[aj aU,au rfl,aj aU,au rfl,b,c];exact⟨rfl,rfl⟩
def amU(n o p q r s t:GV)(l:List Fa)(v:l.length<=9000000000000000):∀(m i:Nat),i+m=l.length->
 TT.lim 25 [n,o,p,.l (l.map bg),.zq (l.length:Int),.zq (i:Int),q,r,s,t]=some [.zq (if(l.drop i).all Oj=true then 1 else 0)]
 |0,i,hi=>by have c:¬((i:Int)<l.length):=ah;rw[iP];refine aB ?_;simp -implicitDefEqProofs[c]
 |m+1,i,hi=>by
  have g:i<l.length:=ah;have c:(i:Int)<l.length:=ah;have w:IntKind.i64.wrap ((i:Int)+1)=((i+1:Nat):Int):=by rw[wrap64 ah ah];omega
  have b:at2 6 (some (.l (l.map bg))) (some (.zq (i:Int)))=some (bg l[i]):=by rw[fO,lY,zF,jA,cO g];rfl
  have x:l.drop i=l[i]::l.drop (i+1):=iY g;have j:=amU n o p q r s t l v m (i+1) ah;rw[x,uH];generalize l[i]=f at *;rw[<-w]at j;generalize(l.drop (i+1)).all Oj=R,l.map bg=y,(l.length:Int)=z at *;unfold Oj;by_cases h:f.cu<=0;rotate_left
  ·have a:(0:Int)<f.cu:=ah;refine aB ?_;simp -implicitDefEqProofs[-fO,c,b,h,a]
  have a:¬(0:Int)<f.cu:=ah;by_cases k:f.tZ=0
  ·have d:((f.tZ:Int)=0)=True:=eq_true ah;refine aB ?_;simp -implicitDefEqProofs[-fO,c,b,h,a,k,d,j]
  ·have d:¬((f.tZ:Int)=0):=ah;by_cases u:f.at_<0
   ·have e:¬(0:Int)<=f.at_:=ah;refine aB ?_;simp -implicitDefEqProofs[-fO,c,b,h,a,k,d,u,e,j]
   ·have e:(0:Int)<=f.at_:=ah;refine aB ?_;simp -implicitDefEqProofs[-fO,c,b,h,a,k,d,u,e]
set_option maxHeartbeats 8000000 in
def aFT(a c x y:Int)(th bk:List Fa)(b:List Ap)(lt:th.length<=2000000000000)(lb:bk.length<=2000000000000)(la:b.length<=4000000000000)(ho:∀u∈b,Ai u)
 (fo:∀f∈th++bk,f.d<256/\f.tZ<256/\f.cu<=9223372036854775807/\f.at_<=9223372036854775807):
 TT.lim 3 [.g [.zu a,.zu c],.g [.zu x,.zu y],.l (th.map bg),.l (bk.map bg),.l (b.map kR)]=some [.b true]:=by
 have d:=auG th bk b lt lb la ho;have i:=agL th bk lt lb;have z:=Hq [102,105,114,115,116] 0 256 aA;have V:=Hq [111,116,104,101,114] 0 256 aA;rw[aGq]at z;rw[aGr]at V;have F:((b.map kR).length:Int)=(b.length:Int):=by rw[gU]
 have e:(((th++bk).map bg).length:Int)=((th++bk).length:Int):=by rw[gU]
 have g:=amU (.l (th.map bg)) (.l (bk.map bg)) (.l (b.map kR)) (.zu x) (.zu y) (.zu a) (.zu c) (th++bk) (by rw[eP];omega) (th++bk).length 0 ah;simp only[dY,tJ]at g;cases M:V4 th bk b with
 |false=>rw[M]at d;generalize th.map bg=N,bk.map bg=O,b.map kR=P at *;refine aW ?_;simp -implicitDefEqProofs[d]
 |true=>
 rw[M]at d;cases hH:(th++bk).all Oj with
 |false=>rw[hH]at g;simp only[iI,if_false]at g;generalize(th++bk).map bg=W,((th++bk).length:Int)=X,th.map bg=N,bk.map bg=O,b.map kR=P at *;refine aW ?_;simp -implicitDefEqProofs[d,i,e,g]
 |true=>
 rw[hH]at g;simp only[if_true]at g;by_cases hN:akj a c x y;rotate_left
 ·generalize(th++bk).map bg=W at *;generalize((th++bk).length:Int)=X,th.map bg=N,bk.map bg=O,b.map kR=P at *;unfold akj at hN;by_cases j:a<1
  ·refine aW ?_;simp -implicitDefEqProofs[d,i,e,g,j]
  by_cases o:c<a
  ·refine aW ?_;simp -implicitDefEqProofs[d,i,e,g,j,o]
  by_cases p:255<c
  ·refine aW ?_;simp -implicitDefEqProofs[d,i,e,g,j,o,p]
  by_cases s:3<c
  ·refine aW ?_;simp -implicitDefEqProofs[d,i,e,g,j,o,p,s]
  by_cases A:x<1
  ·refine aW ?_;simp -implicitDefEqProofs[d,i,e,g,j,o,p,s,z,A]
  by_cases G:y<x
  ·refine aW ?_;simp -implicitDefEqProofs[d,i,e,g,j,o,p,s,z,A,G]
  by_cases I:255<y
  ·refine aW ?_;simp -implicitDefEqProofs[d,i,e,g,j,o,p,s,z,A,G,I]
  ·have Q:3<y:=ah;refine aW ?_;simp -implicitDefEqProofs[d,i,e,g,j,o,p,s,z,A,G,I,Q]
 obtain⟨n1,n2,n3,n4,n5,n6⟩:=hN;unfold V4 at M;simp only[aO,List.all_eq_true,decide_eq_true_eq]at M;obtain⟨f1,f2,f3,f4,f5⟩:=M;have S:∀f∈th++bk,Gw f/\Oe f:=λf g=>by obtain⟨q1,q2,q3,q4⟩:=fo f g;have:=f1 f g;unfold NS at this;exact⟨⟨by have:=DW this;omega,q1,q2,q3,q4⟩,av9 f (List.all_eq_true.1 hH f g)⟩
 have cT:=agx th ah;have cB:=agx bk ah;obtain⟨p1,p2⟩:=ay9 (a:=a) (c:=c) (x:=x) (y:=y) (th:=th) (bk:=bk) n1 n2 n3 n4 n5 n6 (λf g=>S f (Zi _ g)) (λf g=>S f (ae7 _ g)) ah ah;obtain⟨Y,xs,ys,u1,u2,u4,u5,u6,L⟩:=amV (.zu x) (.zu y) (.zu a) (.zu c) b ah (λu hu=>⟨ho u hu,f2 u hu⟩) b.length 0 (newP a c x y th bk) [] [] ah p1 ⟨amu,amu⟩ (iG _) ah;have h:=agI a c x y;have r:=adX 270 Y aU aU u1.o ah ah;obtain⟨o1,o2,o3⟩:=step_ok (n:=270) aU u1.o;obtain⟨p3,-⟩:=adW u1 270;have H:=u4.trans (adV 270 Y);rw[<-o3]at r;generalize zl 270 Y=Z at *;have g3:=alA Z;have k:Z.s0.mn=a/\Z.s0.mx=c/\Z.s0.name=[102,105,114,115,116]/\Z.s0.first=true:=H.a;have l:Z.s1.mn=x/\Z.s1.mx=y/\Z.s1.name=[111,116,104,101,114]/\Z.s1.first=false:=H.b;have d1:Y.s0.mn=a/\Y.s0.mx=c/\Y.s0.name=[102,105,114,115,116]/\Y.s0.first=true:=u4.a;have d2:Y.s1.mn=x/\Y.s1.mx=y/\Y.s1.name=[111,116,104,101,114]/\Y.s1.first=false:=u4.b;have j:¬a<1:=ah;have o:¬c<a:=ah;have p:¬255<c:=ah;have s:¬3<c:=ah;have A:¬x<1:=ah;have G:¬y<x:=ah;have I:¬255<y:=ah;have Q:¬3<y:=ah;cases hQ:LC Z with
 |false=>rw[hQ]at g3;simp only[newP,newS,dw,gG,kD,dZ,dH,zS,jJ,bG,aZ,tJ]at L r g3;rw[d1.1,d1.2.1,d1.2.2.1,d1.2.2.2,d2.1,d2.2.1,d2.2.2.1,d2.2.2.2]at r;rw[k.1,k.2.1,k.2.2.1,k.2.2.2,l.1,l.2.1,l.2.2.1,l.2.2.2]at g3;generalize(th++bk).map bg=W,((th++bk).length:Int)=X,th.map bg=N,bk.map bg=O,b.map kR=P,(b.length:Int)=na at *;refine aW ?_;simp -implicitDefEqProofs(maxSteps:=1000000) [d,i,e,g,j,o,p,s,z,A,G,I,Q,V,cT,cB,F,L,r,g3]
 |true=>
 rw[hQ]at g3;have q:=aBs hQ;obtain⟨v1,v2,g4⟩:=amW 6 0 Z aU (iG _) p3 q ah ah;obtain⟨w1,-,w3,w4⟩:=acF 6 p3 q;obtain⟨m,s2⟩:=aEM p3 q u2.1 u2.2;have T:=H.trans v1;have w5:(lN 6 Z).now<=40006:=by rw[w4];omega
 generalize lN 6 Z=R at *;have B:=axQ R w1.o (ajM w1.i.b) (ajM w1.i.a);have D:R.s0.mn=a/\R.s0.mx=c/\R.s0.name=[102,105,114,115,116]/\R.s0.first=true:=T.a;have E:R.s1.mn=x/\R.s1.mx=y/\R.s1.name=[111,116,104,101,114]/\R.s1.first=false:=T.b;cases t:(kJ a c x y).2 with
 |false=>rw[t]at h m;unfold Fin at m;rw[aj aA]at m;have v:=aaD R w1.o;have w:=aaE R w1.o;generalize xW R.s0 R.s1=l0,xW R.s1 R.s0=l1 at *;simp only[newP,newS,BO,dw,gG,kD,dZ,dH,Hz,zS,jJ,bG,aZ,tJ]at L r g3 g4 B v w;rw[d1.1,d1.2.1,d1.2.2.1,d1.2.2.2,d2.1,d2.2.1,d2.2.2.1,d2.2.2.2]at r;rw[k.1,k.2.1,k.2.2.1,k.2.2.2,l.1,l.2.1,l.2.2.1,l.2.2.2]at g3 g4;rw[D.1,D.2.1,D.2.2.1,D.2.2.2,E.1,E.2.1,E.2.2.1,E.2.2.2]at B v w;rw[m.1,m.2]at g4 B v w;generalize(th++bk).map bg=W,((th++bk).length:Int)=X,th.map bg=N,bk.map bg=O,b.map kR=P,(b.length:Int)=na at *;refine aW ?_;simp -implicitDefEqProofs(maxSteps:=1000000) [d,i,e,g,j,o,p,s,z,A,G,I,Q,V,cT,cB,F,L,r,g3,g4,B,h,v,w]
 |true=>
  have dn:=s2 t;rw[t]at h;have U:=w1;rw[t]at U m;unfold Fin at m;rw[au rfl]at m;obtain⟨k1,k2⟩:=(OI.way ⟨U,w3,m.1,m.2⟩)
  have m0:=aha k1 dn.1;have m1:=aha k2 dn.2;have l0:=ag9 w1.i.b dn.2;have l1:=ag9 w1.i.a dn.1;rw[l0,l1]at B;obtain⟨t1,t2⟩:=aAA m.1 m0;obtain⟨t3,t4⟩:=aAB m.2 m1;have v:=SE 0 R w1.o ah ah;have w:=SE 1 R w1.o ah ah;have g8:=alA R;rw[t1,t2]at v;rw[t3,t4]at w;rw[aBr w3]at g8;have w0:IntKind.i64.wrap 0=0:=rfl;simp only[newP,newS,dw,gG,kD,dZ,dH,zS,jJ,bG,aZ,tJ]at L r g3 g4 B v w g8;rw[d1.1,d1.2.1,d1.2.2.1,d1.2.2.2,d2.1,d2.2.1,d2.2.2.1,d2.2.2.2]at r;rw[k.1,k.2.1,k.2.2.1,k.2.2.2,l.1,l.2.1,l.2.2.1,l.2.2.2]at g3 g4;rw[D.1,D.2.1,D.2.2.1,D.2.2.2,E.1,E.2.1,E.2.2.1,E.2.2.2]at B v w g8;generalize(th++bk).map bg=W,((th++bk).length:Int)=X,th.map bg=N,bk.map bg=O,b.map kR=P,(b.length:Int)=na at *;refine aW ?_;simp -implicitDefEqProofs(maxSteps:=1000000) [d,i,e,g,j,o,p,s,z,A,G,I,Q,V,cT,cB,F,L,r,g3,g4,B,h,v,w,g8,w0]
def topLast(gs:Q1)(h:hasArgs [(true,[.int .u64,.int .u64]),(true,[.int .u64,.int .u64]),(false,[.list true VY]),(false,[.list true VY]),(false,[.list true ZK])] gs)(d:∀xs,GV.l xs∈gs->xs.length<=1048576):TT.lim 3 gs=some [.b true]:=by obtain⟨A,gs,rfl,b,h⟩:=aiA h;obtain⟨B,gs,rfl,c,h⟩:=aiA h;obtain⟨D,gs,rfl,k,h⟩:=aa8 h;obtain⟨E,gs,rfl,l,h⟩:=aa8 h;obtain⟨F,gs,rfl,m,h⟩:=aa8 h;obtain rfl:=awd h;obtain⟨n,r1,rfl,e,b⟩:=rE b;obtain⟨o,r2,rfl,g,b⟩:=rE b;obtain rfl:=Og b;obtain⟨p,rfl,-⟩:=J8 e;obtain⟨q,rfl,-⟩:=J8 g;obtain⟨n,r1,rfl,e,c⟩:=rE c;obtain⟨o,r2,rfl,g,c⟩:=rE c;obtain rfl:=Og c;obtain⟨r,rfl,-⟩:=J8 e;obtain⟨s,rfl,-⟩:=J8 g;obtain⟨i,t,rfl⟩:=ahG k;obtain⟨j,u,rfl⟩:=ahG l;obtain⟨a,v,rfl⟩:=aot m;have w:=d (i.map bg) aA;have x:=d (j.map bg) aA;have y:=d (a.map kR) aA;rw[gU]at w x y;exact aFT p q r s i j a ah ah ah v λf z=>(jQ.1 z).elim (t f) (u f)
