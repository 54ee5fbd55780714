/- What the trees compute: plain laws. -/
import Derived.Test.YtcnekfnipdihgaaGreatDoorKVe9
set_option linter.all false
namespace Go.Proofs.YtcnekfnipdihgaaGreatDoor
open Go Go.aP
set_option maxRecDepth 100000
namespace V
def aDx:aZ 6 1=[]:=rfl
def aug{b:aQ}{v:Int}(d:b.kind=2\/b.kind=5\/b.kind=6\/b.kind=7\/b.kind=8)(h1:1<=v)(f:v<=3)(a:aZ b.kind v≠[]):qj b.kind<=v:=by
 rcases d with e|e|e|e|e<;>rw[e]at a⊢
 ·exact h1
 ·exact h1
 ·rcases aev v 2 with c|c
  ·obtain rfl:v=1:=ah;exact absurd aDx a
  ·exact c
 ·exact h1
 ·exact h1
def alu{b:aQ}{v:Int}{t:Q2}(d:y7 b [])(j:b.kind=2\/b.kind=5\/b.kind=6\/b.kind=7\/b.kind=8)(h:t∈kD b v):iW t v=(b,[],0)/\1<=v/\v<=3:=by
 unfold kD at h;split at h;rotate_left
 ·cases h
 next e=>
 obtain rfl:=jI.1 h;unfold xB at e⊢;split at e;rotate_left
 ·next c=>exact absurd e c
 next c=>
 rw[au c];split at e
 ·exact absurd e aU
 next f=>
 rw[aj f];obtain⟨a,g,i,-,-⟩:=Jr c;obtain⟨k,l⟩:=aAG c;refine⟨?_,a,g⟩;simp only;unfold bytesV at f⊢;rw[asE (aiN i) a ah (aug j a g i) (afg d c) ah,aFF c (gZ v),agF d c (JR b.kind v).1 (aZ b.kind v) _ (λs m=>m),k,l];simp only[ne_eq,not_true_eq_false,if_false];rw[aj (λx=>x c)]
def Cont(V:Int)(xs:Q3)(a:Bool)(h:Sn)(t:Q2):Prop:=∀m b,iW t V=(m,b,0)->((m.kind=5\/m.kind=6)->zM xs (m.kind,m.epoch,m.base,m.t))/\(m.kind=7->a=true/\m.epoch<=h.1)
def aao{V:Int}{xs:Q3}{b:Bool}{h:Sn}{t:Q2}{a:List Int}(d:tZ a t)(f:∀k∈a,k≠5/\k≠6/\k≠7):Cont V xs b h t:=λm g e=>by have:=f _ (d V (by rw[e]));rw[e]at this;exact⟨λc=>absurd c (λc=>c.elim this.1 this.2.1),λc=>absurd c this.2.2⟩
def Cont.mono{V:Int}{xs b:Q3}{d a:Bool}{h f:Sn}{t:Q2}(c:Cont V xs d h t)(i:∀m,zM xs m->zM b m)(j:d=true->a=true)(l:h.1<=f.1):Cont V b a f t:=λm n e=>by obtain⟨o,g⟩:=c m n e;exact⟨λk=>i _ (o k),λk=>⟨j (g k).1,yT (g k).2 l⟩⟩
def kN.nil{xs:Q3}{told:List Tm}{back:List An}{k:List Sn}{b:Int}{c:Bool}{h:Sn}(f:kN xs told back k b c h):kN xs [] [] k b c h:=
 ⟨f.lead,f.keys,(λm d=>by cases d),(λa e=>by cases e),f.has,f.base,f.zero⟩
def aED{c v kd b d:Int}{t:List Row}{a:Bool}{h:Sn}(e:a=true):(lF c v kd b d t a h).2.2.1=true:=by
 unfold lF;repeat' split
 all_goals first|exact e|rfl
structure aeu(V:Int)(xo xr:Q3)(ko:List Sn)(bo:Int)(so:Bool)(ho:Sn)(r:bY)(q:bY×We×Int):Prop where
 a:kN xo [] [] ko bo q.1.sm q.1.h
 b:kN xr [] [] q.1.k q.1.b so ho
 h:r.h.1<=q.1.h.1
 m:r.sm=true->q.1.sm=true
 c:∀u∈q.2.1,Cont V xr q.1.sm q.1.h u
def aik{V:Int}{t:Q2}{r:bY}(O:kS r)(J:r.st=2->r.ver=V){j l:Q3}{A:List Sn}{B:Int}{o:Bool}{p:Sn}(d:kN j [] [] A B r.sm r.h)(f:kN l [] [] r.k r.b o p)(c:Cont V j o p t):aeu V j l A B o p r (fC t r):=by
 have still:∀e:Int,aeu V j l A B o p r (r,[],e):=λe=>⟨d,f,gZ _,id,λu b=>by cases b⟩
 unfold fC;by_cases y:(iW t (jr r)).2.2=0;rotate_left
 ·rw[aj y];exact still _
 rw[au y];have E:=Vw t (jr r);have F:r.st=2->((iW t (jr r)).1.kind=5\/(iW t (jr r)).1.kind=6->zM j ((iW t (jr r)).1.kind,(iW t (jr r)).1.epoch,(iW t (jr r)).1.base,(iW t (jr r)).1.t))/\((iW t (jr r)).1.kind=7->o=true/\(iW t (jr r)).1.epoch<=p.1):=λg=>by
  have e:jr r=V:=by unfold jr;rw[au g];exact J g
  rw[e]at y⊢;exact c _ _ (PU rfl (PU rfl y))
 generalize iW t (jr r)=D at *;obtain⟨m,q,e⟩:=D;simp only at E F⊢;unfold wJ;split
 ·obtain⟨L,M,P,Q,-⟩:=ail m r;refine⟨by rw[L,M];exact d,by rw[P,Q];exact f,by rw[M];exact gZ _,λe=>by rw[L];exact e,λu b=>?_⟩;unfold mg at b;have S:∀v n w,u∈kD (pW v n) w->Cont V l (mg m r).1.sm (mg m r).1.h u:=λv n w b=>aao (Fg b (by simp[pW]) (by simp[pW])).1 (λk s=>by rw[jI.1 s];simp[pW]);have g8:u∈kD qV 1->Cont V l (mg m r).1.sm (mg m r).1.h u:=λb=>aao (Fg b (by simp[qV]) (by simp[qV])).1 (λk s=>by rw[jI.1 s];simp[qV]);repeat' split at b
  all_goals first|(cases b;done)|exact S _ _ _ b|exact g8 b
 split
 ·unfold Bl;repeat' split
  all_goals exact⟨d,f,gZ _,id,λu b=>by cases b⟩
 split
 ·next G=>
  unfold mM;split;rotate_left
  ·exact still _
  next g=>
  have T:=(F g).1 G;obtain⟨z,i⟩:=aue d T (gK m q r.vs) r.vs;obtain⟨-,N,-⟩:=XR O.rc (gK m q r.vs) m.kind m.epoch m.base m.t E.t E.body.epoch;have s:=adT (gK m q r.vs) r.vs m.kind m.epoch m.base m.t r.sm r.h;have x:=@aED (gK m q r.vs) r.vs m.kind m.epoch m.base m.t r.sm r.h;simp only at z i⊢;generalize lF (gK m q r.vs) r.vs m.kind m.epoch m.base m.t r.sm r.h=R at *;obtain⟨a,e2,sm,h⟩:=R;simp only at z i N s x⊢;refine⟨z.nil,f,i,x,λu b=>?_⟩;split at b
  ·cases b
  next c0=>
  have U:y7 (jv a) []:=Po N rfl DW.good (by simp[jv]) rfl rfl;obtain⟨d1,-,-⟩:=alu U (ah:a.1=2\/a.1=5\/a.1=6\/a.1=7\/a.1=8) b;rw[J g]at d1;intro m' W H;rw[d1]at H;injection H with X H
  subst X;have Y:(jv a).kind=a.1:=rfl;refine⟨λk=>?_,λk=>z.back a aA k⟩;rw[Y]at k;omega
 split
 ·next Z=>
  unfold qH;split;rotate_left
  ·exact still _
  next g=>
  have I:=(ahy f (a:=(7,m.epoch,0,0)) (λ_=>(F g).2 Z)).1;exact⟨d,I,gZ _,id,λu b=>by cases b⟩
 split
 ·unfold noS;split
  ·have I:=(ahy f (a:=(8,0,0,0)) (λe=>by simp at e)).1;exact⟨d,I,gZ _,id,λu b=>by cases b⟩
  split
  ·exact⟨d,f,gZ _,id,λu b=>by cases b⟩
  ·exact still _
 ·exact still _
def akP{V:Int}{s:bY}(h:kS s)(i:s.st=2->s.ver=V){xs:Q3}{j:Bool}{l:Sn}(f:kN xs [] [] s.k s.b j l):∀u∈(jA s).1,Cont V xs s.sm s.h u:=by
 intro u a;unfold jA at a;split at a
 ·next n=>
  split at a;rotate_left
  ·cases a
  next c=>
  have d:=abR (v:=s.vs) (k:=s.k) (b:=s.b) c;obtain⟨o,-⟩:=axR (V:=s.vs) f.lead c;have g:(FP (ku s.vs s.k s.b).1).kind=(ku s.vs s.k s.b).1.1:=rfl;obtain⟨d1,-,-⟩:=alu (amn h.kp) (by rw[g];omega) a;rw[i n]at d1;intro m q e;rw[d1]at e;injection e with p e
  subst p;refine⟨λ_=>o,λk=>?_⟩;rw[g]at k;omega
 split at a
 ·split at a
  ·cases a
  ·exact aao (Fg a (by simp[tu]) (by simp[tu])).1 (λk d=>by rw[jI.1 d];simp[tu])
 ·cases a
def VS(s:bY):Prop:=s.st=2->s.vs=s.ver
def ah8{t:Q2}{s:bY}(h:VS s):VS (fC t s).1:=by
 unfold fC;split;rotate_left
 ·exact h
 unfold wJ mg Bl mM qH noS;repeat' split
 all_goals first|exact h|exact λ_=>rfl|exact λe=>absurd e aA
def azD{s:bY}(h:VS s):VS (qA s):=by
 intro e;refine h ?_;unfold qA jA at e;simp only at e;split at e
 ·next c=>exact c
 next c=>
 split at e
 ·split at e<;>simp at e
 ·exact e
def LP(k:Lk):Prop:=∀f∈k.f,∀u,kU f u=u
def aDf{now:Int}{t:Q2}{k:Lk}(e:yV k)(c:LP k):LP (nV now t k)/\∀y∈(nV now t k).h,y∈k.h\/(y.2.2=t/\now<=y.1):=by
 obtain⟨i,H,n⟩:=k;have a:=e.h;simp only at a;cases i with
 |nil=>exact⟨(λf h=>by cases h),λy b=>SL t 1 now H n a y b⟩
 |cons f r=>
  unfold nV;simp only;have d:∀g∈r,∀u,kU g u=u:=λg j=>c g (by simp[j]);split
  ·exact⟨d,λy b=>.inl b⟩
  ·refine⟨d,λy b=>?_⟩;rcases SL (kU f t) (f.c+1) (now+f.d) H n a y b with q|⟨q,l⟩
   ·exact .inl q
   ·exact .inr ⟨by rw[q];exact c f aA t,ah⟩
def S9{now:Int}:∀(T:We){k:Lk},yV k->LP k->(∀t∈T,t.length<=65536)->LP (jH now T k)/\∀y∈(jH now T k).h,y∈k.h\/((∃t∈T,y.2.2=jw t)/\now<=y.1)
 |[],k,a,b,_=>⟨b,λy c=>.inl c⟩
 |t::r,k,a,b,f=>by
  obtain⟨h1,-,-⟩:=Yc (now:=now) a (V4 (f t aA));obtain⟨g,h⟩:=aDf (now:=now) (t:=jw t) a b;obtain⟨i,j⟩:=S9 (now:=now) r h1 g (λu d=>f u (by simp[d]));refine⟨i,λy c=>?_⟩;rcases j y c with q|⟨⟨u,d,q⟩,e⟩
  ·rcases h y q with q|⟨q,e⟩
   ·exact .inl q
   ·exact .inr ⟨⟨t,aA,q⟩,e⟩
  ·exact .inr ⟨⟨u,by simp[d],q⟩,e⟩
def W0(V:Int)(xs:Q3)(x:Pr)(f:Q2):Prop:=∃t,f=jw t/\Ef x.s0 t/\Cont V xs x.s0.sm x.s0.h t
def W1(V:Int)(a:Q3)(x:Pr)(f:Q2):Prop:=∃t,f=jw t/\MF V x.s0 x.s1 t/\Cont V a x.s1.sm x.s1.h t
structure SI(V:Int)(ok:Bool)(xs ys:Q3)(x:Pr):Prop where
 s:pV V ok x.s0 x.s1
 a:kN xs [] [] x.s0.k x.s0.b x.s1.sm x.s1.h
 b:kN ys [] [] x.s1.k x.s1.b x.s0.sm x.s0.h
 v:VS x.s0/\VS x.s1
structure PI(V:Int)(ok:Bool)(xs ys:Q3)(x:Pr):Prop where
 i:SI V ok xs ys x
 f0:LP x.k0
 f1:LP x.k1
 t0:∀y∈x.k0.h,W0 V xs x y.2.2
 t1:∀y∈x.k1.h,W1 V ys x y.2.2
 o:gI x
 r:(∀e∈x.rc,0<=e.1/\e.1<=x.now)/\x.rc.Pairwise (λa b=>a.1<=b.1)
structure PL(x y:Pr):Prop where
 l:nO x.s0 x.s1 y.s0 y.s1
 h0:x.s0.h.1<=y.s0.h.1
 m0:x.s0.sm=true->y.s0.sm=true
 h1:x.s1.h.1<=y.s1.h.1
 m1:x.s1.sm=true->y.s1.sm=true
def PL.self(x:Pr):PL x x:=⟨nO.self _ _,gZ _,id,gZ _,id⟩
def PL.trans{x y z:Pr}(a:PL x y)(b:PL y z):PL x z:=⟨a.l.trans b.l,yT a.h0 b.h0,λe=>b.m0 (a.m0 e),yT a.h1 b.h1,λe=>b.m1 (a.m1 e)⟩
def PL.w0{V:Int}{xs:Q3}{x y:Pr}(p:PL x y){f:Q2}(w:W0 V xs x f):W0 V xs y f:=by obtain⟨t,e,h,c⟩:=w;exact⟨t,e,p.l.tp h,c.mono (λ_ h=>h) p.m0 p.h0⟩
def PL.w1{V:Int}{a:Q3}{x y:Pr}(p:PL x y){f:Q2}(w:W1 V a x f):W1 V a y f:=by obtain⟨t,e,h,c⟩:=w;exact⟨t,e,p.l.tq h,c.mono (λ_ h=>h) p.m1 p.h1⟩
def ak4{now:Int}{c:Xs}(h:(∀e∈c,0<=e.1/\e.1<=now)/\c.Pairwise (λa b=>a.1<=b.1))(g:0<=now)(a b:Int):(∀e∈c++[(now,a,b)],0<=e.1/\e.1<=now)/\(c++[(now,a,b)]).Pairwise (λa b=>a.1<=b.1):=by
 constructor
 ·intro e d;rcases iP.1 d with q|q
  ·exact h.1 e q
  ·rw[jI.1 q];exact⟨g,gZ _⟩
 ·refine aeP.2 ⟨h.2,List.pairwise_singleton _ _,λe d f i=>?_⟩;rw[jI.1 i];exact(h.1 e d).2
def akh{t:Q2}(h:t.length<=65536):((lC (jw t)).2.2=0/\¬(lC (jw t)).2.1<(jw t).length)/\(lC (jw t)).1=t:=by rw[akg h];exact⟨⟨rfl,Int.lt_irrefl _⟩,rfl⟩
def apd{V:Int}{ok:Bool}{xs k:Q3}{x:Pr}(h:PI V ok xs k x){f:Q2}(w:W0 V xs x f):PI V ok xs k (nC 1 f x)/\PL x (nC 1 f x):=by
 obtain⟨t,rfl,l,m⟩:=w;obtain⟨c,e⟩:=akh l.1;obtain⟨n,o,p⟩:=aAc h.i.s l;have a:=aik h.i.s.mF (λe=>(h.i.s.q2 e).2) h.i.a h.i.b m;have d:=(Vr (i:=1) (t:=jw t) h.o).1;have g:=JG t x.s1;unfold nC at d⊢;rw[au c,e,aj aU]at d⊢;obtain⟨r,s⟩:=S9 (now:=x.now) (fC t x.s1).2.1 h.o.k1 h.f1 (λu b=>(g u b).1);have pl:PL x {x with s1:=(fC t x.s1).1,k1:=jH x.now (fC t x.s1).2.1 x.k1,rc:=x.rc++[(x.now,1,(fC t x.s1).2.2)]}:=⟨o,gZ _,id,a.h,a.m⟩
 refine⟨⟨⟨n,a.a,a.b,h.i.v.1,ah8 h.i.v.2⟩,h.f0,r,λy j=>pl.w0 (h.t0 y j),λy j=>?_,d,ak4 h.r h.o.now _ _⟩,pl⟩;rcases s y j with q|⟨⟨u,b,q⟩,-⟩
 ·exact pl.w1 (h.t1 y q)
 ·exact⟨u,q,p u b,a.c u b⟩
def apc{V:Int}{ok:Bool}{xs d:Q3}{x:Pr}(h:PI V ok xs d x){f:Q2}(w:W1 V d x f):PI V ok xs d (nC 0 f x)/\PL x (nC 0 f x):=by
 obtain⟨t,rfl,l,m⟩:=w;obtain⟨c,e⟩:=akh l.1;obtain⟨n,o,p⟩:=ayM h.i.s l;have a:=aik h.i.s.iT (λe=>(h.i.s.p2 e).2.1) h.i.b h.i.a m;have g:=(Vr (i:=0) (t:=jw t) h.o).1;have j:=JG t x.s0;unfold nC at g⊢;rw[au c,e,au rfl]at g⊢;obtain⟨r,s⟩:=S9 (now:=x.now) (fC t x.s0).2.1 h.o.k0 h.f0 (λu b=>(j u b).1);have pl:PL x {x with s0:=(fC t x.s0).1,k0:=jH x.now (fC t x.s0).2.1 x.k0,rc:=x.rc++[(x.now,0,(fC t x.s0).2.2)]}:=⟨o,a.h,a.m,gZ _,id⟩
 refine⟨⟨⟨n,a.b,a.a,ah8 h.i.v.1,h.i.v.2⟩,r,h.f1,λy k=>?_,λy k=>pl.w1 (h.t1 y k),g,ak4 h.r h.o.now _ _⟩,pl⟩;rcases s y k with q|⟨⟨u,b,q⟩,-⟩
 ·exact pl.w0 (h.t0 y q)
 ·exact⟨u,q,p u b,a.c u b⟩
def agn{V:Int}{ok:Bool}{xs a:Q3}:∀(T:We){x:Pr},PI V ok xs a x->(∀f∈T,W0 V xs x f)->PI V ok xs a (rE 1 T x)/\PL x (rE 1 T x)
 |[],x,h,_=>⟨h,PL.self x⟩
 |t::r,x,h,w=>by obtain⟨h1,b⟩:=apd h (w t aA);obtain⟨c,d⟩:=agn r h1 (λf e=>b.w0 (w f (by simp[e])));exact⟨c,b.trans d⟩
def agm{V:Int}{ok:Bool}{xs a:Q3}:∀(T:We){x:Pr},PI V ok xs a x->(∀f∈T,W1 V a x f)->PI V ok xs a (rE 0 T x)/\PL x (rE 0 T x)
 |[],x,h,_=>⟨h,PL.self x⟩
 |t::r,x,h,w=>by obtain⟨h1,b⟩:=apc h (w t aA);obtain⟨c,d⟩:=agm r h1 (λf e=>b.w1 (w f (by simp[e])));exact⟨c,b.trans d⟩
def ava{V:Int}{ok:Bool}{xs c:Q3}{x:Pr}(h:PI V ok xs c x):PI V ok xs c (yE x)/\PL x (yE x):=by
 obtain⟨-,d2,d3⟩:=VB x.now x.k0.h.length x.k0.h rfl h.o.k0.h;obtain⟨d,a⟩:=agn (x:=Aa x) (fQ x.k0.h.length x.now x.k0.h).1 ⟨⟨h.i.s,h.i.a,h.i.b,h.i.v⟩,h.f0,h.f1,λy b=>h.t0 y (d2 y b),h.t1,⟨h.o.s0,h.o.s1,(Nu x.now h.o.k0).1,h.o.k1,h.o.now⟩,h.r⟩ (λf g=>by obtain⟨y,b,e⟩:=d3 f g;rw[<-e];exact h.t0 y b)
 exact⟨d,⟨a.l,a.h0,a.m0,a.h1,a.m1⟩⟩
def avc{V:Int}{ok:Bool}{xs c:Q3}{x:Pr}(h:PI V ok xs c x):PI V ok xs c (zl x)/\PL x (zl x):=by
 obtain⟨-,d2,d3⟩:=VB x.now x.k1.h.length x.k1.h rfl h.o.k1.h;obtain⟨d,a⟩:=agm (x:=Bf x) (fQ x.k1.h.length x.now x.k1.h).1 ⟨⟨h.i.s,h.i.a,h.i.b,h.i.v⟩,h.f0,h.f1,h.t0,λy b=>h.t1 y (d2 y b),⟨h.o.s0,h.o.s1,h.o.k0,(Nu x.now h.o.k1).1,h.o.now⟩,h.r⟩ (λf g=>by obtain⟨y,b,e⟩:=d3 f g;rw[<-e];exact h.t1 y b)
 exact⟨d,⟨a.l,a.h0,a.m0,a.h1,a.m1⟩⟩
def aor{V:Int}{ok:Bool}{xs a:Q3}{x:Pr}(h:PI V ok xs a x):PI V ok xs a (uT x)/\PL x (uT x):=by obtain⟨b,c⟩:=ava h;obtain⟨d,e⟩:=avc b;exact⟨d,c.trans e⟩
def alo{V:Int}{ok:Bool}{xs a:Q3}:∀(n:Nat){x:Pr},PI V ok xs a x->PI V ok xs a (vJ n x)/\PL x (vJ n x)
 |0,x,h=>⟨h,PL.self x⟩
 |n+1,x,h=>by
  unfold vJ;split
  ·exact⟨h,PL.self x⟩
  ·split
   ·obtain⟨h1,b⟩:=aor h;obtain⟨c,d⟩:=alo n h1;exact⟨c,b.trans d⟩
   ·exact⟨h,PL.self x⟩
def abY{V:Int}{ok:Bool}{xs a:Q3}{x:Pr}(h:PI V ok xs a x){n:Int}(b:x.now<=n):PI V ok xs a {x with now:=n}/\PL x {x with now:=n}:=
 ⟨⟨⟨h.i.s,h.i.a,h.i.b,h.i.v⟩,h.f0,h.f1,h.t0,h.t1,⟨h.o.s0,h.o.s1,h.o.k0,h.o.k1,yT h.o.now b⟩,⟨λe c=>⟨(h.r.1 e c).1,yT (h.r.1 e c).2 b⟩,h.r.2⟩⟩,⟨nO.self _ _,gZ _,id,gZ _,id⟩⟩
def anT{V:Int}{ok:Bool}{xs b:Q3}{x:Pr}(h:PI V ok xs b x)(a:Int):PI V ok xs b (uq a x)/\PL x (uq a x):=by obtain⟨c,d⟩:=abY h (n:=if x.now+1<a then a else x.now+1) (by split<;>omega);obtain⟨e,f⟩:=alo (dS x+1) c;exact⟨e,d.trans f⟩
def ahS{V:Int}{ok:Bool}{xs b:Q3}:∀(n:Nat)(last:Int){x:Pr},PI V ok xs b x->PI V ok xs b (wG n last x)/\PL x (wG n last x)
 |0,last,x,h=>⟨h,PL.self x⟩
 |n+1,last,x,h=>by
  unfold wG;split;rotate_left
  ·exact⟨h,PL.self x⟩
  next c=>
  split
  ·exact abY h ah
  ·split
   ·exact abY h ah
   ·next a _ _=>
    obtain⟨h1,d⟩:=anT h a;obtain⟨e,f⟩:=ahS n last h1;exact⟨e,d.trans f⟩
def aEb{V:Int}{ok:Bool}{xs a:Q3}{x:Pr}(h:PI V ok xs a x)(n:Int):PI V ok xs a (DU n x)/\PL x (DU n x):=ahS _ _ h
def azB{V:Int}{ok:Bool}{xs m:Q3}{x:Pr}(h:PI V ok xs m x)(e:Int):PI V ok xs m (lD e x)/\PL x (lD e x):=by
 have a:=(akO (e:=e) h.o).1;unfold lD at a⊢;split
 ·next c=>
  rw[au c]at a;obtain⟨f,n,g⟩:=ayN h.i.s;have i:=akP h.i.s.iT (λe=>(h.i.s.p2 e).2.1) h.i.a;obtain⟨j,k⟩:=S9 (now:=x.now) (jA x.s0).1 h.o.k0 h.f0 (OA x.s0);have pl:PL x {x with s0:=qA x.s0,k0:=jH x.now (jA x.s0).1 x.k0}:=⟨n,gZ _,id,gZ _,id⟩
  refine⟨⟨⟨f,h.i.a,h.i.b,azD h.i.v.1,h.i.v.2⟩,j,h.f1,λy b=>?_,λy b=>pl.w1 (h.t1 y b),a,h.r⟩,pl⟩;rcases k y b with q|⟨⟨u,d,q⟩,-⟩
  ·exact pl.w0 (h.t0 y q)
  ·exact⟨u,q,g u d,i u d⟩
 next c=>
 rw[aj c]at a;split
 ·next o=>
  rw[au o]at a;obtain⟨f,g⟩:=aAk h.i.s;have i:=akP h.i.s.mF (λe=>(h.i.s.q2 e).2) h.i.b;obtain⟨j,k⟩:=S9 (now:=x.now) (jA x.s1).1 h.o.k1 h.f1 (OA x.s1);rw[f]at a⊢;have pl:PL x {x with s1:=x.s1,k1:=jH x.now (jA x.s1).1 x.k1}:=⟨nO.self _ _,gZ _,id,gZ _,id⟩
  refine⟨⟨⟨h.i.s,h.i.a,h.i.b,h.i.v⟩,h.f0,j,λy b=>pl.w0 (h.t0 y b),λy b=>?_,a,h.r⟩,pl⟩;rcases k y b with q|⟨⟨u,d,q⟩,-⟩
  ·exact pl.w1 (h.t1 y q)
  ·exact⟨u,q,g u d,i u d⟩
 ·exact⟨h,PL.self x⟩
def Dz(v:Sn)(e:Int)(xs:Q3):Q3:=if e=0 then kK (.zu v.1) (sn v) xs else xs
def ahW{xs:Q3}{k:List Sn}{b:Int}{a:Bool}{h:Sn}(f:kN xs [] [] k b a h){v:Sn}{m:Tm}(g:zM xs m):zM (Dz v (jd v k b).1 xs) m:=by
 unfold Dz;split;rotate_left
 ·exact g
 next c=>
 obtain⟨-,d⟩:=XM c;refine ahU g λe i j=>?_;obtain⟨l,n,o⟩:=f.keys e i j;have:=d l n;omega
def azQ{V:Int}{ok:Bool}{xs f:Q3}{x:Pr}(h:PI V ok xs f x){e:Int}{v:Sn}(i:bZ v.2)(h0:0<=v.1/\v.1<18446744073709551616):
 PI V ok (if e=0 then Dz v (zB e v x) xs else xs) (if e=1 then Dz v (zB e v x) f else f) (jK e v x)/\PL x (jK e v x):=by
 have a:=(akU (e:=e) h.o i h0).1;unfold jK zB at *;by_cases c:e=0
 ·have d:¬e=1:=ah;rw[au c]at a⊢;rw[au c,aj d,au c];obtain⟨j,k⟩:=h.i.s.ajH (p':=E5 v x.s0) a.s0 rfl rfl rfl rfl rfl rfl;have pl:PL x {x with s0:=E5 v x.s0}:=⟨k,gZ _,id,gZ _,id⟩
  refine⟨⟨⟨j,ahz h.i.a i h0,h.i.b,h.i.v⟩,h.f0,h.f1,λy b=>?_,λy b=>pl.w1 (h.t1 y b),a,h.r⟩,pl⟩;obtain⟨t,l,n,o⟩:=pl.w0 (h.t0 y b);exact⟨t,l,n,o.mono (λm g=>ahW h.i.a g) id (gZ _)⟩
 rw[aj c]at a⊢;rw[aj c];by_cases d:e=1
 ·rw[au d]at a⊢;rw[au d,aj c,au d];obtain⟨j,k⟩:=h.i.s.ajI (q':=E5 v x.s1) a.s1 rfl rfl rfl rfl rfl rfl;have pl:PL x {x with s1:=E5 v x.s1}:=⟨k,gZ _,id,gZ _,id⟩
  refine⟨⟨⟨j,h.i.a,ahz h.i.b i h0,h.i.v⟩,h.f0,h.f1,λy b=>pl.w0 (h.t0 y b),λy b=>?_,a,h.r⟩,pl⟩;obtain⟨t,l,n,o⟩:=pl.w1 (h.t1 y b);exact⟨t,l,n,o.mono (λm g=>ahW h.i.b g) id (gZ _)⟩
 ·simp only[aj c,aj d]at a⊢;exact⟨h,PL.self x⟩
structure RX(xs:Q3):Prop where
 el:∀e g,gy (.zu e) xs=some g->∃s:Sn,g=sn s/\s.1=e/\Tb s.2
 up:∀s l:Sn,gy (.zu s.1) xs=some (sn s)->gy (.zu l.1) xs=some (sn l)->s.1<=l.1->kT l.2 s.2=true
def alq:RX []:=⟨λe g h=>by simp[gy]at h,λs l h=>by simp[gy]at h⟩
def azO{v:Sn}{k:List Sn}{b:Int}(h0:(jd v k b).1=0):oK v.2=0/\∀l,k.getLast? =some l->l.1<v.1/\kT v.2 l.2=true:=by
 unfold jd at h0;split at h0
 ·next c=>exact absurd h0 c
 next c=>
 split at h0
 ·cases h0
 refine⟨Classical.not_not.1 c,λl a=>?_⟩;rw[a]at h0;simp only at h0;split at h0
 ·cases h0
 split at h0
 ·cases h0
 next e d=>exact⟨ah,by simpa using d⟩
def alr{xs:Q3}{k:List Sn}{b:Int}{u:Bool}{h:Sn}(f:kN xs [] [] k b u h)(r:RX xs){v:Sn}(w:bZ v.2)(h0:0<=v.1/\v.1<18446744073709551616):RX (Dz v (jd v k b).1 xs):=by
 unfold Dz;split;rotate_left
 ·exact r
 next m=>
 obtain⟨F,x⟩:=azO m;obtain⟨y,-⟩:=XM m;have z:=ac5 (b:=b) f.lead.kp w h0;have n:=z.tb v (Eb y);have o:jO v.2:=n.ok.2.1;have below:∀s:Sn,gy (.zu s.1) xs=some (sn s)->s.1<v.1/\kT v.2 s.2=true:=λs a=>by obtain⟨l,p,A⟩:=f.keys _ _ a;obtain⟨G,B⟩:=x l p;have d:=f.lead.map l (Eb p);obtain⟨H,D,-,q⟩:=r.el _ _ a;rw[<-Ld D]at q;obtain⟨I,E,-,t⟩:=r.el _ _ d;rw[<-Ld E]at t;exact⟨ah,afs o t.ok.2.1 q.ok.2.1 B (r.up s l a d A)⟩
 constructor
 ·intro e g i;rw[sO]at i;split at i
  ·next c=>injection i with i;exact⟨v,i.symm,c.symm,n⟩
  ·exact r.el e g i
 ·intro s l a d j;rw[sO]at a d;split at d
  ·injection d with d
   obtain rfl:=Ld d;split at a
   ·injection a with a
    obtain rfl:=Ld a;exact anS o
   ·exact(below s a).2
  ·split at a
   ·next c=>
    have:=(below l d).1;omega
   ·exact r.up s l a d j
def asJ{xs:Q3}{k:List Sn}{b:Int}{i:Bool}{h:Sn}(f:kN xs [] [] k b i h)(r:RX xs):h.1<=(eY k).1/\(h.1=(eY k).1->h=eY k)/\kT (eY k).2 h.2=true:=by
 unfold eY;cases c:k.getLast? with
 |none=>
  simp only[uS];rcases f.has with⟨-,a,-⟩|⟨-,a⟩
  ·obtain⟨l,q,-⟩:=f.keys _ _ a;rw[c]at q;cases q
  ·rw[a];exact⟨Int.le_refl _,λ_=>rfl,afr _⟩
 |some l=>
  simp only[sH];obtain⟨d,j⟩:=f.le_last c;have g:=Eb c;rcases f.has with⟨m,a,-⟩|⟨-,a⟩
  ·exact⟨d,j m,r.up h l a (f.lead.map l g) d⟩
  ·have:=f.lead.kp.pos l g;refine⟨d,λe=>?_,by rw[a];exact afr _⟩;rw[a]at e;simp only[zS]at e;omega
def Pg(a b:bY):Bool:=(a.st==2 ||a.ver==0)&&(b.st==2 ||b.ver==0)&&(!(a.st==2&&b.st==2) ||a.ver==b.ver)
def aFq{V:Int}{ok:Bool}{p q:bY}(h:pV V ok p q):Pg p q=true:=by
 unfold Pg;have d:=h.p2;have e:=h.q2;have c:=h.pz;have f:=h.qz;by_cases a:p.st=2
 ·obtain⟨-,g,b⟩:=d a;obtain⟨-,i⟩:=e b;simp[a,b,g,i]
 ·by_cases b:q.st=2
  ·simp[a,b,c a]
  ·simp[a,b,c a,f b]
def SmT(t:List Row):Prop:=∀r∈t,(dN r.1).length<=100
def Bg(e:GV)(l:Q3):Q3:=e::l
def asX(x:Pr)(b:gI x):TT.lim 48 (Bg (.zq 0) (bU x))=some (GU x.s0):=by have a:=Yd x.s0 b.s0;simp only[Bg,bU,GU,dQ,cZ,bg,aW]at a⊢;refine aB ?_;simp -implicitDefEqProofs[a]
def asY(x:Pr)(b:gI x):TT.lim 48 (Bg (.zq 1) (bU x))=some (GU x.s1):=by have a:=Yd x.s1 b.s1;simp only[Bg,bU,GU,dQ,cZ,bg,aW]at a⊢;refine aB ?_;simp -implicitDefEqProofs[a]
def asZ(e:Int)(x:Pr)(h0:¬e=0)(h1:¬e=1):TT.lim 48 (Bg (.zq e) (bU x))=some [.zq 1]:=by simp only[Bg,bU,dQ,cZ,bg,aW];refine aB ?_;simp -implicitDefEqProofs[h0,h1]
def QN(x:Pr)(b:gI x):TT.lim 223 (bU x)=some [.zq 0,.zu x.s0.h.1,.l (x.s0.h.2.map row),.l (x.s0.k.map sn)]:=by have a:=Yd x.s0 b.s0;simp only[bU,dQ,cZ,bg,aW]at a⊢;refine aB ?_;simp -implicitDefEqProofs[a]
def QO(x:Pr)(b:gI x):TT.lim 224 (bU x)=some [.zq 0,.zu x.s1.h.1,.l (x.s1.h.2.map row),.l (x.s1.k.map sn)]:=by have a:=Yd x.s1 b.s1;simp only[bU,dQ,cZ,bg,aW]at a⊢;refine aB ?_;simp -implicitDefEqProofs[a]
def ag3(x:Pr)(a:gI x):TT.lim 223 (bU x)=some [.zq 0,.zu x.s0.h.1,.l (x.s0.h.2.map row),.l (x.s0.k.map sn)]:=QN x a
def ag4(x:Pr)(a:gI x):TT.lim 224 (bU x)=some [.zq 0,.zu x.s1.h.1,.l (x.s1.h.2.map row),.l (x.s1.k.map sn)]:=QO x a
def DI(s:bY)(a:kS s):TT.lim 225 (cZ s)=some [.zq 0,.zu s.h.1,.l (s.h.2.map row),.b s.sm]:=by have h:=avk (.zq s.vs) s.sm s.h a.rc.good a.rc.no;unfold cZ;refine aB ?_;simp -implicitDefEqProofs[h]
def BO(s:bY)(a:kS s):TT.lim 54 (cZ s)=some [.zq 0,.zu (eY s.k).1,.l ((eY s.k).2.map row),.b s.k.getLast?.isSome]:=by have h:=awJ (.zq s.vs) (.zu s.b) s.k a.kp;unfold cZ;refine aB ?_;simp -implicitDefEqProofs[h]
def Pm(r o:bY):Q3:=[.zu r.h.1,.l (r.h.2.map row),.zu (eY o.k).1,.l ((eY o.k).2.map row),.b r.sm,.b o.k.getLast?.isSome]
def aFB(x:Pr)(a:gI x):TT.lim 233 (bU x)=some (.zq 0::(Pm x.s0 x.s1++Pm x.s1 x.s0)):=by have b:=ag3 x a;have c:=ag4 x a;have d:=DI x.s0 a.s0;have e:=DI x.s1 a.s1;have f:=BO x.s0 a.s0;have g:=BO x.s1 a.s1;simp only[Bg,bU,GU,dQ,cZ,Pm,bg,aW]at b c d e f g⊢;generalize eY x.s0.k=h,eY x.s1.k=i at *;refine aB ?_;simp -implicitDefEqProofs[b,c,d,e,f,g]
def aFr{p q:bY}(h:Pg p q=true):TT.lim 235 (cZ q++cZ p)=some [.zq 0,.b true]:=by
 unfold Pg at h;simp only[aO,oV,beq_iff_eq,wU,Bool.and_eq_false_iff,beq_eq_false_iff_ne]at h;obtain⟨⟨g,d⟩,b⟩:=h;simp only[cZ,bg,aW];by_cases c:p.st=2
 ·have i:(p.st=2)=True:=eq_true c;by_cases a:q.st=2
  ·have e:p.ver=q.ver:=by
    rcases b with(b|b)|b
    ·exact absurd c b
    ·exact absurd a b
    ·exact b
   refine aB ?_;simp -implicitDefEqProofs[c,a,e]
  ·have e:q.ver=0:=d.resolve_left a;refine aB ?_;simp -implicitDefEqProofs[c,a,e]
 ·have f:p.ver=0:=g.resolve_left c;by_cases a:q.st=2
  ·refine aB ?_;simp -implicitDefEqProofs[c,a,f]
  ·have e:q.ver=0:=d.resolve_left a;refine aB ?_;simp -implicitDefEqProofs[c,a,e,f]
def an3(x:Pr)(a:gI x)(h:Pg x.s0 x.s1=true):TT.lim 234 (bU x)=some [.zq 0,.b true]:=by have b:=ag3 x a;have c:=ag4 x a;have d:=aFr h;simp only[Bg,bU,GU,dQ,cZ,bg,aW]at b c d⊢;refine aB ?_;simp -implicitDefEqProofs[b,c,d]
def ald(now:Int)(l:Xs)(p:l.length<=1000000)(h1:∀e∈l,e.1<=now)(j:l.Pairwise λa b=>a.1<=b.1):∀(m i:Nat)(a:Int),i+m=l.length->(∀e∈l.drop i,a<=e.1)->TT.lim 239 [.zu now,.zu a,.l (l.map oZ),.zq (l.length:Int),.zq (i:Int)]=some [.zq 1]
 |0,i,a,hi,_=>by have c:¬((i:Int)<l.length):=ah;refine aB ?_;simp -implicitDefEqProofs[c]
 |m+1,i,a,hi,q=>by
  have d:i<l.length:=ah;have c:(i:Int)<l.length:=ah;have r:IntKind.i64.wrap ((i:Int)+1)=((i+1:Nat):Int):=by rw[wrap64 ah ah];omega
  have f:at2 3 (some (.l (l.map oZ))) (some (.zq (i:Int)))=some (oZ l[i]):=by rw[dA,lM,tY,iO,bV d];rfl
  have k:l.drop i=l[i]::l.drop (i+1):=iG d;have s:=q l[i] (by rw[k];exact PD);have t:=h1 l[i] (gY d);have n:(l.drop i).Pairwise λa b=>a.1<=b.1:=j.sublist (Y5 _ _);rw[k]at n;have o:=ald now l p h1 j m (i+1) l[i].1 ah (jm.1 n).1;rw[<-r]at o;generalize l[i]=e,l.map oZ=u,(l.length:Int)=v at *;have g:¬e.1<a:=ah;have h:¬now<e.1:=ah;refine aB ?_;simp -implicitDefEqProofs[-dA,c,f,g,h,o]
def aAO(now:Int)(l:Xs)(h0:∀e∈l,0<=e.1)(c:l.length<=1000000)(h1:∀e∈l,e.1<=now)(d:l.Pairwise λa b=>a.1<=b.1):TT.lim 238 [.l (l.map oZ),.zu now]=some [.b true]:=by
 have h:=ald now l c h1 d l.length 0 0 ah h0;have f:((l.map oZ).length:Int)=(l.length:Int):=by rw[gG]
 simp only[rY]at h;generalize l.map oZ=g,(l.length:Int)=i at *;refine aV ?_;simp -implicitDefEqProofs[f,h]
def aDb(a b:Int)(s t:GV)(h:¬a=b):TT.lim 230 [.zu a,s,.zu b,t]=some [.zq 0,.b false]:=by have c:¬b=a:=λe=>h e.symm;refine aB ?_;simp -implicitDefEqProofs[h,c]
structure LvE(r o:bY):Prop where
 eq:r.h.1=(eY o.k).1->r.h=eY o.k
 tl:Tb (eY o.k).2
structure Ur(r o:bY):Prop extends LvE r o where
 le:r.h.1<=(eY o.k).1
 at_:kT (eY o.k).2 r.h.2=true
 th:Tb r.h.2
def afG{r o:bY}(h:Ur r o):TT.lim 236 [.g (Pm r o)]=some [.b true]:=by have a:=ZI (eY o.k).2 r.h.2 h.tl.ok.1 h.th.ok.1 h.tl.few h.th.few;rw[h.at_]at a;unfold Pm;generalize eY o.k=L at *;refine aV ?_;simp -implicitDefEqProofs[a]
structure TY(x:Pr):Prop where
 a:Ur x.s0 x.s1
 b:Ur x.s1 x.s0
 v:Pg x.s0 x.s1=true
 r0:∀e∈x.rc,0<=e.1
 r1:∀e∈x.rc,e.1<=x.now
 r2:x.rc.Pairwise λa b=>a.1<=b.1
def an4(x:Pr)(h:TY x)(a:x.rc.length<=100000):TT.lim 237 (bU x)=some [.zq 0,.b true]:=by have b:=aoW x.rc a;have c:=aAO x.now x.rc h.r0 ah h.r1 h.r2;simp only[bU,dQ,cZ,bg,aW];refine aB ?_;simp -implicitDefEqProofs[b,c]
set_option maxHeartbeats 2000000 in
def an5(x:Pr)(l:gI x)(h:TY x)(p:x.rc.length<=100000):TT.lim 232 (bU x)=some [.zq 0]:=by
 have a:=aFB x l;have b:=an3 x l h.v;have d:=an4 x h p;have i:=afG h.a;have f:=afG h.b;have m:=h.a.le;have n:=h.b.le;have j:x.s0.h.1=(eY x.s1.k).1->TT.lim 230 [.zu (eY x.s1.k).1,.l ((eY x.s1.k).2.map row),.zu x.s0.h.1,.l (x.s0.h.2.map row)]=some [.zq 0,.b true]:=λc=>by rw[h.a.eq c];exact alx _ h.a.tl.good
 have e:x.s1.h.1=(eY x.s0.k).1->TT.lim 230 [.zu (eY x.s0.k).1,.l ((eY x.s0.k).2.map row),.zu x.s1.h.1,.l (x.s1.h.2.map row)]=some [.zq 0,.b true]:=λc=>by rw[h.b.eq c];exact alx _ h.b.tl.good
 unfold Pm at a i f;generalize eY x.s0.k=o,eY x.s1.k=q at *;simp only[bU,dQ,cZ,bg,aW]at a b d⊢;by_cases k:x.s0.h.1=q.1
 ·have j:=j k;rw[k]at a b i d j⊢;by_cases g:x.s1.h.1=o.1
  ·have e:=e g;rw[g]at a b f d e⊢;refine aB ?_;simp -implicitDefEqProofs[a,b,i,f,d,j,e]
  ·refine aB ?_;simp -implicitDefEqProofs[a,b,i,f,d,j,n,g]
 ·by_cases g:x.s1.h.1=o.1
  ·have e:=e g;rw[g]at a b f d e⊢;refine aB ?_;simp -implicitDefEqProofs[a,b,i,f,d,e,m,k]
  ·refine aB ?_;simp -implicitDefEqProofs[a,b,i,f,d,m,n,k,g]
def XW(x:Pr)(b:gI x)(h:TY x)(c:x.rc.length<=100000):TT.lim 231 (bU x)=some [.zq 0]:=by have a:=an5 x b h c;simp only[bU,dQ,cZ,bg,aW]at a⊢;refine aB ?_;simp -implicitDefEqProofs[a]
def afl(a:Ap)(s:bY)(d:kS s)(h:bZ a.x.2):
 TT.lim 53 ([.i .u8 a.jo,.zq a.en,.zu a.x.1,.l (a.x.2.map row),.zu a.ep,.i .u8 a.tk]++cZ s)=some [.zq 0,.zu (zA a.x a.ep s.k).1,.l ((zA a.x a.ep s.k).2.map row)]:=by
 have c:=BO s d;have e:=afo (eY s.k) ((eY s.k).1,IntKind.u64.wrap ((eY s.k).1+a.ep),a.x.2) (Xc d.kp).good h;unfold zA;have f:GV.g [.zu (eY s.k).1,.l ((eY s.k).2.map row)]=sn (eY s.k):=rfl;have g:GV.g [.zu (eY s.k).1,.zu (IntKind.u64.wrap ((eY s.k).1+a.ep)),.l (a.x.2.map row)]=dl ((eY s.k).1,IntKind.u64.wrap ((eY s.k).1+a.ep),a.x.2):=rfl;generalize ny (eY s.k) ((eY s.k).1,IntKind.u64.wrap ((eY s.k).1+a.ep),a.x.2)=A at *;obtain⟨⟨j,k⟩,i⟩:=A;simp only[cZ,bg,aW]at c⊢;generalize eY s.k=L at *;by_cases b:i=0
 ·rw[aj (by simpa using b)];subst b;refine aB ?_;simp -implicitDefEqProofs[c,f,g,e]
 ·rw[au b];refine aB ?_;simp -implicitDefEqProofs[c,f,g,e,b]
def rC(a:Ap)(x:Pr):Sn:=if a.jo.tmod 8=0 then a.x else if a.en=0 then zA a.x a.ep x.s0.k else zA a.x a.ep x.s1.k
noncomputable def eU (a:Ap) (x:Pr):Pr:=if a.jo.tmod 8=0\/a.jo.tmod 8=1\/a.jo.tmod 8=2 then jK a.en (rC a x) x else if a.jo.tmod 8=3\/a.jo.tmod 8=4 then lD a.en x else if a.jo.tmod 8=5\/a.jo.tmod 8=6 then DU a.tk x else x
def yB(a:Ap):Q3:=[.i .u8 a.jo,.zq a.en,.zu a.x.1,.l (a.x.2.map row),.zu a.ep,.i .u8 a.tk]
def azR(e:Int)(v:Sn)(x:Pr):(jK e v x).rc=x.rc/\(jK e v x).k0=x.k0/\(jK e v x).k1=x.k1/\(jK e v x).s0.st=x.s0.st/\(jK e v x).s0.ver=x.s0.ver/\(jK e v x).s0.vs=x.s0.vs/\(jK e v x).s0.sm=x.s0.sm/\(jK e v x).s0.h=x.s0.h/\(jK e v x).s1.st=x.s1.st/\(jK e v x).s1.ver=x.s1.ver/\(jK e v x).s1.vs=x.s1.vs/\(jK e v x).s1.sm=x.s1.sm/\(jK e v x).s1.h=x.s1.h/\(jK e v x).now=x.now:=by
 unfold jK E5;split
 ·simp
 split
 ·simp
 ·simp
def azC(e:Int)(x:Pr):(lD e x).rc=x.rc/\(lD e x).s0.ver=x.s0.ver/\(lD e x).s0.vs=x.s0.vs/\(lD e x).s0.sm=x.s0.sm/\(lD e x).s0.h=x.s0.h/\(lD e x).s0.k=x.s0.k/\(lD e x).s0.b=x.s0.b/\(lD e x).s1.ver=x.s1.ver/\(lD e x).s1.vs=x.s1.vs/\(lD e x).s1.sm=x.s1.sm/\(lD e x).s1.h=x.s1.h/\(lD e x).s1.k=x.s1.k/\(lD e x).s1.b=x.s1.b/\(lD e x).now=x.now:=by
 unfold lD qA;split
 ·simp
 split
 ·simp
 ·simp
def aav (a:Ap) (v:Sn) (x:Pr) (l:bZ v.2) (m:gI x) (n:∀g h i j k:GV,TT.lim 32 ([.zq a.en,.zu v.1,.l (v.2.map row)]++bU x)=some [.zq 0,g,h,i,j,k]->
 TT.lim 31 (yB a++bU x)=some (.zq 0::.zu x.now::.l (x.rc.map oZ)::(dQ x.k1++(dQ x.k0++[.zq x.s1.st,.zq x.s1.ver,.zq x.s1.vs,.b x.s1.sm,.zu x.s1.h.1,.l (x.s1.h.2.map row),h,i,.zq x.s0.st,.zq x.s0.ver,.zq x.s0.vs,.b x.s0.sm,.zu x.s0.h.1,.l (x.s0.h.2.map row),j,k])))):
 TT.lim 31 (yB a++bU x)=some (.zq 0::.zu (jK a.en v x).now::iF (jK a.en v x)):=by
 have o:=n _ _ _ _ _ (ayQ a.en v x l m);obtain⟨p,q,r,s,t,u,w,y,z,b,c,d,e,f⟩:=azR a.en v x;rw[o];unfold iF kX;rw[p,q,r,s,t,u,w,y,z,b,c,d,e,f];rfl
set_option maxHeartbeats 8000000 in
def Vz(a:Ap)(x:Pr)(m:uN a)(i:bZ a.x.2)(b:gI x)(B:x.now<=700000000000)(D:dS x<=80000):
 TT.lim 31 (yB a++bU x)=some (.zq 0::.zu (eU a x).now::iF (eU a x)):=by
 have E:=m.jo;unfold eU;by_cases d0:a.jo.tmod 8=0
 ·rw[au (.inl d0)];have j:rC a x=a.x:=by unfold rC;rw[au d0]
  rw[j];refine aav a a.x x i b λg u w y z c=>?_;simp only[bU,yB,dQ,cZ,bg,aW]at c⊢;refine aB ?_;simp -implicitDefEqProofs[d0,c]
 by_cases d12:a.jo.tmod 8=1\/a.jo.tmod 8=2
 ·rw[au (.inr d12)];by_cases k:a.en=0
  ·have j:rC a x=zA a.x a.ep x.s0.k:=by unfold rC;rw[aj d0,au k]
   rw[j];have e:=afl a x.s0 b.s0 i;have d:=asX x b;refine aav a _ x (Xv b.s0.kp i m.v).1 b λg u w y z c=>?_;generalize zA a.x a.ep x.s0.k=v at *;simp only[Bg,bU,yB,GU,dQ,cZ,bg,aW]at c e d⊢;rw[k]at c e⊢;rcases d12 with d1|d1
   ·refine aB ?_;simp -implicitDefEqProofs[d1,c,e,d]
   ·refine aB ?_;simp -implicitDefEqProofs[d1,c,e,d]
  by_cases o:a.en=1
  ·have j:rC a x=zA a.x a.ep x.s1.k:=by unfold rC;rw[aj d0,aj k]
   rw[j];have e:=afl a x.s1 b.s1 i;have d:=asY x b;refine aav a _ x (Xv b.s1.kp i m.v).1 b λg u w y z c=>?_;generalize zA a.x a.ep x.s1.k=v at *;simp only[Bg,bU,yB,GU,dQ,cZ,bg,aW]at c e d⊢;rw[o]at c e⊢;rcases d12 with d1|d1
   ·refine aB ?_;simp -implicitDefEqProofs[d1,c,e,d]
   ·refine aB ?_;simp -implicitDefEqProofs[d1,c,e,d]
  ·have F:jK a.en (rC a x) x=x:=by unfold jK;rw[aj k,aj o]
   rw[F];have d:=asZ a.en x k o;simp only[Bg,bU,yB,iF,kX,dQ,cZ,bg,aW]at d⊢;rcases d12 with d1|d1
   ·refine aB ?_;simp -implicitDefEqProofs[d1,d]
   ·refine aB ?_;simp -implicitDefEqProofs[d1,d]
 rw[aj (λh=>h.elim d0 d12)];by_cases QE:a.jo.tmod 8=3\/a.jo.tmod 8=4
 ·rw[au QE];have f:=ayP a.en x b ah ah;obtain⟨G,H,I,J,L,M,N,O,P,p,q,r,s,t⟩:=azC a.en x;generalize lD a.en x=Z at *;simp only[bU,yB,iF,kX,dQ,cZ,bg,aW]at f⊢;rw[G,H,I,J,L,M,N,O,P,p,q,r,s,t];rcases QE with d1|d1
  ·refine aB ?_;simp -implicitDefEqProofs[d1,f]
  ·refine aB ?_;simp -implicitDefEqProofs[d1,f]
 rw[aj QE];by_cases QF:a.jo.tmod 8=5\/a.jo.tmod 8=6
 ·rw[au QF];have l:=m.tk;have f:=aEc a.tk x l.1 ah b B D;obtain⟨-,-,Q⟩:=step_ok (n:=a.tk) l.1 b;have A:=jL (a.tk);rw[<-Q]at f;generalize DU a.tk x=Z at *;simp only[bU,yB,iF,kX,dQ,cZ,bg,aW]at f⊢;rcases QF with d1|d1
  ·refine aB ?_;simp -implicitDefEqProofs[d1,A,f]
  ·refine aB ?_;simp -implicitDefEqProofs[d1,A,f]
 ·rw[aj QF];have d7:a.jo.tmod 8=7:=by have:=Int.tmod_nonneg 8 E.1;have:=Int.tmod_lt_of_pos a.jo (show(0:Int)<8 by decide);omega
  simp only[bU,yB,iF,kX,dQ,cZ,bg,aW];refine aB ?_;simp -implicitDefEqProofs[d7]
def ML(a:Ap)(x:Pr)(xs:Q3):Q3:=if(a.jo.tmod 8=0\/a.jo.tmod 8=1\/a.jo.tmod 8=2)/\a.en=0 then Dz (rC a x) (zB a.en (rC a x) x) xs else xs
def MN(a:Ap)(x:Pr)(b:Q3):Q3:=if(a.jo.tmod 8=0\/a.jo.tmod 8=1\/a.jo.tmod 8=2)/\a.en=1 then Dz (rC a x) (zB a.en (rC a x) x) b else b
def Zz{a:Ap}{x:Pr}(b:uN a)(c:bZ a.x.2)(d:gI x):bZ (rC a x).2/\0<=(rC a x).1/\(rC a x).1<18446744073709551616:=by
 unfold rC;split
 ·exact⟨c,b.v⟩
 split
 ·exact Xv d.s0.kp c b.v
 ·exact Xv d.s1.kp c b.v
def P7{V:Int}{ok:Bool}{xs b:Q3}{x:Pr}(h:PI V ok xs b x){a:Ap}(d:uN a)(e:bZ a.x.2):PI V ok (ML a x xs) (MN a x b) (eU a x)/\PL x (eU a x):=by
 obtain⟨f,g⟩:=Zz d e h.o;unfold ML MN eU;by_cases c:a.jo.tmod 8=0\/a.jo.tmod 8=1\/a.jo.tmod 8=2
 ·simp only[c,true_and,if_true];exact azQ h f g
 simp only[c,false_and,if_false];split
 ·exact azB h _
 split
 ·exact aEb h _
 ·exact⟨h,PL.self x⟩
def P6{a:Ap}{x:Pr}(g:uN a)(i:bZ a.x.2)(b:gI x):gI (eU a x)/\dS (eU a x)<=dS x+6/\(eU a x).now<=x.now+255:=by
 obtain⟨j,k⟩:=Zz g i b;have d:=g.tk;unfold eU;split
 ·obtain⟨c,f,h⟩:=akU (e:=a.en) b j k;exact⟨c,ah,ah⟩
 split
 ·obtain⟨c,f,h⟩:=akO (e:=a.en) b;exact⟨c,f,ah⟩
 split
 ·obtain⟨c,f,h⟩:=step_ok d.1 b;exact⟨c,ah,ah⟩
 ·exact⟨b,ah,ah⟩
def azM(e:Int)(v:Sn)(x:Pr):Fix x (jK e v x):=by
 unfold jK;split
 ·exact⟨⟨rfl,rfl,rfl,rfl⟩,rfl,rfl,rfl,rfl⟩
 split
 ·exact⟨⟨rfl,rfl,rfl,rfl⟩,rfl,rfl,rfl,rfl⟩
 ·exact Fix.refl x
def azA(e:Int)(x:Pr):Fix x (lD e x):=by
 unfold lD;split
 ·exact⟨⟨rfl,rfl,rfl,rfl⟩,rfl,rfl,rfl,rfl⟩
 split
 ·exact⟨⟨rfl,rfl,rfl,rfl⟩,rfl,rfl,rfl,rfl⟩
 ·exact Fix.refl x
def aEa(n:Int)(x:Pr):Fix x (DU n x):=ahQ _ _ _
def UM(a:Ap)(x:Pr):Fix x (eU a x):=by
 unfold eU;split
 ·exact azM _ _ _
 split
 ·exact azA _ _
 split
 ·exact aEa _ _
 ·exact Fix.refl x
def P8{V:Int}{ok:Bool}{xs b:Q3}{x:Pr}(h:PI V ok xs b x){a:Ap}(g:uN a)(i:bZ a.x.2)(r:RX xs/\RX b):RX (ML a x xs)/\RX (MN a x b):=by
 obtain⟨d,f⟩:=Zz g i h.o;unfold ML MN;constructor
 ·split
  ·next c=>
   have e:zB a.en (rC a x) x=(jd (rC a x) x.s0.k x.s0.b).1:=by unfold zB;rw[au c.2]
   rw[e];exact alr h.i.a r.1 d f
  ·exact r.1
 ·split
  ·next c=>
   have e:zB a.en (rC a x) x=(jd (rC a x) x.s1.k x.s1.b).1:=by unfold zB;rw[dL,au c.2]
   rw[e];exact alr h.i.b r.2 d f
  ·exact r.2
def ali{xs:Q3}{r o:bY}(f:kN xs [] [] o.k o.b r.sm r.h)(rx:RX xs):Ur r o:=by obtain⟨a,b,c⟩:=asJ f rx;exact⟨⟨b,Xc f.lead.kp⟩,a,c,f.tb⟩
def Wj{V:Int}{ok:Bool}{xs b:Q3}{x:Pr}(h:PI V ok xs b x)(r:RX xs/\RX b):TY x:=
 ⟨ali h.i.b r.2,ali h.i.a r.1,aFq h.i.s,λe a=>(h.r.1 e a).1,λe a=>(h.r.1 e a).2,h.r.2⟩
def NU(f:Fa):Prop:=f.cu<=0/\(f.sQ=0\/f.at_<0)
def aDo(u:Q2)(k:Nat):u.set k (u.getD k 0)=u:=by
 apply IK;intro i;rw[aeJ];split
 ·next e=>
  subst e;split
  ·next h=>simp[List.getD,bV h]
  ·next h=>rw[wV ah]
 ·rfl
def aia{f:Fa}(h:NU f)(u:Q2):kU f u=u:=by
 obtain⟨b,a⟩:=h;have e:zZ f u=u:=by unfold zZ;rw[aj (λc=>ah)]
 unfold kU;rw[e];unfold Lm;split
 ·rfl
 split
 ·rfl
 ·next c _=>
  rw[a.resolve_right c,am4];exact aDo _ _
def ax7{a c x y:Int}{th bk:List Fa}(h1:1<=a)(j:a<=c)(k:c<=3)(l:1<=x)(h5:x<=y)(h6:y<=3)(h:∀f∈th,FZ f/\NU f)(i:∀f∈bk,FZ f/\NU f)(lt:th.length<=30)(m:bk.length<=30):
 PI (kG a c x y).1 (kG a c x y).2 [] [] (newP a c x y th bk)/\dS (newP a c x y th bk)<=1440:=by
 obtain⟨d,n⟩:=ax6 h1 j k l h5 h6 (λf b=>(h f b).1) (λf b=>(i f b).1) lt m;refine⟨⟨⟨⟨d.s0,d.s1,rfl,rfl,rfl,rfl,rfl,.inl rfl,.inl rfl,(λe=>by cases e),(λe=>by cases e),λ_=>rfl,λ_=>rfl,(λe=>by cases e),(λe=>by cases e)⟩,ahA,ahA,(λe=>by cases e),(λe=>by cases e)⟩,λf b u=>aia (h f b).2 u,λf b u=>aia (i f b).2 u,(λy g=>by cases g),(λy g=>by cases g),d,(λe o=>by cases o),List.Pairwise.nil⟩,n⟩
def QT{a:Ap}(c:uN a)(b:Ac a=true):bZ a.x.2/\a.tk<=40/\SmT a.x.2:=by
 unfold Ac at b;simp only[aO]at b;refine⟨ahV c.rows b.2.1,by simpa using b.2.2.1,λr d=>?_⟩;have h:=b.2.2.2;simp only[wU,aeB]at h;have e:((dN r.1).length:Int)<=100:=by simpa[Ag]using h r d
 omega
def V8{x:Pr}{B:Nat}(h:dS x<=B):x.rc.length<=B:=by unfold dS at h;omega
def NZ(f:Fa):Bool:=decide (f.cu<=0)&&(decide (f.sQ=0) ||decide (f.at_<0))
def ave(f:Fa)(h:NZ f=true):NU f:=by unfold NZ at h;simpa[NU]using h
def ajR(a c x y:Int):Prop:=1<=a/\a<=c/\c<=3/\1<=x/\x<=y/\y<=3
def qY(xs:Q3)(l:List Sn):Prop:=∀s:Sn,gy (.zu s.1) xs=some (sn s)->s∈l
def fE(k:List Sn):List Sn:=if k.getLast?.isSome=true then[eY k]else[]
def afh{l:List Sn}:qY [] l:=λs h=>by simp[gy]at h
def Qa{xs:Q3}{l:List Sn}(h:qY xs l)(r:List Sn):qY xs (l++r):=λs a=>Pz _ (h s a)
def afi{xs:Q3}{l k:List Sn}{b:Int}{v:Sn}(h:qY xs l):qY (Dz v (jd v k b).1 xs) (l++fE (jd v k b).2.1):=by
 unfold Dz;split;rotate_left
 ·exact Qa h _
 next c=>
 obtain⟨d,-⟩:=XM c;intro s a;rw[sO]at a;split at a
 ·injection a with a
  obtain rfl:=Ld a;refine Zc _ ?_;unfold fE eY;rw[d];simp
 ·exact Pz _ (h s a)
def Qb{a:Ap}{x:Pr}{xs:Q3}{l:List Sn}(h:qY xs l):qY (ML a x xs) (l++fE (eU a x).s0.k):=by
 unfold ML eU;by_cases c:a.jo.tmod 8=0\/a.jo.tmod 8=1\/a.jo.tmod 8=2
 ·simp only[c,true_and,if_true];by_cases e:a.en=0
  ·rw[au e];unfold zB jK;rw[au e,au e];exact afi h
  ·rw[aj e];exact Qa h _
 ·simp only[c,false_and,if_false];exact Qa h _
def Qc{a:Ap}{x:Pr}{b:Q3}{l:List Sn}(h:qY b l):qY (MN a x b) (l++fE (eU a x).s1.k):=by
 unfold MN eU;by_cases c:a.jo.tmod 8=0\/a.jo.tmod 8=1\/a.jo.tmod 8=2
 ·simp only[c,true_and,if_true];by_cases e:a.en=1
  ·have d:¬a.en=0:=ah;rw[au e];unfold zB jK;rw[aj d,aj d,au e,au e];exact afi h
  ·rw[aj e];exact Qa h _
 ·simp only[c,false_and,if_false];exact Qa h _
def He{xs:Q3}{l k:List Sn}{b:Int}{a:Bool}{h:Sn}(f:kN xs [] [] k b a h)(d:qY xs l)(e:a=true):h∈l:=by
 rcases f.has with⟨-,g,-⟩|⟨c,-⟩
 ·exact d h g
 ·rw[e]at c;cases c
def Dk{k:List Sn}(h:Kp k):(∀s∈fE k,bZ s.2)/\(fE k).length<=1:=by
 unfold fE;split
 ·exact⟨λs a=>by rw[jI.1 a];exact(Xc h).good,dK _⟩
 ·exact⟨λs a=>(by cases a),sG _⟩
def aDc(s h:Sn)(f:bZ s.2)(g:bZ h.2):TT.lim 230 [.zu h.1,.l (h.2.map row),.zu s.1,.l (s.2.map row)]=some [.zq 0,.b (decide (s=h))]:=by
 obtain⟨a,b⟩:=s;obtain⟨i,d⟩:=h;simp only at f g⊢;by_cases c:a=i
 ·subst c;have k:=X9 b d f g;have j:=X9 d b g f;have e:decide ((a,b)=(a,d))=decide (b=d):=aA;have l:decide ((a,b)=(a,d))=decide (d=b):=by simp[eq_comm]
  first
   |(rw[e];refine aB ?_;simp -implicitDefEqProofs[k])
   |(rw[l];refine aB ?_;simp -implicitDefEqProofs[j])
 ·have e:decide ((a,b)=(i,d))=false:=by simp[c]
  rw[e];exact aDb i a _ _ (λq=>c q.symm)
def amz(h:Sn)(g:bZ h.2)(l:List Sn)(k:∀s∈l,bZ s.2)(o:l.length<=2000000):∀m i:Nat,i+m=l.length->
 (h∈l.drop i/\∃j:Nat,TT.lim 229 [.l (l.map sn),.g [.zu h.1,.l (h.2.map row)],.zq (l.length:Int),.zq (i:Int)]=some [.zq 0,.zq (j:Int)])\/h∉l.drop i
 |0,i,hi=>by rw[iE];exact .inr aA
 |m+1,i,hi=>by
  have a:i<l.length:=ah;have c:(i:Int)<l.length:=ah;have p:IntKind.i64.wrap ((i:Int)+1)=((i+1:Nat):Int):=by rw[wrap64 ah ah];omega
  have b:at2 2 (some (.l (l.map sn))) (some (.zq (i:Int)))=some (.g [.zu l[i].1,.l (l[i].2.map row)]):=by rw[dA,lM,tY,iO,bV a];rfl
  have r:l.drop i=l[i]::l.drop (i+1):=iG a;have d:=aDc l[i] h (k _ (gY a)) g;have n:=amz h g l k o m (i+1) ah;rw[r];generalize l[i]=s,l.drop (i+1)=R at *;rw[<-p]at n;generalize l.map sn=u,(l.length:Int)=v at *;by_cases e:s=h
  ·rw[GL e]at d;refine .inl ⟨by rw[e];simp,i,?_⟩;refine aB ?_;simp -implicitDefEqProofs[-dA,c,b,d]
  ·rw[Et e]at d;rcases n with⟨f,j,t⟩|f
   ·refine .inl ⟨List.mem_cons_of_mem _ f,j,?_⟩;refine aB ?_;simp -implicitDefEqProofs[-dA,c,b,d,t]
   ·refine .inr λq=>?_;rcases bJ.1 q with q|q
    ·exact e q.symm
    ·exact f q
def Il(h:Sn)(b:bZ h.2)(l:List Sn)(c:∀s∈l,bZ s.2)(d:l.length<=2000000)(e:h∈l):
 TT.lim 227 [.l (l.map sn),.g [.zu h.1,.l (h.2.map row)]]=some [.zq 0,.b true]:=by
 have f:((l.map sn).length:Int)=(l.length:Int):=by rw[gG]
 rcases amz h b l c d l.length 0 ah with⟨-,j,a⟩|q
 rotate_left
 ·exact absurd e q
 rw[rY]at a;generalize l.map sn=g,(l.length:Int)=m at *;have i:TT.lim 228 [.l g,.g [.zu h.1,.l (h.2.map row)]]=some [.zq 0,.zq (j:Int)]:=by refine aB ?_;simp -implicitDefEqProofs[f,a]
 have k:(0:Int)<=(j:Int):=ah;refine aB ?_;simp -implicitDefEqProofs[i,k]
def Gm(l k:List Sn)(a:l.length<=1000):k.getLast?.isSome=true->Gl 2 32 (some (.l (l.map sn))) (some (.l [.g [.zu (eY k).1,.l ((eY k).2.map row)]]))=some (.l ((l++fE k).map sn)):=λe=>by unfold fE;rw[au e,nY,au ⟨rfl,by simp only[gG,ig,kF];omega,by simp only[gG,ig,kF];omega⟩,nP];rfl
set_option maxHeartbeats 16000000 in
def aET{V:Int}{ok:Bool}(b:List Ap)(J:b.length<=30)(N:∀a∈b,uN a/\Ac a=true)(i:Nat)(x:Pr)(xs F:Q3)(f h:List Sn)(w0 w1:Int)(z:i<b.length)(B:PI V ok xs F x)(O:RX xs/\RX F)(P:qY xs f)(Q:qY F h)(R:∀s∈f,bZ s.2)(S:∀s∈h,bZ s.2)(T:f.length<=i)(n1:h.length<=i)(U:w0<=x.s0.h.1)(W:w1<=x.s1.h.1)(iZ:x.now<=1000*i)(hg:dS x<=1440+6*i)
 (X:(eU b[i] x).s0.k.getLast?.isSome=true) (q1:(eU b[i] x).s1.k.getLast?.isSome=true)
 (t:TT.lim 30 ([.l (b.map iC),.zq (b.length:Int),.zq ((i+1:Nat):Int),.zu (eU b[i] x).s0.h.1,.zu (eU b[i] x).s1.h.1,.l ((f++fE (eU b[i] x).s0.k).map sn),.l ((h++fE (eU b[i] x).s1.k).map sn)]++bU (eU b[i] x))=some [.zq 0]):
 TT.lim 30 ([.l (b.map iC),.zq (b.length:Int),.zq (i:Int),.zu w0,.zu w1,.l (f.map sn),.l (h.map sn)]++bU x)=some [.zq 0]:=by
 have c:(i:Int)<b.length:=ah;have Y:IntKind.i64.wrap ((i:Int)+1)=((i+1:Nat):Int):=by rw[wrap64 ah ah];omega
 have r:at2 6 (some (.l (b.map iC))) (some (.zq (i:Int)))=some (iC b[i]):=by rw[dA,lM,tY,iO,bV z];rfl
 obtain⟨q,hf⟩:=N _ (gY z);generalize b[i]=a at *;obtain⟨D,aa,-⟩:=QT q hf;have A:=Vz a x q D B.o ah ah;obtain⟨o1,o2,o3⟩:=P6 q D B.o;obtain⟨u,L⟩:=P7 B q D;have r1:=P8 B q D O;have g:=Wj u r1;have j0:=Qb (a:=a) (x:=x) P;have j1:=Qc (a:=a) (x:=x) Q;obtain⟨z0,z1⟩:=Dk u.i.s.iT.kp;obtain⟨z2,z3⟩:=Dk u.i.s.mF.kp;have G:∀s∈f++fE (eU a x).s0.k,bZ s.2:=λs H=>(iP.1 H).elim (R s) (z0 s);have I:∀s∈h++fE (eU a x).s1.k,bZ s.2:=λs H=>(iP.1 H).elim (S s) (z2 s);have m0:(f++fE (eU a x).s0.k).length<=i+1:=by rw[dM];omega
 have m1:(h++fE (eU a x).s1.k).length<=i+1:=by rw[dM];omega
 have d:=UM a x;have e0:=yT U L.h0;have e1:=yT W L.h1;generalize eU a x=Z at *;have j:=XW Z o1 g (by have:=V8 o2;omega);have k:=QN Z o1;have l:=QO Z o1;have m:=BO Z.s0 o1.s0;have n:=BO Z.s1 o1.s1;have o:=DI Z.s0 o1.s0;have p:=DI Z.s1 o1.s1;have E:Z.s0.sm=true->TT.lim 227 [.l ((h++fE Z.s1.k).map sn),.g [.zu Z.s0.h.1,.l (Z.s0.h.2.map row)]]=some [.zq 0,.b true]:=λe=>Il Z.s0.h u.i.b.tb.good _ I ah (He u.i.b j1 e);have v:Z.s1.sm=true->TT.lim 227 [.l ((f++fE Z.s0.k).map sn),.g [.zu Z.s1.h.1,.l (Z.s1.h.2.map row)]]=some [.zq 0,.b true]:=λe=>Il Z.s1.h u.i.a.tb.good _ G ah (He u.i.a j0 e);have w:=Gm f Z.s0.k ah;have y:=Gm h Z.s1.k ah;have B0:¬Z.s0.k.getLast?.isSome=true->(f++fE Z.s0.k).map sn=f.map sn:=λe=>by unfold fE;rw[aj e,lQ]
 have B1:¬Z.s1.k.getLast?.isSome=true->(h++fE Z.s1.k).map sn=h.map sn:=λe=>by unfold fE;rw[aj e,lQ]
 have d0:¬Z.s0.h.1<w0:=ah;have d1:¬Z.s1.h.1<w1:=ah;rw[<-Y]at t;simp only[bU,iF,yB,kX,dQ,cZ,bg,aW]at A j k l m n o p t⊢;rw[d.a.1,d.a.2.1,d.a.2.2.1,d.a.2.2.2,d.b.1,d.b.2.1,d.b.2.2.1,d.b.2.2.2]at j k l t;rw[d.a.1,d.a.2.1,d.a.2.2.1,d.a.2.2.2]at m o;rw[d.b.1,d.b.2.1,d.b.2.2.1,d.b.2.2.2]at n p;generalize(f++fE Z.s0.k).map sn=X0,(h++fE Z.s1.k).map sn=X1,eY Z.s0.k=L0,eY Z.s1.k=L1,b.map iC=AG,(b.length:Int)=T,f.map sn=Q0,h.map sn=Q1,Z.s0.k.getLast?.isSome=k0,Z.s1.k.getLast?.isSome=k1,Z.s0.sm=s0,Z.s1.sm=M at *;obtain rfl:k0=true:=X;obtain rfl:k1=true:=q1;have w:=w rfl;have y:=y rfl;cases s0 with
 |true=>
  have E:=E rfl;cases M with
  |true=>have v:=v rfl;refine aB ?_;simp -implicitDefEqProofs[-dA,-nY,c,r,A,k,l,m,n,o,p,w,y,E,v,d0,d1,j,t]
  |false=>refine aB ?_;simp -implicitDefEqProofs[-dA,-nY,c,r,A,k,l,m,n,o,p,w,y,E,d0,d1,j,t]
 |false=>
  cases M with
  |true=>have v:=v rfl;refine aB ?_;simp -implicitDefEqProofs[-dA,-nY,c,r,A,k,l,m,n,o,p,w,y,v,d0,d1,j,t]
  |false=>refine aB ?_;simp -implicitDefEqProofs[-dA,-nY,c,r,A,k,l,m,n,o,p,w,y,d0,d1,j,t]
set_option maxHeartbeats 16000000 in
def aES{V:Int}{ok:Bool}(b:List Ap)(I:b.length<=30)(M:∀a∈b,uN a/\Ac a=true)(i:Nat)(x:Pr)(xs E:Q3)(f h:List Sn)(w0 w1:Int)(y:i<b.length)(A:PI V ok xs E x)(N:RX xs/\RX E)(O:qY xs f)(P:qY E h)(Q:∀s∈f,bZ s.2)(R:∀s∈h,bZ s.2)(S:f.length<=i)(n1:h.length<=i)(T:w0<=x.s0.h.1)(U:w1<=x.s1.h.1)(iZ:x.now<=1000*i)(hg:dS x<=1440+6*i)
 (W:(eU b[i] x).s0.k.getLast?.isSome=true) (q1:(eU b[i] x).s1.k.getLast?.isSome=false)
 (t:TT.lim 30 ([.l (b.map iC),.zq (b.length:Int),.zq ((i+1:Nat):Int),.zu (eU b[i] x).s0.h.1,.zu (eU b[i] x).s1.h.1,.l ((f++fE (eU b[i] x).s0.k).map sn),.l ((h++fE (eU b[i] x).s1.k).map sn)]++bU (eU b[i] x))=some [.zq 0]):
 TT.lim 30 ([.l (b.map iC),.zq (b.length:Int),.zq (i:Int),.zu w0,.zu w1,.l (f.map sn),.l (h.map sn)]++bU x)=some [.zq 0]:=by
 have c:(i:Int)<b.length:=ah;have X:IntKind.i64.wrap ((i:Int)+1)=((i+1:Nat):Int):=by rw[wrap64 ah ah];omega
 have r:at2 6 (some (.l (b.map iC))) (some (.zq (i:Int)))=some (iC b[i]):=by rw[dA,lM,tY,iO,bV y];rfl
 obtain⟨q,Y⟩:=M _ (gY y);generalize b[i]=a at *;obtain⟨B,aa,-⟩:=QT q Y;have z:=Vz a x q B A.o ah ah;obtain⟨o1,o2,o3⟩:=P6 q B A.o;obtain⟨u,J⟩:=P7 A q B;have r1:=P8 A q B N;have g:=Wj u r1;have j0:=Qb (a:=a) (x:=x) O;have j1:=Qc (a:=a) (x:=x) P;obtain⟨z0,z1⟩:=Dk u.i.s.iT.kp;obtain⟨z2,z3⟩:=Dk u.i.s.mF.kp;have F:∀s∈f++fE (eU a x).s0.k,bZ s.2:=λs G=>(iP.1 G).elim (Q s) (z0 s);have H:∀s∈h++fE (eU a x).s1.k,bZ s.2:=λs G=>(iP.1 G).elim (R s) (z2 s);have m0:(f++fE (eU a x).s0.k).length<=i+1:=by rw[dM];omega
 have m1:(h++fE (eU a x).s1.k).length<=i+1:=by rw[dM];omega
 have d:=UM a x;have e0:=yT T J.h0;have e1:=yT U J.h1;generalize eU a x=Z at *;have j:=XW Z o1 g (by have:=V8 o2;omega);have k:=QN Z o1;have l:=QO Z o1;have m:=BO Z.s0 o1.s0;have n:=BO Z.s1 o1.s1;have o:=DI Z.s0 o1.s0;have p:=DI Z.s1 o1.s1;have D:Z.s0.sm=true->TT.lim 227 [.l ((h++fE Z.s1.k).map sn),.g [.zu Z.s0.h.1,.l (Z.s0.h.2.map row)]]=some [.zq 0,.b true]:=λe=>Il Z.s0.h u.i.b.tb.good _ H ah (He u.i.b j1 e);have v:Z.s1.sm=true->TT.lim 227 [.l ((f++fE Z.s0.k).map sn),.g [.zu Z.s1.h.1,.l (Z.s1.h.2.map row)]]=some [.zq 0,.b true]:=λe=>Il Z.s1.h u.i.a.tb.good _ F ah (He u.i.a j0 e);have w:=Gm f Z.s0.k ah;have A1:=Gm h Z.s1.k ah;have B0:¬Z.s0.k.getLast?.isSome=true->(f++fE Z.s0.k).map sn=f.map sn:=λe=>by unfold fE;rw[aj e,lQ]
 have B1:¬Z.s1.k.getLast?.isSome=true->(h++fE Z.s1.k).map sn=h.map sn:=λe=>by unfold fE;rw[aj e,lQ]
 have d0:¬Z.s0.h.1<w0:=ah;have d1:¬Z.s1.h.1<w1:=ah;rw[<-X]at t;simp only[bU,iF,yB,kX,dQ,cZ,bg,aW]at z j k l m n o p t⊢;rw[d.a.1,d.a.2.1,d.a.2.2.1,d.a.2.2.2,d.b.1,d.b.2.1,d.b.2.2.1,d.b.2.2.2]at j k l t;rw[d.a.1,d.a.2.1,d.a.2.2.1,d.a.2.2.2]at m o;rw[d.b.1,d.b.2.1,d.b.2.2.1,d.b.2.2.2]at n p;generalize(f++fE Z.s0.k).map sn=X0,(h++fE Z.s1.k).map sn=X1,eY Z.s0.k=L0,eY Z.s1.k=L1,b.map iC=AG,(b.length:Int)=S,f.map sn=Q0,h.map sn=Q1,Z.s0.k.getLast?.isSome=k0,Z.s1.k.getLast?.isSome=k1,Z.s0.sm=s0,Z.s1.sm=L at *;obtain rfl:k0=true:=W;obtain rfl:k1=false:=q1;have w:=w rfl;obtain rfl:=B1 aA;cases s0 with
 |true=>
  have D:=D rfl;cases L with
  |true=>have v:=v rfl;refine aB ?_;simp -implicitDefEqProofs[-dA,-nY,c,r,z,k,l,m,n,o,p,w,D,v,d0,d1,j,t]
  |false=>refine aB ?_;simp -implicitDefEqProofs[-dA,-nY,c,r,z,k,l,m,n,o,p,w,D,d0,d1,j,t]
 |false=>
  cases L with
  |true=>have v:=v rfl;refine aB ?_;simp -implicitDefEqProofs[-dA,-nY,c,r,z,k,l,m,n,o,p,w,v,d0,d1,j,t]
  |false=>refine aB ?_;simp -implicitDefEqProofs[-dA,-nY,c,r,z,k,l,m,n,o,p,w,d0,d1,j,t]
set_option maxHeartbeats 16000000 in
def aER{V:Int}{ok:Bool}(b:List Ap)(I:b.length<=30)(M:∀a∈b,uN a/\Ac a=true)(i:Nat)(x:Pr)(xs E:Q3)(f h:List Sn)(w0 w1:Int)(y:i<b.length)(A:PI V ok xs E x)(N:RX xs/\RX E)(O:qY xs f)(P:qY E h)(Q:∀s∈f,bZ s.2)(R:∀s∈h,bZ s.2)(S:f.length<=i)(n1:h.length<=i)(T:w0<=x.s0.h.1)(U:w1<=x.s1.h.1)(iZ:x.now<=1000*i)(hg:dS x<=1440+6*i)
 (W:(eU b[i] x).s0.k.getLast?.isSome=false) (q1:(eU b[i] x).s1.k.getLast?.isSome=true)
 (t:TT.lim 30 ([.l (b.map iC),.zq (b.length:Int),.zq ((i+1:Nat):Int),.zu (eU b[i] x).s0.h.1,.zu (eU b[i] x).s1.h.1,.l ((f++fE (eU b[i] x).s0.k).map sn),.l ((h++fE (eU b[i] x).s1.k).map sn)]++bU (eU b[i] x))=some [.zq 0]):
 TT.lim 30 ([.l (b.map iC),.zq (b.length:Int),.zq (i:Int),.zu w0,.zu w1,.l (f.map sn),.l (h.map sn)]++bU x)=some [.zq 0]:=by
 have c:(i:Int)<b.length:=ah;have X:IntKind.i64.wrap ((i:Int)+1)=((i+1:Nat):Int):=by rw[wrap64 ah ah];omega
 have r:at2 6 (some (.l (b.map iC))) (some (.zq (i:Int)))=some (iC b[i]):=by rw[dA,lM,tY,iO,bV y];rfl
 obtain⟨q,Y⟩:=M _ (gY y);generalize b[i]=a at *;obtain⟨B,aa,-⟩:=QT q Y;have z:=Vz a x q B A.o ah ah;obtain⟨o1,o2,o3⟩:=P6 q B A.o;obtain⟨u,J⟩:=P7 A q B;have r1:=P8 A q B N;have g:=Wj u r1;have j0:=Qb (a:=a) (x:=x) O;have j1:=Qc (a:=a) (x:=x) P;obtain⟨z0,z1⟩:=Dk u.i.s.iT.kp;obtain⟨z2,z3⟩:=Dk u.i.s.mF.kp;have F:∀s∈f++fE (eU a x).s0.k,bZ s.2:=λs G=>(iP.1 G).elim (Q s) (z0 s);have H:∀s∈h++fE (eU a x).s1.k,bZ s.2:=λs G=>(iP.1 G).elim (R s) (z2 s);have m0:(f++fE (eU a x).s0.k).length<=i+1:=by rw[dM];omega
 have m1:(h++fE (eU a x).s1.k).length<=i+1:=by rw[dM];omega
 have d:=UM a x;have e0:=yT T J.h0;have e1:=yT U J.h1;generalize eU a x=Z at *;have j:=XW Z o1 g (by have:=V8 o2;omega);have k:=QN Z o1;have l:=QO Z o1;have m:=BO Z.s0 o1.s0;have n:=BO Z.s1 o1.s1;have o:=DI Z.s0 o1.s0;have p:=DI Z.s1 o1.s1;have D:Z.s0.sm=true->TT.lim 227 [.l ((h++fE Z.s1.k).map sn),.g [.zu Z.s0.h.1,.l (Z.s0.h.2.map row)]]=some [.zq 0,.b true]:=λe=>Il Z.s0.h u.i.b.tb.good _ H ah (He u.i.b j1 e);have v:Z.s1.sm=true->TT.lim 227 [.l ((f++fE Z.s0.k).map sn),.g [.zu Z.s1.h.1,.l (Z.s1.h.2.map row)]]=some [.zq 0,.b true]:=λe=>Il Z.s1.h u.i.a.tb.good _ F ah (He u.i.a j0 e);have A0:=Gm f Z.s0.k ah;have w:=Gm h Z.s1.k ah;have B0:¬Z.s0.k.getLast?.isSome=true->(f++fE Z.s0.k).map sn=f.map sn:=λe=>by unfold fE;rw[aj e,lQ]
 have B1:¬Z.s1.k.getLast?.isSome=true->(h++fE Z.s1.k).map sn=h.map sn:=λe=>by unfold fE;rw[aj e,lQ]
 have d0:¬Z.s0.h.1<w0:=ah;have d1:¬Z.s1.h.1<w1:=ah;rw[<-X]at t;simp only[bU,iF,yB,kX,dQ,cZ,bg,aW]at z j k l m n o p t⊢;rw[d.a.1,d.a.2.1,d.a.2.2.1,d.a.2.2.2,d.b.1,d.b.2.1,d.b.2.2.1,d.b.2.2.2]at j k l t;rw[d.a.1,d.a.2.1,d.a.2.2.1,d.a.2.2.2]at m o;rw[d.b.1,d.b.2.1,d.b.2.2.1,d.b.2.2.2]at n p;generalize(f++fE Z.s0.k).map sn=X0,(h++fE Z.s1.k).map sn=X1,eY Z.s0.k=L0,eY Z.s1.k=L1,b.map iC=AG,(b.length:Int)=S,f.map sn=Q0,h.map sn=Q1,Z.s0.k.getLast?.isSome=k0,Z.s1.k.getLast?.isSome=k1,Z.s0.sm=s0,Z.s1.sm=L at *;obtain rfl:k0=false:=W;obtain rfl:k1=true:=q1;obtain rfl:=B0 aA;have w:=w rfl;cases s0 with
 |true=>
  have D:=D rfl;cases L with
  |true=>have v:=v rfl;refine aB ?_;simp -implicitDefEqProofs[-dA,-nY,c,r,z,k,l,m,n,o,p,w,D,v,d0,d1,j,t]
  |false=>refine aB ?_;simp -implicitDefEqProofs[-dA,-nY,c,r,z,k,l,m,n,o,p,w,D,d0,d1,j,t]
 |false=>
  cases L with
  |true=>have v:=v rfl;refine aB ?_;simp -implicitDefEqProofs[-dA,-nY,c,r,z,k,l,m,n,o,p,w,v,d0,d1,j,t]
  |false=>refine aB ?_;simp -implicitDefEqProofs[-dA,-nY,c,r,z,k,l,m,n,o,p,w,d0,d1,j,t]
set_option maxHeartbeats 16000000 in
def aEQ{V:Int}{ok:Bool}(b:List Ap)(H:b.length<=30)(L:∀a∈b,uN a/\Ac a=true)(i:Nat)(x:Pr)(xs D:Q3)(f h:List Sn)(w0 w1:Int)(w:i<b.length)(z:PI V ok xs D x)(M:RX xs/\RX D)(N:qY xs f)(O:qY D h)(P:∀s∈f,bZ s.2)(Q:∀s∈h,bZ s.2)(R:f.length<=i)(n1:h.length<=i)(S:w0<=x.s0.h.1)(T:w1<=x.s1.h.1)(iZ:x.now<=1000*i)(hg:dS x<=1440+6*i)
 (U:(eU b[i] x).s0.k.getLast?.isSome=false) (q1:(eU b[i] x).s1.k.getLast?.isSome=false)
 (t:TT.lim 30 ([.l (b.map iC),.zq (b.length:Int),.zq ((i+1:Nat):Int),.zu (eU b[i] x).s0.h.1,.zu (eU b[i] x).s1.h.1,.l ((f++fE (eU b[i] x).s0.k).map sn),.l ((h++fE (eU b[i] x).s1.k).map sn)]++bU (eU b[i] x))=some [.zq 0]):
 TT.lim 30 ([.l (b.map iC),.zq (b.length:Int),.zq (i:Int),.zu w0,.zu w1,.l (f.map sn),.l (h.map sn)]++bU x)=some [.zq 0]:=by
 have c:(i:Int)<b.length:=ah;have W:IntKind.i64.wrap ((i:Int)+1)=((i+1:Nat):Int):=by rw[wrap64 ah ah];omega
 have r:at2 6 (some (.l (b.map iC))) (some (.zq (i:Int)))=some (iC b[i]):=by rw[dA,lM,tY,iO,bV w];rfl
 obtain⟨q,X⟩:=L _ (gY w);generalize b[i]=a at *;obtain⟨A,Y,-⟩:=QT q X;have y:=Vz a x q A z.o ah ah;obtain⟨o1,o2,o3⟩:=P6 q A z.o;obtain⟨u,I⟩:=P7 z q A;have r1:=P8 z q A M;have g:=Wj u r1;have j0:=Qb (a:=a) (x:=x) N;have j1:=Qc (a:=a) (x:=x) O;obtain⟨z0,z1⟩:=Dk u.i.s.iT.kp;obtain⟨z2,z3⟩:=Dk u.i.s.mF.kp;have E:∀s∈f++fE (eU a x).s0.k,bZ s.2:=λs F=>(iP.1 F).elim (P s) (z0 s);have G:∀s∈h++fE (eU a x).s1.k,bZ s.2:=λs F=>(iP.1 F).elim (Q s) (z2 s);have m0:(f++fE (eU a x).s0.k).length<=i+1:=by rw[dM];omega
 have m1:(h++fE (eU a x).s1.k).length<=i+1:=by rw[dM];omega
 have d:=UM a x;have e0:=yT S I.h0;have e1:=yT T I.h1;generalize eU a x=Z at *;have j:=XW Z o1 g (by have:=V8 o2;omega);have k:=QN Z o1;have l:=QO Z o1;have m:=BO Z.s0 o1.s0;have n:=BO Z.s1 o1.s1;have o:=DI Z.s0 o1.s0;have p:=DI Z.s1 o1.s1;have B:Z.s0.sm=true->TT.lim 227 [.l ((h++fE Z.s1.k).map sn),.g [.zu Z.s0.h.1,.l (Z.s0.h.2.map row)]]=some [.zq 0,.b true]:=λe=>Il Z.s0.h u.i.b.tb.good _ G ah (He u.i.b j1 e);have v:Z.s1.sm=true->TT.lim 227 [.l ((f++fE Z.s0.k).map sn),.g [.zu Z.s1.h.1,.l (Z.s1.h.2.map row)]]=some [.zq 0,.b true]:=λe=>Il Z.s1.h u.i.a.tb.good _ E ah (He u.i.a j0 e);have A0:=Gm f Z.s0.k ah;have A1:=Gm h Z.s1.k ah;have B0:¬Z.s0.k.getLast?.isSome=true->(f++fE Z.s0.k).map sn=f.map sn:=λe=>by unfold fE;rw[aj e,lQ]
 have B1:¬Z.s1.k.getLast?.isSome=true->(h++fE Z.s1.k).map sn=h.map sn:=λe=>by unfold fE;rw[aj e,lQ]
 have d0:¬Z.s0.h.1<w0:=ah;have d1:¬Z.s1.h.1<w1:=ah;rw[<-W]at t;simp only[bU,iF,yB,kX,dQ,cZ,bg,aW]at y j k l m n o p t⊢;rw[d.a.1,d.a.2.1,d.a.2.2.1,d.a.2.2.2,d.b.1,d.b.2.1,d.b.2.2.1,d.b.2.2.2]at j k l t;rw[d.a.1,d.a.2.1,d.a.2.2.1,d.a.2.2.2]at m o;rw[d.b.1,d.b.2.1,d.b.2.2.1,d.b.2.2.2]at n p;generalize(f++fE Z.s0.k).map sn=X0,(h++fE Z.s1.k).map sn=X1,eY Z.s0.k=L0,eY Z.s1.k=L1,b.map iC=AG,(b.length:Int)=R,f.map sn=Q0,h.map sn=Q1,Z.s0.k.getLast?.isSome=k0,Z.s1.k.getLast?.isSome=k1,Z.s0.sm=s0,Z.s1.sm=J at *;obtain rfl:k0=false:=U;obtain rfl:k1=false:=q1;obtain rfl:=B0 aA;obtain rfl:=B1 aA;cases s0 with
 |true=>
  have B:=B rfl;cases J with
  |true=>have v:=v rfl;refine aB ?_;simp -implicitDefEqProofs[-dA,-nY,c,r,y,k,l,m,n,o,p,B,v,d0,d1,j,t]
  |false=>refine aB ?_;simp -implicitDefEqProofs[-dA,-nY,c,r,y,k,l,m,n,o,p,B,d0,d1,j,t]
 |false=>
  cases J with
  |true=>have v:=v rfl;refine aB ?_;simp -implicitDefEqProofs[-dA,-nY,c,r,y,k,l,m,n,o,p,v,d0,d1,j,t]
  |false=>refine aB ?_;simp -implicitDefEqProofs[-dA,-nY,c,r,y,k,l,m,n,o,p,d0,d1,j,t]
def amA{V:Int}{ok:Bool}(b:List Ap)(d:b.length<=30)(l:∀a∈b,uN a/\Ac a=true):∀(m i:Nat)(x:Pr)(xs h:Q3)(f g:List Sn)(w0 w1:Int),i+m=b.length->PI V ok xs h x->RX xs/\RX h->qY xs f->qY h g->(∀s∈f,bZ s.2)->(∀s∈g,bZ s.2)->f.length<=i->g.length<=i->w0<=x.s0.h.1->w1<=x.s1.h.1->x.now<=1000*i->dS x<=1440+6*i->
 TT.lim 30 ([.l (b.map iC),.zq (b.length:Int),.zq (i:Int),.zu w0,.zu w1,.l (f.map sn),.l (g.map sn)]++bU x)=some [.zq 0]
 |0,i,x,xs,h,f,g,w0,w1,hi,k,n,o,p,q,r,t,u,v,w,y,z=>by have c:¬((i:Int)<b.length):=ah;simp only[bU,dQ,cZ,bg,aW];refine aB ?_;simp -implicitDefEqProofs[c]
 |m+1,i,x,xs,h,f,g,w0,w1,hi,k,n,o,p,q,r,t,u,v,w,y,z=>by
  have e:i<b.length:=ah;obtain⟨j,H⟩:=l _ (gY e);obtain⟨E,I,-⟩:=QT j H;obtain⟨o1,O,P⟩:=P6 j E k.o;obtain⟨F,Q⟩:=P7 k j E;have r1:=P8 k j E n;have J:=Qb (a:=b[i]) (x:=x) o;have L:=Qc (a:=b[i]) (x:=x) p;obtain⟨M,R⟩:=Dk F.i.s.iT.kp;obtain⟨N,S⟩:=Dk F.i.s.mF.kp;have B:=amA b d l m (i+1) (eU b[i] x) _ _ _ _ _ _ ah F r1 J L (λs G=>(iP.1 G).elim (q s) (M s)) (λs G=>(iP.1 G).elim (r s) (N s)) (by rw[dM];omega) (by rw[dM];omega) (gZ _) (gZ _) ah ah;cases D:(eU b[i] x).s0.k.getLast?.isSome with
  |true=>
   cases A:(eU b[i] x).s1.k.getLast?.isSome with
   |true=>exact aET b d l i x xs h f g w0 w1 e k n o p q r t u v w y z D A B
   |false=>exact aES b d l i x xs h f g w0 w1 e k n o p q r t u v w y z D A B
  |false=>
   cases A:(eU b[i] x).s1.k.getLast?.isSome with
   |true=>exact aER b d l i x xs h f g w0 w1 e k n o p q r t u v w y z D A B
   |false=>exact aEQ b d l i x xs h f g w0 w1 e k n o p q r t u v w y z D A B
def amy(n o p q r s t:GV)(l:List Fa)(v:l.length<=9000000000000000):∀(m i:Nat),i+m=l.length->
 TT.lim 25 [n,o,p,.l (l.map bF),.zq (l.length:Int),.zq (i:Int),q,r,s,t]=some [.zq (if(l.drop i).all NZ=true then 1 else 0)]
 |0,i,hi=>by have c:¬((i:Int)<l.length):=ah;rw[iE];refine aB ?_;simp -implicitDefEqProofs[c]
 |m+1,i,hi=>by
  have g:i<l.length:=ah;have c:(i:Int)<l.length:=ah;have w:IntKind.i64.wrap ((i:Int)+1)=((i+1:Nat):Int):=by rw[wrap64 ah ah];omega
  have b:at2 6 (some (.l (l.map bF))) (some (.zq (i:Int)))=some (bF l[i]):=by rw[dA,lM,tY,iO,bV g];rfl
  have x:l.drop i=l[i]::l.drop (i+1):=iG g;have j:=amy n o p q r s t l v m (i+1) ah;rw[x,qZ];generalize l[i]=f at *;rw[<-w]at j;generalize(l.drop (i+1)).all NZ=R,l.map bF=y,(l.length:Int)=z at *;unfold NZ;by_cases h:f.cu<=0;rotate_left
  ·have a:(0:Int)<f.cu:=ah;refine aB ?_;simp -implicitDefEqProofs[-dA,c,b,h,a]
  have a:¬(0:Int)<f.cu:=ah;by_cases k:f.sQ=0
  ·have d:((f.sQ:Int)=0)=True:=eq_true ah;refine aB ?_;simp -implicitDefEqProofs[-dA,c,b,h,a,k,d,j]
  ·have d:¬((f.sQ:Int)=0):=ah;by_cases u:f.at_<0
   ·have e:¬(0:Int)<=f.at_:=ah;refine aB ?_;simp -implicitDefEqProofs[-dA,c,b,h,a,k,d,u,e,j]
   ·have e:(0:Int)<=f.at_:=ah;refine aB ?_;simp -implicitDefEqProofs[-dA,c,b,h,a,k,d,u,e]
set_option maxHeartbeats 4000000 in
def aEU(a c x y:Int)(th bk:List Fa)(b:List Ap)(lt:th.length<=2000000000000)(F:bk.length<=2000000000000)(N:b.length<=4000000000000)(G:∀u∈b,uN u)
 (O:∀f∈th++bk,f.d<256/\f.sQ<256/\f.cu<=9223372036854775807/\f.at_<=9223372036854775807):
 TT.lim 3 [.g [.zu a,.zu c],.g [.zu x,.zu y],.l (th.map bF),.l (bk.map bF),.l (b.map iC)]=some [.b true]:=by
 have d:=atO th bk b lt F N G;have i:=ags th bk lt F;have n:=Gz [102,105,114,115,116] 0 256 aA;have H:=Gz [111,116,104,101,114] 0 256 aA;rw[aFf]at n;rw[aFg]at H;have v:((b.map iC).length:Int)=(b.length:Int):=by rw[gG]
 have h:(((th++bk).map bF).length:Int)=((th++bk).length:Int):=by rw[gG]
 have e:=amy (.l (th.map bF)) (.l (bk.map bF)) (.l (b.map iC)) (.zu x) (.zu y) (.zu a) (.zu c) (th++bk) (by rw[dM];omega) (th++bk).length 0 ah;simp only[dY,rY]at e;cases p:VQ th bk b with
 |false=>rw[p]at d;generalize th.map bF=w,bk.map bF=z,b.map iC=A at *;refine aV ?_;simp -implicitDefEqProofs[d]
 |true=>
 rw[p]at d;cases B:(th++bk).all NZ with
 |false=>rw[B]at e;simp only[iJ,if_false]at e;generalize(th++bk).map bF=I,((th++bk).length:Int)=J,th.map bF=w,bk.map bF=z,b.map iC=A at *;refine aV ?_;simp -implicitDefEqProofs[d,i,h,e]
 |true=>
 rw[B]at e;simp only[if_true]at e;by_cases L:ajR a c x y;rotate_left
 ·generalize(th++bk).map bF=I at *;generalize((th++bk).length:Int)=J,th.map bF=w,bk.map bF=z,b.map iC=A at *;unfold ajR at L;by_cases j:a<1
  ·refine aV ?_;simp -implicitDefEqProofs[d,i,h,e,j]
  by_cases k:c<a
  ·refine aV ?_;simp -implicitDefEqProofs[d,i,h,e,j,k]
  by_cases l:255<c
  ·refine aV ?_;simp -implicitDefEqProofs[d,i,h,e,j,k,l]
  by_cases m:3<c
  ·refine aV ?_;simp -implicitDefEqProofs[d,i,h,e,j,k,l,m]
  by_cases o:x<1
  ·refine aV ?_;simp -implicitDefEqProofs[d,i,h,e,j,k,l,m,n,o]
  by_cases q:y<x
  ·refine aV ?_;simp -implicitDefEqProofs[d,i,h,e,j,k,l,m,n,o,q]
  by_cases t:255<y
  ·refine aV ?_;simp -implicitDefEqProofs[d,i,h,e,j,k,l,m,n,o,q,t]
  ·have D:3<y:=ah;refine aV ?_;simp -implicitDefEqProofs[d,i,h,e,j,k,l,m,n,o,q,t,D]
 obtain⟨P,Q,R,S,T,U⟩:=L;unfold VQ at p;simp only[aO,List.all_eq_true,decide_eq_true_eq]at p;obtain⟨W,X,f3,f4,f5⟩:=p;have r:∀f∈th++bk,FZ f/\NU f:=λf e=>by obtain⟨Y,Z,q3,q4⟩:=O f e;have:=W f e;unfold NC at this;exact⟨⟨by have:=Du this;omega,Y,Z,q3,q4⟩,ave f (List.all_eq_true.1 B f e)⟩
 have cT:=agc th ah;have cB:=agc bk ah;obtain⟨p1,p2⟩:=ax7 (a:=a) (c:=c) (x:=x) (y:=y) (th:=th) (bk:=bk) P Q R S T U (λf e=>r f (Pz _ e)) (λf e=>r f (Zc _ e)) ah ah;have g:=amA b ah (λu M=>⟨G u M,X u M⟩) b.length 0 (newP a c x y th bk) [] [] [] [] 0 0 ah p1 ⟨alq,alq⟩ afh afh (λs E=>by cases E) (λs E=>by cases E) (dK _) (dK _) (gZ _) (gZ _) (gZ _) ah;simp only[newP,newS,bU,dQ,cZ,zS,jU,bg,aW,rY]at g;have j:¬a<1:=ah;have k:¬c<a:=ah;have l:¬255<c:=ah;have m:¬3<c:=ah;have o:¬x<1:=ah;have q:¬y<x:=ah;have t:¬255<y:=ah;have D:¬3<y:=ah;generalize(th++bk).map bF=I,((th++bk).length:Int)=J,th.map bF=w,bk.map bF=z,b.map iC=A,(b.length:Int)=na at *;refine aV ?_;simp -implicitDefEqProofs(maxSteps:=1000000) [d,i,h,e,j,k,l,m,n,o,q,t,D,H,cT,cB,v,g]
def topSafe(gs:Q3)(h:hasArgs [(true,[.int .u64,.int .u64]),(true,[.int .u64,.int .u64]),(false,[.list true VN]),(false,[.list true VN]),(false,[.list true ZF])] gs)(d:∀xs,GV.l xs∈gs->xs.length<=1048576):TT.lim 3 gs=some [.b true]:=by obtain⟨A,gs,rfl,b,h⟩:=aib h;obtain⟨B,gs,rfl,c,h⟩:=aib h;obtain⟨D,gs,rfl,k,h⟩:=aaY h;obtain⟨E,gs,rfl,l,h⟩:=aaY h;obtain⟨F,gs,rfl,m,h⟩:=aaY h;obtain rfl:=avg h;obtain⟨n,r1,rfl,e,b⟩:=qL b;obtain⟨o,r2,rfl,g,b⟩:=qL b;obtain rfl:=NV b;obtain⟨p,rfl,-⟩:=JH e;obtain⟨q,rfl,-⟩:=JH g;obtain⟨n,r1,rfl,e,c⟩:=qL c;obtain⟨o,r2,rfl,g,c⟩:=qL c;obtain rfl:=NV c;obtain⟨r,rfl,-⟩:=JH e;obtain⟨s,rfl,-⟩:=JH g;obtain⟨i,t,rfl⟩:=ahl k;obtain⟨j,u,rfl⟩:=ahl l;obtain⟨a,v,rfl⟩:=anQ m;have w:=d (i.map bF) aA;have x:=d (j.map bF) aA;have y:=d (a.map iC) aA;rw[gG]at w x y;exact aEU p q r s i j a ah ah ah v λf z=>(iP.1 z).elim (t f) (u f)
