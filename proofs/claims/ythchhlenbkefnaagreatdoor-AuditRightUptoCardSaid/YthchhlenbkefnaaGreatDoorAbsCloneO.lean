/- slices.Clone of a list of our own: an own list again. -/
import Derived.Test.YthchhlenbkefnaaGreatDoorAbsTold
set_option linter.all false
namespace Go.aN
open Go.RowKit
noncomputable section
variable{P:Program}
section
variable[gY]
def WX(k et:Nat):dZ:=λargs J=>match args with
 |[.gK]=>some (.gK,J)
 |[.sv id n]=>match J.get id with
  |some (.vec a e f)=>
   if Nat.beq a n&&Nat.beq e et then
    match fQ (.call k [n] 0)with
    |some m=>some (.sv J.next m,J.new (.vec m et false))
    |none=>none
   else none
  |_=>none
 |_=>none
end
def aS.ajw{ro:Qf}:∀{l:Q1}{vs:Q6},aS ro l vs->l.all GV.scalar=true->∀v∈vs,v.oneCell'=true
 |[],vs,h,_,v,b=>by simp only[aS]at h;subst h;simp at b
 |a::l,vs,h,c,v,b=>by
  simp only[aS]at h;obtain⟨x,xs,rfl,h1,d⟩:=h;simp only[rH,aK]at c;rcases bH.1 b with rfl|b
  ·letI:aH:=Tg [] [] 0
   rw[Q8];exact GR.pX h1 c.1
  ·exact aS.ajw d c.2 v b
def asK{ro:Qf}{x:GV}{y:Value}{size:Nat}(b:x.fP size=true)(h:GR ro x y):y.cells.size=size/\∀v∈y.cells.toList,v.oneCell'=true:=by
 letI:aH:=Tg [] [] 0
 unfold GV.fP at b;rw[aK]at b;have c:=bK b.1;refine⟨by rw[<-c];exact(GR.Zk (F:=⟨λ_=>none,ro,λ_=>false⟩) h).symm,?_⟩;cases x with
 |g e=>simp only[GR]at h;obtain⟨f,rfl,h⟩:=h;exact aS.ajw h b.2
 |l d=>have i:=GR.pX h (g:=.l d) rfl;intro v a;simp only[GR]at h;rcases h with⟨_,p,rfl⟩|⟨_,_,_,_,_,rfl,_⟩<;>(simp[Value.cells]at a;subst a;rfl)
 |_=>simp only[GR]at h;subst h;intro v a;simp[Value.cells]at a;subst a;rfl
def St.adopt[aH]{F:Env}{J:aA}{w w':World}(h:SR P F J w)(r:Kept w w')(o:bI)(q:Place)(G:w.heap.size<=q.bl)
 (H:OR P (F.put J.next q) q w' o):St P F J w (F.put J.next q) (J.new o) w':=by
 have c:=Env.Ht h q;have i:∀k,k<w.heap.size->w'.heap[k]? =w.heap[k]?:=r.keep;have D:∀b o,F.ro b=some o->b<w.heap.size:=λb o u=>wY (h.jl b o u);refine⟨c,⟨?_,?_,?_,Env.acF h q (DW _),?_,λb o u=>?_,λid o1 p v I s=>?_,λp d=>(h.tabs p d).mono c⟩,r.size,λbl x _=>i bl x,?_,r.os,r.tape,r.output,rfl,Nat.le_succ _,?_,λ_ h=>.inl h⟩;rotate_right
 ·rintro id (⟨p,d⟩|y)
  ·simp only[Env.put]at d;split at d
   ·next e=>subst e;exact .inr ⟨Nat.le_refl _,DW _⟩
   ·exact .inl (.inl ⟨p,d⟩)
  ·exact .inl (.inr y)
 ·intro g y;obtain⟨L,es,a⟩:=h.nS g y;exact⟨L,es,c.pl _ _ a⟩
 ·intro id p d;simp only[Env.put]at d;show id<J.next+1
  split at d
  ·omega
  ·have:=h.dom id p d;omega
 ·intro id M f;rw[aA.qE]at f;split at f
  ·next e=>cases f;subst e;exact .inl ⟨q,by simp[Env.put],H⟩
  ·exact((h.live id M f).heap (w:=w) (λp _ N=>i _ N.lt)).mono c
 ·intro id o1 z E p O a A n j l m;rw[aA.qE]at a n;simp only[Env.put]at l m;split at a<;>split at n
  ·omega
  ·next e t=>
   rw[aj e]at l;rw[ah t]at m;cases l;have:=(h.at n m).lt;omega
  ·next e t=>
   rw[ah e]at l;rw[aj t]at m;cases m;have:=(h.at a l).lt;omega
  ·next e t=>
   rw[ah e]at l;rw[ah t]at m;exact h.sep id o1 z E p O a A n j l m
 ·exact(i b (D b o u)).trans (h.jl b o u)
 ·rw[aA.qE]at v;simp only[Env.put]at s⊢;split at v
  ·next e=>
   rw[aj e]at s;cases s;cases B:F.ro q.bl with
   |none=>rfl
   |some E=>have:=D _ _ B;omega
  ·next e=>rw[ah e]at s;exact h.lV id o1 p v I s
 ·intro id o1 p a A n j;rw[aA.qE]at a;simp only[Env.put]at j;split at a
  ·next e=>rw[aj e]at j;cases j;left;exact G
  ·next e=>rw[ah e]at j;exact .inr ⟨id,o1,p,a,A,n,j,rfl⟩
def ayC{T:aH}{f size bytes k:Nat}{e:TypeId}(h0:0<size)(hE:sizeT P e=some size)(he:e≠0)
 (O:∀(a:Addr)(n c:Nat)(d:Q6)(w:World),d.length=n*size->(∀j u,d[j]? =some u->w.cell? (a.add j)=some u)->(∀u∈d,u.oneCell'=true)->n*bytes<=140737488355328->n<=maxLen->
  Calls P f #[.slice (some a) n c] w λL w'=>∃v',L=.returned v'/\w'.ownsRow w.heap.size e size v' n d/\Below w.heap.size w w')
 (nil:∀w,Calls P f #[.slice none 0 0] w λL w'=>L=.returned (.slice none 0 0)/\w'=w)
 (b:∀args w,(callFunc f args).run P w=.ok (.enter f args) w) (ae:0<bytes) (hI:∀gs E,T.I k gs=some E->wP bytes size gs=some E):@dO T P f (@WX T.togY k e):=by
 letI:=T
 intro args J r J' i F w vs hS hv;unfold WX at i;split at i
 ·cases i;obtain⟨x,af,rfl,G,l⟩:=hv;simp only[aC]at l;subst l;simp only[VR]at G;subst G;refine .inr ⟨b _ w,Calls.mono' (nil w) ?_⟩;rintro L w' ⟨rfl,rfl⟩
  exact⟨_,rfl,F,St.refl hS,by simp only[VR]⟩
 rotate_left
 ·cases i
 next Y7 n=>
 split at i;rotate_left
 ·cases i
 next n0 et fl ag=>
 split at i;rotate_left
 ·cases i
 next z=>
 rw[aK]at z;obtain⟨c1,c2⟩:=z;have c1:=bK c1;have c2:=bK c2;subst c1;subst c2;split at i;rotate_left
 ·cases i
 next m hm=>
 cases i;obtain⟨x,af,rfl,G,l⟩:=hv;simp only[aC]at l;subst l;simp only[VR]at G;obtain⟨s,Q,G⟩:=G;obtain⟨gm,m1,R⟩:=gU hm;simp only[Nd.den,valsOf,Q]at R;split at R;rotate_left
 ·cases R
 next E S=>
 have t:=hI _ _ S;simp only[wP]at t;split at t;rotate_left
 ·cases t
 next ai=>
 cases t;simp only[kX,aY]at R;subst R;obtain⟨V,W⟩:=ai;have ghost:∀w',Kept w w'->s=[]->∃M,St P F J w M (J.new (.vec m et false)) w'/\VR M (.sv J.next m) (.slice none 0 0):=by intro w' A e;subst e;have s1:=St.WT hS A;have s2:=s1.trans (St.ghost (m:=m) (et:=et) (f:=false) s1.rel m1 rfl rfl (λ_ _ h=>h));refine⟨_,s2,?_⟩;simp only[VR];exact⟨[],m1,.inr (by simp[Env.ghost])⟩
 rcases G with⟨q,hq,ap,rfl⟩|⟨aq,X,rfl⟩
 rotate_left
 ·refine .inr ⟨b _ w,Calls.mono' (nil w) ?_⟩;rintro L w' ⟨rfl,hw⟩
  obtain⟨M,g1,g2⟩:=ghost w (Kept.refl w) X;rw[hw];exact⟨_,rfl,M,g1,g2⟩
 obtain⟨ar,cs,Jj,Jo,N,o1,o2,o3,o4,o5,o6,o7,o8,o9⟩:=hS.at ag hq;rw[Q]at o1;cases o1;have ak:q.es=size:=by have:=(o7.room rfl).2.2;rw[hE]at this;cases this;rfl
 have al:s.length<=maxLen:=by
  have:s.length<=s.length*bytes:=aep _ ae
  unfold maxLen;omega
 have Y:∀y∈N,y.cells.size=size:=λy hy=>by rw[o4 y hy,ak]
 have Z:∀u∈dJ N,u.oneCell'=true:=by
  intro u hu;obtain⟨y,hy,hu⟩:=YB.1 hu;obtain⟨j,v⟩:=Lr hy;have aa:j<s.length:=by rw[o3.length];exact(fM.1 v).1
  obtain⟨y',ab,am⟩:=o3.at (bT aa);rw[v]at ab;cases ab;exact(asK (List.all_eq_true.1 W _ (gX aa)) am).2 u hu
 have an:(dJ N).length=s.length*size:=by rw[Gj Y,o3.length]
 have H:∀j u,(dJ N)[j]? =some u->w.cell? ((Addr.mk q.bl q.ba none).add j)=some u:=by
  intro j u v;have ac:(Addr.mk q.bl q.ba none).add j=⟨q.bl,q.ba+j,none⟩:=by unfold Addr.add;split<;>simp_all
  rw[ac];simp only[World.cell?,o2];rw[ah (by simp)];exact o5 j u v
 refine .inr ⟨b _ w,Calls.mono' (O _ s.length _ (dJ N) w an H Z V al) ?_⟩;rintro L w' ⟨v',rfl,o,ad⟩
 have A:=Kept.of_below ad;obtain⟨_,o⟩:=o;rcases o with⟨rfl,hn⟩|⟨g,p,ao,rfl,hg,hb,B,_,av,I⟩
 ·obtain⟨M,g1,g2⟩:=ghost w' A (jH hn);exact⟨_,rfl,M,g1,g2⟩
 ·have D:p*size/size=p:=Tj _ h0;refine⟨_,rfl,F.put J.next ⟨g,0,p*size,size⟩,St.adopt hS A _ ⟨g,0,p*size,size⟩ hg ?_,?_⟩
  ·refine⟨s,ao,et,(0,0),N,m1,hb,o3,Y,?_,uD _ B,?_,o8,λh=>by cases h⟩
   ·intro j u v;rw[<-I,mg]at v;split at v
    ·simpa using v
    ·cases v
   ·exact {fits:=(by simp;omega),le:=(by simp),shut:=(λh=>by cases h),cell:=(λkk a A=>by simp at A),free:=(λ_ kk _ A=>by simp at A),whole:=(λ_=>⟨rfl,by simp;omega,λh=>by cases h⟩),room:=(λ_=>⟨he,h0,hE⟩)}
  ·simp only[VR];exact⟨s,m1,.inl ⟨⟨g,0,p*size,size⟩,by simp[Env.put],by simp only[D];exact B,by simp only[D]⟩⟩
def Jp(bytes:Nat):Q1->Option Q1
 |[.i .i64 n]=>if 0<=n/\n.toNat*bytes<=140737488355328/\n<=4611686018427387904 then some [.l []]else none
 |_=>none
section
variable[gY]
def WY(k et:Nat):dZ:=λargs J=>match args with
 |[.gK,a]=>match jg a with
  |some n=>match fQ (.call k [n] 0)with
   |some m=>some (.sv J.next m,J.new (.vec m et false))
   |none=>none
  |none=>none
 |_=>none
end
def au3{bytes:Nat}{g:GV}{a:Q1}(h:Jp bytes [g]=some a):∃n:Nat,g=.i .i64 (n:Int)/\n*bytes<=140737488355328/\n<=4611686018427387904/\a=[.l []]:=by
 unfold Jp at h;split at h;rotate_left
 ·cases h
 next n e=>
 injection e with e _
 subst e;split at h;rotate_left
 ·cases h
 next c=>
 injection h with h
 refine⟨n.toNat,by rw[Il c.1],c.2.1,by omega,h.symm⟩
def ayH{T:aH}{f size bytes k:Nat}{e:TypeId}(h0:0<size)(X:sizeT P e=some size)(Y:e≠0)
 (t:∀(n:Nat)(w:World),0<n->n*bytes<=140737488355328->n<=4611686018427387904->
  Calls P f #[.slice none 0 0,.int .i64 n] w λv w'=>∃G,v=.returned G/\w'.ownsRow w.heap.size e size G 0 []/\Kept w w')
 (nil:∀w,Calls P f #[.slice none 0 0,.int .i64 ((0:Nat):Int)] w λv w'=>v=.returned (.slice none 0 0)/\w'=w)
 (b:∀args w,(callFunc f args).run P w=.ok (.enter f args) w) (Z:∀gs q,T.I k gs=some q->Jp bytes gs=some q):@dO T P f (@WY T.togY k e):=by
 letI:=T
 intro args J r J' i F w vs R hv;unfold WY at i;split at i;rotate_left
 ·cases i
 next a=>
 split at i;rotate_left
 ·cases i
 next nn H=>
 split at i;rotate_left
 ·cases i
 next m hm=>
 cases i;obtain⟨x,aa,rfl,D,z⟩:=hv;simp only[aC]at z;obtain⟨y,ab,rfl,I,L⟩:=z;subst L;simp only[VR]at D;subst D;obtain⟨gn,n1,n2,S⟩:=ng H I;obtain⟨gm,E,A⟩:=gU hm;simp only[Nd.den,valsOf,n1]at A;split at A;rotate_left
 ·cases A
 next q B=>
 obtain⟨n,rfl,b1,b2,rfl⟩:=au3 (Z _ _ B);simp only[kX,aY]at A;subst A;simp only[GR]at S;subst S;have ghost:∀w',Kept w w'->∃s,St P F J w s (J.new (.vec m e false)) w'/\VR s (.sv J.next m) (.slice none 0 0):=by intro w' l;have V:=St.WT R l;have s2:=V.trans (St.ghost (m:=m) (et:=e) (f:=false) V.rel E rfl rfl (λ_ _ h=>h));refine⟨_,s2,?_⟩;simp only[VR];exact⟨[],E,.inr (by simp[Env.ghost])⟩
 by_cases W:n=0
 ·subst W;refine .inr ⟨b _ w,Calls.mono' (nil w) ?_⟩;rintro v w' ⟨rfl,hw⟩
  obtain⟨s,M,N⟩:=ghost w (Kept.refl w);rw[hw];exact⟨_,rfl,s,M,N⟩
 refine .inr ⟨b _ w,Calls.mono' (t n w (by omega) b1 b2) ?_⟩;rintro v w' ⟨G,rfl,c,l⟩
 obtain⟨_,c⟩:=c;rcases c with⟨rfl,W⟩|⟨g,d,O,rfl,hg,hb,o,_,ac,Q⟩
 ·obtain⟨s,M,N⟩:=ghost w' l;exact⟨_,rfl,s,M,N⟩
 ·have p:d*size/size=d:=Tj _ h0;refine⟨_,rfl,F.put J.next ⟨g,0,d*size,size⟩,St.adopt R l _ ⟨g,0,d*size,size⟩ hg ?_,?_⟩
  ·refine⟨[],O,e,(0,0),[],E,hb,by simp only[aS],λy I=>(by cases I),?_,uD _ o,?_,λx D=>(by cases D),λh=>by cases h⟩
   ·intro j u hj;simp[dJ]at hj
   ·exact {fits:=(by simp;omega),le:=(by simp),shut:=(λh=>by cases h),cell:=(λkk a l=>by simp at l),free:=(λ_ kk _ l=>by simp at l),whole:=(λ_=>⟨rfl,by simp;omega,λh=>by cases h⟩),room:=(λ_=>⟨Y,h0,X⟩)}
  ·simp only[VR];exact⟨[],E,.inl ⟨⟨g,0,d*size,size⟩,by simp[Env.put],by simp only[p];exact o,by simp only[p];rfl⟩⟩
