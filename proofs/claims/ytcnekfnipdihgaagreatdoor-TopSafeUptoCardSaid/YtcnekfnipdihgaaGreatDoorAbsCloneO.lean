/- slices.Clone of a list of our own: an own list again. -/
import Derived.Test.YtcnekfnipdihgaaGreatDoorAbsTold
set_option linter.all false
namespace Go.aP
open Go.RowKit
noncomputable section
variable{P:Program}
section
variable[iD]
def XE(k et:Nat):dV:=λargs J=>match args with
 |[.gX]=>some (.gX,J)
 |[.sv id n]=>match J.get id with
  |some (.vec a e f)=>
   if Nat.beq a n&&Nat.beq e et then
    match gq (.call k [n] 0)with
    |some m=>some (.sv J.next m,J.new (.vec m et false))
    |none=>none
   else none
  |_=>none
 |_=>none
end
def aT.aj2{ro:QP}:∀{l:Q3}{vs:Qt},aT ro l vs->l.all GV.scalar=true->∀v∈vs,v.oneCell'=true
 |[],vs,h,_,v,b=>by simp only[aT]at h;subst h;simp at b
 |a::l,vs,h,c,v,b=>by
  simp only[aT]at h;obtain⟨x,xs,rfl,h1,d⟩:=h;simp only[qZ,aO]at c;rcases bJ.1 b with rfl|b
  ·letI:aJ:=Tg [] [] 0
   rw[Sr];exact GR.qw h1 c.1
  ·exact aT.aj2 d c.2 v b
def asW{ro:QP}{x:GV}{y:Value}{size:Nat}(b:x.gu size=true)(h:GR ro x y):y.cells.size=size/\∀v∈y.cells.toList,v.oneCell'=true:=by
 letI:aJ:=Tg [] [] 0
 unfold GV.gu at b;rw[aO]at b;have c:=bQ b.1;refine⟨by rw[<-c];exact(GR.ZY (F:=⟨λ_=>none,ro,λ_=>false⟩) h).symm,?_⟩;cases x with
 |g e=>simp only[GR]at h;obtain⟨f,rfl,h⟩:=h;exact aT.aj2 h b.2
 |l d=>have i:=GR.qw h (g:=.l d) rfl;intro v a;simp only[GR]at h;rcases h with⟨_,p,rfl⟩|⟨_,_,_,_,_,rfl,_⟩<;>(simp[Value.cells]at a;subst a;rfl)
 |_=>simp only[GR]at h;subst h;intro v a;simp[Value.cells]at a;subst a;rfl
def St.adopt[aJ]{F:Env}{J:aC}{w w':World}(h:SR P F J w)(r:Kept w w')(o:bM)(q:Place)(G:w.heap.size<=q.bl)
 (H:OR P (F.put J.next q) q w' o):St P F J w (F.put J.next q) (J.new o) w':=by
 have c:=Env.Ib h q;have i:∀k,k<w.heap.size->w'.heap[k]? =w.heap[k]?:=r.keep;have D:∀b o,F.ro b=some o->b<w.heap.size:=λb o u=>xF (h.jl b o u);refine⟨c,⟨?_,?_,?_,Env.ac9 h q (Ce _),?_,λb o u=>?_,λid o1 p v I s=>?_,λp d=>(h.tabs p d).mono c⟩,r.size,λbl x _=>i bl x,?_,r.os,r.tape,r.output,rfl,Nat.le_succ _,?_,λ_ h=>.inl h⟩;rotate_right
 ·rintro id (⟨p,d⟩|y)
  ·simp only[Env.put]at d;split at d
   ·next e=>subst e;exact .inr ⟨Nat.le_refl _,Ce _⟩
   ·exact .inl (.inl ⟨p,d⟩)
  ·exact .inl (.inr y)
 ·intro g y;obtain⟨L,es,a⟩:=h.nR g y;exact⟨L,es,c.pl _ _ a⟩
 ·intro id p d;simp only[Env.put]at d;show id<J.next+1
  split at d
  ·omega
  ·have:=h.dom id p d;omega
 ·intro id M f;rw[aC.qK]at f;split at f
  ·next e=>cases f;subst e;exact .inl ⟨q,by simp[Env.put],H⟩
  ·exact((h.live id M f).heap (w:=w) (λp _ N=>i _ N.lt)).mono c
 ·intro id o1 z E p O a A n j l m;rw[aC.qK]at a n;simp only[Env.put]at l m;split at a<;>split at n
  ·omega
  ·next e t=>
   rw[au e]at l;rw[aj t]at m;cases l;have:=(h.at n m).lt;omega
  ·next e t=>
   rw[aj e]at l;rw[au t]at m;cases m;have:=(h.at a l).lt;omega
  ·next e t=>
   rw[aj e]at l;rw[aj t]at m;exact h.sep id o1 z E p O a A n j l m
 ·exact(i b (D b o u)).trans (h.jl b o u)
 ·rw[aC.qK]at v;simp only[Env.put]at s⊢;split at v
  ·next e=>
   rw[au e]at s;cases s;cases B:F.ro q.bl with
   |none=>rfl
   |some E=>have:=D _ _ B;omega
  ·next e=>rw[aj e]at s;exact h.lU id o1 p v I s
 ·intro id o1 p a A n j;rw[aC.qK]at a;simp only[Env.put]at j;split at a
  ·next e=>rw[au e]at j;cases j;left;exact G
  ·next e=>rw[aj e]at j;exact .inr ⟨id,o1,p,a,A,n,j,rfl⟩
def ayy{T:aJ}{f size bytes k:Nat}{e:TypeId}(h0:0<size)(hE:sizeT P e=some size)(he:e≠0)
 (O:∀(a:Addr)(n c:Nat)(d:Qt)(w:World),d.length=n*size->(∀j u,d[j]? =some u->w.cell? (a.add j)=some u)->(∀u∈d,u.oneCell'=true)->n*bytes<=140737488355328->n<=maxLen->
  Calls P f #[.slice (some a) n c] w λL w'=>∃v',L=.returned v'/\w'.ownsRow w.heap.size e size v' n d/\Below w.heap.size w w')
 (nil:∀w,Calls P f #[.slice none 0 0] w λL w'=>L=.returned (.slice none 0 0)/\w'=w)
 (b:∀args w,(callFunc f args).run P w=.ok (.enter f args) w) (ae:0<bytes) (hI:∀gs E,T.I k gs=some E->xw bytes size gs=some E):@dP T P f (@XE T.toiD k e):=by
 letI:=T
 intro args J r J' i F w vs hS hv;unfold XE at i;split at i
 ·cases i;obtain⟨x,af,rfl,G,l⟩:=hv;simp only[aG]at l;subst l;simp only[VR]at G;subst G;refine .inr ⟨b _ w,Calls.mono' (nil w) ?_⟩;rintro L w' ⟨rfl,rfl⟩
  exact⟨_,rfl,F,St.refl hS,by simp only[VR]⟩
 rotate_left
 ·cases i
 next ZK n=>
 split at i;rotate_left
 ·cases i
 next n0 et fl ag=>
 split at i;rotate_left
 ·cases i
 next z=>
 rw[aO]at z;obtain⟨c1,c2⟩:=z;have c1:=bQ c1;have c2:=bQ c2;subst c1;subst c2;split at i;rotate_left
 ·cases i
 next m hm=>
 cases i;obtain⟨x,af,rfl,G,l⟩:=hv;simp only[aG]at l;subst l;simp only[VR]at G;obtain⟨s,Q,G⟩:=G;obtain⟨gm,m1,R⟩:=iq hm;simp only[Nd.den,valsOf,Q]at R;split at R;rotate_left
 ·cases R
 next E S=>
 have t:=hI _ _ S;simp only[xw]at t;split at t;rotate_left
 ·cases t
 next ai=>
 cases t;simp only[kQ,bf]at R;subst R;obtain⟨U,W⟩:=ai;have ghost:∀w',Kept w w'->s=[]->∃M,St P F J w M (J.new (.vec m et false)) w'/\VR M (.sv J.next m) (.slice none 0 0):=by intro w' A e;subst e;have s1:=St.Xz hS A;have s2:=s1.trans (St.ghost (m:=m) (et:=et) (f:=false) s1.rel m1 rfl rfl (λ_ _ h=>h));refine⟨_,s2,?_⟩;simp only[VR];exact⟨[],m1,.inr (by simp[Env.ghost])⟩
 rcases G with⟨q,hq,ap,rfl⟩|⟨aq,X,rfl⟩
 rotate_left
 ·refine .inr ⟨b _ w,Calls.mono' (nil w) ?_⟩;rintro L w' ⟨rfl,hw⟩
  obtain⟨M,g1,g2⟩:=ghost w (Kept.refl w) X;rw[hw];exact⟨_,rfl,M,g1,g2⟩
 obtain⟨ar,cs,Jv,JA,N,o1,o2,o3,o4,o5,o6,o7,o8,o9⟩:=hS.at ag hq;rw[Q]at o1;cases o1;have ak:q.es=size:=by have:=(o7.room rfl).2.2;rw[hE]at this;cases this;rfl
 have al:s.length<=maxLen:=by
  have:s.length<=s.length*bytes:=aeT _ ae
  unfold maxLen;omega
 have Y:∀y∈N,y.cells.size=size:=λy hy=>by rw[o4 y hy,ak]
 have Z:∀u∈dR N,u.oneCell'=true:=by
  intro u hu;obtain⟨y,hy,hu⟩:=Zd.1 hu;obtain⟨j,v⟩:=LX hy;have aa:j<s.length:=by rw[o3.length];exact(fV.1 v).1
  obtain⟨y',ab,am⟩:=o3.at (bV aa);rw[v]at ab;cases ab;exact(asW (List.all_eq_true.1 W _ (gY aa)) am).2 u hu
 have an:(dR N).length=s.length*size:=by rw[Gy Y,o3.length]
 have H:∀j u,(dR N)[j]? =some u->w.cell? ((Addr.mk q.bl q.ba none).add j)=some u:=by
  intro j u v;have ac:(Addr.mk q.bl q.ba none).add j=⟨q.bl,q.ba+j,none⟩:=by unfold Addr.add;split<;>simp_all
  rw[ac];simp only[World.cell?,o2];rw[aj aA];exact o5 j u v
 refine .inr ⟨b _ w,Calls.mono' (O _ s.length _ (dR N) w an H Z U al) ?_⟩;rintro L w' ⟨v',rfl,o,ad⟩
 have A:=Kept.of_below ad;obtain⟨_,o⟩:=o;rcases o with⟨rfl,hn⟩|⟨g,p,ao,rfl,hg,hb,B,_,av,I⟩
 ·obtain⟨M,g1,g2⟩:=ghost w' A (jT hn);exact⟨_,rfl,M,g1,g2⟩
 ·have D:p*size/size=p:=Uk _ h0;refine⟨_,rfl,F.put J.next ⟨g,0,p*size,size⟩,St.adopt hS A _ ⟨g,0,p*size,size⟩ hg ?_,?_⟩
  ·refine⟨s,ao,et,(0,0),N,m1,hb,o3,Y,?_,uQ _ B,?_,o8,λh=>by cases h⟩
   ·intro j u v;rw[<-I,mW]at v;split at v
    ·simpa using v
    ·cases v
   ·exact {fits:=(by simp;omega),le:=aA,shut:=(λh=>by cases h),cell:=(λkk a A=>by simp at A),free:=(λ_ kk _ A=>by simp at A),whole:=(λ_=>⟨rfl,by simp;omega,λh=>by cases h⟩),room:=(λ_=>⟨he,h0,hE⟩)}
  ·simp only[VR];exact⟨s,m1,.inl ⟨⟨g,0,p*size,size⟩,by simp[Env.put],by simp only[D];exact B,by simp only[D]⟩⟩
def JB(bytes:Nat):Q3->Option Q3
 |[.i .i64 n]=>if 0<=n/\n.toNat*bytes<=140737488355328/\n<=4611686018427387904 then some [.l []]else none
 |_=>none
section
variable[iD]
def XF(k et:Nat):dV:=λargs J=>match args with
 |[.gX,a]=>match jy a with
  |some n=>match gq (.call k [n] 0)with
   |some m=>some (.sv J.next m,J.new (.vec m et false))
   |none=>none
  |none=>none
 |_=>none
end
def au4{bytes:Nat}{g:GV}{a:Q3}(h:JB bytes [g]=some a):∃n:Nat,g=.i .i64 (n:Int)/\n*bytes<=140737488355328/\n<=4611686018427387904/\a=[.l []]:=by
 unfold JB at h;split at h;rotate_left
 ·cases h
 next n e=>
 injection e with e _
 subst e;split at h;rotate_left
 ·cases h
 next c=>
 injection h with h
 refine⟨n.toNat,by rw[IG c.1],c.2.1,ah,h.symm⟩
def ayD{T:aJ}{f size bytes k:Nat}{e:TypeId}(h0:0<size)(X:sizeT P e=some size)(Y:e≠0)
 (t:∀(n:Nat)(w:World),0<n->n*bytes<=140737488355328->n<=4611686018427387904->
  Calls P f #[.slice none 0 0,.int .i64 n] w λv w'=>∃G,v=.returned G/\w'.ownsRow w.heap.size e size G 0 []/\Kept w w')
 (nil:∀w,Calls P f #[.slice none 0 0,.int .i64 ((0:Nat):Int)] w λv w'=>v=.returned (.slice none 0 0)/\w'=w)
 (b:∀args w,(callFunc f args).run P w=.ok (.enter f args) w) (Z:∀gs q,T.I k gs=some q->JB bytes gs=some q):@dP T P f (@XF T.toiD k e):=by
 letI:=T
 intro args J r J' i F w vs R hv;unfold XF at i;split at i;rotate_left
 ·cases i
 next a=>
 split at i;rotate_left
 ·cases i
 next nn H=>
 split at i;rotate_left
 ·cases i
 next m hm=>
 cases i;obtain⟨x,aa,rfl,D,z⟩:=hv;simp only[aG]at z;obtain⟨y,ab,rfl,I,L⟩:=z;subst L;simp only[VR]at D;subst D;obtain⟨gn,n1,n2,S⟩:=nK H I;obtain⟨gm,E,A⟩:=iq hm;simp only[Nd.den,valsOf,n1]at A;split at A;rotate_left
 ·cases A
 next q B=>
 obtain⟨n,rfl,b1,b2,rfl⟩:=au4 (Z _ _ B);simp only[kQ,bf]at A;subst A;simp only[GR]at S;subst S;have ghost:∀w',Kept w w'->∃s,St P F J w s (J.new (.vec m e false)) w'/\VR s (.sv J.next m) (.slice none 0 0):=by intro w' l;have U:=St.Xz R l;have s2:=U.trans (St.ghost (m:=m) (et:=e) (f:=false) U.rel E rfl rfl (λ_ _ h=>h));refine⟨_,s2,?_⟩;simp only[VR];exact⟨[],E,.inr (by simp[Env.ghost])⟩
 by_cases W:n=0
 ·subst W;refine .inr ⟨b _ w,Calls.mono' (nil w) ?_⟩;rintro v w' ⟨rfl,hw⟩
  obtain⟨s,M,N⟩:=ghost w (Kept.refl w);rw[hw];exact⟨_,rfl,s,M,N⟩
 refine .inr ⟨b _ w,Calls.mono' (t n w ah b1 b2) ?_⟩;rintro v w' ⟨G,rfl,c,l⟩
 obtain⟨_,c⟩:=c;rcases c with⟨rfl,W⟩|⟨g,d,O,rfl,hg,hb,o,_,ac,Q⟩
 ·obtain⟨s,M,N⟩:=ghost w' l;exact⟨_,rfl,s,M,N⟩
 ·have p:d*size/size=d:=Uk _ h0;refine⟨_,rfl,F.put J.next ⟨g,0,d*size,size⟩,St.adopt R l _ ⟨g,0,d*size,size⟩ hg ?_,?_⟩
  ·refine⟨[],O,e,(0,0),[],E,hb,by simp only[aT],λy I=>(by cases I),?_,uQ _ o,?_,λx D=>(by cases D),λh=>by cases h⟩
   ·intro j u hj;simp[dR]at hj
   ·exact {fits:=(by simp;omega),le:=aA,shut:=(λh=>by cases h),cell:=(λkk a l=>by simp at l),free:=(λ_ kk _ l=>by simp at l),whole:=(λ_=>⟨rfl,by simp;omega,λh=>by cases h⟩),room:=(λ_=>⟨Y,h0,X⟩)}
  ·simp only[VR];exact⟨[],E,.inl ⟨⟨g,0,d*size,size⟩,by simp[Env.put],by simp only[p];exact o,by simp only[p];rfl⟩⟩
section
variable[iD]
def ach(P:Program)(p:dV):dV:=λargs J=>match args with
 |[.sv id n,.fn g [] [.p c 0]]=>match Jq P J [id,c] [.sv id n],J.get c with
  |some [d],some (.cells [a,b] f true false)=>match Jq P J [id,c] [a,b]with
   |some e=>match gq (.mk e)with
    |some m=>if Nat.ble J.lock id&&Nat.ble J.lock c then
      match p [.nd d,.fn g [] [.rx m 0]] ⟨(kills J [id,c]).h,(kills J [id,c]).next,(kills J [id,c]).next⟩with
      |some (.nd b,_)=>match gq (.un .not b)with
       |some _=>some (.nd b,J)
       |none=>none
      |_=>none
     else none
    |none=>none
   |none=>none
  |_,_=>none
 |_=>none
end
def ajQ{T:aJ}{F:Env}:∀{c:Q4}{a:Q3}{vs:Qt},valsOf T.val c=some a->a.all GV.scalar=true->aT F.ro a vs->@aG T F (c.map .nd) vs
 |[],a,vs,h,_,b=>by simp only[valsOf,bf]at h;subst h;simp only[aT]at b;subst b;simp[aG]
 |n::c,a,vs,h,d,b=>by
  letI:=T
  simp only[valsOf]at h;split at h
  ·next g r e f=>
   cases h;simp only[aT]at b;obtain⟨x,i,rfl,j,k⟩:=b;rw[qZ,aO]at d;simp only[iU,aG];refine⟨x,i,rfl,?_,ajQ f d.2 k⟩;simp only[VR];exact⟨g,e,d.1,j⟩
  ·cases h
def ayG{T:aJ}{f:FuncId}{p:dV}(hp:@dP T P f p):@dP T P f (@ach T.toiD P p):=by
 letI:=T
 intro args J rr J' c F w vs L hv;unfold ach at c;split at c;rotate_left
 ·cases c
 next id n g t=>
 split at c;rotate_left
 ·cases c
 next n1 a b ct Y M=>
 split at c;rotate_left
 ·cases c
 next ns Z=>
 split at c;rotate_left
 ·cases c
 next m hm=>
 split at c;rotate_left
 ·cases c
 next B=>
 split at c;rotate_left
 ·cases c
 next bn J1 aa=>
 split at c;rotate_left
 ·cases c
 next nb ab=>
 cases c;rw[aO]at B;have Bq:∀i∈[id,t],J.lock<=i:=λi hi=>by
  rcases bJ.1 hi with rfl|hi
  ·exact um B.1
  ·rw[jI.1 hi];exact um B.2
 obtain⟨H,f1,u,f3⟩:=V6 L [id,t] Bq;have C:wY T P T.tabs P.globals.size (P.globals.size+1) F J w [id,t] [] [] [] H:=⟨L,rfl,f1,f3,rfl,Ce _⟩
 simp only[aG]at hv;obtain⟨U,_,rfl,ac,v2,_,rfl,N,rfl⟩:=hv;obtain⟨ai,k1,k2,k3⟩:=Vf (vs:=[U]) C Y (by simp only[aG];exact⟨U,[],rfl,ac,rfl⟩);have hl:=ajQ (T:=T) (F:=⟨F.pl,H,F.gh⟩) k1 k2 k3;simp only[VR,aG]at N;obtain⟨us,ws,rfl,rfl,pv,_,rfl,⟨q,hq,rfl⟩,rfl⟩:=N;obtain⟨q',O,cs,A,fr,hh,W⟩:=L.obj t _ M rfl;rw[hq]at O;cases O;obtain⟨I,c0,r0⟩:=W.cell 0 a rfl;obtain⟨D,c1,r1⟩:=W.cell 1 b rfl;obtain⟨Q,m1,m2,m3⟩:=Vf (vs:=[I,D]) C Z (by simp only[aG];exact⟨I,[D],rfl,r0,D,[],rfl,r1,rfl⟩);obtain⟨gm,d1,d2⟩:=iq hm;have RS:valsOf aJ.val ns=some Q:=m1;simp only[Nd.den,RS,m2,if_true,bf]at d2;subst d2;have ad:H q.bl=some (.cells cs A fr):=by rw[f3 t aA _ q M rfl hq];exact hh
 have R:(Value.agg ⟨[I,D]⟩).cells.toList=[I,D]:=rfl;have ae:@VR T ⟨F.pl,H,F.gh⟩ (.rx m 0) (.pointer (some ⟨q.bl,q.ba+0,none⟩)):=by
  simp only[VR];refine⟨.g Q,q.bl,q.ba,cs,A,fr,.agg ⟨[I,D]⟩,d1,ad,?_,rfl,?_,?_⟩
  ·simp only[GR];exact⟨[I,D],rfl,m3⟩
  ·have:=W.fits;have:=W.le;rw[<-IC,R];simp only[ig,kF]at *;omega
  ·rw[R];intro k x z;match k,z with
   |0,z=>simp only[kQ,bf]at z;subst z;exact c0
   |1,z=>simp only[vT,kQ,bf]at z;subst z;exact c1
   |k+2,z=>simp at z
 have E:@aG T ⟨F.pl,H,F.gh⟩ [.nd n1,.fn g [] [.rx m 0]] [U,.func (.func g) ⟨[]⟩ ⟨[.pointer (some ⟨q.bl,q.ba+0,none⟩)]⟩]:=by simp only[aG]at hl⊢;obtain⟨y,ys,e,h1,h2⟩:=hl;cases e;refine⟨U,_,rfl,h1,_,_,rfl,?_,rfl⟩;simp only[VR,aG];exact⟨[],_,rfl,rfl,_,_,rfl,by simpa only[VR]using ae,rfl⟩
 have af:@SR T P ⟨F.pl,H,F.gh⟩ ⟨(kills J [id,t]).h,(kills J [id,t]).next,(kills J [id,t]).next⟩ w:=
  ⟨u.rel.nR,u.rel.dom,u.rel.live,u.rel.kH,u.rel.sep,u.rel.jl,u.rel.lU,u.rel.tabs⟩
 refine lY.mono (hp _ _ _ _ aa _ w _ af E) ?_;rintro v w' ⟨F',d,hr⟩
 have r:∀S,S<w.heap.size->w'.heap[S]? =w.heap[S]?:=λS hb=>d.keep S hb λi o q h1 h2 h3 h4=>by have:=u.rel.dom i q h4;exact absurd h3 (by show ¬(kills J [id,t]).next<=i;omega)
 have G:F9 F.ro F.ro w w':=⟨⟨d.os,d.tape,d.output,d.size,r⟩,λ_ _ h=>h,λ_ h=>.inl h,λb o h=>by
  have h0:=L.jl b o h;rw[r b (by
   rcases xY b w.heap.size with q|q
   ·exact q
   ·rw[am6 q]at h0;cases h0)]
  exact h0⟩
 refine⟨⟨F.pl,F.ro,F.gh⟩,St.ajY (ro':=F.ro) L G,?_⟩;obtain⟨gb,b1,X⟩:=iq ab;simp only[VR]at hr⊢;obtain⟨gv,e1,e2,e3⟩:=hr;have ag:aJ.val bn=some gv:=e1;simp only[Nd.den,ag]at X;refine⟨gv,e1,e2,?_⟩;cases gv with
 |b y=>simpa only[GR]using e3
 |i k j=>cases k<;>simp[Lp]at X
 |s y=>simp[Lp]at X
 |g l=>cases e2
 |l y=>simp[Lp]at X
