/- slices.Clone of a list of our own: an own list again. -/
import Derived.Test.YteenmipdepcibaaGreatDoorAbsTold
set_option linter.unusedSimpArgs false
set_option linter.unusedSectionVars false
set_option linter.unusedVariables false
namespace Go.aN
open Go.RowKit
noncomputable section
variable{P:Program}
section
variable[gG]
def LM(k et:Nat):dX:=λargs J=>match args with
 |[.fV]=>some (.fV,J)
 |[.sv id n]=>match J.get id with
  |some (.vec n0 e f)=>
   if Nat.beq n0 n&&Nat.beq e et then
    match fF (.call k [n] 0)with
    |some m=>some (.sv J.next m,J.new (.vec m et false))
    |none=>none
   else none
  |_=>none
 |_=>none
end
theorem aO.ahb{ro:Qf}:∀{l:Q1}{vs:Q6},aO ro l vs->l.all GV.scalar=true->∀v∈vs,v.oneCell'=true
 |[],vs,h,_,v,hv=>by simp only[aO]at h;subst h;simp at hv
 |a::l,vs,h,hs,v,hv=>by
  simp only[aO]at h;obtain⟨x,xs,rfl,h1,h2⟩:=h;simp only[qK,aK]at hs;rcases bG.1 hv with rfl|hv
  ·letI:aH:=Tg [] [] 0
   rw[Pn];exact GR.nZ h1 hs.1
  ·exact aO.ahb h2 hs.2 v hv
theorem apj{ro:Qf}{x:GV}{y:Value}{size:Nat}(hx:x.fC size=true)(h:GR ro x y):y.cells.size=size/\∀v∈y.cells.toList,v.oneCell'=true:=by
 letI:aH:=Tg [] [] 0
 unfold GV.fC at hx;rw[aK]at hx;have h1:=bD hx.1;refine⟨by rw[<-h1];exact(GR.XI (F:=⟨λ_=>none,ro,λ_=>false⟩) h).symm,?_⟩;cases x with
 |g cs=>simp only[GR]at h;obtain⟨vs,rfl,h⟩:=h;exact aO.ahb h hx.2
 |l xs=>have ho:=GR.nZ h (g:=.l xs) rfl;intro v hv;simp only[GR]at h;rcases h with⟨_,p,rfl⟩|⟨_,_,_,_,_,rfl,_⟩<;>(simp[Value.cells]at hv;subst hv;rfl)
 |_=>simp only[GR]at h;subst h;intro v hv;simp[Value.cells]at hv;subst hv;rfl
theorem St.adopt[aH]{F:Env}{J:aA}{w w':World}(h:SR P F J w)(hk:Kept w w')(o:bn)(q:Place)(hq:w.heap.size<=q.bl)
 (ho:OR P (F.put J.next q) q w' o):St P F J w (F.put J.next q) (J.new o) w':=by
 have hle:=Env.FD h q;have hat:∀k,k<w.heap.size->w'.heap[k]? =w.heap[k]?:=hk.keep;have OT:∀b o,F.ro b=some o->b<w.heap.size:=λb o hb=>uP (h.iT b o hb);refine⟨hle,⟨?_,?_,?_,Env.aaM h q (BM _),?_,λb o hb=>?_,λid o1 p a1 a2 a3=>?_,λp hp=>(h.tabs p hp).mono hle⟩,hk.size,λbl hbl _=>hat bl hbl,?_,hk.os,hk.tape,hk.output,rfl,Nat.le_succ _,?_,λ_ h=>.inl h⟩;rotate_right
 ·rintro id (⟨p,hp⟩|hg)
  ·simp only[Env.put]at hp;split at hp
   ·next e=>subst e;exact .inr ⟨Nat.le_refl _,BM _⟩
   ·exact .inl (.inl ⟨p,hp⟩)
  ·exact .inl (.inr hg)
 ·intro g hg;obtain⟨sz,es,h1⟩:=h.mg g hg;exact⟨sz,es,hle.pl _ _ h1⟩
 ·intro id p hp;simp only[Env.put]at hp;show id<J.next+1
  split at hp
  ·omega
  ·have:=h.dom id p hp;omega
 ·intro id o' ho';rw[aA.oK]at ho';split at ho'
  ·next e=>cases ho';subst e;exact .inl ⟨q,by simp[Env.put],ho⟩
  ·exact((h.live id o' ho').heap (w:=w) (λp _ hr=>hat _ hr.lt)).mono hle
 ·intro id o1 id' o2 p p' h1 h2 h3 h4 h5 h6;rw[aA.oK]at h1 h3;simp only[Env.put]at h5 h6;split at h1<;>split at h3
  ·omega
  ·next e e'=>
   rw[aj e]at h5;rw[ah e']at h6;cases h5;have:=(h.at h3 h6).lt;omega
  ·next e e'=>
   rw[ah e]at h5;rw[aj e']at h6;cases h6;have:=(h.at h1 h5).lt;omega
  ·next e e'=>
   rw[ah e]at h5;rw[ah e']at h6;exact h.sep id o1 id' o2 p p' h1 h2 h3 h4 h5 h6
 ·exact(hat b (OT b o hb)).trans (h.iT b o hb)
 ·rw[aA.oK]at a1;simp only[Env.put]at a3⊢;split at a1
  ·next e=>
   rw[aj e]at a3;cases a3;cases hro:F.ro q.bl with
   |none=>rfl
   |some o2=>have:=OT _ _ hro;omega
  ·next e=>rw[ah e]at a3;exact h.kN id o1 p a1 a2 a3
 ·intro id o1 p h1 h2 h3 h4;rw[aA.oK]at h1;simp only[Env.put]at h4;split at h1
  ·next e=>rw[aj e]at h4;cases h4;left;exact hq
  ·next e=>rw[ah e]at h4;exact .inr ⟨id,o1,p,h1,h2,h3,h4,rfl⟩
theorem ahi{T:aH}{f size bytes k:Nat}{e:TypeId}(h0:0<size)(hE:sizeT P e=some size)(he:e≠0)
 (walk:∀(a:Addr)(n c:Nat)(news:Q6)(w:World),news.length=n*size->(∀j u,news[j]? =some u->w.cell? (a.add j)=some u)->(∀u∈news,u.oneCell'=true)->n*bytes<=140737488355328->n<=maxLen->
  Calls P f #[.slice (some a) n c] w λer w'=>∃v',er=.returned v'/\w'.ownsRow w.heap.size e size v' n news/\Below w.heap.size w w')
 (nil:∀w,Calls P f #[.slice none 0 0] w λer w'=>er=.returned (.slice none 0 0)/\w'=w)
 (enters:∀args w,(callFunc f args).run P w=.ok (.enter f args) w) (hby:0<bytes) (hI:∀gs out,T.I k gs=some out->qy bytes size gs=some out):@dN T P f (@LM T.togG k e):=by
 letI:=T
 intro args J r J' hs F w vs hS hv;unfold LM at hs;split at hs
 ·cases hs;obtain⟨x,xs1,rfl,hx,hxs⟩:=hv;simp only[aC]at hxs;subst hxs;simp only[VR]at hx;subst hx;refine .inr ⟨enters _ w,Calls.mono' (nil w) ?_⟩;rintro er w' ⟨rfl,rfl⟩
  exact⟨_,rfl,F,St.refl hS,by simp only[VR]⟩
 rotate_left
 ·cases hs
 next Xt n=>
 split at hs;rotate_left
 ·cases hs
 next n0 et fl hgv=>
 split at hs;rotate_left
 ·cases hs
 next hcnd=>
 rw[aK]at hcnd;obtain⟨c1,c2⟩:=hcnd;have c1:=bD c1;have c2:=bD c2;subst c1;subst c2;split at hs;rotate_left
 ·cases hs
 next m hm=>
 cases hs;obtain⟨x,xs1,rfl,hx,hxs⟩:=hv;simp only[aC]at hxs;subst hxs;simp only[VR]at hx;obtain⟨xs,hxv,hx⟩:=hx;obtain⟨gm,m1,m2⟩:=gB hm;simp only[Nd.den,valsOf,hxv]at m2;split at m2;rotate_left
 ·cases m2
 next out hout=>
 have hsp:=hI _ _ hout;simp only[qy]at hsp;split at hsp;rotate_left
 ·cases hsp
 next hok=>
 cases hsp;simp only[jS,aW]at m2;subst m2;obtain⟨hlen,hall⟩:=hok;have ghost:∀w',Kept w w'->xs=[]->∃F',St P F J w F' (J.new (.vec m et false)) w'/\VR F' (.sv J.next m) (.slice none 0 0):=by intro w' hk e;subst e;have s1:=St.UR hS hk;have s2:=s1.trans (St.ghost (m:=m) (et:=et) (f:=false) s1.rel m1 rfl rfl (λ_ _ h=>h));refine⟨_,s2,?_⟩;simp only[VR];exact⟨[],m1,.inr (by simp[Env.ghost])⟩
 rcases hx with⟨q,hq,hle,rfl⟩|⟨hgh,hnil,rfl⟩
 rotate_left
 ·refine .inr ⟨enters _ w,Calls.mono' (nil w) ?_⟩;rintro er w' ⟨rfl,hw⟩
  obtain⟨F',g1,g2⟩:=ghost w (Kept.refl w) hnil;rw[hw];exact⟨_,rfl,F',g1,g2⟩
 obtain⟨xs',cs,He,Ho,ys,o1,o2,o3,o4,o5,o6,o7,o8,o9⟩:=hS.at hgv hq;rw[hxv]at o1;cases o1;have hes:q.es=size:=by have:=(o7.room rfl).2.2;rw[hE]at this;cases this;rfl
 have hmx:xs.length<=maxLen:=by
  have:xs.length<=xs.length*bytes:=acw _ hby
  unfold maxLen;omega
 have hsz:∀y∈ys,y.cells.size=size:=λy hy=>by rw[o4 y hy,hes]
 have hone:∀u∈bY ys,u.oneCell'=true:=by
  intro u hu;obtain⟨y,hy,hu⟩:=WQ.1 hu;obtain⟨j,hj⟩:=JH hy;have hjl:j<xs.length:=by rw[o3.length];exact(eU.1 hj).1
  obtain⟨y',hy1,hy2⟩:=o3.at (bK hjl);rw[hj]at hy1;cases hy1;exact(apj (List.all_eq_true.1 hall _ (gK hjl)) hy2).2 u hu
 have hnl:(bY ys).length=xs.length*size:=by rw[ED hsz,o3.length]
 have hcell:∀j u,(bY ys)[j]? =some u->w.cell? ((Addr.mk q.bl q.ba none).add j)=some u:=by
  intro j u hj;have hadd:(Addr.mk q.bl q.ba none).add j=⟨q.bl,q.ba+j,none⟩:=by unfold Addr.add;split<;>simp_all
  rw[hadd];simp only[World.cell?,o2];rw[ah (by simp)];exact o5 j u hj
 refine .inr ⟨enters _ w,Calls.mono' (walk _ xs.length _ (bY ys) w hnl hcell hone hlen hmx) ?_⟩;rintro er w' ⟨v',rfl,hown,hbel⟩
 have hk:=Kept.of_below hbel;obtain⟨_,hown⟩:=hown;rcases hown with⟨rfl,hn⟩|⟨g,cap,cur,rfl,hg,hb,hcap,_,hcs,htake⟩
 ·obtain⟨F',g1,g2⟩:=ghost w' hk (jw hn);exact⟨_,rfl,F',g1,g2⟩
 ·have hdiv:cap*size/size=cap:=QE _ h0;refine⟨_,rfl,F.put J.next ⟨g,0,cap*size,size⟩,St.adopt hS hk _ ⟨g,0,cap*size,size⟩ hg ?_,?_⟩
  ·refine⟨xs,cur,et,(0,0),ys,m1,hb,o3,hsz,?_,rF _ hcap,?_,o8,λh=>by cases h⟩
   ·intro j u hj;rw[<-htake,kS]at hj;split at hj
    ·simpa using hj
    ·cases hj
   ·exact {fits:=(by simp;omega),le:=(by simp),shut:=(λh=>by cases h),cell:=(λkk a hk=>by simp at hk),free:=(λ_ kk _ hk=>by simp at hk),whole:=(λ_=>⟨rfl,by simp;omega,λh=>by cases h⟩),room:=(λ_=>⟨he,h0,hE⟩)}
  ·simp only[VR];exact⟨xs,m1,.inl ⟨⟨g,0,cap*size,size⟩,by simp[Env.put],by simp only[hdiv];exact hcap,by simp only[hdiv]⟩⟩
def Hq(bytes:Nat):Q1->Option Q1
 |[.i .i64 n]=>if 0<=n/\n.toNat*bytes<=140737488355328/\n<=4611686018427387904 then some [.l []]else none
 |_=>none
section
variable[gG]
def U0(k et:Nat):dX:=λargs J=>match args with
 |[.fV,a]=>match iQ a with
  |some n=>match fF (.call k [n] 0)with
   |some m=>some (.sv J.next m,J.new (.vec m et false))
   |none=>none
  |none=>none
 |_=>none
end
theorem ari{bytes:Nat}{g:GV}{out:Q1}(h:Hq bytes [g]=some out):∃n:Nat,g=.i .i64 (n:Int)/\n*bytes<=140737488355328/\n<=4611686018427387904/\out=[.l []]:=by
 unfold Hq at h;split at h;rotate_left
 ·cases h
 next n e=>
 injection e with e _
 subst e;split at h;rotate_left
 ·cases h
 next c=>
 injection h with h
 refine⟨n.toNat,by rw[F6 c.1],c.2.1,by omega,h.symm⟩
theorem auW{T:aH}{f size bytes k:Nat}{e:TypeId}(h0:0<size)(hE:sizeT P e=some size)(he:e≠0)
 (walk:∀(n:Nat)(w:World),0<n->n*bytes<=140737488355328->n<=4611686018427387904->
  Calls P f #[.slice none 0 0,.int .i64 n] w λer w'=>∃v',er=.returned v'/\w'.ownsRow w.heap.size e size v' 0 []/\Kept w w')
 (nil:∀w,Calls P f #[.slice none 0 0,.int .i64 ((0:Nat):Int)] w λer w'=>er=.returned (.slice none 0 0)/\w'=w)
 (enters:∀args w,(callFunc f args).run P w=.ok (.enter f args) w) (hI:∀gs out,T.I k gs=some out->Hq bytes gs=some out):@dN T P f (@U0 T.togG k e):=by
 letI:=T
 intro args J r J' hs F w vs hS hv;unfold U0 at hs;split at hs;rotate_left
 ·cases hs
 next a=>
 split at hs;rotate_left
 ·cases hs
 next nn hnn=>
 split at hs;rotate_left
 ·cases hs
 next m hm=>
 cases hs;obtain⟨x,xs1,rfl,hx,hxs⟩:=hv;simp only[aC]at hxs;obtain⟨y,ys1,rfl,hy,hys⟩:=hxs;subst hys;simp only[VR]at hx;subst hx;obtain⟨gn,n1,n2,n3⟩:=lF hnn hy;obtain⟨gm,m1,m2⟩:=gB hm;simp only[Nd.den,valsOf,n1]at m2;split at m2;rotate_left
 ·cases m2
 next out hout=>
 obtain⟨n,rfl,b1,b2,rfl⟩:=ari (hI _ _ hout);simp only[jS,aW]at m2;subst m2;simp only[GR]at n3;subst n3;have ghost:∀w',Kept w w'->∃F',St P F J w F' (J.new (.vec m e false)) w'/\VR F' (.sv J.next m) (.slice none 0 0):=by intro w' hk;have s1:=St.UR hS hk;have s2:=s1.trans (St.ghost (m:=m) (et:=e) (f:=false) s1.rel m1 rfl rfl (λ_ _ h=>h));refine⟨_,s2,?_⟩;simp only[VR];exact⟨[],m1,.inr (by simp[Env.ghost])⟩
 by_cases hn:n=0
 ·subst hn;refine .inr ⟨enters _ w,Calls.mono' (nil w) ?_⟩;rintro er w' ⟨rfl,hw⟩
  obtain⟨F',g1,g2⟩:=ghost w (Kept.refl w);rw[hw];exact⟨_,rfl,F',g1,g2⟩
 refine .inr ⟨enters _ w,Calls.mono' (walk n w (by omega) b1 b2) ?_⟩;rintro er w' ⟨v',rfl,hown,hk⟩
 obtain⟨_,hown⟩:=hown;rcases hown with⟨rfl,hn⟩|⟨g,cap,cur,rfl,hg,hb,hcap,_,hcs,htake⟩
 ·obtain⟨F',g1,g2⟩:=ghost w' hk;exact⟨_,rfl,F',g1,g2⟩
 ·have hdiv:cap*size/size=cap:=QE _ h0;refine⟨_,rfl,F.put J.next ⟨g,0,cap*size,size⟩,St.adopt hS hk _ ⟨g,0,cap*size,size⟩ hg ?_,?_⟩
  ·refine⟨[],cur,e,(0,0),[],m1,hb,by simp only[aO],λy hy=>(by cases hy),?_,rF _ hcap,?_,λx hx=>(by cases hx),λh=>by cases h⟩
   ·intro j u hj;simp[bY]at hj
   ·exact {fits:=(by simp;omega),le:=(by simp),shut:=(λh=>by cases h),cell:=(λkk a hk=>by simp at hk),free:=(λ_ kk _ hk=>by simp at hk),whole:=(λ_=>⟨rfl,by simp;omega,λh=>by cases h⟩),room:=(λ_=>⟨he,h0,hE⟩)}
  ·simp only[VR];exact⟨[],m1,.inl ⟨⟨g,0,cap*size,size⟩,by simp[Env.put],by simp only[hdiv];exact hcap,by simp only[hdiv];rfl⟩⟩
