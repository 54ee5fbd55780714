/- Regions whose order Go leaves open: one operation keeps the invariant. -/
import Derived.Test.YtmkkknckcnpljaaGreatDoorAbsF
set_option linter.all false
namespace Go.aO
noncomputable section
variable[aI]
variable{P:Program}
structure CO(P:Program)(ops:W4)(rs:We)(a0:bn)(J0:aA)(cf:Nat)(H0:Env)(w0:World)(D:Nat->Bool)(H:Env)(w:World)(A:Act):Prop where
 closed:Closed ops D
 st:St P H0 J0 w0 H {h:=jW (gW rs) 0 D J0.h,next:=cf,lock:=J0.lock} w
 tr:TR P H {t:=jW (kS rs) 0 D a0.t,n:=a0.n,gn:=a0.gn} A
 dm:∀id,H.has id->id<J0.next\/(∃k,k<ops.size/\D k=true/\id=J0.next+k)\/(∃(j:Nat)(r:dM),rs[j]? =some r/\D j=true/\r.base<=id/\id<r.next)
def TR.add{H H':Env}{T l:Tr AV}{n gn:Nat}{A:Act}{o:Oper}{v:Q4}{x:Value}(h:TR P H {t:=T,n:=n,gn:=gn} A)(g:H.le H')(f:∀d,l.get d=(fK (qE o v) d).getD (T.get d))
 (j:∀p∈qE o v,p.1<n) (s:∀u,v=some u->VR H' u x):TR P H' {t:=l,n:=n,gn:=gn} (A.put o.dst x):=by
 have m:=h.mono g;unfold qE at f j;cases q:o.dst with
 |none=>rw[q]at f;refine⟨h.gn,h.size,h.none,λd u b=>?_⟩;rw[f]at b;exact m.slot d u b
 |some d0=>
  rw[q]at f j;have k:=j (d0,v) (by simp);refine⟨h.gn,by have:=h.size;simpa[Act.put]using this,h.none,λd u b=>?_⟩;rw[f]at b;simp only[fK]at b;show ∃y,(A.tmps.setIfInBounds d0 x)[d]? =some y/\_
  rw[CJ];by_cases e:d=d0
  ·subst e;rw[aj rfl,aj (by have:=h.size;simp only at this k;omega)];rw[aj rfl]at b;exact⟨x,rfl,s u b⟩
  ·rw[ah (λz=>e z.symm)];rw[ah e]at b;exact m.slot d u b
section
variable{call:Caller}{ops:W4}{M:Q2}{rs:We}{a0:bn}{J0:aA}{cf:Nat}{H0 H:Env}{w0 w:World}{D:Nat->Bool}{A:Act}{i nn N0:Nat}{o:Oper}{r:dM}
def lG(D:Nat->Bool)(i:Nat):Nat->Bool:=λj=>D j ||Nat.beq j i
def aCz{rs:We}{i:Nat}{r:dM}(h:rs[i]? =some r):(gW rs)[i]? =some r.upd:=by simp[gW,h]
def aBr{rs:We}{i:Nat}{r:dM}(h:rs[i]? =some r):(kS rs)[i]? =some r.slot:=by simp[kS,h]
def Qv{rs:We}{i:Nat}{u:Wz}(h:(gW rs)[i]? =some u):∃r,rs[i]? =some r/\r.upd=u:=by simpa[gW]using h
def ajk{rs:We}{i:Nat}{u:List (Nat×Q4)}(h:(kS rs)[i]? =some u):∃r,rs[i]? =some r/\r.slot=u:=by simpa[kS]using h
def Md{N0 i j:Nat}{r s:dM}{o:Oper}(e:ops[i]? =some o)(h:P7 ops N0 i j r s=true):pI (keysOf r.slot) (keysOf s.slot)=true/\pI (o.looksAt ops) (keysOf s.slot)=true/\pI (keysOf r.upd) (keysOf s.upd)=true/\
 (∀l,r.vis=some l->pI l (keysOf s.upd)=true)/\(r.vis=none->i<j->(∀k∈keysOf s.upd,N0<=k)/\pI r.loc (keysOf s.upd)=true/\s.base=s.next)/\(r.vis=none->i≠j->j<i\/i<j):=by
 unfold P7 at h;rw[e]at h;simp only[aK]at h;obtain⟨⟨⟨f,g⟩,m⟩,b⟩:=h;refine⟨f,g,m,?_,?_,λ_ p=>by omega⟩
 ·intro l q;rw[q]at b;exact b
 ·intro t u;rw[t]at b;simp only[mY,aK]at b;rcases b with b|⟨⟨d,v⟩,x⟩
  ·rw[jm]at b;omega
  ·refine⟨λk y=>?_,v,bH x⟩;rw[List.all_eq_true]at d;exact tq (d k y)
def qO.afk(C:qO ops M rs nn N0)(p:Closed ops D)(h:ops[i]? =some o)(k:rs[i]? =some r)(hi:D i=false)(q:∀e∈o.after.toList,Region.binds .any e=true->D e.on=true)(b:Nat):
 (jW (gW rs) 0 (lG D i) J0.h).get b=(fK r.upd b).getD ((jW (gW rs) 0 D J0.h).get b):=by
 rw[Dw,Dw];have:=ZG (gW rs) 0 i D b r.upd (aCz k) (by simpa using hi) (λj v t u l d=>by
  obtain⟨s,m,rfl⟩:=Qv t;have f:j<ops.size:=by have:=(fB.1 m).1;rw[C.len]at this;exact this
  have g:=C.open_ p h hi q f (by simp at l;rw[l];simp;omega);have x:=Md h (C.pairs i j r s k m g);exact PE (OT x.2.2.1 ((yO _ _).1 d)))
 simp only[jQ]at this;unfold lG;rw[this];cases fK r.upd b<;>rfl
def qO.TS(C:qO ops M rs nn N0)(p:Closed ops D)(h:ops[i]? =some o)(k:rs[i]? =some r)(hi:D i=false)(q:∀e∈o.after.toList,Region.binds .any e=true->D e.on=true)(b:Nat):
 (jW (kS rs) 0 (lG D i) a0.t).get b=(fK r.slot b).getD ((jW (kS rs) 0 D a0.t).get b):=by
 rw[Dw,Dw];have:=ZG (kS rs) 0 i D b r.slot (aBr k) (by simpa using hi) (λj v t u l d=>by
  obtain⟨s,m,rfl⟩:=ajk t;have f:j<ops.size:=by have:=(fB.1 m).1;rw[C.len]at this;exact this
  have g:=C.open_ p h hi q f (by simp at l;rw[l];simp;omega);have x:=Md h (C.pairs i j r s k m g);exact PE (OT x.1 ((yO _ _).1 d)))
 simp only[jQ]at this;unfold lG;rw[this];cases fK r.slot b<;>rfl
def qO.ai8(C:qO ops M rs nn N0)(l:Closed ops D)(h:ops[i]? =some o)(m:rs[i]? =some r)(hi:D i=false)(p:∀e∈o.after.toList,Region.binds .any e=true->D e.on=true){d:Nat}(q:d∈o.looksAt ops):
 (jo ((kS rs).take i) a0.t).get d=(jW (kS rs) 0 D a0.t).get d:=by
 rw[Ll (kS rs) i 0,Dw];congr 1;refine LM _ _ _ _ _ λj u t b=>?_;obtain⟨s,k,rfl⟩:=ajk t;have f:j<ops.size:=by have:=(fB.1 k).1;rw[C.len]at this;exact this
 simp only[jQ]at b;have g:=C.open_ l h hi p f (λe=>b e.symm);have v:=Md h (C.pairs i j r s m k g);exact PE (OT v.2.1 q)
def qO.aBb(C:qO ops M rs nn N0)(m:Closed ops D)(h:ops[i]? =some o)(p:rs[i]? =some r)(hi:D i=false)(q:∀e∈o.after.toList,Region.binds .any e=true->D e.on=true){l:Q2}(t:r.vis=some l){b:Nat}(v:b∈l):
 (jo ((gW rs).take i) J0.h).get b=(jW (gW rs) 0 D J0.h).get b:=by
 rw[Ll (gW rs) i 0,Dw];congr 1;refine LM _ _ _ _ _ λj u x d=>?_;obtain⟨s,k,rfl⟩:=Qv x;have f:j<ops.size:=by have:=(fB.1 k).1;rw[C.len]at this;exact this
 simp only[jQ]at d;have g:=C.open_ m h hi q f (λe=>d e.symm);have y:=Md h (C.pairs i j r s p k g);exact PE (OT (y.2.2.2.1 l t) v)
def Ctx.act(C:Ctx P call ops M rs a0 J0 cf)(b:CO P ops rs a0 J0 cf H0 w0 D H w A)(g:ops[i]? =some o)(h:rs[i]? =some r)(hi:D i=false)(j:∀e∈o.after.toList,Region.binds .any e=true->D e.on=true):
 TR P H {t:=lg (jo ((kS rs).take i) a0.t) (o.looksAt ops),n:=a0.n,gn:=a0.gn} A:=by
 refine⟨b.tr.gn,b.tr.size,b.tr.none,λd v f=>?_⟩;rw[Bv]at f;split at f
 ·next k=>
  rw[C.ai8 (a0:=a0) b.closed g h hi j k]at f;exact b.tr.slot d v f
 ·cases f
def Ctx.gen(C:Ctx P call ops M rs a0 J0 cf)(I:rD P call)(d:CO P ops rs a0 J0 cf H0 w0 D H w A)(ho:ops[i]? =some o)(Y:rs[i]? =some r)(aa:i<ops.size)(hi:D i=false)
 (iq:∀e∈o.after.toList,Region.binds .any e=true->D e.on=true) {Z:Env} {τ τ':aA} {v:Q4} {a:bn} {K:Act->World->Prop} {Q:Exit->Act->World->Prop}
 (Ue:SR P Z τ w) (ab:TR P Z a A) (L:Z.le H) (S:Z.ro=H.ro) (ac:uO P call o a.eval τ=some (v,τ')) (Pg:r.slot=qE o v)
 (sub:∀id B,τ.get id=some B->(jW (gW rs) 0 D J0.h).get id=some B) (free:∀id,H.has id->¬(τ.next<=id/\id<τ'.next))
 (hu:∀b B,fK r.upd b=some (some B)->τ'.get b=some B/\((∃o0,τ.get b=some o0/\o0.own=true)\/(B.own=true/\τ.get b=none)))
 (MZ:∀id B,τ.get id=some B->B.own=true->τ.lock<=id->fK r.upd id≠none) (ad:J0.lock<=τ.lock) (FD:∀b,fK r.upd b≠none->τ.lock<=b)
 (E:∀id,τ.next<=id->id<τ'.next->J0.next<=id/\id<cf/\(id=J0.next+i\/(r.base<=id/\id<r.next)))
 (hK:∀H' A' w',CO P ops rs a0 J0 cf H0 w0 (lG D i) H' w' A'->K A' w'):o.wp P A w K Q:=by
 refine Xr Ue I ab ac λx p w' g hx=>?_;let H':Env:=⟨λid=>if τ.next<=id/\id<τ'.next then p id else H id,p.ro,λid=>if τ.next<=id/\id<τ'.next then p.gh id else H.gh id⟩
 have h1:H.le H':=⟨λid q m=>by
  show(if τ.next<=id/\id<τ'.next then p id else H id)=some q
  rw[ah (free id (.inl ⟨q,m⟩))];exact m,λb o hb=>g.ext.ro b o (by rw[S];exact hb),λid t=>by
  show(if τ.next<=id/\id<τ'.next then p.gh id else H.gh id)=true
  rw[ah (free id (.inr t))];exact t⟩
 have h2:p.le H':=⟨λid q m=>by
  show(if τ.next<=id/\id<τ'.next then p id else H id)=some q
  split
  ·exact m
  ·next y=>
   rcases g.avV m with f|f
   ·exact L.pl _ _ f
   ·exact absurd f y,λ_ _ h=>h,λid t=>by
  show(if τ.next<=id/\id<τ'.next then p.gh id else H.gh id)=true
  split
  ·exact t
  ·next y=>
   rcases g.new id (.inr t)with(⟨q,f⟩|f)|f
   ·have:=g.ext.pl _ _ f;rw[(g.rel.jT id t).1]at this;cases this
   ·exact L.gh _ f
   ·exact absurd f y⟩
 have z:∀id,H'.has id->H.has id\/(τ.next<=id/\id<τ'.next):=λid hh=>by
  by_cases y:τ.next<=id/\id<τ'.next
  ·exact .inr y
  ·left;rcases hh with⟨q,m⟩|t
   ·have T:(if τ.next<=id/\id<τ'.next then p id else H id)=some q:=m;rw[ah y]at T;exact .inl ⟨q,T⟩
   ·have l:(if τ.next<=id/\id<τ'.next then p.gh id else H.gh id)=true:=t;rw[ah y]at l;exact .inr l
 have Y3:∀id,H'.gh id=true->H' id=none:=λid t=>by
  have l:(if τ.next<=id/\id<τ'.next then p.gh id else H.gh id)=true:=t;show(if τ.next<=id/\id<τ'.next then p id else H id)=none
  split at l
  ·next y=>rw[aj y];exact(g.rel.jT id l).1
  ·next y=>rw[ah y];exact(d.st.rel.jT id l).1
 have t:=C.afk (J0:=J0) d.closed ho Y hi iq;have G:∀id,H'.has id->id<cf:=λid m=>by
  rcases z id m with f|⟨f,O⟩
  ·exact d.st.rel.hasLt f
  ·exact(E id f O).2.1
 obtain⟨ae,size,U,own,qK⟩:=St.merge (J':={h:=jW (gW rs) 0 (lG D i) J0.h,next:=cf,lock:=J0.lock}) (upd:=r.upd) (H':=H') d.st.rel Ue g sub L S rfl h1 h2 t hu MZ ad FD (λid q m=>G id (.inl ⟨q,m⟩)) (λid V=>⟨Y3 id V,G id (.inr V)⟩);refine hK H' _ w' ⟨?_,?_,?_,?_⟩
 ·intro k o' hk N e he hb;unfold lG at hk⊢;simp only[mY]at hk⊢;rcases hk with hk|hk
  ·exact .inl (d.closed k o' hk N e he hb)
  ·have:=bH hk;subst this;rw[ho]at N;cases N;exact .inl (iq e he hb)
 ·refine d.st.then h1 ae size U own g.os g.tape g.output rfl (dY _) ?_ qK;intro id m;rcases z id m with f|⟨f,O⟩
  ·exact .inl f
  ·exact .inr ⟨(E id f O).1,(E id f O).2.1⟩
 ·have l:=C.TS (a0:=a0) d.closed ho Y hi iq;rw[Pg]at l;exact d.tr.add h1 l (by rw[<-Pg];exact(C.slot i r Y).2) (λu af=>VR.mono h2 _ _ (hx u af))
 ·intro id m;have W:∀k,D k=true->lG D i k=true:=λk hk=>by unfold lG;rw[hk];rfl
  have X:lG D i i=true:=by unfold lG;simp
  rcases z id m with f|⟨f,O⟩
  ·rcases d.dm id f with F|⟨k,F,h6,h7⟩|⟨j,s,F,h6,h7⟩
   ·exact .inl F
   ·exact .inr (.inl ⟨k,F,W k h6,h7⟩)
   ·exact .inr (.inr ⟨j,s,F,W j h6,h7⟩)
  ·obtain⟨_,_,F|F⟩:=E id f O
   ·exact .inr (.inl ⟨i,aa,X,F⟩)
   ·exact .inr (.inr ⟨i,r,Y,X,F⟩)
end
section
variable{call:Caller}{ops:W4}{M:Q2}{rs:We}{a0:bn}{J0:aA}{cf:Nat}{H0 H:Env}{w0 w:World}{D:Nat->Bool}{A:Act}{i:Nat}{o:Oper}{r:dM}
def ZM{l:Q2}{f:Nat->Option bC}{b:Nat}{x:Option bC}(h:fK (l.map λk=>(k,f k)) b=some x):b∈l/\x=f b:=by
 induction l with
 |nil=>simp[fK]at h
 |cons k l d=>
  simp only[gX,fK]at h;split at h
  ·next y g=>cases h;have:=d g;exact⟨by simp[this.1],this.2⟩
  ·split at h
   ·next e=>cases h;subst e;exact⟨by simp,rfl⟩
   ·cases h
def keys_map(l:Q2)(f:Nat->Option bC):keysOf (l.map λk=>(k,f k))=l:=by simp[keysOf,List.map_map,Function.comp_def]
def Ja{τ:aA}:∀{n c b:Nat}{x:Option bC},fK (Fv τ c n) b=some x->c<=b/\b<c+n/\∀o,x=some o->τ.get b=some o/\o.own=true
 |0,c,b,x,h=>by simp[Fv,fK]at h
 |n+1,c,b,x,h=>by
  simp only[Fv,fK]at h;split at h
  ·next y g=>
   cases h;obtain⟨h1,l,j⟩:=Ja g;exact⟨by omega,by omega,j⟩
  ·split at h
   ·next e=>
    subst e;simp only[aZ]at h;refine⟨Nat.le_refl _,by omega,λo k=>?_⟩;rw[k]at h;split at h
    ·next m f=>
     split at h
     ·next d=>cases h;exact⟨f,d⟩
     ·cases h
    ·cases h
   ·cases h
def UK{l m:Wz}{b:Nat}:fK (l++m) b=match fK m b with|some x=>some x|none=>fK l b:=by
 induction l with
 |nil=>simp only[aW];cases fK m b<;>rfl
 |cons p l d=>obtain⟨k,v⟩:=p;simp only[bJ,fK,d];cases fK m b<;>rfl
def DZ{h:Tr bC}{b:Nat}{l:Q2}{k:Nat}:k∈Jk h b l↔k∈l/\b<=k/\∃d,h.get k=some d/\d.own=true:=by
 unfold Jk;rw[ED,aK];constructor
 ·rintro⟨f,g,e⟩
  refine⟨f,tq g,?_⟩;split at e
  ·next d j=>exact⟨d,j,e⟩
  ·cases e
 ·rintro⟨f,g,d,e,m⟩
  exact⟨f,acP g,by rw[e];exact m⟩
def SR.cutAt{H:Env}{J τ:aA}{w:World}{c:Nat}(h:SR P H J w)(N:P.globals.size<c)(b:∀id o,τ.get id=some o->J.get id=some o)(k:∀id o,τ.get id=some o->id<c/\A8 c o=true)(O:c<=τ.next):SR P (H.cut c) τ w:=by
 have d:∀id q,id<c->H id=some q->H.cut c id=some q:=λid q l m=>by simp only[Env.cut];rw[aj l];exact m
 refine⟨λg p=>?_,λid q f=>?_,λid o j=>?_,λid s=>?_,λid o t z q B u v x E F G=>?_,h.ji,λid o q u v x=>h.lS id o q (b _ _ u) v ((Env.KQ _ _).pl _ _ x),h.tabs⟩
 ·obtain⟨I,es,l⟩:=h.nH g p;exact⟨I,es,d _ _ (by omega) l⟩
 ·simp only[Env.cut]at f;split at f
  ·omega
  ·cases f
 ·rcases h.live id o (b _ _ j)with⟨q,f,L⟩|⟨y,m⟩
  ·exact .inl ⟨q,d _ _ (k id o j).1 f,L.cut (k id o j).2⟩
  ·exact .inr ⟨Env.aen (k id o j).1 y,m⟩
 ·have e:(decide (id<c)&&H.gh id)=true:=s;rw[aK,decide_eq_true_iff]at e;exact⟨by simp only[Env.cut];rw[aj e.1];exact(h.jT id e.2).1,by omega⟩
 ·exact h.sep id o t z q B (b _ _ u) v (b _ _ x) E ((Env.KQ _ _).pl _ _ F) ((Env.KQ _ _).pl _ _ G)
def SR.part{H:Env}{J τ:aA}{w:World}(h:SR P H J w)(b:∀id o,τ.get id=some o->J.get id=some o)(j:∀id,H.has id->id<τ.next):SR P H τ w:=
 ⟨h.nH,λid q l=>j id (.inl ⟨q,l⟩),λid o m=>h.live id o (b id o m),λid k=>⟨(h.jT id k).1,j id (.inr k)⟩,λid o d p q s e f g t u v=>h.sep id o d p q s (b _ _ e) f (b _ _ g) t u v,h.ji,λid o q e f g=>h.lS id o q (b _ _ e) f g,h.tabs⟩
def N8{c:Nat}{h:Tr bC}:∀{l:Q2},N7 c h l=true->∀k∈l,k<c/\∀o,h.get k=some o->A8 c o=true
 |[],_,k,hk=>by simp at hk
 |x::l,b,k,hk=>by
  simp only[N7,aK]at b;simp only[bD]at hk;rcases hk with rfl|hk
  ·refine⟨by have:=b.1.1;rwa [jm]at this,λo d=>?_⟩;have:=b.1.2;rw[d]at this;exact this
  ·exact N8 b.2 k hk
def adt{c:Nat}{t:Tr AV}:∀{l:Q2},Kw c t l=true->∀k∈l,∀v,t.get k=some v->v.under c=true
 |[],_,k,hk=>by simp at hk
 |x::l,b,k,hk=>by
  simp only[Kw,aK]at b;simp only[bD]at hk;rcases hk with rfl|hk
  ·intro v d;have:=b.1;rw[d]at this;exact this
  ·exact adt b.2 k hk
def aaZ{M:Q2}{i:Nat}:∀{rs:We}{k:Nat}{b:Nat},b∉D8 M i rs k->∀(j:Nat) r,rs[j]? =some r->yx M i (k+j)=true->b∉keysOf r.upd
 |[],k,b,_,j,r,e,_=>by simp at e
 |s::rs,k,b,d,j,r,e,f=>by
  unfold D8 at d;cases j with
  |zero=>simp at e;subst e;rw[lD]at f;rw[aj f]at d;simp only[iW,not_or]at d;exact d.1
  |succ j=>
   have g:b∉D8 M i rs (k+1):=by
    split at d
    ·simp only[iW,not_or]at d;exact d.2
    ·exact d
   exact aaZ g j r (by simpa using e) (by rw[show k+1+j=k+(j+1) by omega];exact f)
def agd{M:Q2}{i:Nat}:∀{rs:We}{k:Nat}{b:Nat}(j:Nat)(r:dM),rs[j]? =some r->yx M i (k+j)=false->b∈keysOf r.upd->b∈PD M i rs k
 |[],k,b,j,r,d,_,_=>by simp at d
 |s::rs,k,b,j,r,d,e,f=>by
  unfold PD;cases j with
  |zero=>simp at d;subst d;rw[lD]at e;rw[ah (by rw[e];simp)];simp[f]
  |succ j=>
   have:=agd (k:=k+1) j r (by simpa using d) (by rw[show k+1+j=k+(j+1) by omega];exact e) f;split
   ·exact this
   ·simp[this]
def Ctx.bound(C:Ctx P call ops M rs a0 J0 cf)(b:CO P ops rs a0 J0 cf H0 w0 D H w A)(id:Nat)(h:H.has id):id<cf:=b.st.rel.hasLt h
def Ctx.apart(C:Ctx P call ops M rs a0 J0 cf)(d:CO P ops rs a0 J0 cf H0 w0 D H w A)(g:rs[i]? =some r)(hi:D i=false){id:Nat}(h:H.has id):¬(r.base<=id/\id<r.next):=by
 rintro⟨q,t⟩
 have m:=C.lo g;rcases d.dm id h with f|⟨k,f,l,p⟩|⟨j,s,f,l,p,u⟩
 ·omega
 ·omega
 ·by_cases e:i=j
  ·subst e;rw[hi]at l;cases l
  ·rcases Nat.lt_or_gt_of_ne e with b|b
   ·have:=C.lt g f b;omega
   ·have:=C.lt f g b;omega
def Ctx.step(C:Ctx P call ops M rs a0 J0 cf)(S:rD P call)(ad:SR P H0 J0 w0)(g:CO P ops rs a0 J0 cf H0 w0 D H w A)(W:i<ops.size)(hi:D i=false)
 (Fz:∀o,ops[i]? =some o->∀e∈o.after.toList,Region.binds .any e=true->D e.on=true) (aL:nX ops M i=false) {K:Act->World->Prop} {Q:Exit->Act->World->Prop}
 (hK:∀H' A' w',CO P ops rs a0 J0 cf H0 w0 (lG D i) H' w' A'->K A' w'):wpOp P ops Q i K A w:=by
 obtain⟨o,V⟩:∃o,ops[i]? =some o:=⟨ops[i],by simp[W]⟩
 obtain⟨r,U⟩:∃r,rs[i]? =some r:=⟨_,bP (by rw[C.len];exact W)⟩
 have iq:=Fz o V;have f:=C.one i r U;have E:=C.act g V U hi iq;have aM:=C.base U;have al:=C.lo U;have am:=C.hi U;have aR:P.globals.size<J0.next:=by obtain⟨sz,es,p⟩:=ad.nH P.globals.size (dY _);exact ad.dom _ _ p
 have an:=(C.slot i r U).1;have a8:=C.lock;have ag:=C.big;have YX:=C.bound g;unfold xU at f;rw[aL]at f;simp only[gy,if_false]at f;unfold Bf at f;rw[V]at f;simp only at f;unfold wpOp;rw[V];simp only;split at f
 ·cases f
 ·
   next hw=>
   rw[G5 E hw];simp only[gy,if_false];cases f;refine hK H _ w ⟨?_,?_,?_,?_⟩
   ·intro k o' hk ao e he q;unfold lG at hk⊢;simp only[mY]at hk⊢;rcases hk with hk|hk
    ·exact .inl (g.closed k o' hk ao e he q)
    ·have:=bH hk;subst this;rw[V]at ao;cases ao;exact .inl (Fz _ V e he q)
   ·have hg:=C.afk (J0:=J0) g.closed V U hi iq;refine g.st.sub ?_ (dY _) rfl;intro id m I;have:(jW (gW rs) 0 (lG D i) J0.h).get id=some m:=I;rw[hg]at this;exact this
   ·exact g.tr.add (Env.le.refl _) (C.TS (a0:=a0) g.closed V U hi iq) (C.slot i _ U).2 (by rintro u hu;cases hu;exact⟨[],rfl,rfl⟩)
   ·intro id X;have aw:∀k,D k=true->lG D i k=true:=λk hk=>by unfold lG;rw[hk];rfl
    rcases g.dm id X with L|⟨k,L,Z,h7⟩|⟨j,s,L,Z,h7⟩
    ·exact .inl L
    ·exact .inr (.inl ⟨k,L,aw k Z,h7⟩)
    ·exact .inr (.inr ⟨j,s,L,aw j Z,h7⟩)
 ·
   next hw=>
   rw[G5 E hw];simp only[if_true];left;have B:∀l:Q2,r.vis=some l->∀id m,(lg (jo ((gW rs).take i) J0.h) l).get id=some m->(jW (gW rs) 0 D J0.h).get id=some m/\id∈l/\(jo ((gW rs).take i) J0.h).get id=some m:=by
    intro l hl id m I;rw[Bv]at I;split at I
    ·next hm=>rw[<-C.aBb (J0:=J0) g.closed V U hi iq hl hm];exact⟨I,hm,I⟩
    ·cases I
   have ax:∀c,Kw c (jo ((kS rs).take i) a0.t) (o.looksAt ops)=true->TR P (H.cut c) {t:=lg (jo ((kS rs).take i) a0.t) (o.looksAt ops),n:=a0.n,gn:=a0.gn} A:=by
    intro c q;refine⟨E.gn,E.size,E.none,λd v hv=>?_⟩;obtain⟨x,hx,kZ⟩:=E.slot d v hv;refine⟨x,hx,VR.cut v x ?_ kZ⟩;rw[Bv]at hv;split at hv
    ·next hd=>exact adt q d hd v hv
    ·cases hv
   split at f
   ·
     next ty a1=>
     split at f
     ·next z hz=>
      cases f;have F:uO P call o (bn.eval {t:=.nil,n:=a0.n,gn:=a0.gn}) {h:=.nil,next:=J0.next+i,lock:=J0.lock}=some (some (.p (J0.next+i) 0),({h:=.nil,next:=J0.next+i,lock:=J0.lock}:aA).new (.cells z ty true false)):=by unfold uO;rw[a1];simp only[hz,gB]
      have N:SR P (H.cut J0.next) {h:=.nil,next:=J0.next+i,lock:=J0.lock} w:=g.st.rel.cutAt aR (λid m h=>by simp[aA.get]at h) (λid m h=>by simp[aA.get]at h) (by simp);refine C.gen S g V U W hi iq N (a:={t:=.nil,n:=a0.n,gn:=a0.gn}) ⟨E.gn,E.size,E.none,λd v hv=>by simp at hv⟩ (Env.KQ _ _) rfl F rfl (λid m h=>by simp[aA.get]at h) ?_ ?_ ?_ (dY _) ?_ ?_ hK
      ·rintro id X ⟨p,y⟩
       have Y:J0.next+i<=id:=p;have a2:id<J0.next+i+1:=y;rcases g.dm id X with G|⟨k,G,T,L⟩|⟨j,s,G,T,L,Z⟩
       ·omega
       ·have:k=i:=by omega
        subst this;rw[hi]at T;cases T
       ·have:=C.lo G;omega
      ·intro b m q;simp only[fK]at q;split at q
       ·next e=>
        cases q;subst e;refine⟨?_,.inr ⟨rfl,Tr.get_nil _⟩⟩;rw[aA.rY,aj rfl]
       ·cases q
      ·intro id m h;simp[aA.get]at h
      ·intro b q;have:=(yO _ _).1 q;simp[keysOf]at this;subst this;show J0.lock<=J0.next+i
       omega
      ·intro id p y;have Y:J0.next+i<=id:=p;have a2:id<J0.next+i+1:=y;have:=C.X5;exact⟨by omega,by omega,.inl (by omega)⟩
     ·cases f
   ·split at f
    ·
      next l ab=>
      split at f
      ·next v τ' F=>
       rw[Dq]at F;split at f
       ·next ap=>
        cases f;have a3:=bH ap;have N:SR P H {h:=lg (jo ((gW rs).take i) J0.h) l,next:=tJ,lock:=tJ} w:=g.st.rel.part (λid m h=>(B l rfl id m h).1) (λid X=>xG (YX id X) ag);refine C.gen S g V U W hi iq N E (Env.le.refl _) rfl F rfl (λid m h=>(B l rfl id m h).1) ?_ ?_ ?_ ?_ ?_ ?_ hK
        ·rintro id X ⟨p,y⟩
         have Y:tJ<=id:=p;omega
        ·intro b m q;simp[fK]at q
        ·intro id m p y G;have a4:tJ<=id:=G;have:=YX id (N.O7 p);omega
        ·have:=C.X5;show J0.lock<=tJ;omega
        ·intro b q;simp[fK]at q
        ·intro id p y;have Y:tJ<=id:=p;omega
       ·cases f
      ·cases f
    ·
      next l ab=>
      split at f
      ·next v τ' F=>
       rw[Dq]at F;split at f
       ·next ap=>
        cases f;have a3:=bH ap;have N:SR P H {h:=lg (jo ((gW rs).take i) J0.h) l,next:=tJ,lock:=J0.lock} w:=g.st.rel.part (λid m h=>(B l rfl id m h).1) (λid X=>xG (YX id X) ag);refine C.gen S g V U W hi iq N E (Env.le.refl _) rfl F rfl (λid m h=>(B l rfl id m h).1) ?_ ?_ ?_ (dY _) ?_ ?_ hK
        ·rintro id X ⟨p,y⟩
         have Y:tJ<=id:=p;omega
        ·intro b m q;obtain⟨p,y⟩:=ZM q;obtain⟨G,T,aa,L,Z⟩:=DZ.1 p;refine⟨y.symm,.inl ⟨aa,?_,Z⟩⟩;show(lg _ l).get b=_
         rw[Bv,aj G];exact L
        ·intro id m p y G;obtain⟨_,T,L⟩:=B l rfl id m p;rw[yO,keys_map];exact DZ.2 ⟨T,G,m,L,y⟩
        ·intro b q;rw[yO,keys_map]at q;exact(DZ.1 q).2.1
        ·intro id p y;have Y:tJ<=id:=p;omega
       ·cases f
      ·cases f
    ·
      next l ab=>
      split at f
      ·next O=>
       simp only[aK]at O;split at f
       ·next v τ' F=>
        rw[Dq]at F;cases f;simp only at al am an
        have N:SR P (H.cut (jA (J0.next+ops.size) rs i)) {h:=lg (jo ((gW rs).take i) J0.h) l,next:=jA (J0.next+ops.size) rs i,lock:=J0.lock} w:=
         g.st.rel.cutAt (by omega) (λid m h=>(B l rfl id m h).1) (λid m h=>by obtain⟨_,p,y⟩:=B l rfl id m h;have:=N8 O.2 id p;exact⟨this.1,this.2 m y⟩) (dY _)
        refine C.gen S g V U W hi iq N (ax _ O.1) (Env.KQ _ _) rfl F rfl (λid m h=>(B l rfl id m h).1) ?_ ?_ ?_ (dY _) ?_ ?_ hK
        ·rintro id X ⟨p,y⟩
         exact C.apart g U hi X ⟨p,y⟩
        ·intro b m q;rw[UK]at q;split at q
         ·next x hx=>
          cases q;obtain⟨p,y,G⟩:=Ja hx;obtain⟨T,L⟩:=G m rfl;refine⟨T,.inr ⟨L,?_⟩⟩;show(lg _ l).get b=none
          rw[Bv];split
          ·next hm=>have:=(N8 O.2 b hm).1;omega
          ·rfl
         ·obtain⟨p,y⟩:=ZM q;obtain⟨G,T,aa,L,Z⟩:=DZ.1 p;refine⟨y.symm,.inl ⟨aa,?_,Z⟩⟩;show(lg _ l).get b=_
          rw[Bv,aj G];exact L
        ·intro id m p y G;obtain⟨_,T,L⟩:=B l rfl id m p;rw[yO];unfold keysOf;rw[jG,iW];left;have:=keys_map (Jk (jo ((gW rs).take i) J0.h) J0.lock l) (λk=>τ'.get k);unfold keysOf at this;rw[this];exact DZ.2 ⟨T,G,m,L,y⟩
        ·intro b q;rw[UK]at q;split at q
         ·next x hx=>
          obtain⟨p,_,_⟩:=Ja hx;show J0.lock<=b
          omega
         ·rw[yO,keys_map]at q;exact(DZ.1 q).2.1
        ·intro id p y;have Y:jA (J0.next+ops.size) rs i<=id:=p;exact⟨by omega,by omega,.inr ⟨p,y⟩⟩
       ·cases f
      ·cases f
    ·
      next ab=>
      split at f
      ·next v τ' az=>
       have F:=aCw az;rw[Dq]at F;cases f;simp only at al am an;have ac:∀id,H.has id->id<jA (J0.next+ops.size) rs i:=by
        intro id X;rcases g.dm id X with G|⟨k,G,T,L⟩|⟨j,s,G,T,L,Z⟩
        ·omega
        ·omega
        ·have aq:i≠j:=by rintro rfl;rw[hi]at T;cases T
         rcases Nat.lt_or_gt_of_ne aq with ar|ar
         ·have av:j<ops.size:=by have:=(fB.1 G).1;rw[C.len]at this;exact this
          have ae:=C.open_ g.closed V hi iq av (by rw[T];simp;omega);have hp:=Md V (C.pairs i j _ s U G ae);have:=(hp.2.2.2.2.1 rfl ar).2.2;omega
         ·have:=C.lt G U ar;simp only at this;omega
       have ai:∀id m,(Fb (jo ((gW rs).take i) J0.h) (D8 M i (rs.take i) 0)).get id=some m->(jW (gW rs) 0 D J0.h).get id=some m:=by
        intro id m I;rw[afj]at I;split at I
        ·cases I
        ·next aD=>
         rw[<-I,Ll (gW rs) i 0,Dw];congr 1;refine(LM _ _ _ _ _ λj u hj af=>?_).symm;obtain⟨s,hs,rfl⟩:=Qv hj;have av:j<ops.size:=by have:=(fB.1 hs).1;rw[C.len]at this;exact this
         simp only[jQ]at af;have ae:=C.open_ g.closed V hi iq av (λe=>af e.symm);apply PE;by_cases a5:j<i
         ·exact aaZ aD j s (by rw[mG,aj a5];exact hs) (by rw[jQ];exact ae)
         ·have aq:i<j:=by
           rcases vP i j with h|h
           ·exact h
           ·have:i=j:=by omega
            subst this;rw[hi]at af;simp at af
          have hp:=Md V (C.pairs i j _ s U hs ae);obtain⟨p,y,G⟩:=hp.2.2.2.2.1 rfl aq;intro ak;have a9:=p id ak;rw[Ll (gW rs) i 0]at I;cases hl:lM (gW rs) 0 (λj=>decide (j<0+i)) id with
          |none=>rw[hl]at I;have:=ad.hasLt (ad.O7 I);omega
          |some x=>
           obtain⟨j',u',T,L,Z⟩:=ZH _ _ _ _ _ hl;obtain⟨s',a6,rfl⟩:=Qv T;simp only[jQ,decide_eq_true_eq]at L;have hk:id∈keysOf s'.upd:=(yO _ _).1 (by rw[Z];simp);have aE:(rs.take i)[j']? =some s':=by rw[mG,aj L];exact a6
           have a7:yx M i (0+j')=false:=by
            cases hu:yx M i (0+j')with
            |false=>rfl
            |true=>exact absurd hk (aaZ aD j' s' aE hu)
           have:=agd j' s' aE a7 hk;exact OT y this ak
       have N:SR P H {h:=Fb (jo ((gW rs).take i) J0.h) (D8 M i (rs.take i) 0),next:=jA (J0.next+ops.size) rs i,lock:=jA (J0.next+ops.size) rs i} w:=g.st.rel.part ai ac;refine C.gen S g V U W hi iq N E (Env.le.refl _) rfl F rfl ai ?_ ?_ ?_ ?_ ?_ ?_ hK
       ·rintro id X ⟨p,y⟩
        exact C.apart g U hi X ⟨p,y⟩
       ·intro b m q;obtain⟨p,y,G⟩:=Ja q;obtain⟨T,L⟩:=G m rfl;refine⟨T,.inr ⟨L,?_⟩⟩;cases hg:aA.get {h:=Fb (jo ((gW rs).take i) J0.h) (D8 M i (rs.take i) 0),next:=jA (J0.next+ops.size) rs i,lock:=jA (J0.next+ops.size) rs i} b with
        |none=>rfl
        |some aa=>have:=ac b (N.O7 hg);omega
       ·intro id m p y G;have a4:jA (J0.next+ops.size) rs i<=id:=G;have:=ac id (N.O7 p);omega
       ·show J0.lock<=jA (J0.next+ops.size) rs i
        omega
       ·intro b q;cases hx:fK (Fv τ' (jA (J0.next+ops.size) rs i) (τ'.next-jA (J0.next+ops.size) rs i)) b with
        |none=>exact absurd hx q
        |some x=>exact(Ja hx).1
       ·intro id p y;have Y:jA (J0.next+ops.size) rs i<=id:=p;exact⟨by omega,by omega,.inr ⟨p,y⟩⟩
      ·generalize Qc o (bn.eval {t:=lg (jo ((kS rs).take i) a0.t) (o.looksAt ops),n:=a0.n,gn:=a0.gn}) (jo ((gW rs).take i) J0.h)=l at f;split at f
       ·next O=>
        simp only[aK]at O;split at f
        ·next v τ' F=>
         rw[Dq]at F;cases f;simp only at al am an
         have N:SR P (H.cut (jA (J0.next+ops.size) rs i)) {h:=lg (jo ((gW rs).take i) J0.h) l,next:=jA (J0.next+ops.size) rs i,lock:=J0.lock} w:=
          g.st.rel.cutAt (by omega) (λid m h=>(B l rfl id m h).1) (λid m h=>by obtain⟨_,p,y⟩:=B l rfl id m h;have:=N8 O.2 id p;exact⟨this.1,this.2 m y⟩) (dY _)
         refine C.gen S g V U W hi iq N (ax _ O.1) (Env.KQ _ _) rfl F rfl (λid m h=>(B l rfl id m h).1) ?_ ?_ ?_ (dY _) ?_ ?_ hK
         ·rintro id X ⟨p,y⟩
          exact C.apart g U hi X ⟨p,y⟩
         ·intro b m q;rw[UK]at q;split at q
          ·next x hx=>
           cases q;obtain⟨p,y,G⟩:=Ja hx;obtain⟨T,L⟩:=G m rfl;refine⟨T,.inr ⟨L,?_⟩⟩;show(lg _ l).get b=none
           rw[Bv];split
           ·next hm=>have:=(N8 O.2 b hm).1;omega
           ·rfl
          ·obtain⟨p,y⟩:=ZM q;obtain⟨G,T,aa,L,Z⟩:=DZ.1 p;refine⟨y.symm,.inl ⟨aa,?_,Z⟩⟩;show(lg _ l).get b=_
           rw[Bv,aj G];exact L
         ·intro id m p y G;obtain⟨_,T,L⟩:=B l rfl id m p;rw[yO];unfold keysOf;rw[jG,iW];left;have:=keys_map (Jk (jo ((gW rs).take i) J0.h) J0.lock l) (λk=>τ'.get k);unfold keysOf at this;rw[this];exact DZ.2 ⟨T,G,m,L,y⟩
         ·intro b q;rw[UK]at q;split at q
          ·next x hx=>
           obtain⟨p,_,_⟩:=Ja hx;show J0.lock<=b
           omega
          ·rw[yO,keys_map]at q;exact(DZ.1 q).2.1
         ·intro id p y;have Y:jA (J0.next+ops.size) rs i<=id:=p;exact⟨by omega,by omega,.inr ⟨p,y⟩⟩
        ·cases f
       ·cases f
end
section
variable{call:Caller}{ops:W4}{M:Q2}{rs:We}{a0:bn}{J0:aA}{cf:Nat}{H0:Env}{w0:World}
def inB(b:Array Bool):Nat->Bool:=λj=>b.getD j false
def aiw{b:Array Bool}(p:b.size=ops.size){i:Nat}(h:i∈Region.ready .any ops b):i<ops.size/\inB b i=false/\∀o,ops[i]? =some o->∀e∈o.after.toList,Region.binds .any e=true->inB b e.on=true:=by
 unfold Region.ready at h;simp only[ED,zl,aK,zf]at h;obtain⟨j,g,d⟩:=h;have f:i<b.size:=by omega
 refine⟨j,?_,?_⟩
 ·unfold inB;rw[y9,CG f]at g⊢;exact g
 ·intro o k e l m;rw[k]at d;simp only[gB,qP]at d;rw[Array.all_eq_true']at d;have:=d e (by simpa using l);rw[m]at this;simpa[inB]using this
def count_set(b:Array Bool)(i:Nat)(h:b[i]? =some false):(b.setIfInBounds i true).toList.count false+1=b.toList.count false:=by
 have d:i<b.size:=(qj.1 h).1;have g:b[i]=false:=(qj.1 h).2;have e:b.toList[i]'(by simpa using d)=false:=by simpa using g
 have f:0<b.toList.count false:=List.count_pos_iff.2 (by rw[<-e];exact dW _);rw[Array.toList_setIfInBounds,List.count_set (by simpa using d),e];have j:((false==false)=true):=rfl;have k:¬((true==false)=true):=by decide
 rw[aj j,ah k];omega
def YF{α:Type}:∀(b:List (List (Nat×Option α)))(k:Nat)(D:Nat->Bool)(t:Tr α),(∀j,j<b.length->D (k+j)=true)->jW b k D t=jo b t
 |[],_,_,_,_=>rfl
 |u::b,k,D,t,h=>by have h0:=h 0 (by simp);simp only[lD]at h0;rw[jW,aj h0,jo,YF b (k+1) D _ (λj d=>by rw[show k+1+j=k+(j+1) by omega];exact h (j+1) (by simpa using d))]
end
section
variable{ops:W4}{M:Q2}{rs:We}{a0:bn}{J:aA}{H0:Env}{w0:World}{n N0:Nat}
def ak0(C:qO ops M rs n N0)(Inv:(Nat->Bool)->Env->World->Act->Prop)
 (s:∀D H w A i (K:Act->World->Prop) (Q:Exit->Act->World->Prop),Inv D H w A->i<ops.size->D i=false->(∀o,ops[i]? =some o->∀e∈o.after.toList,Region.binds .any e=true->D e.on=true)->
  (∀H' t w',Inv (lG D i) H' w' t->K t w')->wpOp P ops Q i K A w) {Q:Exit->Act->World->Prop}
 (Y:∀H' t w',Inv (λj=>decide (j<ops.size)) H' w' t->Q .normal t w'):
 ∀(fuel:Nat)(b:Array Bool)(H:Env)(w:World)(A:Act),b.size=ops.size->b.toList.count false=fuel->Inv (inB b) H w A->wpAny P .any ops Q fuel b A w:=by
 intro fuel;induction fuel with
 |zero=>
  intro b H w A E V f;have m:∀j,j<ops.size->inB b j=true:=by
   intro j v;have d:j<b.size:=by omega
   have u:b[j]∈b.toList:=by simp
   have:false∉b.toList:=List.count_eq_zero.1 V;unfold inB;rw[y9,CG d];cases I:b[j]with
   |true=>rfl
   |false=>rw[I]at u;exact absurd u this
  have L:inB b=λj=>decide (j<ops.size):=by
   funext j;by_cases v:j<ops.size
   ·rw[m j v];simp[v]
   ·unfold inB;rw[y9,Array.getElem?_eq_none (by omega)];simp[v]
  refine⟨?_,?_⟩
  ·apply List.eq_nil_iff_forall_not_mem.2;intro i hi;obtain⟨p,g,_⟩:=aiw E hi;rw[m i p]at g;cases g
  ·rw[L]at f;exact Y H A w f
 |succ fuel Z=>
  intro b H w A E V f;refine⟨λhr=>?_,λi hi=>?_⟩
  ·exfalso;have N:∃i,i<ops.size/\inB b i=false/\∀j,j<i->inB b j=true:=by
    have y:0<b.toList.count false:=by omega
    have u:=List.count_pos_iff.1 y;obtain⟨k,F⟩:=WY.1 u;have O:k<ops.size:=by have:=(fB.1 F).1;simp at this;omega
    have S:inB b k=false:=by unfold inB;rw[y9];rw[vJ]at F;rw[F];rfl
    clear u F;induction k using Nat.strongRecOn with
    |_ k T=>
     by_cases G:∃j,j<k/\inB b j=false
     ·obtain⟨j,p,g⟩:=G;exact T j p (by omega) g
     ·refine⟨k,O,S,λj v=>?_⟩;cases I:inB b j with
      |true=>rfl
      |false=>exact absurd ⟨j,v,I⟩ G
   obtain⟨i,p,g,U⟩:=N;have q:i∈Region.ready .any ops b:=by
    unfold Region.ready;simp only[ED,zl,aK,zf];have d:i<b.size:=by omega
    refine⟨p,?_,?_⟩
    ·unfold inB at g;rw[y9,CG d]at g⊢;exact g
    ·have W:ops[i]? =some ops[i]:=by simp[p]
     rw[W];simp only[gB,qP];rw[Array.all_eq_true'];intro e he;cases G:Region.binds .any e with
     |false=>rfl
     |true=>
      simp only[WG,Aq];obtain⟨u,X⟩:=C.mask W;have z:uw M e.on i=true:=by
       unfold uw;rw[yB,u];simp only[qP];have:∀(es:List Edge),e∈es->(zW (λj=>(M.take i).getD j 0) es).testBit e.on=true:=by
        intro es;induction es with
        |nil=>intro h;simp at h
        |cons x es B=>
         intro h;rw[zW];simp only[bD]at h;rcases h with rfl|h
         ·rw[aj G,QU,QU,Nat.testBit_two_pow];simp
         ·split
          ·rw[QU,B h,Bool.or_true]
          ·exact B h
       exact this _ (by simpa using he)
      exact U e.on (C.aak z)
   rw[hr]at q;simp at q
  ·obtain⟨p,g,U⟩:=aiw E hi;refine s _ _ _ _ i _ Q f p g U λH' t w' l=>?_;have hf:b[i]? =some false:=by
    have d:i<b.size:=by omega
    unfold inB at g;rw[y9,CG d]at g;rw[CG d];simpa using g
   have L:lG (inB b) i=inB (b.setIfInBounds i true):=by
    funext j;unfold lG inB;have d:i<b.size:=by omega
    rw[y9,y9,CJ];by_cases e:i=j
    ·subst e;rw[aj rfl,aj d];simp
    ·rw[ah e,Gm (λe'=>e e'.symm)];simp
   rw[L]at l;exact Z _ H' w' t (by simpa using E) (by have:=count_set b i hf;omega) l
end
def ajF{ops:W4}{M:Q2}:∀(k i j:Nat),V6 ops M k<=i->i<k->nT ops i=false->j<i->nT ops j=true\/uw M j i=true
 |0,i,j,_,h,_,_=>by omega
 |k+1,i,j,h1,g,b,d=>by
  unfold V6 at h1;split at h1
  ·next f=>
   by_cases e:i=k
   ·subst e;rw[b,Aq,List.all_eq_true]at f;have:=f j (by simpa using d);rwa [mY]at this
   ·exact ajF k i j h1 (by omega) b d
  ·omega
def V7:∀(rs:We)(r:dM)(J:aA),vG (rs++[r]) J=match r.fin with|some τ=>τ|none=>vG rs J
 |[],_,_=>rfl
 |s::rs,r,J=>by
  show vG (rs++[r]) _=_
  rw[V7 rs r];rfl
def abP{rs:We}{J:aA}:∀k,k<=rs.length->(∀(i:Nat) r,i<k->rs[i]? =some r->r.fin=none)->vG (rs.take k) J=J
 |0,_,_=>by simp[vG]
 |k+1,e,h=>by
  obtain⟨r,b⟩:∃r,rs[k]? =some r:=⟨_,bP (by omega)⟩
  rw[QN,b,acU,V7,h k r (by omega) b];exact abP k (by omega) (λi d hi=>h i d (by omega))
def abQ{rs:We}{J:aA}{m:Nat}{r:dM}{τ:aA}(g:rs[m]? =some r)(j:r.fin=some τ):∀k,m<k->k<=rs.length->(∀(i:Nat) d,m<i->i<k->rs[i]? =some d->d.fin=none)->vG (rs.take k) J=τ
 |0,h,_,_=>by omega
 |k+1,p,q,h=>by
  by_cases e:m=k
  ·subst e;rw[QN,g,acU,V7,j]
  ·obtain⟨d,b⟩:∃r,rs[k]? =some r:=⟨_,bP (by omega)⟩
   rw[QN,b,acU,V7,h k d (by omega) (by omega) b];exact abQ g j k (by omega) (by omega) (λi f l s=>h i f l (by omega))
def arl{call:Caller}{o:Oper}(l:Dt o=true){g:QP}{J1 J2 τ:aA}{v:Q4}(b:zH P call o g J1=some (v,τ)):zH P call o g J2=some (v,J2):=by
 rw[Dq]at b⊢;obtain⟨m,h,j,pos,f,guard⟩:=o;cases h with
 |move x=>simp only[uO,eH,bg,og]at b⊢;obtain⟨u,d,e,_⟩:=b;exact⟨u,d,e,trivial⟩
 |assign x=>simp only[uO,eH,bg,og]at b⊢;obtain⟨u,d,e,_⟩:=b;exact⟨u,d,e,trivial⟩
 |extract x k=>
  simp only[uO]at b⊢;split at b
  ·simp only[eH,bg,og]at b⊢;obtain⟨u,d,e,_⟩:=b;exact⟨u,d,e,trivial⟩
  ·cases b
 |binOp h t x y z=>
  simp only[uO]at b⊢;split at b
  ·simp only[eH,bg,og]at b⊢;obtain⟨u,d,e,_⟩:=b;exact⟨u,d,e,trivial⟩
  ·cases b
 |_=>simp[Dt]at l
def alY{o:Oper}(e:Dt o=true)(f:QP):aea o f=.na []:=by obtain⟨g,h,d,pos,b,guard⟩:=o;cases h<;>first|rfl|(simp[Dt]at e)
def aql{call:Caller}{ops:W4}{d gn n i c:Nat}{e:We}{t:Tr AV}{h:Tr bC}{r:dM}(b:KR P call ops d gn n e i t h c=some r):r.next=c:=by
 unfold KR at b;split at b
 ·cases b
 ·split at b
  ·cases b
  ·cases b;rfl
  ·split at b
   ·cases b;rfl
   ·cases b
def Yh{call:Caller}{ops:W4}{M:Q2}{N0 d gn n i c:Nat}{f:We}{t:Tr AV}{h:Tr bC}{r:dM}{o:Oper}(p:ops[i]? =some o)(g:Dt o=true)(b:Bf P call ops M N0 d gn n f i t h c=some r):
 r.upd=[]/\r.next=c/\r.fin=none/\((JO o ops {t:=lg t (o.looksAt ops),n:=n,gn:=gn}=some false/\r.slot=qE o (some (.eG [])))\/
  (JO o ops {t:=lg t (o.looksAt ops),n:=n,gn:=gn}=some true/\∃v,(∀j,zH P call o (bn.eval {t:=lg t (o.looksAt ops),n:=n,gn:=gn}) j=some (v,j))/\r.slot=qE o v)):=by
 unfold Bf at b;rw[p]at b;simp only at b;split at b
 ·cases b
 ·next k=>cases b;exact⟨rfl,rfl,rfl,.inl ⟨k,rfl⟩⟩
 ·next k=>
  split at b
  ·next u e=>exfalso;obtain⟨q,x,m,pos,l,guard⟩:=o;cases e;simp[Dt]at g
  ·rw[alY g]at b;simp only at b;split at b
   ·next v τ s=>
    split at b
    ·cases b;exact⟨rfl,rfl,rfl,.inr ⟨k,v,λj=>arl g s,rfl⟩⟩
    ·cases b
   ·cases b
def X7{ops:W4}{D:Nat->Bool}{i:Nat}(h:Closed ops D)(k:∀o,ops[i]? =some o->∀e∈o.after.toList,Region.binds .any e=true->D e.on=true):Closed ops (lG D i):=by
 intro j o b d e f g;unfold lG at b⊢;rw[mY]at b⊢;rcases b with b|b
 ·exact .inl (h j o b d e f g)
 ·have:=bH b;subst this;exact .inl (k o d e f g)
section
variable{call:Caller}{ops:W4}{M:Q2}{rs:We}{a:bn}{J:aA}{c:Nat}{D:Nat->Bool}
def Ctx.act'(C:Ctx P call ops M rs a J c)(g:Closed ops D){i:Nat}{o:Oper}{r:dM}(h:ops[i]? =some o)(j:rs[i]? =some r)(hi:D i=false)(k:∀e∈o.after.toList,Region.binds .any e=true->D e.on=true)
 {H:Env} {A:Act} (b:TR P H {t:=jW (kS rs) 0 D a.t,n:=a.n,gn:=a.gn} A):TR P H {t:=lg (jo ((kS rs).take i) a.t) (o.looksAt ops),n:=a.n,gn:=a.gn} A:=by
 refine⟨b.gn,b.size,b.none,λd v f=>?_⟩;rw[Bv]at f;split at f
 ·next l=>
  rw[C.ai8 (a0:=a) g h j hi k l]at f;exact b.slot d v f
 ·cases f
def Ctx.last(C:Ctx P call ops M rs a J c)(k:rD P call)(p:Closed ops D){i:Nat}{o:Oper}{r:dM}(y:ops[i]? =some o)(z:rs[i]? =some r)(hi:D i=false)(I:∀e∈o.after.toList,Region.binds .any e=true->D e.on=true)(F:nX ops M i=true)
 {H H1:Env} {w0 w1:World} {A:Act} (l:St P H J w0 H1 (vG (rs.take i) {h:=jo ((gW rs).take i) J.h,next:=jA (J.next+ops.size) rs i,lock:=J.lock}) w1)
 (m:TR P H1 {t:=jW (kS rs) 0 D a.t,n:=a.n,gn:=a.gn} A) {K:Act->World->Prop} {Q:Exit->Act->World->Prop}
 (L:∀B N E τ,r.fin=some τ->St P H J w0 B τ E->TR P B {t:=jW (kS rs) 0 (lG D i) a.t,n:=a.n,gn:=a.gn} N->K N E):wpOp P ops Q i K A w1:=by
 have b:=C.one i r z;unfold xU at b;rw[aj F]at b;unfold KR at b;rw[y]at b;simp only at b;have f:=C.act' p y z hi I m;have g:=λd=>C.TS (a0:=a) p y z hi I d;have q:=(C.slot i r z).2;unfold wpOp;rw[y];simp only;split at b
 ·cases b
 ·next G=>
  cases b;rw[G5 f G];simp only[gy,if_false];exact L H1 _ w1 _ rfl l (m.add (Env.le.refl _) g q (by rintro u O;cases O;exact⟨[],rfl,rfl⟩))
 ·next G=>
  rw[G5 f G];simp only[if_true];left;split at b
  ·next v τ s=>
   rw[Dq]at s;cases b;refine Xr l.rel k f s λx B E j S=>?_;exact L B _ E _ rfl (l.trans j) (m.add j.ext g q S)
  ·cases b
def Ctx.free(C:Ctx P call ops M rs a J c)(k:rD P call)(q:Closed ops D){i:Nat}{o:Oper}{r:dM}(s:ops[i]? =some o)(z:rs[i]? =some r)(hi:D i=false)(L:∀e∈o.after.toList,Region.binds .any e=true->D e.on=true)(N:Dt o=true)
 {H H1:Env} {τ:aA} {w0 w1:World} {A:Act} (l:St P H J w0 H1 τ w1) (m:TR P H1 {t:=jW (kS rs) 0 D a.t,n:=a.n,gn:=a.gn} A) {K:Act->World->Prop} {Q:Exit->Act->World->Prop}
 (O:∀B S E,St P H J w0 B τ E->TR P B {t:=jW (kS rs) 0 (lG D i) a.t,n:=a.n,gn:=a.gn} S->K S E):wpOp P ops Q i K A w1:=by
 have f:=C.one i r z;unfold xU at f;have F:nX ops M i=false:=by unfold nX nT;rw[s];simp only[N,WG,Bool.and_false]
 rw[F]at f;simp only[gy,if_false]at f;obtain⟨_,_,_,p⟩:=Yh s N f;have g:=C.act' q s z hi L m;have b:=λd=>C.TS (a0:=a) q s z hi L d;have h:=(C.slot i r z).2;unfold wpOp;rw[s];simp only;rcases p with⟨G,I⟩|⟨G,v,T,I⟩
 ·rw[I]at b h;rw[G5 g G];simp only[gy,if_false];exact O H1 _ w1 l (m.add (Env.le.refl _) b h (by rintro u U;cases U;exact⟨[],rfl,rfl⟩))
 ·rw[I]at b h;rw[G5 g G];simp only[if_true];left;have y:=T τ;rw[Dq]at y;refine Xr l.rel k g y λx B E j V=>?_;exact O B _ E (l.trans j) (m.add j.ext b h V)
def Ctx.ajG(C:Ctx P call ops M rs a J c){l:Nat}(d:∀i,l<=i->i<ops.size->nX ops M i=true\/nT ops i=true):∀k,l+k<=ops.size->jA (J.next+ops.size) rs (l+k)=jA (J.next+ops.size) rs l
 |0,_=>rfl
 |k+1,h=>by
  have g:=C.ajG d k (by omega);obtain⟨r,e⟩:∃r,rs[l+k]? =some r:=⟨_,bP (by rw[C.len];omega)⟩
  obtain⟨o,f⟩:∃o,ops[l+k]? =some o:=⟨ops[l+k],by simp⟩
  have b:=C.one _ _ e;unfold xU at b;rw[show l+(k+1)=(l+k)+1 by omega,Ov rs _ _ _ e,<-g];split at b
  ·exact aql b
  ·next j=>
   rcases d (l+k) (by omega) (by omega)with h1|h1
   ·exact absurd h1 j
   ·unfold nT at h1;rw[f]at h1;exact(Yh f h1 b).2.1
end
def aqD(hm:P.follows .mixedOrders=true):QF P (Xq P):=by
 intro call v ops a J a' J' hs H w A id Q h ht hK;unfold Xq at hs;simp only at hs;split at hs
 ·next ae=>
  simp only[aK]at ae;split at hs
  ·next rs t hh c ax=>
   split at hs
   ·next zL=>
    simp only[aK]at zL;obtain⟨⟨⟨az,al⟩,af⟩,am⟩:=zL;obtain⟨new,x,N,h3,h4,h5,h6⟩:=aeo _ _ _ _ _ _ _ _ _ _ ax;simp only[aW]at x;subst x
    have C:Ctx P call ops (mQ ops.toList []) rs a J c:={
     hM:=rfl
     mok:=ae.1
     len:=N
     one:=λi r E=>by have:=h6 i r E;simpa using this
     pairs:=awD az al (λi r E=>by have:=h6 i r E;exact aqr (by simpa using this))
     slot:=by intro i r E;unfold ajl at af;rw[List.all_eq_true]at af;have:=af r (qp E);simp only[aK]at this;refine⟨Nat.le_of_ble_eq_true this.1,λp aD=>?_⟩;have h8:=this.2;rw[List.all_eq_true]at h8;have:=h8 p aD;rwa [jm]at this
     fin:=h5
     big:=tq am
     lock:=tq ae.2}
    refine wp_region_any hm ?_;have F:=C.X5;have O:inB (Array.replicate ops.size false)=λ_=>false:=by funext j;unfold inB;rw[y9,Array.getElem?_replicate];split<;>rfl
    have an:∀{α:Type}(us:List (List (Nat×Option α)))(k:Nat)(t:Tr α),jW us k (λ_=>false) t=t:=by
     intro α us;induction us with
     |nil=>intro k t;rfl
     |cons u us ih=>intro k t;rw[jW];simp only[gy,if_false];exact ih _ _
    have start:CO P ops rs a J c H {w with drawn:=w.drawn+1} (λ_=>false) H {w with drawn:=w.drawn+1} A:=by
     refine⟨λi o hi=>by simp at hi,?_,?_,λid hq=>.inl (h.hasLt hq)⟩
     ·rw[an];refine(St.refl h.drew).sub (λid o W=>W) (by show J.next<=c;omega) rfl
     ·rw[an];exact⟨ht.gn,ht.size,ht.none,ht.slot⟩
    have ao:jW (kS rs) 0 (λj=>decide (j<ops.size)) a.t=t:=by rw[h3];exact YF _ _ _ _ (λj q=>by simp[kS]at q⊢;omega)
    have G:∀i,i<ops.size->nX ops (mQ ops.toList []) i=true->nT ops i=false/\∀j,j<i->nT ops j=true\/uw (mQ ops.toList []) j i=true:=by intro i hi d;unfold nX at d;rw[aK,zf]at d;exact⟨d.2,λj q=>ajF _ _ _ (tq d.1) hi d.2 q⟩
    have ag:∀i j,i<=j->j<ops.size->nX ops (mQ ops.toList []) i=true->nX ops (mQ ops.toList []) j=true\/nT ops j=true:=by
     intro i j aE q d;unfold nX at d⊢;rw[aK,zf]at d;have:=tq d.1;cases V:nT ops j with
     |true=>exact .inr rfl
     |false=>left;rw[acP (jP this aE)];rfl
    have I:∀i,nT ops i=true->nX ops (mQ ops.toList []) i=false:=by intro i V;unfold nX;rw[V];simp
    have S:∀(i:Nat) r,rs[i]? =some r->nX ops (mQ ops.toList []) i=false->r.fin=none:=by intro i r E hi;have g:=C.one i r E;unfold xU at g;rw[hi]at g;simp only[gy,if_false]at g;exact aqp g
    have aL:∀(i:Nat) r,rs[i]? =some r->nT ops i=true->r.upd=[]:=by
     intro i r E V;have g:=C.one i r E;unfold xU at g;rw[I i V]at g;simp only[gy,if_false]at g;unfold nT at V;split at V
     ·next o W=>exact(Yh W V g).1
     ·cases V
    let wd:World:={w with drawn:=w.drawn+1}
    cases hs
    refine ak0 C.toqO (λD X w1 A1=>((∀i,i<ops.size->nX ops (mQ ops.toList []) i=true->D i=false)/\CO P ops rs a J c H wd D X w1 A1)\/
     ∃m,m<ops.size/\nX ops (mQ ops.toList []) m=true/\Closed ops D/\(∀j,j<ops.size->nT ops j=false->D j=decide (j<=m))/\∃r τ,rs[m]? =some r/\r.fin=some τ/\St P H J wd X τ w1/\TR P X {t:=jW (kS rs) 0 D a.t,n:=a.n,gn:=a.gn} A1) ?_ ?_ ops.size (Array.replicate ops.size false) H _ A (by simp) (by simp) (.inl ⟨λi _ _=>by rw[O],by rw[O];exact start⟩)
    ·intro D X w1 A1 i K Q' f y hi Fz aa;obtain⟨o,W⟩:∃o,ops[i]? =some o:=⟨ops[i],by simp[y]⟩
     obtain⟨r,E⟩:∃r,rs[i]? =some r:=⟨_,bP (by rw[N];exact y)⟩
     have iq:=Fz o W;rcases f with⟨hD,f⟩|⟨m,ap,Y6,F,Ls,r1,τ1,ab,ac,T,Ph⟩
     ·by_cases d:nX ops (mQ ops.toList []) i=true
      ·
        obtain⟨a7,aq⟩:=G i y d;have YS:∀j,j<ops.size->nT ops j=false->D j=decide (j<i):=by
         intro j q s;by_cases x:j<i
         ·have:D j=true:=C.qQ f.closed i o W iq j ((aq j x).resolve_left (by rw[s];simp));rw[this];simp[x]
         ·have:D j=false:=hD j q ((ag i j (by omega) q d).resolve_right (by rw[s];simp));rw[this];simp[x]
        have aM:∀j,j<i->nX ops (mQ ops.toList []) j=false:=by
         intro j q;cases e:nX ops (mQ ops.toList []) j with
         |false=>rfl
         |true=>have x:=hD j (by omega) e;rw[YS j (by omega) (G j (by omega) e).1]at x;exact absurd q (of_decide_eq_false x)
        have aR:∀b,(jo ((gW rs).take i) J.h).get b=(jW (gW rs) 0 D J.h).get b:=by
         intro b;rw[Ll (gW rs) i 0,Dw];congr 1;refine LM _ _ _ _ _ λj u q ar=>?_;have Y:j<ops.size:=by have:=(fB.1 q).1;simp[gW]at this;omega
         simp only[jQ]at ar;cases s:nT ops j with
         |false=>exact absurd (YS j Y s).symm ar
         |true=>obtain⟨r',a0,hu⟩:=Qv q;rw[aL j r' a0 s]at hu;subst hu;rfl
        have BD:jA (J.next+ops.size) rs i=c:=by have:=C.ajG (l:=i) (λk x N=>ag i k x N d) (ops.size-i) (by omega);rw[show i+(ops.size-i)=ops.size by omega]at this;rw[<-this];exact C.fin.symm
        have L:∀Z,vG (rs.take i) Z=Z:=λZ=>abP i (by omega) λj r' x N=>S j r' N (aM j x);refine C.last v f.closed W E hi iq d (H:=H) (w0:=wd) (H1:=X) ?_ f.tr λH' A' w' τ V z B=>aa H' A' w' (.inr ⟨i,y,d,X7 f.closed Fz,?_,r,τ,E,V,z,B⟩)
        ·rw[L];refine f.st.sub (λav o' a1=>?_) (J6 BD.symm) rfl;rw[show(aA.get {h:=jW (gW rs) 0 D J.h,next:=c,lock:=J.lock} av)=(jW (gW rs) 0 D J.h).get av from rfl,<-aR];exact a1
        ·intro j q s;unfold lG;rw[YS j q s];by_cases e:j=i
         ·subst e;simp
         ·rw[Gm e,Nr];congr 1;apply propext;omega
      ·have aw:nX ops (mQ ops.toList []) i=false:=by simpa using d
       refine C.step v h.drew f y hi Fz aw λH' A' w' ai=>aa H' A' w' (.inl ⟨λj q Y=>?_,ai⟩);have ak:j≠i:=λe=>by subst e;rw[aw]at Y;cases Y
       unfold lG;rw[hD j q Y,Gm ak];rfl
     ·cases U:nT ops i with
      |true=>
       have a2:Dt o=true:=by unfold nT at U;rw[W]at U;exact U
       refine C.free v F W E hi iq a2 T Ph λH' A' w' z B=>aa H' A' w' (.inr ⟨m,ap,Y6,X7 F Fz,?_,r1,τ1,ab,ac,z,B⟩);intro j q s;have ak:j≠i:=λe=>by subst e;rw[U]at s;cases s
       unfold lG;rw[Ls j q s,Gm ak,Nr]
      |false=>
       have a8:¬i<=m:=by intro a3;rw[Ls i y U]at hi;exact of_decide_eq_false hi a3
       have d:nX ops (mQ ops.toList []) i=true:=(ag m i (by omega) y Y6).resolve_right (by rw[U];simp);have ad:∀j,m<j->j<i->nT ops j=true:=by
        intro j x N;cases s:nT ops j with
        |true=>rfl
        |false=>have h8:D j=true:=C.qQ F i o W iq j (((G i y d).2 j N).resolve_left (by rw[s];simp));rw[Ls j (by omega) s]at h8;have:=LX h8;omega
       have L:∀Z,vG (rs.take i) Z=τ1:=λZ=>abQ ab ac i (by omega) (by omega) λj r' x N h3=>S j r' h3 (I j (ad j x N));refine C.last v F W E hi iq d (H:=H) (w0:=wd) (H1:=X) (by rw[L];exact T) Ph λH' A' w' τ V z B=>aa H' A' w' (.inr ⟨i,y,d,X7 F Fz,?_,r,τ,E,V,z,B⟩);intro j q s;unfold lG;rw[Ls j q s];by_cases e:j=i
       ·subst e;simp
       ·rw[Gm e,Nr];congr 1;apply propext;constructor
        ·omega
        ·intro x;apply Classical.byContradiction;intro N;have:=ad j (by omega) (by omega);rw[this]at s;cases s
    ·intro X A1 w1 f;rcases f with⟨hD,f⟩|⟨m,ap,Y6,F,Ls,r1,τ1,ab,ac,T,Ph⟩
     ·have a4:∀i,i<ops.size->nX ops (mQ ops.toList []) i=false:=by
       intro i hi;cases e:nX ops (mQ ops.toList []) i with
       |false=>rfl
       |true=>have:=hD i hi e;simp at this;omega
      have L:vG rs {h:=hh,next:=c,lock:=J.lock} ={h:=hh,next:=c,lock:=J.lock}:=by have:=abP (rs:=rs) (J:={h:=hh,next:=c,lock:=J.lock}) rs.length (dY _) λj r' x N=>S j r' N (a4 j (by omega));rwa [pq]at this
      rw[L]at hK;have a5:jW (gW rs) 0 (λj=>decide (j<ops.size)) J.h=hh:=by rw[h4];exact YF _ _ _ _ (λj q=>by simp[gW]at q⊢;omega)
      have z:=f.st;have B:=f.tr;rw[a5]at z;rw[ao]at B;exact hK X A1 w1 ((St.drew h).trans z) B
     ·have L:∀Z,vG rs Z=τ1:=by
       intro Z;have:=abQ (J:=Z) ab ac rs.length (by omega) (dY _) λj r' x N h3=>by
        refine S j r' h3 (I j ?_);cases s:nT ops j with
        |true=>rfl
        |false=>
         have h9:decide (j<ops.size)=decide (j<=m):=Ls j (by omega) s;have a6:decide (j<ops.size)=true:=by simp;omega
         rw[a6]at h9;have:=LX h9.symm;omega
       rwa [pq]at this
      rw[L]at hK;rw[ao]at Ph;exact hK X A1 w1 ((St.drew h).trans T) Ph
   ·cases hs
  ·cases hs
 ·cases hs
section
variable{call:Caller}{ops:W4}{M:Q2}{N0 gn n:Nat}
end
def aeE(d:P.follows .mixedOrders=true):QF P (Xp P):=by intro call b ops a J e f g;exact aqD d call b ops a J e f g
