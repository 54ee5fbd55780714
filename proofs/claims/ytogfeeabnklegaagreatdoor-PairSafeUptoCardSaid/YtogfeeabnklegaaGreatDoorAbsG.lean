/- Regions whose order Go leaves open: one operation keeps the invariant. -/
import Derived.Test.YtogfeeabnklegaaGreatDoorAbsF
set_option linter.all false
namespace Go.aP
noncomputable section
variable[aJ]
variable{P:Program}
structure Et(P:Program)(ops:W6)(rs:Wm)(a0:bM)(J0:aC)(cf:Nat)(F0:Env)(w0:World)(D:Nat->Bool)(F:Env)(w:World)(A:Act):Prop where
 closed:Closed ops D
 st:St P F0 J0 w0 F {h:=lG (iQ rs) 0 D J0.h,next:=cf,lock:=J0.lock} w
 tr:TR P F {t:=lG (mG rs) 0 D a0.t,n:=a0.n,gn:=a0.gn} A
 dm:∀id,F.has id->id<J0.next\/(∃k,k<ops.size/\D k=true/\id=J0.next+k)\/(∃(j:Nat)(r:dX),rs[j]? =some r/\D j=true/\r.base<=id/\id<r.next)
def TR.add{F F':Env}{T l:Tr AV}{n gn:Nat}{A:Act}{o:Oper}{v:Q4}{x:Value}(h:TR P F {t:=T,n:=n,gn:=gn} A)(g:F.le F')(f:∀d,l.get d=(gW (uf o v) d).getD (T.get d))
 (j:∀p∈uf o v,p.1<n) (s:∀u,v=some u->VR F' u x):TR P F' {t:=l,n:=n,gn:=gn} (A.put o.dst x):=by
 have m:=h.mono g;unfold uf at f j;cases q:o.dst with
 |none=>rw[q]at f;refine⟨h.gn,h.size,h.none,λd u b=>?_⟩;rw[f]at b;exact m.slot d u b
 |some d0=>
  rw[q]at f j;have k:=j (d0,v) aA;refine⟨h.gn,by have:=h.size;simpa[Act.put]using this,h.none,λd u b=>?_⟩;rw[f]at b;simp only[gW]at b;show ∃y,(A.tmps.setIfInBounds d0 x)[d]? =some y/\_
  rw[Es];by_cases e:d=d0
  ·subst e;rw[au rfl,au (by have:=h.size;simp only at this k;omega)];rw[au rfl]at b;exact⟨x,rfl,s u b⟩
  ·rw[aj (λz=>e z.symm)];rw[aj e]at b;exact m.slot d u b
section
variable{call:Caller}{ops:W6}{M:Q2}{rs:Wm}{a0:bM}{J0:aC}{cf:Nat}{F0 F:Env}{w0 w:World}{D:Nat->Bool}{A:Act}{i nn N0:Nat}{o:Oper}{r:dX}
def nK(D:Nat->Bool)(i:Nat):Nat->Bool:=λj=>D j ||Nat.beq j i
def aFo{rs:Wm}{i:Nat}{r:dX}(h:rs[i]? =some r):(iQ rs)[i]? =some r.upd:=by simp[iQ,h]
def aDV{rs:Wm}{i:Nat}{r:dX}(h:rs[i]? =some r):(mG rs)[i]? =some r.slot:=by simp[mG,h]
def TY{rs:Wm}{i:Nat}{u:WP}(h:(iQ rs)[i]? =some u):∃r,rs[i]? =some r/\r.upd=u:=by simpa[iQ]using h
def ama{rs:Wm}{i:Nat}{u:List (Nat×Q4)}(h:(mG rs)[i]? =some u):∃r,rs[i]? =some r/\r.slot=u:=by simpa[mG]using h
def OV{N0 i j:Nat}{r s:dX}{o:Oper}(e:ops[i]? =some o)(h:SK ops N0 i j r s=true):sH (keysOf r.slot) (keysOf s.slot)=true/\sH (o.looksAt ops) (keysOf s.slot)=true/\sH (keysOf r.upd) (keysOf s.upd)=true/\
 (∀l,r.vis=some l->sH l (keysOf s.upd)=true)/\(r.vis=none->i<j->(∀k∈keysOf s.upd,N0<=k)/\sH r.loc (keysOf s.upd)=true/\s.base=s.next)/\(r.vis=none->i≠j->j<i\/i<j):=by
 unfold SK at h;rw[e]at h;simp only[aO]at h;obtain⟨⟨⟨f,g⟩,m⟩,b⟩:=h;refine⟨f,g,m,?_,?_,λ_ p=>ah⟩
 ·intro l q;rw[q]at b;exact b
 ·intro t u;rw[t]at b;simp only[qF,aO]at b;rcases b with b|⟨⟨d,v⟩,x⟩
  ·rw[jX]at b;omega
  ·refine⟨λk y=>?_,v,bV x⟩;rw[List.all_eq_true]at d;exact wB (d k y)
def uD.ahS(C:uD ops M rs nn N0)(p:Closed ops D)(h:ops[i]? =some o)(k:rs[i]? =some r)(hi:D i=false)(q:∀e∈o.after.toList,Region.binds .any e=true->D e.on=true)(b:Nat):
 (lG (iQ rs) 0 (nK D i) J0.h).get b=(gW r.upd b).getD ((lG (iQ rs) 0 D J0.h).get b):=by
 rw[E9,E9];have:=abJ (iQ rs) 0 i D b r.upd (aFo k) (by simpa using hi) (λj v t u l d=>by
  obtain⟨s,m,rfl⟩:=TY t;have f:j<ops.size:=by have:=(gu.1 m).1;rw[C.len]at this;exact this
  have g:=C.open_ p h hi q f (by simp at l;rw[l];simp;omega);have x:=OV h (C.pairs i j r s k m g);exact RX (QU x.2.2.1 ((AQ _ _).1 d)))
 simp only[mQ]at this;unfold nK;rw[this];cases gW r.upd b<;>rfl
def uD.Ws(C:uD ops M rs nn N0)(p:Closed ops D)(h:ops[i]? =some o)(k:rs[i]? =some r)(hi:D i=false)(q:∀e∈o.after.toList,Region.binds .any e=true->D e.on=true)(b:Nat):
 (lG (mG rs) 0 (nK D i) a0.t).get b=(gW r.slot b).getD ((lG (mG rs) 0 D a0.t).get b):=by
 rw[E9,E9];have:=abJ (mG rs) 0 i D b r.slot (aDV k) (by simpa using hi) (λj v t u l d=>by
  obtain⟨s,m,rfl⟩:=ama t;have f:j<ops.size:=by have:=(gu.1 m).1;rw[C.len]at this;exact this
  have g:=C.open_ p h hi q f (by simp at l;rw[l];simp;omega);have x:=OV h (C.pairs i j r s k m g);exact RX (QU x.1 ((AQ _ _).1 d)))
 simp only[mQ]at this;unfold nK;rw[this];cases gW r.slot b<;>rfl
def uD.alR(C:uD ops M rs nn N0)(l:Closed ops D)(h:ops[i]? =some o)(m:rs[i]? =some r)(hi:D i=false)(p:∀e∈o.after.toList,Region.binds .any e=true->D e.on=true){d:Nat}(q:d∈o.looksAt ops):
 (jY ((mG rs).take i) a0.t).get d=(lG (mG rs) 0 D a0.t).get d:=by
 rw[Oe (mG rs) i 0,E9];congr 1;refine Oz _ _ _ _ _ λj u t b=>?_;obtain⟨s,k,rfl⟩:=ama t;have f:j<ops.size:=by have:=(gu.1 k).1;rw[C.len]at this;exact this
 simp only[mQ]at b;have g:=C.open_ l h hi p f (λe=>b e.symm);have v:=OV h (C.pairs i j r s m k g);exact RX (QU v.2.1 q)
def uD.aDu(C:uD ops M rs nn N0)(m:Closed ops D)(h:ops[i]? =some o)(p:rs[i]? =some r)(hi:D i=false)(q:∀e∈o.after.toList,Region.binds .any e=true->D e.on=true){l:Q2}(t:r.vis=some l){b:Nat}(v:b∈l):
 (jY ((iQ rs).take i) J0.h).get b=(lG (iQ rs) 0 D J0.h).get b:=by
 rw[Oe (iQ rs) i 0,E9];congr 1;refine Oz _ _ _ _ _ λj u x d=>?_;obtain⟨s,k,rfl⟩:=TY x;have f:j<ops.size:=by have:=(gu.1 k).1;rw[C.len]at this;exact this
 simp only[mQ]at d;have g:=C.open_ m h hi q f (λe=>d e.symm);have y:=OV h (C.pairs i j r s p k g);exact RX (QU (y.2.2.2.1 l t) v)
def Ctx.act(C:Ctx P call ops M rs a0 J0 cf)(b:Et P ops rs a0 J0 cf F0 w0 D F w A)(g:ops[i]? =some o)(h:rs[i]? =some r)(hi:D i=false)(j:∀e∈o.after.toList,Region.binds .any e=true->D e.on=true):
 TR P F {t:=mZ (jY ((mG rs).take i) a0.t) (o.looksAt ops),n:=a0.n,gn:=a0.gn} A:=by
 refine⟨b.tr.gn,b.tr.size,b.tr.none,λd v f=>?_⟩;rw[DJ]at f;split at f
 ·next k=>
  rw[C.alR (a0:=a0) b.closed g h hi j k]at f;exact b.tr.slot d v f
 ·cases f
def Ctx.gen(C:Ctx P call ops M rs a0 J0 cf)(L:uz P call)(d:Et P ops rs a0 J0 cf F0 w0 D F w A)(ho:ops[i]? =some o)(Y:rs[i]? =some r)(aa:i<ops.size)(hi:D i=false)
 (iV:∀e∈o.after.toList,Region.binds .any e=true->D e.on=true) {Z:Env} {τ τ':aC} {v:Q4} {a:bM} {K:Act->World->Prop} {Q:Exit->Act->World->Prop}
 (WE:SR P Z τ w) (ab:TR P Z a A) (N:Z.le F) (S:Z.ro=F.ro) (ac:xI P call o a.eval τ=some (v,τ')) (Rx:r.slot=uf o v)
 (sub:∀id E,τ.get id=some E->(lG (iQ rs) 0 D J0.h).get id=some E) (free:∀id,F.has id->¬(τ.next<=id/\id<τ'.next))
 (hu:∀b E,gW r.upd b=some (some E)->τ'.get b=some E/\((∃o0,τ.get b=some o0/\o0.own=true)\/(E.own=true/\τ.get b=none)))
 (PS:∀id E,τ.get id=some E->E.own=true->τ.lock<=id->gW r.upd id≠none) (ad:J0.lock<=τ.lock) (Fh:∀b,gW r.upd b≠none->τ.lock<=b)
 (G:∀id,τ.next<=id->id<τ'.next->J0.next<=id/\id<cf/\(id=J0.next+i\/(r.base<=id/\id<r.next)))
 (hK:∀F' A' w',Et P ops rs a0 J0 cf F0 w0 (nK D i) F' w' A'->K A' w'):o.wp P A w K Q:=by
 refine ZC WE L ab ac λx p w' g hx=>?_;let F':Env:=⟨λid=>if τ.next<=id/\id<τ'.next then p id else F id,p.ro,λid=>if τ.next<=id/\id<τ'.next then p.gh id else F.gh id⟩
 have h1:F.le F':=⟨λid q m=>by
  show(if τ.next<=id/\id<τ'.next then p id else F id)=some q
  rw[aj (free id (.inl ⟨q,m⟩))];exact m,λb o hb=>g.ext.ro b o (by rw[S];exact hb),λid t=>by
  show(if τ.next<=id/\id<τ'.next then p.gh id else F.gh id)=true
  rw[aj (free id (.inr t))];exact t⟩
 have h2:p.le F':=⟨λid q m=>by
  show(if τ.next<=id/\id<τ'.next then p id else F id)=some q
  split
  ·exact m
  ·next y=>
   rcases g.ayt m with f|f
   ·exact N.pl _ _ f
   ·exact absurd f y,λ_ _ h=>h,λid t=>by
  show(if τ.next<=id/\id<τ'.next then p.gh id else F.gh id)=true
  split
  ·exact t
  ·next y=>
   rcases g.new id (.inr t)with(⟨q,f⟩|f)|f
   ·have:=g.ext.pl _ _ f;rw[(g.rel.kZ id t).1]at this;cases this
   ·exact N.gh _ f
   ·exact absurd f y⟩
 have z:∀id,F'.has id->F.has id\/(τ.next<=id/\id<τ'.next):=λid hh=>by
  by_cases y:τ.next<=id/\id<τ'.next
  ·exact .inr y
  ·left;rcases hh with⟨q,m⟩|t
   ·have T:(if τ.next<=id/\id<τ'.next then p id else F id)=some q:=m;rw[aj y]at T;exact .inl ⟨q,T⟩
   ·have l:(if τ.next<=id/\id<τ'.next then p.gh id else F.gh id)=true:=t;rw[aj y]at l;exact .inr l
 have ae:∀id,F'.gh id=true->F' id=none:=λid t=>by
  have l:(if τ.next<=id/\id<τ'.next then p.gh id else F.gh id)=true:=t;show(if τ.next<=id/\id<τ'.next then p id else F id)=none
  split at l
  ·next y=>rw[au y];exact(g.rel.kZ id l).1
  ·next y=>rw[aj y];exact(d.st.rel.kZ id l).1
 have t:=C.ahS (J0:=J0) d.closed ho Y hi iV;have I:∀id,F'.has id->id<cf:=λid m=>by
  rcases z id m with f|⟨f,R⟩
  ·exact d.st.rel.hasLt f
  ·exact(G id f R).2.1
 obtain⟨af,size,U,own,tC⟩:=St.merge (J':={h:=lG (iQ rs) 0 (nK D i) J0.h,next:=cf,lock:=J0.lock}) (upd:=r.upd) (F':=F') d.st.rel WE g sub N S rfl h1 h2 t hu PS ad Fh (λid q m=>I id (.inl ⟨q,m⟩)) (λid V=>⟨ae id V,I id (.inr V)⟩);refine hK F' _ w' ⟨?_,?_,?_,?_⟩
 ·intro k o' hk O e he hb;unfold nK at hk⊢;simp only[qF]at hk⊢;rcases hk with hk|hk
  ·exact .inl (d.closed k o' hk O e he hb)
  ·have:=bV hk;subst this;rw[ho]at O;cases O;exact .inl (iV e he hb)
 ·refine d.st.then h1 af size U own g.os g.tape g.output rfl (dP _) ?_ tC;intro id m;rcases z id m with f|⟨f,R⟩
  ·exact .inl f
  ·exact .inr ⟨(G id f R).1,(G id f R).2.1⟩
 ·have l:=C.Ws (a0:=a0) d.closed ho Y hi iV;rw[Rx]at l;exact d.tr.add h1 l (by rw[<-Rx];exact(C.slot i r Y).2) (λu ag=>VR.mono h2 _ _ (hx u ag))
 ·intro id m;have W:∀k,D k=true->nK D i k=true:=λk hk=>by unfold nK;rw[hk];rfl
  have X:nK D i i=true:=by unfold nK;simp
  rcases z id m with f|⟨f,R⟩
  ·rcases d.dm id f with H|⟨k,H,h6,h7⟩|⟨j,s,H,h6,h7⟩
   ·exact .inl H
   ·exact .inr (.inl ⟨k,H,W k h6,h7⟩)
   ·exact .inr (.inr ⟨j,s,H,W j h6,h7⟩)
  ·obtain⟨_,_,H|H⟩:=G id f R
   ·exact .inr (.inl ⟨i,aa,X,H⟩)
   ·exact .inr (.inr ⟨i,r,Y,X,H⟩)
end
section
variable{call:Caller}{ops:W6}{M:Q2}{rs:Wm}{a0:bM}{J0:aC}{cf:Nat}{F0 F:Env}{w0 w:World}{D:Nat->Bool}{A:Act}{i:Nat}{o:Oper}{r:dX}
def abO{l:Q2}{f:Nat->Option bP}{b:Nat}{x:Option bP}(h:gW (l.map λk=>(k,f k)) b=some x):b∈l/\x=f b:=by
 induction l with
 |nil=>simp[gW]at h
 |cons k l d=>
  simp only[iU,gW]at h;split at h
  ·next y g=>cases h;have:=d g;exact⟨by simp[this.1],this.2⟩
  ·split at h
   ·next e=>cases h;subst e;exact⟨aA,rfl⟩
   ·cases h
def keys_map(l:Q2)(f:Nat->Option bP):keysOf (l.map λk=>(k,f k))=l:=by simp[keysOf,List.map_map,Function.comp_def]
def KF{τ:aC}:∀{n c b:Nat}{x:Option bP},gW (Ie τ c n) b=some x->c<=b/\b<c+n/\∀o,x=some o->τ.get b=some o/\o.own=true
 |0,c,b,x,h=>by simp[Ie,gW]at h
 |n+1,c,b,x,h=>by
  simp only[Ie,gW]at h;split at h
  ·next y g=>
   cases h;obtain⟨h1,l,j⟩:=KF g;exact⟨ah,ah,j⟩
  ·split at h
   ·next e=>
    subst e;simp only[bF]at h;refine⟨Nat.le_refl _,ah,λo k=>?_⟩;rw[k]at h;split at h
    ·next m f=>
     split at h
     ·next d=>cases h;exact⟨f,d⟩
     ·cases h
    ·cases h
   ·cases h
def Xn{l m:WP}{b:Nat}:gW (l++m) b=match gW m b with|some x=>some x|none=>gW l b:=by
 induction l with
 |nil=>simp only[aX];cases gW m b<;>rfl
 |cons p l d=>obtain⟨k,v⟩:=p;simp only[bD,gW,d];cases gW m b<;>rfl
def FP{h:Tr bP}{b:Nat}{l:Q2}{k:Nat}:k∈Lj h b l↔k∈l/\b<=k/\∃d,h.get k=some d/\d.own=true:=by
 unfold Lj;rw[C9,aO];constructor
 ·rintro⟨f,g,e⟩
  refine⟨f,wB g,?_⟩;split at e
  ·next d j=>exact⟨d,j,e⟩
  ·cases e
 ·rintro⟨f,g,d,e,m⟩
  exact⟨f,ae1 g,by rw[e];exact m⟩
def SR.cutAt{F:Env}{J τ:aC}{w:World}{c:Nat}(h:SR P F J w)(O:P.globals.size<c)(b:∀id o,τ.get id=some o->J.get id=some o)(k:∀id o,τ.get id=some o->id<c/\Dt c o=true)(Q:c<=τ.next):SR P (F.cut c) τ w:=by
 have d:∀id q,id<c->F id=some q->F.cut c id=some q:=λid q l m=>by simp only[Env.cut];rw[au l];exact m
 refine⟨λg p=>?_,λid q f=>?_,λid o j=>?_,λid s=>?_,λid o t z q E u v x G H I=>?_,h.jF,λid o q u v x=>h.ng id o q (b _ _ u) v ((Env.NQ _ _).pl _ _ x),h.tabs⟩
 ·obtain⟨L,es,l⟩:=h.oO g p;exact⟨L,es,d _ _ ah l⟩
 ·simp only[Env.cut]at f;split at f
  ·omega
  ·cases f
 ·rcases h.live id o (b _ _ j)with⟨q,f,N⟩|⟨y,m⟩
  ·exact .inl ⟨q,d _ _ (k id o j).1 f,N.cut (k id o j).2⟩
  ·exact .inr ⟨Env.agD (k id o j).1 y,m⟩
 ·have e:(decide (id<c)&&F.gh id)=true:=s;rw[aO,decide_eq_true_iff]at e;exact⟨by simp only[Env.cut];rw[au e.1];exact(h.kZ id e.2).1,ah⟩
 ·exact h.sep id o t z q E (b _ _ u) v (b _ _ x) G ((Env.NQ _ _).pl _ _ H) ((Env.NQ _ _).pl _ _ I)
def SR.part{F:Env}{J τ:aC}{w:World}(h:SR P F J w)(b:∀id o,τ.get id=some o->J.get id=some o)(j:∀id,F.has id->id<τ.next):SR P F τ w:=
 ⟨h.oO,λid q l=>j id (.inl ⟨q,l⟩),λid o m=>h.live id o (b id o m),λid k=>⟨(h.kZ id k).1,j id (.inr k)⟩,λid o d p q s e f g t u v=>h.sep id o d p q s (b _ _ e) f (b _ _ g) t u v,h.jF,λid o q e f g=>h.ng id o q (b _ _ e) f g,h.tabs⟩
def Qu{c:Nat}{h:Tr bP}:∀{l:Q2},Qs c h l=true->∀k∈l,k<c/\∀o,h.get k=some o->Dt c o=true
 |[],_,k,hk=>by simp at hk
 |x::l,b,k,hk=>by
  simp only[Qs,aO]at b;simp only[bI]at hk;rcases hk with rfl|hk
  ·refine⟨by have:=b.1.1;rwa [jX]at this,λo d=>?_⟩;have:=b.1.2;rw[d]at this;exact this
  ·exact Qu b.2 k hk
def afD{c:Nat}{t:Tr AV}:∀{l:Q2},Nu c t l=true->∀k∈l,∀v,t.get k=some v->v.under c=true
 |[],_,k,hk=>by simp at hk
 |x::l,b,k,hk=>by
  simp only[Nu,aO]at b;simp only[bI]at hk;rcases hk with rfl|hk
  ·intro v d;have:=b.1;rw[d]at this;exact this
  ·exact afD b.2 k hk
def ac7{M:Q2}{i:Nat}:∀{rs:Wm}{k:Nat}{b:Nat},b∉FT M i rs k->∀(j:Nat) r,rs[j]? =some r->Af M i (k+j)=true->b∉keysOf r.upd
 |[],k,b,_,j,r,e,_=>by simp at e
 |s::rs,k,b,d,j,r,e,f=>by
  unfold FT at d;cases j with
  |zero=>simp at e;subst e;rw[pY]at f;rw[au f]at d;simp only[jP,not_or]at d;exact d.1
  |succ j=>
   have g:b∉FT M i rs (k+1):=by
    split at d
    ·simp only[jP,not_or]at d;exact d.2
    ·exact d
   exact ac7 g j r (by simpa using e) (by rw[(ah:k+1+j=k+(j+1))];exact f)
def ajf{M:Q2}{i:Nat}:∀{rs:Wm}{k:Nat}{b:Nat}(j:Nat)(r:dX),rs[j]? =some r->Af M i (k+j)=false->b∈keysOf r.upd->b∈RV M i rs k
 |[],k,b,j,r,d,_,_=>by simp at d
 |s::rs,k,b,j,r,d,e,f=>by
  unfold RV;cases j with
  |zero=>simp at d;subst d;rw[pY]at e;rw[aj (by rw[e];simp)];simp[f]
  |succ j=>
   have:=ajf (k:=k+1) j r (by simpa using d) (by rw[(ah:k+1+j=k+(j+1))];exact e) f;split
   ·exact this
   ·simp[this]
def Ctx.bound(C:Ctx P call ops M rs a0 J0 cf)(b:Et P ops rs a0 J0 cf F0 w0 D F w A)(id:Nat)(h:F.has id):id<cf:=b.st.rel.hasLt h
def Ctx.apart(C:Ctx P call ops M rs a0 J0 cf)(d:Et P ops rs a0 J0 cf F0 w0 D F w A)(g:rs[i]? =some r)(hi:D i=false){id:Nat}(h:F.has id):¬(r.base<=id/\id<r.next):=by
 rintro⟨q,t⟩
 have m:=C.lo g;rcases d.dm id h with f|⟨k,f,l,p⟩|⟨j,s,f,l,p,u⟩
 ·omega
 ·omega
 ·by_cases e:i=j
  ·subst e;rw[hi]at l;cases l
  ·rcases Nat.lt_or_gt_of_ne e with b|b
   ·have:=C.lt g f b;omega
   ·have:=C.lt f g b;omega
def Ctx.step(C:Ctx P call ops M rs a0 J0 cf)(S:uz P call)(ad:SR P F0 J0 w0)(g:Et P ops rs a0 J0 cf F0 w0 D F w A)(W:i<ops.size)(hi:D i=false)
 (Ih:∀o,ops[i]? =some o->∀e∈o.after.toList,Region.binds .any e=true->D e.on=true) (aL:qw ops M i=false) {K:Act->World->Prop} {Q:Exit->Act->World->Prop}
 (hK:∀F' A' w',Et P ops rs a0 J0 cf F0 w0 (nK D i) F' w' A'->K A' w'):wpOp P ops Q i K A w:=by
 obtain⟨o,V⟩:∃o,ops[i]? =some o:=⟨ops[i],by simp[W]⟩
 obtain⟨r,U⟩:∃r,rs[i]? =some r:=⟨_,bZ (by rw[C.len];exact W)⟩
 have iV:=Ih o V;have f:=C.one i r U;have G:=C.act g V U hi iV;have aM:=C.base U;have al:=C.lo U;have am:=C.hi U;have aR:P.globals.size<J0.next:=by obtain⟨sz,es,p⟩:=ad.oO P.globals.size (dP _);exact ad.dom _ _ p
 have an:=(C.slot i r U).1;have a8:=C.lock;have ag:=C.big;have ao:=C.bound g;unfold zT at f;rw[aL]at f;simp only[iZ,if_false]at f;unfold Dx at f;rw[V]at f;simp only at f;unfold wpOp;rw[V];simp only;split at f
 ·cases f
 ·
   next hw=>
   rw[I8 G hw];simp only[iZ,if_false];cases f;refine hK F _ w ⟨?_,?_,?_,?_⟩
   ·intro k o' hk ap e he q;unfold nK at hk⊢;simp only[qF]at hk⊢;rcases hk with hk|hk
    ·exact .inl (g.closed k o' hk ap e he q)
    ·have:=bV hk;subst this;rw[V]at ap;cases ap;exact .inl (Ih _ V e he q)
   ·have hg:=C.ahS (J0:=J0) g.closed V U hi iV;refine g.st.sub ?_ (dP _) rfl;intro id m L;have:(lG (iQ rs) 0 (nK D i) J0.h).get id=some m:=L;rw[hg]at this;exact this
   ·exact g.tr.add (Env.le.refl _) (C.Ws (a0:=a0) g.closed V U hi iV) (C.slot i _ U).2 (by rintro u hu;cases hu;exact⟨[],rfl,rfl⟩)
   ·intro id X;have ax:∀k,D k=true->nK D i k=true:=λk hk=>by unfold nK;rw[hk];rfl
    rcases g.dm id X with N|⟨k,N,Z,h7⟩|⟨j,s,N,Z,h7⟩
    ·exact .inl N
    ·exact .inr (.inl ⟨k,N,ax k Z,h7⟩)
    ·exact .inr (.inr ⟨j,s,N,ax j Z,h7⟩)
 ·
   next hw=>
   rw[I8 G hw];simp only[if_true];left;have E:∀l:Q2,r.vis=some l->∀id m,(mZ (jY ((iQ rs).take i) J0.h) l).get id=some m->(lG (iQ rs) 0 D J0.h).get id=some m/\id∈l/\(jY ((iQ rs).take i) J0.h).get id=some m:=by
    intro l hl id m L;rw[DJ]at L;split at L
    ·next hm=>rw[<-C.aDu (J0:=J0) g.closed V U hi iV hl hm];exact⟨L,hm,L⟩
    ·cases L
   have ay:∀c,Nu c (jY ((mG rs).take i) a0.t) (o.looksAt ops)=true->TR P (F.cut c) {t:=mZ (jY ((mG rs).take i) a0.t) (o.looksAt ops),n:=a0.n,gn:=a0.gn} A:=by
    intro c q;refine⟨G.gn,G.size,G.none,λd v hv=>?_⟩;obtain⟨x,hx,mX⟩:=G.slot d v hv;refine⟨x,hx,VR.cut v x ?_ mX⟩;rw[DJ]at hv;split at hv
    ·next hd=>exact afD q d hd v hv
    ·cases hv
   split at f
   ·
     next ty a1=>
     split at f
     ·next z hz=>
      cases f;have H:xI P call o (bM.eval {t:=.nil,n:=a0.n,gn:=a0.gn}) {h:=.nil,next:=J0.next+i,lock:=J0.lock}=some (some (.p (J0.next+i) 0),({h:=.nil,next:=J0.next+i,lock:=J0.lock}:aC).new (.cells z ty true false)):=by unfold xI;rw[a1];simp only[hz,iJ]
      have O:SR P (F.cut J0.next) {h:=.nil,next:=J0.next+i,lock:=J0.lock} w:=g.st.rel.cutAt aR (λid m h=>by simp[aC.get]at h) (λid m h=>by simp[aC.get]at h) aA;refine C.gen S g V U W hi iV O (a:={t:=.nil,n:=a0.n,gn:=a0.gn}) ⟨G.gn,G.size,G.none,λd v hv=>by simp at hv⟩ (Env.NQ _ _) rfl H rfl (λid m h=>by simp[aC.get]at h) ?_ ?_ ?_ (dP _) ?_ ?_ hK
      ·rintro id X ⟨p,y⟩
       have Y:J0.next+i<=id:=p;have a2:id<J0.next+i+1:=y;rcases g.dm id X with I|⟨k,I,T,N⟩|⟨j,s,I,T,N,Z⟩
       ·omega
       ·have:k=i:=ah;subst this;rw[hi]at T;cases T
       ·have:=C.lo I;omega
      ·intro b m q;simp only[gW]at q;split at q
       ·next e=>
        cases q;subst e;refine⟨?_,.inr ⟨rfl,Tr.get_nil _⟩⟩;rw[aC.rD,au rfl]
       ·cases q
      ·intro id m h;simp[aC.get]at h
      ·intro b q;have:=(AQ _ _).1 q;simp[keysOf]at this;subst this;show J0.lock<=J0.next+i
       omega
      ·intro id p y;have Y:J0.next+i<=id:=p;have a2:id<J0.next+i+1:=y;have:=C.aac;exact⟨ah,ah,.inl ah⟩
     ·cases f
   ·split at f
    ·
      next l ab=>
      split at f
      ·next v τ' H=>
       rw[EW]at H;split at f
       ·next aq=>
        cases f;have a3:=bV aq;have O:SR P F {h:=mZ (jY ((iQ rs).take i) J0.h) l,next:=wI,lock:=wI} w:=g.st.rel.part (λid m h=>(E l rfl id m h).1) (λid X=>zH (ao id X) ag);refine C.gen S g V U W hi iV O G (Env.le.refl _) rfl H rfl (λid m h=>(E l rfl id m h).1) ?_ ?_ ?_ ?_ ?_ ?_ hK
        ·rintro id X ⟨p,y⟩
         have Y:wI<=id:=p;omega
        ·intro b m q;simp[gW]at q
        ·intro id m p y I;have a4:wI<=id:=I;have:=ao id (O.Rk p);omega
        ·have:=C.aac;show J0.lock<=wI;omega
        ·intro b q;simp[gW]at q
        ·intro id p y;have Y:wI<=id:=p;omega
       ·cases f
      ·cases f
    ·
      next l ab=>
      split at f
      ·next v τ' H=>
       rw[EW]at H;split at f
       ·next aq=>
        cases f;have a3:=bV aq;have O:SR P F {h:=mZ (jY ((iQ rs).take i) J0.h) l,next:=wI,lock:=J0.lock} w:=g.st.rel.part (λid m h=>(E l rfl id m h).1) (λid X=>zH (ao id X) ag);refine C.gen S g V U W hi iV O G (Env.le.refl _) rfl H rfl (λid m h=>(E l rfl id m h).1) ?_ ?_ ?_ (dP _) ?_ ?_ hK
        ·rintro id X ⟨p,y⟩
         have Y:wI<=id:=p;omega
        ·intro b m q;obtain⟨p,y⟩:=abO q;obtain⟨I,T,aa,N,Z⟩:=FP.1 p;refine⟨y.symm,.inl ⟨aa,?_,Z⟩⟩;show(mZ _ l).get b=_
         rw[DJ,au I];exact N
        ·intro id m p y I;obtain⟨_,T,N⟩:=E l rfl id m p;rw[AQ,keys_map];exact FP.2 ⟨T,I,m,N,y⟩
        ·intro b q;rw[AQ,keys_map]at q;exact(FP.1 q).2.1
        ·intro id p y;have Y:wI<=id:=p;omega
       ·cases f
      ·cases f
    ·
      next l ab=>
      split at f
      ·next R=>
       simp only[aO]at R;split at f
       ·next v τ' H=>
        rw[EW]at H;cases f;simp only at al am an
        have O:SR P (F.cut (kF (J0.next+ops.size) rs i)) {h:=mZ (jY ((iQ rs).take i) J0.h) l,next:=kF (J0.next+ops.size) rs i,lock:=J0.lock} w:=
         g.st.rel.cutAt ah (λid m h=>(E l rfl id m h).1) (λid m h=>by obtain⟨_,p,y⟩:=E l rfl id m h;have:=Qu R.2 id p;exact⟨this.1,this.2 m y⟩) (dP _)
        refine C.gen S g V U W hi iV O (ay _ R.1) (Env.NQ _ _) rfl H rfl (λid m h=>(E l rfl id m h).1) ?_ ?_ ?_ (dP _) ?_ ?_ hK
        ·rintro id X ⟨p,y⟩
         exact C.apart g U hi X ⟨p,y⟩
        ·intro b m q;rw[Xn]at q;split at q
         ·next x hx=>
          cases q;obtain⟨p,y,I⟩:=KF hx;obtain⟨T,N⟩:=I m rfl;refine⟨T,.inr ⟨N,?_⟩⟩;show(mZ _ l).get b=none
          rw[DJ];split
          ·next hm=>have:=(Qu R.2 b hm).1;omega
          ·rfl
         ·obtain⟨p,y⟩:=abO q;obtain⟨I,T,aa,N,Z⟩:=FP.1 p;refine⟨y.symm,.inl ⟨aa,?_,Z⟩⟩;show(mZ _ l).get b=_
          rw[DJ,au I];exact N
        ·intro id m p y I;obtain⟨_,T,N⟩:=E l rfl id m p;rw[AQ];unfold keysOf;rw[oK,jP];left;have:=keys_map (Lj (jY ((iQ rs).take i) J0.h) J0.lock l) (λk=>τ'.get k);unfold keysOf at this;rw[this];exact FP.2 ⟨T,I,m,N,y⟩
        ·intro b q;rw[Xn]at q;split at q
         ·next x hx=>
          obtain⟨p,_,_⟩:=KF hx;show J0.lock<=b
          omega
         ·rw[AQ,keys_map]at q;exact(FP.1 q).2.1
        ·intro id p y;have Y:kF (J0.next+ops.size) rs i<=id:=p;exact⟨ah,ah,.inr ⟨p,y⟩⟩
       ·cases f
      ·cases f
    ·
      next ab=>
      split at f
      ·next v τ' az=>
       have H:=aFj az;rw[EW]at H;cases f;simp only at al am an;have ac:∀id,F.has id->id<kF (J0.next+ops.size) rs i:=by
        intro id X;rcases g.dm id X with I|⟨k,I,T,N⟩|⟨j,s,I,T,N,Z⟩
        ·omega
        ·omega
        ·have ar:i≠j:=by rintro rfl;rw[hi]at T;cases T
         rcases Nat.lt_or_gt_of_ne ar with av|av
         ·have aw:j<ops.size:=by have:=(gu.1 I).1;rw[C.len]at this;exact this
          have ae:=C.open_ g.closed V hi iV aw (by rw[T];simp;omega);have hp:=OV V (C.pairs i j _ s U I ae);have:=(hp.2.2.2.2.1 rfl av).2.2;omega
         ·have:=C.lt I U av;simp only at this;omega
       have ai:∀id m,(H7 (jY ((iQ rs).take i) J0.h) (FT M i (rs.take i) 0)).get id=some m->(lG (iQ rs) 0 D J0.h).get id=some m:=by
        intro id m L;rw[ahR]at L;split at L
        ·cases L
        ·next aD=>
         rw[<-L,Oe (iQ rs) i 0,E9];congr 1;refine(Oz _ _ _ _ _ λj u hj af=>?_).symm;obtain⟨s,hs,rfl⟩:=TY hj;have aw:j<ops.size:=by have:=(gu.1 hs).1;rw[C.len]at this;exact this
         simp only[mQ]at af;have ae:=C.open_ g.closed V hi iV aw (λe=>af e.symm);apply RX;by_cases a5:j<i
         ·exact ac7 aD j s (by rw[oh,au a5];exact hs) (by rw[mQ];exact ae)
         ·have ar:i<j:=by
           rcases zI i j with h|h
           ·exact h
           ·have:i=j:=ah;subst this;rw[hi]at af;simp at af
          have hp:=OV V (C.pairs i j _ s U hs ae);obtain⟨p,y,I⟩:=hp.2.2.2.2.1 rfl ar;intro ak;have a9:=p id ak;rw[Oe (iQ rs) i 0]at L;cases hl:nS (iQ rs) 0 (λj=>decide (j<0+i)) id with
          |none=>rw[hl]at L;have:=ad.hasLt (ad.Rk L);omega
          |some x=>
           obtain⟨j',u',T,N,Z⟩:=abK _ _ _ _ _ hl;obtain⟨s',a6,rfl⟩:=TY T;simp only[mQ,decide_eq_true_eq]at N;have hk:id∈keysOf s'.upd:=(AQ _ _).1 (by rw[Z];simp);have aE:(rs.take i)[j']? =some s':=by rw[oh,au N];exact a6
           have a7:Af M i (0+j')=false:=by
            cases hu:Af M i (0+j')with
            |false=>rfl
            |true=>exact absurd hk (ac7 aD j' s' aE hu)
           have:=ajf j' s' aE a7 hk;exact QU y this ak
       have O:SR P F {h:=H7 (jY ((iQ rs).take i) J0.h) (FT M i (rs.take i) 0),next:=kF (J0.next+ops.size) rs i,lock:=kF (J0.next+ops.size) rs i} w:=g.st.rel.part ai ac;refine C.gen S g V U W hi iV O G (Env.le.refl _) rfl H rfl ai ?_ ?_ ?_ ?_ ?_ ?_ hK
       ·rintro id X ⟨p,y⟩
        exact C.apart g U hi X ⟨p,y⟩
       ·intro b m q;obtain⟨p,y,I⟩:=KF q;obtain⟨T,N⟩:=I m rfl;refine⟨T,.inr ⟨N,?_⟩⟩;cases hg:aC.get {h:=H7 (jY ((iQ rs).take i) J0.h) (FT M i (rs.take i) 0),next:=kF (J0.next+ops.size) rs i,lock:=kF (J0.next+ops.size) rs i} b with
        |none=>rfl
        |some aa=>have:=ac b (O.Rk hg);omega
       ·intro id m p y I;have a4:kF (J0.next+ops.size) rs i<=id:=I;have:=ac id (O.Rk p);omega
       ·show J0.lock<=kF (J0.next+ops.size) rs i
        omega
       ·intro b q;cases hx:gW (Ie τ' (kF (J0.next+ops.size) rs i) (τ'.next-kF (J0.next+ops.size) rs i)) b with
        |none=>exact absurd hx q
        |some x=>exact(KF hx).1
       ·intro id p y;have Y:kF (J0.next+ops.size) rs i<=id:=p;exact⟨ah,ah,.inr ⟨p,y⟩⟩
      ·generalize Td o (bM.eval {t:=mZ (jY ((mG rs).take i) a0.t) (o.looksAt ops),n:=a0.n,gn:=a0.gn}) (jY ((iQ rs).take i) J0.h)=l at f;split at f
       ·next R=>
        simp only[aO]at R;split at f
        ·next v τ' H=>
         rw[EW]at H;cases f;simp only at al am an
         have O:SR P (F.cut (kF (J0.next+ops.size) rs i)) {h:=mZ (jY ((iQ rs).take i) J0.h) l,next:=kF (J0.next+ops.size) rs i,lock:=J0.lock} w:=
          g.st.rel.cutAt ah (λid m h=>(E l rfl id m h).1) (λid m h=>by obtain⟨_,p,y⟩:=E l rfl id m h;have:=Qu R.2 id p;exact⟨this.1,this.2 m y⟩) (dP _)
         refine C.gen S g V U W hi iV O (ay _ R.1) (Env.NQ _ _) rfl H rfl (λid m h=>(E l rfl id m h).1) ?_ ?_ ?_ (dP _) ?_ ?_ hK
         ·rintro id X ⟨p,y⟩
          exact C.apart g U hi X ⟨p,y⟩
         ·intro b m q;rw[Xn]at q;split at q
          ·next x hx=>
           cases q;obtain⟨p,y,I⟩:=KF hx;obtain⟨T,N⟩:=I m rfl;refine⟨T,.inr ⟨N,?_⟩⟩;show(mZ _ l).get b=none
           rw[DJ];split
           ·next hm=>have:=(Qu R.2 b hm).1;omega
           ·rfl
          ·obtain⟨p,y⟩:=abO q;obtain⟨I,T,aa,N,Z⟩:=FP.1 p;refine⟨y.symm,.inl ⟨aa,?_,Z⟩⟩;show(mZ _ l).get b=_
           rw[DJ,au I];exact N
         ·intro id m p y I;obtain⟨_,T,N⟩:=E l rfl id m p;rw[AQ];unfold keysOf;rw[oK,jP];left;have:=keys_map (Lj (jY ((iQ rs).take i) J0.h) J0.lock l) (λk=>τ'.get k);unfold keysOf at this;rw[this];exact FP.2 ⟨T,I,m,N,y⟩
         ·intro b q;rw[Xn]at q;split at q
          ·next x hx=>
           obtain⟨p,_,_⟩:=KF hx;show J0.lock<=b
           omega
          ·rw[AQ,keys_map]at q;exact(FP.1 q).2.1
         ·intro id p y;have Y:kF (J0.next+ops.size) rs i<=id:=p;exact⟨ah,ah,.inr ⟨p,y⟩⟩
        ·cases f
       ·cases f
end
section
variable{call:Caller}{ops:W6}{M:Q2}{rs:Wm}{a0:bM}{J0:aC}{cf:Nat}{F0:Env}{w0:World}
def inB(b:Array Bool):Nat->Bool:=λj=>b.getD j false
def aln{b:Array Bool}(p:b.size=ops.size){i:Nat}(h:i∈Region.ready .any ops b):i<ops.size/\inB b i=false/\∀o,ops[i]? =some o->∀e∈o.after.toList,Region.binds .any e=true->inB b e.on=true:=by
 unfold Region.ready at h;simp only[C9,Bv,aO,yx]at h;obtain⟨j,g,d⟩:=h;have f:i<b.size:=ah;refine⟨j,?_,?_⟩
 ·unfold inB;rw[Bj,Ep f]at g⊢;exact g
 ·intro o k e l m;rw[k]at d;simp only[iJ,uK]at d;rw[Array.all_eq_true']at d;have:=d e (by simpa using l);rw[m]at this;simpa[inB]using this
def count_set(b:Array Bool)(i:Nat)(h:b[i]? =some false):(b.setIfInBounds i true).toList.count false+1=b.toList.count false:=by
 have d:i<b.size:=(tH.1 h).1;have g:b[i]=false:=(tH.1 h).2;have e:b.toList[i]'(by simpa using d)=false:=by simpa using g
 have f:0<b.toList.count false:=List.count_pos_iff.2 (by rw[<-e];exact iT _);rw[Array.toList_setIfInBounds,List.count_set (by simpa using d),e];have j:((false==false)=true):=rfl;have k:¬((true==false)=true):=aV;rw[au j,aj k];omega
def aaQ{α:Type}:∀(b:List (List (Nat×Option α)))(k:Nat)(D:Nat->Bool)(t:Tr α),(∀j,j<b.length->D (k+j)=true)->lG b k D t=jY b t
 |[],_,_,_,_=>rfl
 |u::b,k,D,t,h=>by have h0:=h 0 aA;simp only[pY]at h0;rw[lG,au h0,jY,aaQ b (k+1) D _ (λj d=>by rw[(ah:k+1+j=k+(j+1))];exact h (j+1) (by simpa using d))]
end
section
variable{ops:W6}{M:Q2}{rs:Wm}{a0:bM}{J:aC}{F0:Env}{w0:World}{n N0:Nat}
def an0(C:uD ops M rs n N0)(Inv:(Nat->Bool)->Env->World->Act->Prop)
 (s:∀D F w A i (K:Act->World->Prop) (Q:Exit->Act->World->Prop),Inv D F w A->i<ops.size->D i=false->(∀o,ops[i]? =some o->∀e∈o.after.toList,Region.binds .any e=true->D e.on=true)->
  (∀F' t w',Inv (nK D i) F' w' t->K t w')->wpOp P ops Q i K A w) {Q:Exit->Act->World->Prop}
 (X:∀F' t w',Inv (λj=>decide (j<ops.size)) F' w' t->Q .normal t w'):
 ∀(fuel:Nat)(b:Array Bool)(F:Env)(w:World)(A:Act),b.size=ops.size->b.toList.count false=fuel->Inv (inB b) F w A->wpAny P .any ops Q fuel b A w:=by
 intro fuel;induction fuel with
 |zero=>
  intro b F w A G U f;have m:∀j,j<ops.size->inB b j=true:=by
   intro j v;have d:j<b.size:=ah;have u:b[j]∈b.toList:=aA;have:false∉b.toList:=List.count_eq_zero.1 U;unfold inB;rw[Bj,Ep d];cases L:b[j]with
   |true=>rfl
   |false=>rw[L]at u;exact absurd u this
  have N:inB b=λj=>decide (j<ops.size):=by
   funext j;by_cases v:j<ops.size
   ·rw[m j v];simp[v]
   ·unfold inB;rw[Bj,Array.getElem?_eq_none ah];simp[v]
  refine⟨?_,?_⟩
  ·apply List.eq_nil_iff_forall_not_mem.2;intro i hi;obtain⟨p,g,_⟩:=aln G hi;rw[m i p]at g;cases g
  ·rw[N]at f;exact X F A w f
 |succ fuel Y=>
  intro b F w A G U f;refine⟨λZ=>?_,λi hi=>?_⟩
  ·exfalso;have O:∃i,i<ops.size/\inB b i=false/\∀j,j<i->inB b j=true:=by
    have y:0<b.toList.count false:=ah;have u:=List.count_pos_iff.1 y;obtain⟨k,H⟩:=Zn.1 u;have R:k<ops.size:=by have:=(gu.1 H).1;simp at this;omega
    have Rt:inB b k=false:=by unfold inB;rw[Bj];rw[yw]at H;rw[H];rfl
    clear u H;induction k using Nat.strongRecOn with
    |_ k S=>
     by_cases I:∃j,j<k/\inB b j=false
     ·obtain⟨j,p,g⟩:=I;exact S j p ah g
     ·refine⟨k,R,Rt,λj v=>?_⟩;cases L:inB b j with
      |true=>rfl
      |false=>exact absurd ⟨j,v,L⟩ I
   obtain⟨i,p,g,T⟩:=O;have q:i∈Region.ready .any ops b:=by
    unfold Region.ready;simp only[C9,Bv,aO,yx];have d:i<b.size:=ah;refine⟨p,?_,?_⟩
    ·unfold inB at g;rw[Bj,Ep d]at g⊢;exact g
    ·have V:ops[i]? =some ops[i]:=by simp[p]
     rw[V];simp only[iJ,uK];rw[Array.all_eq_true'];intro e he;cases I:Region.binds .any e with
     |false=>rfl
     |true=>
      simp only[Ze,Bl];obtain⟨u,W⟩:=C.mask V;have z:wZ M e.on i=true:=by
       unfold wZ;rw[Ak,u];simp only[uK];have:∀(es:List Edge),e∈es->(Ci (λj=>(M.take i).getD j 0) es).testBit e.on=true:=by
        intro es;induction es with
        |nil=>intro h;simp at h
        |cons x es E=>
         intro h;rw[Ci];simp only[bI]at h;rcases h with rfl|h
         ·rw[au I,UE,UE,Nat.testBit_two_pow];simp
         ·split
          ·rw[UE,E h,Bool.or_true]
          ·exact E h
       exact this _ (by simpa using he)
      exact T e.on (C.acj z)
   rw[Z]at q;simp at q
  ·obtain⟨p,g,T⟩:=aln G hi;refine s _ _ _ _ i _ Q f p g T λF' t w' l=>?_;have hf:b[i]? =some false:=by have d:i<b.size:=ah;unfold inB at g;rw[Bj,Ep d]at g;rw[Ep d];simpa using g
   have N:nK (inB b) i=inB (b.setIfInBounds i true):=by
    funext j;unfold nK inB;have d:i<b.size:=ah;rw[Bj,Bj,Es];by_cases e:i=j
    ·subst e;rw[au rfl,au d];simp
    ·rw[aj e,IB (λe'=>e e'.symm)];simp
   rw[N]at l;exact Y _ F' w' t (by simpa using G) (by have:=count_set b i hf;omega) l
end
def amy{ops:W6}{M:Q2}:∀(k i j:Nat),YO ops M k<=i->i<k->qh ops i=false->j<i->qh ops j=true\/wZ M j i=true
 |0,i,j,_,h,_,_=>ah
 |k+1,i,j,h1,g,b,d=>by
  unfold YO at h1;split at h1
  ·next f=>
   by_cases e:i=k
   ·subst e;rw[b,Bl,List.all_eq_true]at f;have:=f j (by simpa using d);rwa [qF]at this
   ·exact amy k i j h1 ah b d
  ·omega
def YP:∀(rs:Wm)(r:dX)(J:aC),yt (rs++[r]) J=match r.fin with|some τ=>τ|none=>yt rs J
 |[],_,_=>rfl
 |s::rs,r,J=>by
  show yt (rs++[r]) _=_
  rw[YP rs r];rfl
def adX{rs:Wm}{J:aC}:∀k,k<=rs.length->(∀(i:Nat) r,i<k->rs[i]? =some r->r.fin=none)->yt (rs.take k) J=J
 |0,_,_=>by simp[yt]
 |k+1,e,h=>by
  obtain⟨r,b⟩:∃r,rs[k]? =some r:=⟨_,bZ ah⟩
  rw[Uu,b,ae8,YP,h k r ah b];exact adX k ah (λi d hi=>h i d ah)
def adY{rs:Wm}{J:aC}{m:Nat}{r:dX}{τ:aC}(g:rs[m]? =some r)(j:r.fin=some τ):∀k,m<k->k<=rs.length->(∀(i:Nat) d,m<i->i<k->rs[i]? =some d->d.fin=none)->yt (rs.take k) J=τ
 |0,h,_,_=>ah
 |k+1,p,q,h=>by
  by_cases e:m=k
  ·subst e;rw[Uu,g,ae8,YP,j]
  ·obtain⟨d,b⟩:∃r,rs[k]? =some r:=⟨_,bZ ah⟩
   rw[Uu,b,ae8,YP,h k d ah ah b];exact adY g j k ah ah (λi f l s=>h i f l ah)
def atQ{call:Caller}{o:Oper}(l:EZ o=true){g:QQ}{J1 J2 τ:aC}{v:Q4}(b:BQ P call o g J1=some (v,τ)):BQ P call o g J2=some (v,J2):=by
 rw[EW]at b⊢;obtain⟨m,h,j,pos,f,guard⟩:=o;cases h with
 |move x=>simp only[xI,fH,bJ,qI]at b⊢;obtain⟨u,d,e,_⟩:=b;exact⟨u,d,e,trivial⟩
 |assign x=>simp only[xI,fH,bJ,qI]at b⊢;obtain⟨u,d,e,_⟩:=b;exact⟨u,d,e,trivial⟩
 |extract x k=>
  simp only[xI]at b⊢;split at b
  ·simp only[fH,bJ,qI]at b⊢;obtain⟨u,d,e,_⟩:=b;exact⟨u,d,e,trivial⟩
  ·cases b
 |binOp h t x y z=>
  simp only[xI]at b⊢;split at b
  ·simp only[fH,bJ,qI]at b⊢;obtain⟨u,d,e,_⟩:=b;exact⟨u,d,e,trivial⟩
  ·cases b
 |_=>simp[EZ]at l
def ao4{o:Oper}(e:EZ o=true)(f:QQ):agj o f=.na []:=by obtain⟨g,h,d,pos,b,guard⟩:=o;cases h<;>first|rfl|(simp[EZ]at e)
def asL{call:Caller}{ops:W6}{d gn n i c:Nat}{e:Wm}{t:Tr AV}{h:Tr bP}{r:dX}(b:NR P call ops d gn n e i t h c=some r):r.next=c:=by
 unfold NR at b;split at b
 ·cases b
 ·split at b
  ·cases b
  ·cases b;rfl
  ·split at b
   ·cases b;rfl
   ·cases b
def aav{call:Caller}{ops:W6}{M:Q2}{N0 d gn n i c:Nat}{f:Wm}{t:Tr AV}{h:Tr bP}{r:dX}{o:Oper}(p:ops[i]? =some o)(g:EZ o=true)(b:Dx P call ops M N0 d gn n f i t h c=some r):
 r.upd=[]/\r.next=c/\r.fin=none/\((Md o ops {t:=mZ t (o.looksAt ops),n:=n,gn:=gn}=some false/\r.slot=uf o (some (.fG [])))\/
  (Md o ops {t:=mZ t (o.looksAt ops),n:=n,gn:=gn}=some true/\∃v,(∀j,BQ P call o (bM.eval {t:=mZ t (o.looksAt ops),n:=n,gn:=gn}) j=some (v,j))/\r.slot=uf o v)):=by
 unfold Dx at b;rw[p]at b;simp only at b;split at b
 ·cases b
 ·next k=>cases b;exact⟨rfl,rfl,rfl,.inl ⟨k,rfl⟩⟩
 ·next k=>
  split at b
  ·next u e=>exfalso;obtain⟨q,x,m,pos,l,guard⟩:=o;cases e;simp[EZ]at g
  ·rw[ao4 g]at b;simp only at b;split at b
   ·next v τ s=>
    split at b
    ·cases b;exact⟨rfl,rfl,rfl,.inr ⟨k,v,λj=>atQ g s,rfl⟩⟩
    ·cases b
   ·cases b
def aah{ops:W6}{D:Nat->Bool}{i:Nat}(h:Closed ops D)(k:∀o,ops[i]? =some o->∀e∈o.after.toList,Region.binds .any e=true->D e.on=true):Closed ops (nK D i):=by
 intro j o b d e f g;unfold nK at b⊢;rw[qF]at b⊢;rcases b with b|b
 ·exact .inl (h j o b d e f g)
 ·have:=bV b;subst this;exact .inl (k o d e f g)
section
variable{call:Caller}{ops:W6}{M:Q2}{rs:Wm}{a:bM}{J:aC}{c:Nat}{D:Nat->Bool}
def Ctx.act'(C:Ctx P call ops M rs a J c)(g:Closed ops D){i:Nat}{o:Oper}{r:dX}(h:ops[i]? =some o)(j:rs[i]? =some r)(hi:D i=false)(k:∀e∈o.after.toList,Region.binds .any e=true->D e.on=true)
 {F:Env} {A:Act} (b:TR P F {t:=lG (mG rs) 0 D a.t,n:=a.n,gn:=a.gn} A):TR P F {t:=mZ (jY ((mG rs).take i) a.t) (o.looksAt ops),n:=a.n,gn:=a.gn} A:=by
 refine⟨b.gn,b.size,b.none,λd v f=>?_⟩;rw[DJ]at f;split at f
 ·next l=>
  rw[C.alR (a0:=a) g h j hi k l]at f;exact b.slot d v f
 ·cases f
def Ctx.last(C:Ctx P call ops M rs a J c)(k:uz P call)(p:Closed ops D){i:Nat}{o:Oper}{r:dX}(y:ops[i]? =some o)(z:rs[i]? =some r)(hi:D i=false)(L:∀e∈o.after.toList,Region.binds .any e=true->D e.on=true)(H:qw ops M i=true)
 {F F1:Env} {w0 w1:World} {A:Act} (l:St P F J w0 F1 (yt (rs.take i) {h:=jY ((iQ rs).take i) J.h,next:=kF (J.next+ops.size) rs i,lock:=J.lock}) w1)
 (m:TR P F1 {t:=lG (mG rs) 0 D a.t,n:=a.n,gn:=a.gn} A) {K:Act->World->Prop} {Q:Exit->Act->World->Prop}
 (N:∀E O G τ,r.fin=some τ->St P F J w0 E τ G->TR P E {t:=lG (mG rs) 0 (nK D i) a.t,n:=a.n,gn:=a.gn} O->K O G):wpOp P ops Q i K A w1:=by
 have b:=C.one i r z;unfold zT at b;rw[au H]at b;unfold NR at b;rw[y]at b;simp only at b;have f:=C.act' p y z hi L m;have g:=λd=>C.Ws (a0:=a) p y z hi L d;have q:=(C.slot i r z).2;unfold wpOp;rw[y];simp only;split at b
 ·cases b
 ·next I=>
  cases b;rw[I8 f I];simp only[iZ,if_false];exact N F1 _ w1 _ rfl l (m.add (Env.le.refl _) g q (by rintro u R;cases R;exact⟨[],rfl,rfl⟩))
 ·next I=>
  rw[I8 f I];simp only[if_true];left;split at b
  ·next v τ s=>
   rw[EW]at s;cases b;refine ZC l.rel k f s λx E G j S=>?_;exact N E _ G _ rfl (l.trans j) (m.add j.ext g q S)
  ·cases b
def Ctx.free(C:Ctx P call ops M rs a J c)(k:uz P call)(q:Closed ops D){i:Nat}{o:Oper}{r:dX}(s:ops[i]? =some o)(z:rs[i]? =some r)(hi:D i=false)(N:∀e∈o.after.toList,Region.binds .any e=true->D e.on=true)(O:EZ o=true)
 {F F1:Env} {τ:aC} {w0 w1:World} {A:Act} (l:St P F J w0 F1 τ w1) (m:TR P F1 {t:=lG (mG rs) 0 D a.t,n:=a.n,gn:=a.gn} A) {K:Act->World->Prop} {Q:Exit->Act->World->Prop}
 (R:∀E S G,St P F J w0 E τ G->TR P E {t:=lG (mG rs) 0 (nK D i) a.t,n:=a.n,gn:=a.gn} S->K S G):wpOp P ops Q i K A w1:=by
 have f:=C.one i r z;unfold zT at f;have H:qw ops M i=false:=by unfold qw qh;rw[s];simp only[O,Ze,Bool.and_false]
 rw[H]at f;simp only[iZ,if_false]at f;obtain⟨_,_,_,p⟩:=aav s O f;have g:=C.act' q s z hi N m;have b:=λd=>C.Ws (a0:=a) q s z hi N d;have h:=(C.slot i r z).2;unfold wpOp;rw[s];simp only;rcases p with⟨I,L⟩|⟨I,v,T,L⟩
 ·rw[L]at b h;rw[I8 g I];simp only[iZ,if_false];exact R F1 _ w1 l (m.add (Env.le.refl _) b h (by rintro u U;cases U;exact⟨[],rfl,rfl⟩))
 ·rw[L]at b h;rw[I8 g I];simp only[if_true];left;have y:=T τ;rw[EW]at y;refine ZC l.rel k g y λx E G j V=>?_;exact R E _ G (l.trans j) (m.add j.ext b h V)
def Ctx.amz(C:Ctx P call ops M rs a J c){l:Nat}(d:∀i,l<=i->i<ops.size->qw ops M i=true\/qh ops i=true):∀k,l+k<=ops.size->kF (J.next+ops.size) rs (l+k)=kF (J.next+ops.size) rs l
 |0,_=>rfl
 |k+1,h=>by
  have g:=C.amz d k ah;obtain⟨r,e⟩:∃r,rs[l+k]? =some r:=⟨_,bZ (by rw[C.len];omega)⟩
  obtain⟨o,f⟩:∃o,ops[l+k]? =some o:=⟨ops[l+k],aA⟩
  have b:=C.one _ _ e;unfold zT at b;rw[(ah:l+(k+1)=(l+k)+1),QE rs _ _ _ e,<-g];split at b
  ·exact asL b
  ·next j=>
   rcases d (l+k) ah ah with h1|h1
   ·exact absurd h1 j
   ·unfold qh at h1;rw[f]at h1;exact(aav f h1 b).2.1
end
def as5(hm:P.follows .mixedOrders=true):Um P (ZB P):=by
 intro call v ops a J a' J' hs F w A id Q h ht hK;unfold ZB at hs;simp only at hs;split at hs
 ·next ad=>
  simp only[aO]at ad;split at hs
  ·next rs t hh c ay=>
   split at hs
   ·next BU=>
    simp only[aO]at BU;obtain⟨⟨⟨az,am⟩,ae⟩,an⟩:=BU;obtain⟨new,x,O,h3,h4,h5,h6⟩:=agE _ _ _ _ _ _ _ _ _ _ ay;simp only[aX]at x;subst x
    have C:Ctx P call ops (oQ ops.toList []) rs a J c:={
     hM:=rfl
     mok:=ad.1
     len:=O
     one:=λi r G=>by have:=h6 i r G;simpa using this
     pairs:=ay7 az am (λi r G=>by have:=h6 i r G;exact asQ (by simpa using this))
     slot:=by intro i r G;unfold amb at ae;rw[List.all_eq_true]at ae;have:=ae r (tN G);simp only[aO]at this;refine⟨Nat.le_of_ble_eq_true this.1,λp aD=>?_⟩;have h8:=this.2;rw[List.all_eq_true]at h8;have:=h8 p aD;rwa [jX]at this
     fin:=h5
     big:=wB an
     lock:=wB ad.2}
    refine wp_region_any hm ?_;have H:=C.aac;have R:inB (Array.replicate ops.size false)=λ_=>false:=by funext j;unfold inB;rw[Bj,Array.getElem?_replicate];split<;>rfl
    have ao:∀{α:Type}(us:List (List (Nat×Option α)))(k:Nat)(t:Tr α),lG us k (λ_=>false) t=t:=by
     intro α us;induction us with
     |nil=>intro k t;rfl
     |cons u us ih=>intro k t;rw[lG];simp only[iZ,if_false];exact ih _ _
    have start:Et P ops rs a J c F {w with drawn:=w.drawn+1} (λ_=>false) F {w with drawn:=w.drawn+1} A:=by
     refine⟨λi o hi=>by simp at hi,?_,?_,λid hq=>.inl (h.hasLt hq)⟩
     ·rw[ao];refine(St.refl h.drew).sub (λid o W=>W) (by show J.next<=c;omega) rfl
     ·rw[ao];exact⟨ht.gn,ht.size,ht.none,ht.slot⟩
    have ap:lG (mG rs) 0 (λj=>decide (j<ops.size)) a.t=t:=by rw[h3];exact aaQ _ _ _ _ (λj q=>by simp[mG]at q⊢;omega)
    have I:∀i,i<ops.size->qw ops (oQ ops.toList []) i=true->qh ops i=false/\∀j,j<i->qh ops j=true\/wZ (oQ ops.toList []) j i=true:=by intro i hi d;unfold qw at d;rw[aO,yx]at d;exact⟨d.2,λj q=>amy _ _ _ (wB d.1) hi d.2 q⟩
    have af:∀i j,i<=j->j<ops.size->qw ops (oQ ops.toList []) i=true->qw ops (oQ ops.toList []) j=true\/qh ops j=true:=by
     intro i j aE q d;unfold qw at d⊢;rw[aO,yx]at d;have:=wB d.1;cases V:qh ops j with
     |true=>exact .inr rfl
     |false=>left;rw[ae1 (kW this aE)];rfl
    have L:∀i,qh ops i=true->qw ops (oQ ops.toList []) i=false:=by intro i V;unfold qw;rw[V];simp
    have S:∀(i:Nat) r,rs[i]? =some r->qw ops (oQ ops.toList []) i=false->r.fin=none:=by intro i r G hi;have g:=C.one i r G;unfold zT at g;rw[hi]at g;simp only[iZ,if_false]at g;exact asP g
    have aL:∀(i:Nat) r,rs[i]? =some r->qh ops i=true->r.upd=[]:=by
     intro i r G V;have g:=C.one i r G;unfold zT at g;rw[L i V]at g;simp only[iZ,if_false]at g;unfold qh at V;split at V
     ·next o W=>exact(aav W V g).1
     ·cases V
    let wd:World:={w with drawn:=w.drawn+1}
    cases hs
    refine an0 C.touD (λD X w1 A1=>((∀i,i<ops.size->qw ops (oQ ops.toList []) i=true->D i=false)/\Et P ops rs a J c F wd D X w1 A1)\/
     ∃m,m<ops.size/\qw ops (oQ ops.toList []) m=true/\Closed ops D/\(∀j,j<ops.size->qh ops j=false->D j=decide (j<=m))/\∃r τ,rs[m]? =some r/\r.fin=some τ/\St P F J wd X τ w1/\TR P X {t:=lG (mG rs) 0 D a.t,n:=a.n,gn:=a.gn} A1) ?_ ?_ ops.size (Array.replicate ops.size false) F _ A aA aA (.inl ⟨λi _ _=>by rw[R],by rw[R];exact start⟩)
    ·intro D X w1 A1 i K Q' f y hi Ih aa;obtain⟨o,W⟩:∃o,ops[i]? =some o:=⟨ops[i],by simp[y]⟩
     obtain⟨r,G⟩:∃r,rs[i]? =some r:=⟨_,bZ (by rw[O];exact y)⟩
     have iV:=Ih o W;rcases f with⟨hD,f⟩|⟨m,aq,ag,H,Oj,r1,τ1,hr1,ab,T,Ry⟩
     ·by_cases d:qw ops (oQ ops.toList []) i=true
      ·
        obtain⟨a7,ar⟩:=I i y d;have ai:∀j,j<ops.size->qh ops j=false->D j=decide (j<i):=by
         intro j q s;by_cases x:j<i
         ·have:D j=true:=C.uN f.closed i o W iV j ((ar j x).resolve_left (by rw[s];simp));rw[this];simp[x]
         ·have:D j=false:=hD j q ((af i j ah q d).resolve_right (by rw[s];simp));rw[this];simp[x]
        have aM:∀j,j<i->qw ops (oQ ops.toList []) j=false:=by
         intro j q;cases e:qw ops (oQ ops.toList []) j with
         |false=>rfl
         |true=>have x:=hD j ah e;rw[ai j ah (I j ah e).1]at x;exact absurd q (of_decide_eq_false x)
        have aR:∀b,(jY ((iQ rs).take i) J.h).get b=(lG (iQ rs) 0 D J.h).get b:=by
         intro b;rw[Oe (iQ rs) i 0,E9];congr 1;refine Oz _ _ _ _ _ λj u q av=>?_;have Y:j<ops.size:=by have:=(gu.1 q).1;simp[iQ]at this;omega
         simp only[mQ]at av;cases s:qh ops j with
         |false=>exact absurd (ai j Y s).symm av
         |true=>obtain⟨r',a0,hu⟩:=TY q;rw[aL j r' a0 s]at hu;subst hu;rfl
        have Oq:kF (J.next+ops.size) rs i=c:=by have:=C.amz (l:=i) (λk x O=>af i k x O d) (ops.size-i) ah;rw[(ah:i+(ops.size-i)=ops.size)]at this;rw[<-this];exact C.fin.symm
        have N:∀Z,yt (rs.take i) Z=Z:=λZ=>adX i ah λj r' x O=>S j r' O (aM j x);refine C.last v f.closed W G hi iV d (F:=F) (w0:=wd) (F1:=X) ?_ f.tr λF' A' w' τ V z E=>aa F' A' w' (.inr ⟨i,y,d,aah f.closed Ih,?_,r,τ,G,V,z,E⟩)
        ·rw[N];refine f.st.sub (λaw o' a1=>?_) (MW Oq.symm) rfl;rw[show(aC.get {h:=lG (iQ rs) 0 D J.h,next:=c,lock:=J.lock} aw)=(lG (iQ rs) 0 D J.h).get aw from rfl,<-aR];exact a1
        ·intro j q s;unfold nK;rw[ai j q s];by_cases e:j=i
         ·subst e;simp
         ·rw[IB e,MG];congr 1;apply propext;omega
      ·have ax:qw ops (oQ ops.toList []) i=false:=by simpa using d
       refine C.step v h.drew f y hi Ih ax λF' A' w' ak=>aa F' A' w' (.inl ⟨λj q Y=>?_,ak⟩);have al:j≠i:=λe=>by subst e;rw[ax]at Y;cases Y
       unfold nK;rw[hD j q Y,IB al];rfl
     ·cases U:qh ops i with
      |true=>
       have a2:EZ o=true:=by unfold qh at U;rw[W]at U;exact U
       refine C.free v H W G hi iV a2 T Ry λF' A' w' z E=>aa F' A' w' (.inr ⟨m,aq,ag,aah H Ih,?_,r1,τ1,hr1,ab,z,E⟩);intro j q s;have al:j≠i:=λe=>by subst e;rw[U]at s;cases s
       unfold nK;rw[Oj j q s,IB al,MG]
      |false=>
       have a8:¬i<=m:=by intro a3;rw[Oj i y U]at hi;exact of_decide_eq_false hi a3
       have d:qw ops (oQ ops.toList []) i=true:=(af m i ah y ag).resolve_right (by rw[U];simp);have ac:∀j,m<j->j<i->qh ops j=true:=by
        intro j x O;cases s:qh ops j with
        |true=>rfl
        |false=>have h8:D j=true:=C.uN H i o W iV j (((I i y d).2 j O).resolve_left (by rw[s];simp));rw[Oj j ah s]at h8;have:=DX h8;omega
       have N:∀Z,yt (rs.take i) Z=τ1:=λZ=>adY hr1 ab i ah ah λj r' x O h3=>S j r' h3 (L j (ac j x O));refine C.last v H W G hi iV d (F:=F) (w0:=wd) (F1:=X) (by rw[N];exact T) Ry λF' A' w' τ V z E=>aa F' A' w' (.inr ⟨i,y,d,aah H Ih,?_,r,τ,G,V,z,E⟩);intro j q s;unfold nK;rw[Oj j q s];by_cases e:j=i
       ·subst e;simp
       ·rw[IB e,MG];congr 1;apply propext;constructor
        ·omega
        ·intro x;apply Classical.byContradiction;intro O;have:=ac j ah ah;rw[this]at s;cases s
    ·intro X A1 w1 f;rcases f with⟨hD,f⟩|⟨m,aq,ag,H,Oj,r1,τ1,hr1,ab,T,Ry⟩
     ·have a4:∀i,i<ops.size->qw ops (oQ ops.toList []) i=false:=by
       intro i hi;cases e:qw ops (oQ ops.toList []) i with
       |false=>rfl
       |true=>have:=hD i hi e;simp at this;omega
      have N:yt rs {h:=hh,next:=c,lock:=J.lock} ={h:=hh,next:=c,lock:=J.lock}:=by have:=adX (rs:=rs) (J:={h:=hh,next:=c,lock:=J.lock}) rs.length (dP _) λj r' x O=>S j r' O (a4 j ah);rwa [Bz]at this
      rw[N]at hK;have a5:lG (iQ rs) 0 (λj=>decide (j<ops.size)) J.h=hh:=by rw[h4];exact aaQ _ _ _ _ (λj q=>by simp[iQ]at q⊢;omega)
      have z:=f.st;have E:=f.tr;rw[a5]at z;rw[ap]at E;exact hK X A1 w1 ((St.drew h).trans z) E
     ·have N:∀Z,yt rs Z=τ1:=by
       intro Z;have:=adY (J:=Z) hr1 ab rs.length ah (dP _) λj r' x O h3=>by
        refine S j r' h3 (L j ?_);cases s:qh ops j with
        |true=>rfl
        |false=>
         have h9:decide (j<ops.size)=decide (j<=m):=Oj j ah s;have a6:decide (j<ops.size)=true:=by simp;omega
         rw[a6]at h9;have:=DX h9.symm;omega
       rwa [Bz]at this
      rw[N]at hK;rw[ap]at Ry;exact hK X A1 w1 ((St.drew h).trans T) Ry
   ·cases hs
  ·cases hs
 ·cases hs
section
variable{call:Caller}{ops:W6}{M:Q2}{N0 gn n:Nat}
end
def agX(d:P.follows .mixedOrders=true):Um P (ZA P):=by intro call b ops a J e f g;exact as5 d call b ops a J e f g
