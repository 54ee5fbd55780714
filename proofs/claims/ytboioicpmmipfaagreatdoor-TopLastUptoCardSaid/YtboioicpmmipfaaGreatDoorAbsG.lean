/- Regions whose order Go leaves open: one operation keeps the invariant. -/
import Derived.Test.YtboioicpmmipfaaGreatDoorAbsF
set_option linter.all false
namespace Go.aP
noncomputable section
variable[aJ]
variable{P:Program}
structure Es(P:Program)(ops:W6)(rs:Wm)(a0:bM)(F0:aC)(cf:Nat)(H0:Env)(w0:World)(D:Nat->Bool)(H:Env)(w:World)(A:Act):Prop where
 closed:Closed ops D
 st:St P H0 F0 w0 H {h:=lI (iV rs) 0 D F0.h,next:=cf,lock:=F0.lock} w
 tr:TR P H {t:=lI (mJ rs) 0 D a0.t,n:=a0.n,gn:=a0.gn} A
 dm:∀id,H.has id->id<F0.next\/(∃k,k<ops.size/\D k=true/\id=F0.next+k)\/(∃(j:Nat)(r:dW),rs[j]? =some r/\D j=true/\r.base<=id/\id<r.next)
def TR.add{H H':Env}{T m:Tr AV}{n gn:Nat}{A:Act}{o:Oper}{v:Q4}{x:Value}(h:TR P H {t:=T,n:=n,gn:=gn} A)(g:H.le H')(f:∀d,m.get d=(gX (uh o v) d).getD (T.get d))
 (j:∀p∈uh o v,p.1<n) (z:∀u,v=some u->VR H' u x):TR P H' {t:=m,n:=n,gn:=gn} (A.put o.dst x):=by
 have q:=h.mono g;unfold uh at f j;cases s:o.dst with
 |none=>rw[s]at f;refine⟨h.gn,h.size,h.none,λd u b=>?_⟩;rw[f]at b;exact q.slot d u b
 |some k=>
  rw[s]at f j;have l:=j (k,v) aA;refine⟨h.gn,by have:=h.size;simpa[Act.put]using this,h.none,λd u b=>?_⟩;rw[f]at b;simp only[gX]at b;show ∃y,(A.tmps.setIfInBounds k x)[d]? =some y/\_
  rw[Ep];by_cases e:d=k
  ·subst e;rw[au rfl,au (by have:=h.size;simp only at this l;omega)];rw[au rfl]at b;exact⟨x,rfl,z u b⟩
  ·rw[aj (λB=>e B.symm)];rw[aj e]at b;exact q.slot d u b
section
variable{call:Caller}{ops:W6}{M:Q2}{rs:Wm}{a0:bM}{F0:aC}{cf:Nat}{H0 H:Env}{w0 w:World}{D:Nat->Bool}{A:Act}{i nn N0:Nat}{o:Oper}{r:dW}
def nM(D:Nat->Bool)(i:Nat):Nat->Bool:=λj=>D j ||Nat.beq j i
def aGl{rs:Wm}{i:Nat}{r:dW}(h:rs[i]? =some r):(iV rs)[i]? =some r.upd:=by simp[iV,h]
def aEQ{rs:Wm}{i:Nat}{r:dW}(h:rs[i]? =some r):(mJ rs)[i]? =some r.slot:=by simp[mJ,h]
def TS{rs:Wm}{i:Nat}{u:WP}(h:(iV rs)[i]? =some u):∃r,rs[i]? =some r/\r.upd=u:=by simpa[iV]using h
def amr{rs:Wm}{i:Nat}{u:List (Nat×Q4)}(h:(mJ rs)[i]? =some u):∃r,rs[i]? =some r/\r.slot=u:=by simpa[mJ]using h
def OL{N0 i j:Nat}{r s:dW}{o:Oper}(e:ops[i]? =some o)(h:SC ops N0 i j r s=true):sH (keysOf r.slot) (keysOf s.slot)=true/\sH (o.looksAt ops) (keysOf s.slot)=true/\sH (keysOf r.upd) (keysOf s.upd)=true/\
 (∀l,r.vis=some l->sH l (keysOf s.upd)=true)/\(r.vis=none->i<j->(∀k∈keysOf s.upd,N0<=k)/\sH r.loc (keysOf s.upd)=true/\s.base=s.next)/\(r.vis=none->i≠j->j<i\/i<j):=by
 unfold SC at h;rw[e]at h;simp only[aO]at h;obtain⟨⟨⟨f,g⟩,m⟩,b⟩:=h;refine⟨f,g,m,?_,?_,λ_ p=>ah⟩
 ·intro l q;rw[q]at b;exact b
 ·intro t u;rw[t]at b;simp only[qF,aO]at b;rcases b with b|⟨⟨d,v⟩,x⟩
  ·rw[jY]at b;omega
  ·refine⟨λk y=>?_,v,bV x⟩;rw[List.all_eq_true]at d;exact wB (d k y)
def uF.aia(C:uF ops M rs nn N0)(p:Closed ops D)(h:ops[i]? =some o)(k:rs[i]? =some r)(hi:D i=false)(q:∀e∈o.after.toList,Region.binds .any e=true->D e.on=true)(b:Nat):
 (lI (iV rs) 0 (nM D i) F0.h).get b=(gX r.upd b).getD ((lI (iV rs) 0 D F0.h).get b):=by
 rw[EZ,EZ];have:=abL (iV rs) 0 i D b r.upd (aGl k) (by simpa using hi) (λj v t u l d=>by
  obtain⟨s,m,rfl⟩:=TS t;have f:j<ops.size:=by have:=(gy.1 m).1;rw[C.len]at this;exact this
  have g:=C.open_ p h hi q f (by simp at l;rw[l];simp;omega);have x:=OL h (C.pairs i j r s k m g);exact RQ (QO x.2.2.1 ((AQ _ _).1 d)))
 simp only[mW]at this;unfold nM;rw[this];cases gX r.upd b<;>rfl
def uF.Wq(C:uF ops M rs nn N0)(p:Closed ops D)(h:ops[i]? =some o)(k:rs[i]? =some r)(hi:D i=false)(q:∀e∈o.after.toList,Region.binds .any e=true->D e.on=true)(b:Nat):
 (lI (mJ rs) 0 (nM D i) a0.t).get b=(gX r.slot b).getD ((lI (mJ rs) 0 D a0.t).get b):=by
 rw[EZ,EZ];have:=abL (mJ rs) 0 i D b r.slot (aEQ k) (by simpa using hi) (λj v t u l d=>by
  obtain⟨s,m,rfl⟩:=amr t;have f:j<ops.size:=by have:=(gy.1 m).1;rw[C.len]at this;exact this
  have g:=C.open_ p h hi q f (by simp at l;rw[l];simp;omega);have x:=OL h (C.pairs i j r s k m g);exact RQ (QO x.1 ((AQ _ _).1 d)))
 simp only[mW]at this;unfold nM;rw[this];cases gX r.slot b<;>rfl
def uF.al5(C:uF ops M rs nn N0)(l:Closed ops D)(h:ops[i]? =some o)(m:rs[i]? =some r)(hi:D i=false)(p:∀e∈o.after.toList,Region.binds .any e=true->D e.on=true){d:Nat}(q:d∈o.looksAt ops):
 (jZ ((mJ rs).take i) a0.t).get d=(lI (mJ rs) 0 D a0.t).get d:=by
 rw[N7 (mJ rs) i 0,EZ];congr 1;refine Ot _ _ _ _ _ λj u t b=>?_;obtain⟨s,k,rfl⟩:=amr t;have f:j<ops.size:=by have:=(gy.1 k).1;rw[C.len]at this;exact this
 simp only[mW]at b;have g:=C.open_ l h hi p f (λe=>b e.symm);have v:=OL h (C.pairs i j r s m k g);exact RQ (QO v.2.1 q)
def uF.aEq(C:uF ops M rs nn N0)(m:Closed ops D)(h:ops[i]? =some o)(p:rs[i]? =some r)(hi:D i=false)(q:∀e∈o.after.toList,Region.binds .any e=true->D e.on=true){l:Q2}(t:r.vis=some l){b:Nat}(v:b∈l):
 (jZ ((iV rs).take i) F0.h).get b=(lI (iV rs) 0 D F0.h).get b:=by
 rw[N7 (iV rs) i 0,EZ];congr 1;refine Ot _ _ _ _ _ λj u x d=>?_;obtain⟨s,k,rfl⟩:=TS x;have f:j<ops.size:=by have:=(gy.1 k).1;rw[C.len]at this;exact this
 simp only[mW]at d;have g:=C.open_ m h hi q f (λe=>d e.symm);have y:=OL h (C.pairs i j r s p k g);exact RQ (QO (y.2.2.2.1 l t) v)
def Ctx.act(C:Ctx P call ops M rs a0 F0 cf)(b:Es P ops rs a0 F0 cf H0 w0 D H w A)(g:ops[i]? =some o)(h:rs[i]? =some r)(hi:D i=false)(j:∀e∈o.after.toList,Region.binds .any e=true->D e.on=true):
 TR P H {t:=ng (jZ ((mJ rs).take i) a0.t) (o.looksAt ops),n:=a0.n,gn:=a0.gn} A:=by
 refine⟨b.tr.gn,b.tr.size,b.tr.none,λd v f=>?_⟩;rw[DI]at f;split at f
 ·next k=>
  rw[C.al5 (a0:=a0) b.closed g h hi j k]at f;exact b.tr.slot d v f
 ·cases f
def Ctx.gen(C:Ctx P call ops M rs a0 F0 cf)(L:uD P call)(d:Es P ops rs a0 F0 cf H0 w0 D H w A)(ho:ops[i]? =some o)(Y:rs[i]? =some r)(aa:i<ops.size)(hi:D i=false)
 (jd:∀e∈o.after.toList,Region.binds .any e=true->D e.on=true) {Z:Env} {τ τ':aC} {v:Q4} {a:bM} {K:Act->World->Prop} {Q:Exit->Act->World->Prop}
 (WC:SR P Z τ w) (ab:TR P Z a A) (N:Z.le H) (S:Z.ro=H.ro) (ac:xI P call o a.eval τ=some (v,τ')) (Rq:r.slot=uh o v)
 (sub:∀id B,τ.get id=some B->(lI (iV rs) 0 D F0.h).get id=some B) (free:∀id,H.has id->¬(τ.next<=id/\id<τ'.next))
 (hu:∀b B,gX r.upd b=some (some B)->τ'.get b=some B/\((∃o0,τ.get b=some o0/\o0.own=true)\/(B.own=true/\τ.get b=none)))
 (Px:∀id B,τ.get id=some B->B.own=true->τ.lock<=id->gX r.upd id≠none) (ad:F0.lock<=τ.lock) (Fb:∀b,gX r.upd b≠none->τ.lock<=b)
 (E:∀id,τ.next<=id->id<τ'.next->F0.next<=id/\id<cf/\(id=F0.next+i\/(r.base<=id/\id<r.next)))
 (hK:∀H' A' w',Es P ops rs a0 F0 cf H0 w0 (nM D i) H' w' A'->K A' w'):o.wp P A w K Q:=by
 refine Zz WC L ab ac λx p w' g hx=>?_;let H':Env:=⟨λid=>if τ.next<=id/\id<τ'.next then p id else H id,p.ro,λid=>if τ.next<=id/\id<τ'.next then p.gh id else H.gh id⟩
 have h1:H.le H':=⟨λid q m=>by
  show(if τ.next<=id/\id<τ'.next then p id else H id)=some q
  rw[aj (free id (.inl ⟨q,m⟩))];exact m,λb o hb=>g.ext.ro b o (by rw[S];exact hb),λid t=>by
  show(if τ.next<=id/\id<τ'.next then p.gh id else H.gh id)=true
  rw[aj (free id (.inr t))];exact t⟩
 have h2:p.le H':=⟨λid q m=>by
  show(if τ.next<=id/\id<τ'.next then p id else H id)=some q
  split
  ·exact m
  ·next y=>
   rcases g.aza m with f|f
   ·exact N.pl _ _ f
   ·exact absurd f y,λ_ _ h=>h,λid t=>by
  show(if τ.next<=id/\id<τ'.next then p.gh id else H.gh id)=true
  split
  ·exact t
  ·next y=>
   rcases g.new id (.inr t)with(⟨q,f⟩|f)|f
   ·have:=g.ext.pl _ _ f;rw[(g.rel.lq id t).1]at this;cases this
   ·exact N.gh _ f
   ·exact absurd f y⟩
 have z:∀id,H'.has id->H.has id\/(τ.next<=id/\id<τ'.next):=λid hh=>by
  by_cases y:τ.next<=id/\id<τ'.next
  ·exact .inr y
  ·left;rcases hh with⟨q,m⟩|t
   ·have T:(if τ.next<=id/\id<τ'.next then p id else H id)=some q:=m;rw[aj y]at T;exact .inl ⟨q,T⟩
   ·have l:(if τ.next<=id/\id<τ'.next then p.gh id else H.gh id)=true:=t;rw[aj y]at l;exact .inr l
 have ae:∀id,H'.gh id=true->H' id=none:=λid t=>by
  have l:(if τ.next<=id/\id<τ'.next then p.gh id else H.gh id)=true:=t;show(if τ.next<=id/\id<τ'.next then p id else H id)=none
  split at l
  ·next y=>rw[au y];exact(g.rel.lq id l).1
  ·next y=>rw[aj y];exact(d.st.rel.lq id l).1
 have t:=C.aia (F0:=F0) d.closed ho Y hi jd;have I:∀id,H'.has id->id<cf:=λid m=>by
  rcases z id m with f|⟨f,R⟩
  ·exact d.st.rel.hasLt f
  ·exact(E id f R).2.1
 obtain⟨af,size,U,own,tC⟩:=St.merge (F':={h:=lI (iV rs) 0 (nM D i) F0.h,next:=cf,lock:=F0.lock}) (upd:=r.upd) (H':=H') d.st.rel WC g sub N S rfl h1 h2 t hu Px ad Fb (λid q m=>I id (.inl ⟨q,m⟩)) (λid V=>⟨ae id V,I id (.inr V)⟩);refine hK H' _ w' ⟨?_,?_,?_,?_⟩
 ·intro k o' hk O e he hb;unfold nM at hk⊢;simp only[qF]at hk⊢;rcases hk with hk|hk
  ·exact .inl (d.closed k o' hk O e he hb)
  ·have:=bV hk;subst this;rw[ho]at O;cases O;exact .inl (jd e he hb)
 ·refine d.st.then h1 af size U own g.os g.tape g.output rfl (dP _) ?_ tC;intro id m;rcases z id m with f|⟨f,R⟩
  ·exact .inl f
  ·exact .inr ⟨(E id f R).1,(E id f R).2.1⟩
 ·have l:=C.Wq (a0:=a0) d.closed ho Y hi jd;rw[Rq]at l;exact d.tr.add h1 l (by rw[<-Rq];exact(C.slot i r Y).2) (λu ag=>VR.mono h2 _ _ (hx u ag))
 ·intro id m;have W:∀k,D k=true->nM D i k=true:=λk hk=>by unfold nM;rw[hk];rfl
  have X:nM D i i=true:=by unfold nM;simp
  rcases z id m with f|⟨f,R⟩
  ·rcases d.dm id f with G|⟨k,G,h6,h7⟩|⟨j,s,G,h6,h7⟩
   ·exact .inl G
   ·exact .inr (.inl ⟨k,G,W k h6,h7⟩)
   ·exact .inr (.inr ⟨j,s,G,W j h6,h7⟩)
  ·obtain⟨_,_,G|G⟩:=E id f R
   ·exact .inr (.inl ⟨i,aa,X,G⟩)
   ·exact .inr (.inr ⟨i,r,Y,X,G⟩)
end
section
variable{call:Caller}{ops:W6}{M:Q2}{rs:Wm}{a0:bM}{F0:aC}{cf:Nat}{H0 H:Env}{w0 w:World}{D:Nat->Bool}{A:Act}{i:Nat}{o:Oper}{r:dW}
def abQ{l:Q2}{f:Nat->Option bP}{b:Nat}{x:Option bP}(h:gX (l.map λk=>(k,f k)) b=some x):b∈l/\x=f b:=by
 induction l with
 |nil=>simp[gX]at h
 |cons k l d=>
  simp only[jc,gX]at h;split at h
  ·next y g=>cases h;have:=d g;exact⟨by simp[this.1],this.2⟩
  ·split at h
   ·next e=>cases h;subst e;exact⟨aA,rfl⟩
   ·cases h
def keys_map(l:Q2)(f:Nat->Option bP):keysOf (l.map λk=>(k,f k))=l:=by simp[keysOf,List.map_map,Function.comp_def]
def KD{τ:aC}:∀{n c b:Nat}{x:Option bP},gX (Ie τ c n) b=some x->c<=b/\b<c+n/\∀o,x=some o->τ.get b=some o/\o.own=true
 |0,c,b,x,h=>by simp[Ie,gX]at h
 |n+1,c,b,x,h=>by
  simp only[Ie,gX]at h;split at h
  ·next y g=>
   cases h;obtain⟨h1,l,j⟩:=KD g;exact⟨ah,ah,j⟩
  ·split at h
   ·next e=>
    subst e;simp only[bD]at h;refine⟨Nat.le_refl _,ah,λo k=>?_⟩;rw[k]at h;split at h
    ·next m f=>
     split at h
     ·next d=>cases h;exact⟨f,d⟩
     ·cases h
    ·cases h
   ·cases h
def Xn{l m:WP}{b:Nat}:gX (l++m) b=match gX m b with|some x=>some x|none=>gX l b:=by
 induction l with
 |nil=>simp only[aZ];cases gX m b<;>rfl
 |cons p l d=>obtain⟨k,v⟩:=p;simp only[bG,gX,d];cases gX m b<;>rfl
def FK{h:Tr bP}{b:Nat}{l:Q2}{k:Nat}:k∈Lh h b l↔k∈l/\b<=k/\∃d,h.get k=some d/\d.own=true:=by
 unfold Lh;rw[CX,aO];constructor
 ·rintro⟨f,g,e⟩
  refine⟨f,wB g,?_⟩;split at e
  ·next d j=>exact⟨d,j,e⟩
  ·cases e
 ·rintro⟨f,g,d,e,m⟩
  exact⟨f,afe g,by rw[e];exact m⟩
def SR.cutAt{H:Env}{F τ:aC}{w:World}{c:Nat}(h:SR P H F w)(O:P.globals.size<c)(b:∀id o,τ.get id=some o->F.get id=some o)(k:∀id o,τ.get id=some o->id<c/\Dk c o=true)(Q:c<=τ.next):SR P (H.cut c) τ w:=by
 have d:∀id q,id<c->H id=some q->H.cut c id=some q:=λid q l m=>by simp only[Env.cut];rw[au l];exact m
 refine⟨λg p=>?_,λid q f=>?_,λid o j=>?_,λid s=>?_,λid o t z q B u v x E G I=>?_,h.jH,λid o q u v x=>h.ny id o q (b _ _ u) v ((Env.NH _ _).pl _ _ x),h.tabs⟩
 ·obtain⟨L,es,l⟩:=h.oN g p;exact⟨L,es,d _ _ ah l⟩
 ·simp only[Env.cut]at f;split at f
  ·omega
  ·cases f
 ·rcases h.live id o (b _ _ j)with⟨q,f,N⟩|⟨y,m⟩
  ·exact .inl ⟨q,d _ _ (k id o j).1 f,N.cut (k id o j).2⟩
  ·exact .inr ⟨Env.agR (k id o j).1 y,m⟩
 ·have e:(decide (id<c)&&H.gh id)=true:=s;rw[aO,decide_eq_true_iff]at e;exact⟨by simp only[Env.cut];rw[au e.1];exact(h.lq id e.2).1,ah⟩
 ·exact h.sep id o t z q B (b _ _ u) v (b _ _ x) E ((Env.NH _ _).pl _ _ G) ((Env.NH _ _).pl _ _ I)
def SR.part{H:Env}{F τ:aC}{w:World}(h:SR P H F w)(b:∀id o,τ.get id=some o->F.get id=some o)(j:∀id,H.has id->id<τ.next):SR P H τ w:=
 ⟨h.oN,λid q l=>j id (.inl ⟨q,l⟩),λid o m=>h.live id o (b id o m),λid k=>⟨(h.lq id k).1,j id (.inr k)⟩,λid o d p q s e f g t u v=>h.sep id o d p q s (b _ _ e) f (b _ _ g) t u v,h.jH,λid o q e f g=>h.ny id o q (b _ _ e) f g,h.tabs⟩
def Qm{c:Nat}{h:Tr bP}:∀{l:Q2},Ql c h l=true->∀k∈l,k<c/\∀o,h.get k=some o->Dk c o=true
 |[],_,k,hk=>by simp at hk
 |x::l,b,k,hk=>by
  simp only[Ql,aO]at b;simp only[bH]at hk;rcases hk with rfl|hk
  ·refine⟨by have:=b.1.1;rwa [jY]at this,λo d=>?_⟩;have:=b.1.2;rw[d]at this;exact this
  ·exact Qm b.2 k hk
def afQ{c:Nat}{t:Tr AV}:∀{l:Q2},Ns c t l=true->∀k∈l,∀v,t.get k=some v->v.under c=true
 |[],_,k,hk=>by simp at hk
 |x::l,b,k,hk=>by
  simp only[Ns,aO]at b;simp only[bH]at hk;rcases hk with rfl|hk
  ·intro v d;have:=b.1;rw[d]at this;exact this
  ·exact afQ b.2 k hk
def adi{M:Q2}{i:Nat}:∀{rs:Wm}{k:Nat}{b:Nat},b∉FN M i rs k->∀(j:Nat) r,rs[j]? =some r->Ae M i (k+j)=true->b∉keysOf r.upd
 |[],k,b,_,j,r,e,_=>by simp at e
 |s::rs,k,b,d,j,r,e,f=>by
  unfold FN at d;cases j with
  |zero=>simp at e;subst e;rw[qg]at f;rw[au f]at d;simp only[jQ,not_or]at d;exact d.1
  |succ j=>
   have g:b∉FN M i rs (k+1):=by
    split at d
    ·simp only[jQ,not_or]at d;exact d.2
    ·exact d
   exact adi g j r (by simpa using e) (by rw[(ah:k+1+j=k+(j+1))];exact f)
def ajy{M:Q2}{i:Nat}:∀{rs:Wm}{k:Nat}{b:Nat}(j:Nat)(r:dW),rs[j]? =some r->Ae M i (k+j)=false->b∈keysOf r.upd->b∈RP M i rs k
 |[],k,b,j,r,d,_,_=>by simp at d
 |s::rs,k,b,j,r,d,e,f=>by
  unfold RP;cases j with
  |zero=>simp at d;subst d;rw[qg]at e;rw[aj (by rw[e];simp)];simp[f]
  |succ j=>
   have:=ajy (k:=k+1) j r (by simpa using d) (by rw[(ah:k+1+j=k+(j+1))];exact e) f;split
   ·exact this
   ·simp[this]
def Ctx.bound(C:Ctx P call ops M rs a0 F0 cf)(b:Es P ops rs a0 F0 cf H0 w0 D H w A)(id:Nat)(h:H.has id):id<cf:=b.st.rel.hasLt h
def Ctx.apart(C:Ctx P call ops M rs a0 F0 cf)(d:Es P ops rs a0 F0 cf H0 w0 D H w A)(g:rs[i]? =some r)(hi:D i=false){id:Nat}(h:H.has id):¬(r.base<=id/\id<r.next):=by
 rintro⟨q,t⟩
 have m:=C.lo g;rcases d.dm id h with f|⟨k,f,l,p⟩|⟨j,s,f,l,p,u⟩
 ·omega
 ·omega
 ·by_cases e:i=j
  ·subst e;rw[hi]at l;cases l
  ·rcases Nat.lt_or_gt_of_ne e with b|b
   ·have:=C.lt g f b;omega
   ·have:=C.lt f g b;omega
def Ctx.step(C:Ctx P call ops M rs a0 F0 cf)(S:uD P call)(ad:SR P H0 F0 w0)(g:Es P ops rs a0 F0 cf H0 w0 D H w A)(W:i<ops.size)(hi:D i=false)
 (Ih:∀o,ops[i]? =some o->∀e∈o.after.toList,Region.binds .any e=true->D e.on=true) (aL:qy ops M i=false) {K:Act->World->Prop} {Q:Exit->Act->World->Prop}
 (hK:∀H' A' w',Es P ops rs a0 F0 cf H0 w0 (nM D i) H' w' A'->K A' w'):wpOp P ops Q i K A w:=by
 obtain⟨o,V⟩:∃o,ops[i]? =some o:=⟨ops[i],by simp[W]⟩
 obtain⟨r,U⟩:∃r,rs[i]? =some r:=⟨_,cO (by rw[C.len];exact W)⟩
 have jd:=Ih o V;have f:=C.one i r U;have E:=C.act g V U hi jd;have aM:=C.base U;have al:=C.lo U;have am:=C.hi U;have aR:P.globals.size<F0.next:=by obtain⟨sz,es,p⟩:=ad.oN P.globals.size (dP _);exact ad.dom _ _ p
 have an:=(C.slot i r U).1;have a8:=C.lock;have ag:=C.big;have ao:=C.bound g;unfold zU at f;rw[aL]at f;simp only[iI,if_false]at f;unfold Dv at f;rw[V]at f;simp only at f;unfold wpOp;rw[V];simp only;split at f
 ·cases f
 ·
   next hw=>
   rw[I9 E hw];simp only[iI,if_false];cases f;refine hK H _ w ⟨?_,?_,?_,?_⟩
   ·intro k o' hk ap e he q;unfold nM at hk⊢;simp only[qF]at hk⊢;rcases hk with hk|hk
    ·exact .inl (g.closed k o' hk ap e he q)
    ·have:=bV hk;subst this;rw[V]at ap;cases ap;exact .inl (Ih _ V e he q)
   ·have hg:=C.aia (F0:=F0) g.closed V U hi jd;refine g.st.sub ?_ (dP _) rfl;intro id m L;have:(lI (iV rs) 0 (nM D i) F0.h).get id=some m:=L;rw[hg]at this;exact this
   ·exact g.tr.add (Env.le.refl _) (C.Wq (a0:=a0) g.closed V U hi jd) (C.slot i _ U).2 (by rintro u hu;cases hu;exact⟨[],rfl,rfl⟩)
   ·intro id X;have ax:∀k,D k=true->nM D i k=true:=λk hk=>by unfold nM;rw[hk];rfl
    rcases g.dm id X with N|⟨k,N,Z,h7⟩|⟨j,s,N,Z,h7⟩
    ·exact .inl N
    ·exact .inr (.inl ⟨k,N,ax k Z,h7⟩)
    ·exact .inr (.inr ⟨j,s,N,ax j Z,h7⟩)
 ·
   next hw=>
   rw[I9 E hw];simp only[if_true];left;have B:∀l:Q2,r.vis=some l->∀id m,(ng (jZ ((iV rs).take i) F0.h) l).get id=some m->(lI (iV rs) 0 D F0.h).get id=some m/\id∈l/\(jZ ((iV rs).take i) F0.h).get id=some m:=by
    intro l hl id m L;rw[DI]at L;split at L
    ·next hm=>rw[<-C.aEq (F0:=F0) g.closed V U hi jd hl hm];exact⟨L,hm,L⟩
    ·cases L
   have ay:∀c,Ns c (jZ ((mJ rs).take i) a0.t) (o.looksAt ops)=true->TR P (H.cut c) {t:=ng (jZ ((mJ rs).take i) a0.t) (o.looksAt ops),n:=a0.n,gn:=a0.gn} A:=by
    intro c q;refine⟨E.gn,E.size,E.none,λd v hv=>?_⟩;obtain⟨x,hx,mY⟩:=E.slot d v hv;refine⟨x,hx,VR.cut v x ?_ mY⟩;rw[DI]at hv;split at hv
    ·next hd=>exact afQ q d hd v hv
    ·cases hv
   split at f
   ·
     next ty a1=>
     split at f
     ·next z hz=>
      cases f;have G:xI P call o (bM.eval {t:=.nil,n:=a0.n,gn:=a0.gn}) {h:=.nil,next:=F0.next+i,lock:=F0.lock}=some (some (.p (F0.next+i) 0),({h:=.nil,next:=F0.next+i,lock:=F0.lock}:aC).new (.cells z ty true false)):=by unfold xI;rw[a1];simp only[hz,iO]
      have O:SR P (H.cut F0.next) {h:=.nil,next:=F0.next+i,lock:=F0.lock} w:=g.st.rel.cutAt aR (λid m h=>by simp[aC.get]at h) (λid m h=>by simp[aC.get]at h) aA;refine C.gen S g V U W hi jd O (a:={t:=.nil,n:=a0.n,gn:=a0.gn}) ⟨E.gn,E.size,E.none,λd v hv=>by simp at hv⟩ (Env.NH _ _) rfl G rfl (λid m h=>by simp[aC.get]at h) ?_ ?_ ?_ (dP _) ?_ ?_ hK
      ·rintro id X ⟨p,y⟩
       have Y:F0.next+i<=id:=p;have a2:id<F0.next+i+1:=y;rcases g.dm id X with I|⟨k,I,T,N⟩|⟨j,s,I,T,N,Z⟩
       ·omega
       ·have:k=i:=ah;subst this;rw[hi]at T;cases T
       ·have:=C.lo I;omega
      ·intro b m q;simp only[gX]at q;split at q
       ·next e=>
        cases q;subst e;refine⟨?_,.inr ⟨rfl,Tr.get_nil _⟩⟩;rw[aC.rD,au rfl]
       ·cases q
      ·intro id m h;simp[aC.get]at h
      ·intro b q;have:=(AQ _ _).1 q;simp[keysOf]at this;subst this;show F0.lock<=F0.next+i
       omega
      ·intro id p y;have Y:F0.next+i<=id:=p;have a2:id<F0.next+i+1:=y;have:=C.aac;exact⟨ah,ah,.inl ah⟩
     ·cases f
   ·split at f
    ·
      next l ab=>
      split at f
      ·next v τ' G=>
       rw[ES]at G;split at f
       ·next aq=>
        cases f;have a3:=bV aq;have O:SR P H {h:=ng (jZ ((iV rs).take i) F0.h) l,next:=wJ,lock:=wJ} w:=g.st.rel.part (λid m h=>(B l rfl id m h).1) (λid X=>zI (ao id X) ag);refine C.gen S g V U W hi jd O E (Env.le.refl _) rfl G rfl (λid m h=>(B l rfl id m h).1) ?_ ?_ ?_ ?_ ?_ ?_ hK
        ·rintro id X ⟨p,y⟩
         have Y:wJ<=id:=p;omega
        ·intro b m q;simp[gX]at q
        ·intro id m p y I;have a4:wJ<=id:=I;have:=ao id (O.Rf p);omega
        ·have:=C.aac;show F0.lock<=wJ;omega
        ·intro b q;simp[gX]at q
        ·intro id p y;have Y:wJ<=id:=p;omega
       ·cases f
      ·cases f
    ·
      next l ab=>
      split at f
      ·next v τ' G=>
       rw[ES]at G;split at f
       ·next aq=>
        cases f;have a3:=bV aq;have O:SR P H {h:=ng (jZ ((iV rs).take i) F0.h) l,next:=wJ,lock:=F0.lock} w:=g.st.rel.part (λid m h=>(B l rfl id m h).1) (λid X=>zI (ao id X) ag);refine C.gen S g V U W hi jd O E (Env.le.refl _) rfl G rfl (λid m h=>(B l rfl id m h).1) ?_ ?_ ?_ (dP _) ?_ ?_ hK
        ·rintro id X ⟨p,y⟩
         have Y:wJ<=id:=p;omega
        ·intro b m q;obtain⟨p,y⟩:=abQ q;obtain⟨I,T,aa,N,Z⟩:=FK.1 p;refine⟨y.symm,.inl ⟨aa,?_,Z⟩⟩;show(ng _ l).get b=_
         rw[DI,au I];exact N
        ·intro id m p y I;obtain⟨_,T,N⟩:=B l rfl id m p;rw[AQ,keys_map];exact FK.2 ⟨T,I,m,N,y⟩
        ·intro b q;rw[AQ,keys_map]at q;exact(FK.1 q).2.1
        ·intro id p y;have Y:wJ<=id:=p;omega
       ·cases f
      ·cases f
    ·
      next l ab=>
      split at f
      ·next R=>
       simp only[aO]at R;split at f
       ·next v τ' G=>
        rw[ES]at G;cases f;simp only at al am an
        have O:SR P (H.cut (kH (F0.next+ops.size) rs i)) {h:=ng (jZ ((iV rs).take i) F0.h) l,next:=kH (F0.next+ops.size) rs i,lock:=F0.lock} w:=
         g.st.rel.cutAt ah (λid m h=>(B l rfl id m h).1) (λid m h=>by obtain⟨_,p,y⟩:=B l rfl id m h;have:=Qm R.2 id p;exact⟨this.1,this.2 m y⟩) (dP _)
        refine C.gen S g V U W hi jd O (ay _ R.1) (Env.NH _ _) rfl G rfl (λid m h=>(B l rfl id m h).1) ?_ ?_ ?_ (dP _) ?_ ?_ hK
        ·rintro id X ⟨p,y⟩
         exact C.apart g U hi X ⟨p,y⟩
        ·intro b m q;rw[Xn]at q;split at q
         ·next x hx=>
          cases q;obtain⟨p,y,I⟩:=KD hx;obtain⟨T,N⟩:=I m rfl;refine⟨T,.inr ⟨N,?_⟩⟩;show(ng _ l).get b=none
          rw[DI];split
          ·next hm=>have:=(Qm R.2 b hm).1;omega
          ·rfl
         ·obtain⟨p,y⟩:=abQ q;obtain⟨I,T,aa,N,Z⟩:=FK.1 p;refine⟨y.symm,.inl ⟨aa,?_,Z⟩⟩;show(ng _ l).get b=_
          rw[DI,au I];exact N
        ·intro id m p y I;obtain⟨_,T,N⟩:=B l rfl id m p;rw[AQ];unfold keysOf;rw[oJ,jQ];left;have:=keys_map (Lh (jZ ((iV rs).take i) F0.h) F0.lock l) (λk=>τ'.get k);unfold keysOf at this;rw[this];exact FK.2 ⟨T,I,m,N,y⟩
        ·intro b q;rw[Xn]at q;split at q
         ·next x hx=>
          obtain⟨p,_,_⟩:=KD hx;show F0.lock<=b
          omega
         ·rw[AQ,keys_map]at q;exact(FK.1 q).2.1
        ·intro id p y;have Y:kH (F0.next+ops.size) rs i<=id:=p;exact⟨ah,ah,.inr ⟨p,y⟩⟩
       ·cases f
      ·cases f
    ·
      next ab=>
      split at f
      ·next v τ' az=>
       have G:=aGh az;rw[ES]at G;cases f;simp only at al am an;have ac:∀id,H.has id->id<kH (F0.next+ops.size) rs i:=by
        intro id X;rcases g.dm id X with I|⟨k,I,T,N⟩|⟨j,s,I,T,N,Z⟩
        ·omega
        ·omega
        ·have ar:i≠j:=by rintro rfl;rw[hi]at T;cases T
         rcases Nat.lt_or_gt_of_ne ar with av|av
         ·have aw:j<ops.size:=by have:=(gy.1 I).1;rw[C.len]at this;exact this
          have ae:=C.open_ g.closed V hi jd aw (by rw[T];simp;omega);have hp:=OL V (C.pairs i j _ s U I ae);have:=(hp.2.2.2.2.1 rfl av).2.2;omega
         ·have:=C.lt I U av;simp only at this;omega
       have ai:∀id m,(H7 (jZ ((iV rs).take i) F0.h) (FN M i (rs.take i) 0)).get id=some m->(lI (iV rs) 0 D F0.h).get id=some m:=by
        intro id m L;rw[ah9]at L;split at L
        ·cases L
        ·next aD=>
         rw[<-L,N7 (iV rs) i 0,EZ];congr 1;refine(Ot _ _ _ _ _ λj u hj af=>?_).symm;obtain⟨s,hs,rfl⟩:=TS hj;have aw:j<ops.size:=by have:=(gy.1 hs).1;rw[C.len]at this;exact this
         simp only[mW]at af;have ae:=C.open_ g.closed V hi jd aw (λe=>af e.symm);apply RQ;by_cases a5:j<i
         ·exact adi aD j s (by rw[oh,au a5];exact hs) (by rw[mW];exact ae)
         ·have ar:i<j:=by
           rcases zJ i j with h|h
           ·exact h
           ·have:i=j:=ah;subst this;rw[hi]at af;simp at af
          have hp:=OL V (C.pairs i j _ s U hs ae);obtain⟨p,y,I⟩:=hp.2.2.2.2.1 rfl ar;intro ak;have a9:=p id ak;rw[N7 (iV rs) i 0]at L;cases hl:nS (iV rs) 0 (λj=>decide (j<0+i)) id with
          |none=>rw[hl]at L;have:=ad.hasLt (ad.Rf L);omega
          |some x=>
           obtain⟨j',u',T,N,Z⟩:=abM _ _ _ _ _ hl;obtain⟨s',a6,rfl⟩:=TS T;simp only[mW,decide_eq_true_eq]at N;have hk:id∈keysOf s'.upd:=(AQ _ _).1 (by rw[Z];simp);have aE:(rs.take i)[j']? =some s':=by rw[oh,au N];exact a6
           have a7:Ae M i (0+j')=false:=by
            cases hu:Ae M i (0+j')with
            |false=>rfl
            |true=>exact absurd hk (adi aD j' s' aE hu)
           have:=ajy j' s' aE a7 hk;exact QO y this ak
       have O:SR P H {h:=H7 (jZ ((iV rs).take i) F0.h) (FN M i (rs.take i) 0),next:=kH (F0.next+ops.size) rs i,lock:=kH (F0.next+ops.size) rs i} w:=g.st.rel.part ai ac;refine C.gen S g V U W hi jd O E (Env.le.refl _) rfl G rfl ai ?_ ?_ ?_ ?_ ?_ ?_ hK
       ·rintro id X ⟨p,y⟩
        exact C.apart g U hi X ⟨p,y⟩
       ·intro b m q;obtain⟨p,y,I⟩:=KD q;obtain⟨T,N⟩:=I m rfl;refine⟨T,.inr ⟨N,?_⟩⟩;cases hg:aC.get {h:=H7 (jZ ((iV rs).take i) F0.h) (FN M i (rs.take i) 0),next:=kH (F0.next+ops.size) rs i,lock:=kH (F0.next+ops.size) rs i} b with
        |none=>rfl
        |some aa=>have:=ac b (O.Rf hg);omega
       ·intro id m p y I;have a4:kH (F0.next+ops.size) rs i<=id:=I;have:=ac id (O.Rf p);omega
       ·show F0.lock<=kH (F0.next+ops.size) rs i
        omega
       ·intro b q;cases hx:gX (Ie τ' (kH (F0.next+ops.size) rs i) (τ'.next-kH (F0.next+ops.size) rs i)) b with
        |none=>exact absurd hx q
        |some x=>exact(KD hx).1
       ·intro id p y;have Y:kH (F0.next+ops.size) rs i<=id:=p;exact⟨ah,ah,.inr ⟨p,y⟩⟩
      ·generalize SY o (bM.eval {t:=ng (jZ ((mJ rs).take i) a0.t) (o.looksAt ops),n:=a0.n,gn:=a0.gn}) (jZ ((iV rs).take i) F0.h)=l at f;split at f
       ·next R=>
        simp only[aO]at R;split at f
        ·next v τ' G=>
         rw[ES]at G;cases f;simp only at al am an
         have O:SR P (H.cut (kH (F0.next+ops.size) rs i)) {h:=ng (jZ ((iV rs).take i) F0.h) l,next:=kH (F0.next+ops.size) rs i,lock:=F0.lock} w:=
          g.st.rel.cutAt ah (λid m h=>(B l rfl id m h).1) (λid m h=>by obtain⟨_,p,y⟩:=B l rfl id m h;have:=Qm R.2 id p;exact⟨this.1,this.2 m y⟩) (dP _)
         refine C.gen S g V U W hi jd O (ay _ R.1) (Env.NH _ _) rfl G rfl (λid m h=>(B l rfl id m h).1) ?_ ?_ ?_ (dP _) ?_ ?_ hK
         ·rintro id X ⟨p,y⟩
          exact C.apart g U hi X ⟨p,y⟩
         ·intro b m q;rw[Xn]at q;split at q
          ·next x hx=>
           cases q;obtain⟨p,y,I⟩:=KD hx;obtain⟨T,N⟩:=I m rfl;refine⟨T,.inr ⟨N,?_⟩⟩;show(ng _ l).get b=none
           rw[DI];split
           ·next hm=>have:=(Qm R.2 b hm).1;omega
           ·rfl
          ·obtain⟨p,y⟩:=abQ q;obtain⟨I,T,aa,N,Z⟩:=FK.1 p;refine⟨y.symm,.inl ⟨aa,?_,Z⟩⟩;show(ng _ l).get b=_
           rw[DI,au I];exact N
         ·intro id m p y I;obtain⟨_,T,N⟩:=B l rfl id m p;rw[AQ];unfold keysOf;rw[oJ,jQ];left;have:=keys_map (Lh (jZ ((iV rs).take i) F0.h) F0.lock l) (λk=>τ'.get k);unfold keysOf at this;rw[this];exact FK.2 ⟨T,I,m,N,y⟩
         ·intro b q;rw[Xn]at q;split at q
          ·next x hx=>
           obtain⟨p,_,_⟩:=KD hx;show F0.lock<=b
           omega
          ·rw[AQ,keys_map]at q;exact(FK.1 q).2.1
         ·intro id p y;have Y:kH (F0.next+ops.size) rs i<=id:=p;exact⟨ah,ah,.inr ⟨p,y⟩⟩
        ·cases f
       ·cases f
end
section
variable{call:Caller}{ops:W6}{M:Q2}{rs:Wm}{a0:bM}{F0:aC}{cf:Nat}{H0:Env}{w0:World}
def inB(b:Array Bool):Nat->Bool:=λj=>b.getD j false
def alD{b:Array Bool}(p:b.size=ops.size){i:Nat}(h:i∈Region.ready .any ops b):i<ops.size/\inB b i=false/\∀o,ops[i]? =some o->∀e∈o.after.toList,Region.binds .any e=true->inB b e.on=true:=by
 unfold Region.ready at h;simp only[CX,Bq,aO,yB]at h;obtain⟨j,g,d⟩:=h;have f:i<b.size:=ah;refine⟨j,?_,?_⟩
 ·unfold inB;rw[Bh,Eo f]at g⊢;exact g
 ·intro o k e l m;rw[k]at d;simp only[iO,tX]at d;rw[Array.all_eq_true']at d;have:=d e (by simpa using l);rw[m]at this;simpa[inB]using this
def count_set(b:Array Bool)(i:Nat)(h:b[i]? =some false):(b.setIfInBounds i true).toList.count false+1=b.toList.count false:=by
 have d:i<b.size:=(tH.1 h).1;have g:b[i]=false:=(tH.1 h).2;have e:b.toList[i]'(by simpa using d)=false:=by simpa using g
 have f:0<b.toList.count false:=List.count_pos_iff.2 (by rw[<-e];exact iZ _);rw[Array.toList_setIfInBounds,List.count_set (by simpa using d),e];have j:((false==false)=true):=rfl;have k:¬((true==false)=true):=aU;rw[au j,aj k];omega
def aaT{α:Type}:∀(b:List (List (Nat×Option α)))(k:Nat)(D:Nat->Bool)(t:Tr α),(∀j,j<b.length->D (k+j)=true)->lI b k D t=jZ b t
 |[],_,_,_,_=>rfl
 |u::b,k,D,t,h=>by have h0:=h 0 aA;simp only[qg]at h0;rw[lI,au h0,jZ,aaT b (k+1) D _ (λj d=>by rw[(ah:k+1+j=k+(j+1))];exact h (j+1) (by simpa using d))]
end
section
variable{ops:W6}{M:Q2}{rs:Wm}{a0:bM}{F:aC}{H0:Env}{w0:World}{n N0:Nat}
def aon(C:uF ops M rs n N0)(Inv:(Nat->Bool)->Env->World->Act->Prop)
 (s:∀D H w A i (K:Act->World->Prop) (Q:Exit->Act->World->Prop),Inv D H w A->i<ops.size->D i=false->(∀o,ops[i]? =some o->∀e∈o.after.toList,Region.binds .any e=true->D e.on=true)->
  (∀H' t w',Inv (nM D i) H' w' t->K t w')->wpOp P ops Q i K A w) {Q:Exit->Act->World->Prop}
 (X:∀H' t w',Inv (λj=>decide (j<ops.size)) H' w' t->Q .normal t w'):
 ∀(fuel:Nat)(b:Array Bool)(H:Env)(w:World)(A:Act),b.size=ops.size->b.toList.count false=fuel->Inv (inB b) H w A->wpAny P .any ops Q fuel b A w:=by
 intro fuel;induction fuel with
 |zero=>
  intro b H w A E U f;have m:∀j,j<ops.size->inB b j=true:=by
   intro j v;have d:j<b.size:=ah;have u:b[j]∈b.toList:=aA;have:false∉b.toList:=List.count_eq_zero.1 U;unfold inB;rw[Bh,Eo d];cases L:b[j]with
   |true=>rfl
   |false=>rw[L]at u;exact absurd u this
  have N:inB b=λj=>decide (j<ops.size):=by
   funext j;by_cases v:j<ops.size
   ·rw[m j v];simp[v]
   ·unfold inB;rw[Bh,Array.getElem?_eq_none ah];simp[v]
  refine⟨?_,?_⟩
  ·apply List.eq_nil_iff_forall_not_mem.2;intro i hi;obtain⟨p,g,_⟩:=alD E hi;rw[m i p]at g;cases g
  ·rw[N]at f;exact X H A w f
 |succ fuel Y=>
  intro b H w A E U f;refine⟨λZ=>?_,λi hi=>?_⟩
  ·exfalso;have O:∃i,i<ops.size/\inB b i=false/\∀j,j<i->inB b j=true:=by
    have y:0<b.toList.count false:=ah;have u:=List.count_pos_iff.1 y;obtain⟨k,G⟩:=Zj.1 u;have R:k<ops.size:=by have:=(gy.1 G).1;simp at this;omega
    have Rl:inB b k=false:=by unfold inB;rw[Bh];rw[yA]at G;rw[G];rfl
    clear u G;induction k using Nat.strongRecOn with
    |_ k S=>
     by_cases I:∃j,j<k/\inB b j=false
     ·obtain⟨j,p,g⟩:=I;exact S j p ah g
     ·refine⟨k,R,Rl,λj v=>?_⟩;cases L:inB b j with
      |true=>rfl
      |false=>exact absurd ⟨j,v,L⟩ I
   obtain⟨i,p,g,T⟩:=O;have q:i∈Region.ready .any ops b:=by
    unfold Region.ready;simp only[CX,Bq,aO,yB];have d:i<b.size:=ah;refine⟨p,?_,?_⟩
    ·unfold inB at g;rw[Bh,Eo d]at g⊢;exact g
    ·have V:ops[i]? =some ops[i]:=by simp[p]
     rw[V];simp only[iO,tX];rw[Array.all_eq_true'];intro e he;cases I:Region.binds .any e with
     |false=>rfl
     |true=>
      simp only[Za,Bj];obtain⟨u,W⟩:=C.mask V;have z:xk M e.on i=true:=by
       unfold xk;rw[Aj,u];simp only[tX];have:∀(es:List Edge),e∈es->(Ci (λj=>(M.take i).getD j 0) es).testBit e.on=true:=by
        intro es;induction es with
        |nil=>intro h;simp at h
        |cons x es B=>
         intro h;rw[Ci];simp only[bH]at h;rcases h with rfl|h
         ·rw[au I,Uz,Uz,Nat.testBit_two_pow];simp
         ·split
          ·rw[Uz,B h,Bool.or_true]
          ·exact B h
       exact this _ (by simpa using he)
      exact T e.on (C.aco z)
   rw[Z]at q;simp at q
  ·obtain⟨p,g,T⟩:=alD E hi;refine s _ _ _ _ i _ Q f p g T λH' t w' l=>?_;have hf:b[i]? =some false:=by have d:i<b.size:=ah;unfold inB at g;rw[Bh,Eo d]at g;rw[Eo d];simpa using g
   have N:nM (inB b) i=inB (b.setIfInBounds i true):=by
    funext j;unfold nM inB;have d:i<b.size:=ah;rw[Bh,Bh,Ep];by_cases e:i=j
    ·subst e;rw[au rfl,au d];simp
    ·rw[aj e,Iz (λe'=>e e'.symm)];simp
   rw[N]at l;exact Y _ H' w' t (by simpa using E) (by have:=count_set b i hf;omega) l
end
def amP{ops:W6}{M:Q2}:∀(k i j:Nat),YJ ops M k<=i->i<k->qj ops i=false->j<i->qj ops j=true\/xk M j i=true
 |0,i,j,_,h,_,_=>ah
 |k+1,i,j,h1,g,b,d=>by
  unfold YJ at h1;split at h1
  ·next f=>
   by_cases e:i=k
   ·subst e;rw[b,Bj,List.all_eq_true]at f;have:=f j (by simpa using d);rwa [qF]at this
   ·exact amP k i j h1 ah b d
  ·omega
def YK:∀(rs:Wm)(r:dW)(F:aC),yx (rs++[r]) F=match r.fin with|some τ=>τ|none=>yx rs F
 |[],_,_=>rfl
 |s::rs,r,F=>by
  show yx (rs++[r]) _=_
  rw[YK rs r];rfl
def aeb{rs:Wm}{F:aC}:∀k,k<=rs.length->(∀(i:Nat) r,i<k->rs[i]? =some r->r.fin=none)->yx (rs.take k) F=F
 |0,_,_=>by simp[yx]
 |k+1,e,h=>by
  obtain⟨r,b⟩:∃r,rs[k]? =some r:=⟨_,cO ah⟩
  rw[Uo,b,afk,YK,h k r ah b];exact aeb k ah (λi d hi=>h i d ah)
def aec{rs:Wm}{F:aC}{m:Nat}{r:dW}{τ:aC}(g:rs[m]? =some r)(j:r.fin=some τ):∀k,m<k->k<=rs.length->(∀(i:Nat) d,m<i->i<k->rs[i]? =some d->d.fin=none)->yx (rs.take k) F=τ
 |0,h,_,_=>ah
 |k+1,p,q,h=>by
  by_cases e:m=k
  ·subst e;rw[Uo,g,afk,YK,j]
  ·obtain⟨d,b⟩:∃r,rs[k]? =some r:=⟨_,cO ah⟩
   rw[Uo,b,afk,YK,h k d ah ah b];exact aec g j k ah ah (λi f l s=>h i f l ah)
def auw{call:Caller}{o:Oper}(l:EW o=true){g:QQ}{F1 F2 τ:aC}{v:Q4}(b:BQ P call o g F1=some (v,τ)):BQ P call o g F2=some (v,F2):=by
 rw[ES]at b⊢;obtain⟨m,h,j,pos,f,guard⟩:=o;cases h with
 |move x=>simp only[xI,fM,bI,qI]at b⊢;obtain⟨u,d,e,_⟩:=b;exact⟨u,d,e,trivial⟩
 |assign x=>simp only[xI,fM,bI,qI]at b⊢;obtain⟨u,d,e,_⟩:=b;exact⟨u,d,e,trivial⟩
 |extract x k=>
  simp only[xI]at b⊢;split at b
  ·simp only[fM,bI,qI]at b⊢;obtain⟨u,d,e,_⟩:=b;exact⟨u,d,e,trivial⟩
  ·cases b
 |binOp h t x y z=>
  simp only[xI]at b⊢;split at b
  ·simp only[fM,bI,qI]at b⊢;obtain⟨u,d,e,_⟩:=b;exact⟨u,d,e,trivial⟩
  ·cases b
 |_=>simp[EW]at l
def apx{o:Oper}(e:EW o=true)(f:QQ):agy o f=.na []:=by obtain⟨g,h,d,pos,b,guard⟩:=o;cases h<;>first|rfl|(simp[EW]at e)
def atg{call:Caller}{ops:W6}{d gn n i c:Nat}{e:Wm}{t:Tr AV}{h:Tr bP}{r:dW}(b:NI P call ops d gn n e i t h c=some r):r.next=c:=by
 unfold NI at b;split at b
 ·cases b
 ·split at b
  ·cases b
  ·cases b;rfl
  ·split at b
   ·cases b;rfl
   ·cases b
def aav{call:Caller}{ops:W6}{M:Q2}{N0 d gn n i c:Nat}{f:Wm}{t:Tr AV}{h:Tr bP}{r:dW}{o:Oper}(p:ops[i]? =some o)(g:EW o=true)(b:Dv P call ops M N0 d gn n f i t h c=some r):
 r.upd=[]/\r.next=c/\r.fin=none/\((Mc o ops {t:=ng t (o.looksAt ops),n:=n,gn:=gn}=some false/\r.slot=uh o (some (.fK [])))\/
  (Mc o ops {t:=ng t (o.looksAt ops),n:=n,gn:=gn}=some true/\∃v,(∀j,BQ P call o (bM.eval {t:=ng t (o.looksAt ops),n:=n,gn:=gn}) j=some (v,j))/\r.slot=uh o v)):=by
 unfold Dv at b;rw[p]at b;simp only at b;split at b
 ·cases b
 ·next k=>cases b;exact⟨rfl,rfl,rfl,.inl ⟨k,rfl⟩⟩
 ·next k=>
  split at b
  ·next u e=>exfalso;obtain⟨q,x,m,pos,l,guard⟩:=o;cases e;simp[EW]at g
  ·rw[apx g]at b;simp only at b;split at b
   ·next v τ s=>
    split at b
    ·cases b;exact⟨rfl,rfl,rfl,.inr ⟨k,v,λj=>auw g s,rfl⟩⟩
    ·cases b
   ·cases b
def aah{ops:W6}{D:Nat->Bool}{i:Nat}(h:Closed ops D)(k:∀o,ops[i]? =some o->∀e∈o.after.toList,Region.binds .any e=true->D e.on=true):Closed ops (nM D i):=by
 intro j o b d e f g;unfold nM at b⊢;rw[qF]at b⊢;rcases b with b|b
 ·exact .inl (h j o b d e f g)
 ·have:=bV b;subst this;exact .inl (k o d e f g)
section
variable{call:Caller}{ops:W6}{M:Q2}{rs:Wm}{a:bM}{F:aC}{c:Nat}{D:Nat->Bool}
def Ctx.act'(C:Ctx P call ops M rs a F c)(g:Closed ops D){i:Nat}{o:Oper}{r:dW}(h:ops[i]? =some o)(j:rs[i]? =some r)(hi:D i=false)(k:∀e∈o.after.toList,Region.binds .any e=true->D e.on=true)
 {H:Env} {A:Act} (b:TR P H {t:=lI (mJ rs) 0 D a.t,n:=a.n,gn:=a.gn} A):TR P H {t:=ng (jZ ((mJ rs).take i) a.t) (o.looksAt ops),n:=a.n,gn:=a.gn} A:=by
 refine⟨b.gn,b.size,b.none,λd v f=>?_⟩;rw[DI]at f;split at f
 ·next l=>
  rw[C.al5 (a0:=a) g h j hi k l]at f;exact b.slot d v f
 ·cases f
def Ctx.last(C:Ctx P call ops M rs a F c)(k:uD P call)(p:Closed ops D){i:Nat}{o:Oper}{r:dW}(y:ops[i]? =some o)(z:rs[i]? =some r)(hi:D i=false)(L:∀e∈o.after.toList,Region.binds .any e=true->D e.on=true)(G:qy ops M i=true)
 {H H1:Env} {w0 w1:World} {A:Act} (l:St P H F w0 H1 (yx (rs.take i) {h:=jZ ((iV rs).take i) F.h,next:=kH (F.next+ops.size) rs i,lock:=F.lock}) w1)
 (m:TR P H1 {t:=lI (mJ rs) 0 D a.t,n:=a.n,gn:=a.gn} A) {K:Act->World->Prop} {Q:Exit->Act->World->Prop}
 (N:∀B O E τ,r.fin=some τ->St P H F w0 B τ E->TR P B {t:=lI (mJ rs) 0 (nM D i) a.t,n:=a.n,gn:=a.gn} O->K O E):wpOp P ops Q i K A w1:=by
 have b:=C.one i r z;unfold zU at b;rw[au G]at b;unfold NI at b;rw[y]at b;simp only at b;have f:=C.act' p y z hi L m;have g:=λd=>C.Wq (a0:=a) p y z hi L d;have q:=(C.slot i r z).2;unfold wpOp;rw[y];simp only;split at b
 ·cases b
 ·next I=>
  cases b;rw[I9 f I];simp only[iI,if_false];exact N H1 _ w1 _ rfl l (m.add (Env.le.refl _) g q (by rintro u R;cases R;exact⟨[],rfl,rfl⟩))
 ·next I=>
  rw[I9 f I];simp only[if_true];left;split at b
  ·next v τ s=>
   rw[ES]at s;cases b;refine Zz l.rel k f s λx B E j S=>?_;exact N B _ E _ rfl (l.trans j) (m.add j.ext g q S)
  ·cases b
def Ctx.free(C:Ctx P call ops M rs a F c)(k:uD P call)(q:Closed ops D){i:Nat}{o:Oper}{r:dW}(s:ops[i]? =some o)(z:rs[i]? =some r)(hi:D i=false)(N:∀e∈o.after.toList,Region.binds .any e=true->D e.on=true)(O:EW o=true)
 {H H1:Env} {τ:aC} {w0 w1:World} {A:Act} (l:St P H F w0 H1 τ w1) (m:TR P H1 {t:=lI (mJ rs) 0 D a.t,n:=a.n,gn:=a.gn} A) {K:Act->World->Prop} {Q:Exit->Act->World->Prop}
 (R:∀B S E,St P H F w0 B τ E->TR P B {t:=lI (mJ rs) 0 (nM D i) a.t,n:=a.n,gn:=a.gn} S->K S E):wpOp P ops Q i K A w1:=by
 have f:=C.one i r z;unfold zU at f;have G:qy ops M i=false:=by unfold qy qj;rw[s];simp only[O,Za,Bool.and_false]
 rw[G]at f;simp only[iI,if_false]at f;obtain⟨_,_,_,p⟩:=aav s O f;have g:=C.act' q s z hi N m;have b:=λd=>C.Wq (a0:=a) q s z hi N d;have h:=(C.slot i r z).2;unfold wpOp;rw[s];simp only;rcases p with⟨I,L⟩|⟨I,v,T,L⟩
 ·rw[L]at b h;rw[I9 g I];simp only[iI,if_false];exact R H1 _ w1 l (m.add (Env.le.refl _) b h (by rintro u U;cases U;exact⟨[],rfl,rfl⟩))
 ·rw[L]at b h;rw[I9 g I];simp only[if_true];left;have y:=T τ;rw[ES]at y;refine Zz l.rel k g y λx B E j V=>?_;exact R B _ E (l.trans j) (m.add j.ext b h V)
def Ctx.amQ(C:Ctx P call ops M rs a F c){l:Nat}(d:∀i,l<=i->i<ops.size->qy ops M i=true\/qj ops i=true):∀k,l+k<=ops.size->kH (F.next+ops.size) rs (l+k)=kH (F.next+ops.size) rs l
 |0,_=>rfl
 |k+1,h=>by
  have g:=C.amQ d k ah;obtain⟨r,e⟩:∃r,rs[l+k]? =some r:=⟨_,cO (by rw[C.len];omega)⟩
  obtain⟨o,f⟩:∃o,ops[l+k]? =some o:=⟨ops[l+k],aA⟩
  have b:=C.one _ _ e;unfold zU at b;rw[(ah:l+(k+1)=(l+k)+1),Qy rs _ _ _ e,<-g];split at b
  ·exact atg b
  ·next j=>
   rcases d (l+k) ah ah with h1|h1
   ·exact absurd h1 j
   ·unfold qj at h1;rw[f]at h1;exact(aav f h1 b).2.1
end
def atE(hm:P.follows .mixedOrders=true):Ui P (Zy P):=by
 intro call v ops a F a' F' hs H w A id Q h ht hK;unfold Zy at hs;simp only at hs;split at hs
 ·next ad=>
  simp only[aO]at ad;split at hs
  ·next rs t hh c ay=>
   split at hs
   ·next BU=>
    simp only[aO]at BU;obtain⟨⟨⟨az,am⟩,ae⟩,an⟩:=BU;obtain⟨new,x,O,h3,h4,h5,h6⟩:=agS _ _ _ _ _ _ _ _ _ _ ay;simp only[aZ]at x;subst x
    have C:Ctx P call ops (oP ops.toList []) rs a F c:={
     hM:=rfl
     mok:=ad.1
     len:=O
     one:=λi r E=>by have:=h6 i r E;simpa using this
     pairs:=azR az am (λi r E=>by have:=h6 i r E;exact atm (by simpa using this))
     slot:=by intro i r E;unfold ams at ae;rw[List.all_eq_true]at ae;have:=ae r (tN E);simp only[aO]at this;refine⟨Nat.le_of_ble_eq_true this.1,λp aD=>?_⟩;have h8:=this.2;rw[List.all_eq_true]at h8;have:=h8 p aD;rwa [jY]at this
     fin:=h5
     big:=wB an
     lock:=wB ad.2}
    refine wp_region_any hm ?_;have G:=C.aac;have R:inB (Array.replicate ops.size false)=λ_=>false:=by funext j;unfold inB;rw[Bh,Array.getElem?_replicate];split<;>rfl
    have ao:∀{α:Type}(us:List (List (Nat×Option α)))(k:Nat)(t:Tr α),lI us k (λ_=>false) t=t:=by
     intro α us;induction us with
     |nil=>intro k t;rfl
     |cons u us ih=>intro k t;rw[lI];simp only[iI,if_false];exact ih _ _
    have start:Es P ops rs a F c H {w with drawn:=w.drawn+1} (λ_=>false) H {w with drawn:=w.drawn+1} A:=by
     refine⟨λi o hi=>by simp at hi,?_,?_,λid hq=>.inl (h.hasLt hq)⟩
     ·rw[ao];refine(St.refl h.drew).sub (λid o W=>W) (by show F.next<=c;omega) rfl
     ·rw[ao];exact⟨ht.gn,ht.size,ht.none,ht.slot⟩
    have ap:lI (mJ rs) 0 (λj=>decide (j<ops.size)) a.t=t:=by rw[h3];exact aaT _ _ _ _ (λj q=>by simp[mJ]at q⊢;omega)
    have I:∀i,i<ops.size->qy ops (oP ops.toList []) i=true->qj ops i=false/\∀j,j<i->qj ops j=true\/xk (oP ops.toList []) j i=true:=by intro i hi d;unfold qy at d;rw[aO,yB]at d;exact⟨d.2,λj q=>amP _ _ _ (wB d.1) hi d.2 q⟩
    have af:∀i j,i<=j->j<ops.size->qy ops (oP ops.toList []) i=true->qy ops (oP ops.toList []) j=true\/qj ops j=true:=by
     intro i j aE q d;unfold qy at d⊢;rw[aO,yB]at d;have:=wB d.1;cases V:qj ops j with
     |true=>exact .inr rfl
     |false=>left;rw[afe (kZ this aE)];rfl
    have L:∀i,qj ops i=true->qy ops (oP ops.toList []) i=false:=by intro i V;unfold qy;rw[V];simp
    have S:∀(i:Nat) r,rs[i]? =some r->qy ops (oP ops.toList []) i=false->r.fin=none:=by intro i r E hi;have g:=C.one i r E;unfold zU at g;rw[hi]at g;simp only[iI,if_false]at g;exact atl g
    have aL:∀(i:Nat) r,rs[i]? =some r->qj ops i=true->r.upd=[]:=by
     intro i r E V;have g:=C.one i r E;unfold zU at g;rw[L i V]at g;simp only[iI,if_false]at g;unfold qj at V;split at V
     ·next o W=>exact(aav W V g).1
     ·cases V
    let wd:World:={w with drawn:=w.drawn+1}
    cases hs
    refine aon C.touF (λD X w1 A1=>((∀i,i<ops.size->qy ops (oP ops.toList []) i=true->D i=false)/\Es P ops rs a F c H wd D X w1 A1)\/
     ∃m,m<ops.size/\qy ops (oP ops.toList []) m=true/\Closed ops D/\(∀j,j<ops.size->qj ops j=false->D j=decide (j<=m))/\∃r τ,rs[m]? =some r/\r.fin=some τ/\St P H F wd X τ w1/\TR P X {t:=lI (mJ rs) 0 D a.t,n:=a.n,gn:=a.gn} A1) ?_ ?_ ops.size (Array.replicate ops.size false) H _ A aA aA (.inl ⟨λi _ _=>by rw[R],by rw[R];exact start⟩)
    ·intro D X w1 A1 i K Q' f y hi Ih aa;obtain⟨o,W⟩:∃o,ops[i]? =some o:=⟨ops[i],by simp[y]⟩
     obtain⟨r,E⟩:∃r,rs[i]? =some r:=⟨_,cO (by rw[O];exact y)⟩
     have jd:=Ih o W;rcases f with⟨hD,f⟩|⟨m,aq,ag,G,Ob,r1,τ1,hr1,ab,T,Rt⟩
     ·by_cases d:qy ops (oP ops.toList []) i=true
      ·
        obtain⟨a7,ar⟩:=I i y d;have ai:∀j,j<ops.size->qj ops j=false->D j=decide (j<i):=by
         intro j q s;by_cases x:j<i
         ·have:D j=true:=C.uO f.closed i o W jd j ((ar j x).resolve_left (by rw[s];simp));rw[this];simp[x]
         ·have:D j=false:=hD j q ((af i j ah q d).resolve_right (by rw[s];simp));rw[this];simp[x]
        have aM:∀j,j<i->qy ops (oP ops.toList []) j=false:=by
         intro j q;cases e:qy ops (oP ops.toList []) j with
         |false=>rfl
         |true=>have x:=hD j ah e;rw[ai j ah (I j ah e).1]at x;exact absurd q (of_decide_eq_false x)
        have aR:∀b,(jZ ((iV rs).take i) F.h).get b=(lI (iV rs) 0 D F.h).get b:=by
         intro b;rw[N7 (iV rs) i 0,EZ];congr 1;refine Ot _ _ _ _ _ λj u q av=>?_;have Y:j<ops.size:=by have:=(gy.1 q).1;simp[iV]at this;omega
         simp only[mW]at av;cases s:qj ops j with
         |false=>exact absurd (ai j Y s).symm av
         |true=>obtain⟨r',a0,hu⟩:=TS q;rw[aL j r' a0 s]at hu;subst hu;rfl
        have Oh:kH (F.next+ops.size) rs i=c:=by have:=C.amQ (l:=i) (λk x O=>af i k x O d) (ops.size-i) ah;rw[(ah:i+(ops.size-i)=ops.size)]at this;rw[<-this];exact C.fin.symm
        have N:∀Z,yx (rs.take i) Z=Z:=λZ=>aeb i ah λj r' x O=>S j r' O (aM j x);refine C.last v f.closed W E hi jd d (H:=H) (w0:=wd) (H1:=X) ?_ f.tr λH' A' w' τ V z B=>aa H' A' w' (.inr ⟨i,y,d,aah f.closed Ih,?_,r,τ,E,V,z,B⟩)
        ·rw[N];refine f.st.sub (λaw o' a1=>?_) (MV Oh.symm) rfl;rw[show(aC.get {h:=lI (iV rs) 0 D F.h,next:=c,lock:=F.lock} aw)=(lI (iV rs) 0 D F.h).get aw from rfl,<-aR];exact a1
        ·intro j q s;unfold nM;rw[ai j q s];by_cases e:j=i
         ·subst e;simp
         ·rw[Iz e,MF];congr 1;apply propext;omega
      ·have ax:qy ops (oP ops.toList []) i=false:=by simpa using d
       refine C.step v h.drew f y hi Ih ax λH' A' w' ak=>aa H' A' w' (.inl ⟨λj q Y=>?_,ak⟩);have al:j≠i:=λe=>by subst e;rw[ax]at Y;cases Y
       unfold nM;rw[hD j q Y,Iz al];rfl
     ·cases U:qj ops i with
      |true=>
       have a2:EW o=true:=by unfold qj at U;rw[W]at U;exact U
       refine C.free v G W E hi jd a2 T Rt λH' A' w' z B=>aa H' A' w' (.inr ⟨m,aq,ag,aah G Ih,?_,r1,τ1,hr1,ab,z,B⟩);intro j q s;have al:j≠i:=λe=>by subst e;rw[U]at s;cases s
       unfold nM;rw[Ob j q s,Iz al,MF]
      |false=>
       have a8:¬i<=m:=by intro a3;rw[Ob i y U]at hi;exact of_decide_eq_false hi a3
       have d:qy ops (oP ops.toList []) i=true:=(af m i ah y ag).resolve_right (by rw[U];simp);have ac:∀j,m<j->j<i->qj ops j=true:=by
        intro j x O;cases s:qj ops j with
        |true=>rfl
        |false=>have h8:D j=true:=C.uO G i o W jd j (((I i y d).2 j O).resolve_left (by rw[s];simp));rw[Ob j ah s]at h8;have:=DW h8;omega
       have N:∀Z,yx (rs.take i) Z=τ1:=λZ=>aec hr1 ab i ah ah λj r' x O h3=>S j r' h3 (L j (ac j x O));refine C.last v G W E hi jd d (H:=H) (w0:=wd) (H1:=X) (by rw[N];exact T) Rt λH' A' w' τ V z B=>aa H' A' w' (.inr ⟨i,y,d,aah G Ih,?_,r,τ,E,V,z,B⟩);intro j q s;unfold nM;rw[Ob j q s];by_cases e:j=i
       ·subst e;simp
       ·rw[Iz e,MF];congr 1;apply propext;constructor
        ·omega
        ·intro x;apply Classical.byContradiction;intro O;have:=ac j ah ah;rw[this]at s;cases s
    ·intro X A1 w1 f;rcases f with⟨hD,f⟩|⟨m,aq,ag,G,Ob,r1,τ1,hr1,ab,T,Rt⟩
     ·have a4:∀i,i<ops.size->qy ops (oP ops.toList []) i=false:=by
       intro i hi;cases e:qy ops (oP ops.toList []) i with
       |false=>rfl
       |true=>have:=hD i hi e;simp at this;omega
      have N:yx rs {h:=hh,next:=c,lock:=F.lock} ={h:=hh,next:=c,lock:=F.lock}:=by have:=aeb (rs:=rs) (F:={h:=hh,next:=c,lock:=F.lock}) rs.length (dP _) λj r' x O=>S j r' O (a4 j ah);rwa [Bv]at this
      rw[N]at hK;have a5:lI (iV rs) 0 (λj=>decide (j<ops.size)) F.h=hh:=by rw[h4];exact aaT _ _ _ _ (λj q=>by simp[iV]at q⊢;omega)
      have z:=f.st;have B:=f.tr;rw[a5]at z;rw[ap]at B;exact hK X A1 w1 ((St.drew h).trans z) B
     ·have N:∀Z,yx rs Z=τ1:=by
       intro Z;have:=aec (F:=Z) hr1 ab rs.length ah (dP _) λj r' x O h3=>by
        refine S j r' h3 (L j ?_);cases s:qj ops j with
        |true=>rfl
        |false=>
         have h9:decide (j<ops.size)=decide (j<=m):=Ob j ah s;have a6:decide (j<ops.size)=true:=by simp;omega
         rw[a6]at h9;have:=DW h9.symm;omega
       rwa [Bv]at this
      rw[N]at hK;rw[ap]at Rt;exact hK X A1 w1 ((St.drew h).trans T) Rt
   ·cases hs
  ·cases hs
 ·cases hs
section
variable{call:Caller}{ops:W6}{M:Q2}{N0 gn n:Nat}
end
def ahh(d:P.follows .mixedOrders=true):Ui P (Zx P):=by intro call b ops a F e f g;exact atE d call b ops a F e f g
