/- Regions whose order Go leaves open: one operation keeps the invariant. -/
import Derived.Test.YthchhlenbkefnaaGreatDoorAbsF
set_option linter.all false
namespace Go.aN
noncomputable section
variable[aH]
variable{P:Program}
structure DT(P:Program)(ops:W5)(rs:Wk)(a0:bG)(J0:aA)(cf:Nat)(F0:Env)(w0:World)(D:Nat->Bool)(F:Env)(w:World)(A:Act):Prop where
 closed:Closed ops D
 st:St P F0 J0 w0 F {h:=kR (iF rs) 0 D J0.h,next:=cf,lock:=J0.lock} w
 tr:TR P F {t:=kR (lI rs) 0 D a0.t,n:=a0.n,gn:=a0.gn} A
 dm:∀id,F.has id->id<J0.next\/(∃k,k<ops.size/\D k=true/\id=J0.next+k)\/(∃(j:Nat)(r:dM),rs[j]? =some r/\D j=true/\r.base<=id/\id<r.next)
def TR.add{F F':Env}{T l:Tr AV}{n gn:Nat}{A:Act}{o:Oper}{v:Q4}{x:Value}(h:TR P F {t:=T,n:=n,gn:=gn} A)(g:F.le F')(f:∀d,l.get d=(gu (su o v) d).getD (T.get d))
 (j:∀p∈su o v,p.1<n) (s:∀u,v=some u->VR F' u x):TR P F' {t:=l,n:=n,gn:=gn} (A.put o.dst x):=by
 have m:=h.mono g;unfold su at f j;cases q:o.dst with
 |none=>rw[q]at f;refine⟨h.gn,h.size,h.none,λd u b=>?_⟩;rw[f]at b;exact m.slot d u b
 |some d0=>
  rw[q]at f j;have k:=j (d0,v) (by simp);refine⟨h.gn,by have:=h.size;simpa[Act.put]using this,h.none,λd u b=>?_⟩;rw[f]at b;simp only[gu]at b;show ∃y,(A.tmps.setIfInBounds d0 x)[d]? =some y/\_
  rw[DR];by_cases e:d=d0
  ·subst e;rw[aj rfl,aj (by have:=h.size;simp only at this k;omega)];rw[aj rfl]at b;exact⟨x,rfl,s u b⟩
  ·rw[ah (λz=>e z.symm)];rw[ah e]at b;exact m.slot d u b
section
variable{call:Caller}{ops:W5}{M:Q2}{rs:Wk}{a0:bG}{J0:aA}{cf:Nat}{F0 F:Env}{w0 w:World}{D:Nat->Bool}{A:Act}{i nn N0:Nat}{o:Oper}{r:dM}
def mG(D:Nat->Bool)(i:Nat):Nat->Bool:=λj=>D j ||Nat.beq j i
def aFm{rs:Wk}{i:Nat}{r:dM}(h:rs[i]? =some r):(iF rs)[i]? =some r.upd:=by simp[iF,h]
def aDT{rs:Wk}{i:Nat}{r:dM}(h:rs[i]? =some r):(lI rs)[i]? =some r.slot:=by simp[lI,h]
def Sl{rs:Wk}{i:Nat}{u:WP}(h:(iF rs)[i]? =some u):∃r,rs[i]? =some r/\r.upd=u:=by simpa[iF]using h
def alr{rs:Wk}{i:Nat}{u:List (Nat×Q4)}(h:(lI rs)[i]? =some u):∃r,rs[i]? =some r/\r.slot=u:=by simpa[lI]using h
def NU{N0 i j:Nat}{r s:dM}{o:Oper}(e:ops[i]? =some o)(h:Rj ops N0 i j r s=true):qW (keysOf r.slot) (keysOf s.slot)=true/\qW (o.looksAt ops) (keysOf s.slot)=true/\qW (keysOf r.upd) (keysOf s.upd)=true/\
 (∀l,r.vis=some l->qW l (keysOf s.upd)=true)/\(r.vis=none->i<j->(∀k∈keysOf s.upd,N0<=k)/\qW r.loc (keysOf s.upd)=true/\s.base=s.next)/\(r.vis=none->i≠j->j<i\/i<j):=by
 unfold Rj at h;rw[e]at h;simp only[aK]at h;obtain⟨⟨⟨f,g⟩,m⟩,b⟩:=h;refine⟨f,g,m,?_,?_,λ_ p=>by omega⟩
 ·intro l q;rw[q]at b;exact b
 ·intro t u;rw[t]at b;simp only[oK,aK]at b;rcases b with b|⟨⟨d,v⟩,x⟩
  ·rw[jB]at b;omega
  ·refine⟨λk y=>?_,v,bK x⟩;rw[List.all_eq_true]at d;exact vC (d k y)
def sQ.ahk(C:sQ ops M rs nn N0)(p:Closed ops D)(h:ops[i]? =some o)(k:rs[i]? =some r)(hi:D i=false)(q:∀e∈o.after.toList,Region.binds .any e=true->D e.on=true)(b:Nat):
 (kR (iF rs) 0 (mG D i) J0.h).get b=(gu r.upd b).getD ((kR (iF rs) 0 D J0.h).get b):=by
 rw[Ep,Ep];have:=aa3 (iF rs) 0 i D b r.upd (aFm k) (by simpa using hi) (λj v t u l d=>by
  obtain⟨s,m,rfl⟩:=Sl t;have f:j<ops.size:=by have:=(fM.1 m).1;rw[C.len]at this;exact this
  have g:=C.open_ p h hi q f (by simp at l;rw[l];simp;omega);have x:=NU h (C.pairs i j r s k m g);exact QO (Qg x.2.2.1 ((zV _ _).1 d)))
 simp only[lQ]at this;unfold mG;rw[this];cases gu r.upd b<;>rfl
def sQ.Vx(C:sQ ops M rs nn N0)(p:Closed ops D)(h:ops[i]? =some o)(k:rs[i]? =some r)(hi:D i=false)(q:∀e∈o.after.toList,Region.binds .any e=true->D e.on=true)(b:Nat):
 (kR (lI rs) 0 (mG D i) a0.t).get b=(gu r.slot b).getD ((kR (lI rs) 0 D a0.t).get b):=by
 rw[Ep,Ep];have:=aa3 (lI rs) 0 i D b r.slot (aDT k) (by simpa using hi) (λj v t u l d=>by
  obtain⟨s,m,rfl⟩:=alr t;have f:j<ops.size:=by have:=(fM.1 m).1;rw[C.len]at this;exact this
  have g:=C.open_ p h hi q f (by simp at l;rw[l];simp;omega);have x:=NU h (C.pairs i j r s k m g);exact QO (Qg x.1 ((zV _ _).1 d)))
 simp only[lQ]at this;unfold mG;rw[this];cases gu r.slot b<;>rfl
def sQ.ak1(C:sQ ops M rs nn N0)(l:Closed ops D)(h:ops[i]? =some o)(m:rs[i]? =some r)(hi:D i=false)(p:∀e∈o.after.toList,Region.binds .any e=true->D e.on=true){d:Nat}(q:d∈o.looksAt ops):
 (jD ((lI rs).take i) a0.t).get d=(kR (lI rs) 0 D a0.t).get d:=by
 rw[Nc (lI rs) i 0,Ep];congr 1;refine NG _ _ _ _ _ λj u t b=>?_;obtain⟨s,k,rfl⟩:=alr t;have f:j<ops.size:=by have:=(fM.1 k).1;rw[C.len]at this;exact this
 simp only[lQ]at b;have g:=C.open_ l h hi p f (λe=>b e.symm);have v:=NU h (C.pairs i j r s m k g);exact QO (Qg v.2.1 q)
def sQ.aDt(C:sQ ops M rs nn N0)(m:Closed ops D)(h:ops[i]? =some o)(p:rs[i]? =some r)(hi:D i=false)(q:∀e∈o.after.toList,Region.binds .any e=true->D e.on=true){l:Q2}(t:r.vis=some l){b:Nat}(v:b∈l):
 (jD ((iF rs).take i) J0.h).get b=(kR (iF rs) 0 D J0.h).get b:=by
 rw[Nc (iF rs) i 0,Ep];congr 1;refine NG _ _ _ _ _ λj u x d=>?_;obtain⟨s,k,rfl⟩:=Sl x;have f:j<ops.size:=by have:=(fM.1 k).1;rw[C.len]at this;exact this
 simp only[lQ]at d;have g:=C.open_ m h hi q f (λe=>d e.symm);have y:=NU h (C.pairs i j r s p k g);exact QO (Qg (y.2.2.2.1 l t) v)
def Ctx.act(C:Ctx P call ops M rs a0 J0 cf)(b:DT P ops rs a0 J0 cf F0 w0 D F w A)(g:ops[i]? =some o)(h:rs[i]? =some r)(hi:D i=false)(j:∀e∈o.after.toList,Region.binds .any e=true->D e.on=true):
 TR P F {t:=lU (jD ((lI rs).take i) a0.t) (o.looksAt ops),n:=a0.n,gn:=a0.gn} A:=by
 refine⟨b.tr.gn,b.tr.size,b.tr.none,λd v f=>?_⟩;rw[CV]at f;split at f
 ·next k=>
  rw[C.ak1 (a0:=a0) b.closed g h hi j k]at f;exact b.tr.slot d v f
 ·cases f
def Ctx.gen(C:Ctx P call ops M rs a0 J0 cf)(I:sO P call)(d:DT P ops rs a0 J0 cf F0 w0 D F w A)(ho:ops[i]? =some o)(Y:rs[i]? =some r)(aa:i<ops.size)(hi:D i=false)
 (iG:∀e∈o.after.toList,Region.binds .any e=true->D e.on=true) {Z:Env} {τ τ':aA} {v:Q4} {a:bG} {K:Act->World->Prop} {Q:Exit->Act->World->Prop}
 (VH:SR P Z τ w) (ab:TR P Z a A) (L:Z.le F) (R:Z.ro=F.ro) (ac:wM P call o a.eval τ=some (v,τ')) (QB:r.slot=su o v)
 (sub:∀id B,τ.get id=some B->(kR (iF rs) 0 D J0.h).get id=some B) (free:∀id,F.has id->¬(τ.next<=id/\id<τ'.next))
 (hu:∀b B,gu r.upd b=some (some B)->τ'.get b=some B/\((∃o0,τ.get b=some o0/\o0.own=true)\/(B.own=true/\τ.get b=none)))
 (OE:∀id B,τ.get id=some B->B.own=true->τ.lock<=id->gu r.upd id≠none) (ad:J0.lock<=τ.lock) (Ew:∀b,gu r.upd b≠none->τ.lock<=b)
 (E:∀id,τ.next<=id->id<τ'.next->J0.next<=id/\id<cf/\(id=J0.next+i\/(r.base<=id/\id<r.next)))
 (hK:∀F' A' w',DT P ops rs a0 J0 cf F0 w0 (mG D i) F' w' A'->K A' w'):o.wp P A w K Q:=by
 refine YR VH I ab ac λx p w' g hx=>?_;let F':Env:=⟨λid=>if τ.next<=id/\id<τ'.next then p id else F id,p.ro,λid=>if τ.next<=id/\id<τ'.next then p.gh id else F.gh id⟩
 have h1:F.le F':=⟨λid q m=>by
  show(if τ.next<=id/\id<τ'.next then p id else F id)=some q
  rw[ah (free id (.inl ⟨q,m⟩))];exact m,λb o hb=>g.ext.ro b o (by rw[R];exact hb),λid t=>by
  show(if τ.next<=id/\id<τ'.next then p.gh id else F.gh id)=true
  rw[ah (free id (.inr t))];exact t⟩
 have h2:p.le F':=⟨λid q m=>by
  show(if τ.next<=id/\id<τ'.next then p id else F id)=some q
  split
  ·exact m
  ·next y=>
   rcases g.aya m with f|f
   ·exact L.pl _ _ f
   ·exact absurd f y,λ_ _ h=>h,λid t=>by
  show(if τ.next<=id/\id<τ'.next then p.gh id else F.gh id)=true
  split
  ·exact t
  ·next y=>
   rcases g.new id (.inr t)with(⟨q,f⟩|f)|f
   ·have:=g.ext.pl _ _ f;rw[(g.rel.kK id t).1]at this;cases this
   ·exact L.gh _ f
   ·exact absurd f y⟩
 have z:∀id,F'.has id->F.has id\/(τ.next<=id/\id<τ'.next):=λid hh=>by
  by_cases y:τ.next<=id/\id<τ'.next
  ·exact .inr y
  ·left;rcases hh with⟨q,m⟩|t
   ·have S:(if τ.next<=id/\id<τ'.next then p id else F id)=some q:=m;rw[ah y]at S;exact .inl ⟨q,S⟩
   ·have l:(if τ.next<=id/\id<τ'.next then p.gh id else F.gh id)=true:=t;rw[ah y]at l;exact .inr l
 have ae:∀id,F'.gh id=true->F' id=none:=λid t=>by
  have l:(if τ.next<=id/\id<τ'.next then p.gh id else F.gh id)=true:=t;show(if τ.next<=id/\id<τ'.next then p id else F id)=none
  split at l
  ·next y=>rw[aj y];exact(g.rel.kK id l).1
  ·next y=>rw[ah y];exact(d.st.rel.kK id l).1
 have t:=C.ahk (J0:=J0) d.closed ho Y hi iG;have H:∀id,F'.has id->id<cf:=λid m=>by
  rcases z id m with f|⟨f,O⟩
  ·exact d.st.rel.hasLt f
  ·exact(E id f O).2.1
 obtain⟨af,size,T,own,rF⟩:=St.merge (J':={h:=kR (iF rs) 0 (mG D i) J0.h,next:=cf,lock:=J0.lock}) (upd:=r.upd) (F':=F') d.st.rel VH g sub L R rfl h1 h2 t hu OE ad Ew (λid q m=>H id (.inl ⟨q,m⟩)) (λid V=>⟨ae id V,H id (.inr V)⟩);refine hK F' _ w' ⟨?_,?_,?_,?_⟩
 ·intro k o' hk N e he hb;unfold mG at hk⊢;simp only[oK]at hk⊢;rcases hk with hk|hk
  ·exact .inl (d.closed k o' hk N e he hb)
  ·have:=bK hk;subst this;rw[ho]at N;cases N;exact .inl (iG e he hb)
 ·refine d.st.then h1 af size T own g.os g.tape g.output rfl (dD _) ?_ rF;intro id m;rcases z id m with f|⟨f,O⟩
  ·exact .inl f
  ·exact .inr ⟨(E id f O).1,(E id f O).2.1⟩
 ·have l:=C.Vx (a0:=a0) d.closed ho Y hi iG;rw[QB]at l;exact d.tr.add h1 l (by rw[<-QB];exact(C.slot i r Y).2) (λu ag=>VR.mono h2 _ _ (hx u ag))
 ·intro id m;have W:∀k,D k=true->mG D i k=true:=λk hk=>by unfold mG;rw[hk];rfl
  have X:mG D i i=true:=by unfold mG;simp
  rcases z id m with f|⟨f,O⟩
  ·rcases d.dm id f with G|⟨k,G,h6,h7⟩|⟨j,s,G,h6,h7⟩
   ·exact .inl G
   ·exact .inr (.inl ⟨k,G,W k h6,h7⟩)
   ·exact .inr (.inr ⟨j,s,G,W j h6,h7⟩)
  ·obtain⟨_,_,G|G⟩:=E id f O
   ·exact .inr (.inl ⟨i,aa,X,G⟩)
   ·exact .inr (.inr ⟨i,r,Y,X,G⟩)
end
section
variable{call:Caller}{ops:W5}{M:Q2}{rs:Wk}{a0:bG}{J0:aA}{cf:Nat}{F0 F:Env}{w0 w:World}{D:Nat->Bool}{A:Act}{i:Nat}{o:Oper}{r:dM}
def aa8{l:Q2}{f:Nat->Option bI}{b:Nat}{x:Option bI}(h:gu (l.map λk=>(k,f k)) b=some x):b∈l/\x=f b:=by
 induction l with
 |nil=>simp[gu]at h
 |cons k l d=>
  simp only[iP,gu]at h;split at h
  ·next y g=>cases h;have:=d g;exact⟨by simp[this.1],this.2⟩
  ·split at h
   ·next e=>cases h;subst e;exact⟨by simp,rfl⟩
   ·cases h
def keys_map(l:Q2)(f:Nat->Option bI):keysOf (l.map λk=>(k,f k))=l:=by simp[keysOf,List.map_map,Function.comp_def]
def JH{τ:aA}:∀{n c b:Nat}{x:Option bI},gu (GK τ c n) b=some x->c<=b/\b<c+n/\∀o,x=some o->τ.get b=some o/\o.own=true
 |0,c,b,x,h=>by simp[GK,gu]at h
 |n+1,c,b,x,h=>by
  simp only[GK,gu]at h;split at h
  ·next y g=>
   cases h;obtain⟨h1,l,j⟩:=JH g;exact⟨by omega,by omega,j⟩
  ·split at h
   ·next e=>
    subst e;simp only[aY]at h;refine⟨Nat.le_refl _,by omega,λo k=>?_⟩;rw[k]at h;split at h
    ·next m f=>
     split at h
     ·next d=>cases h;exact⟨f,d⟩
     ·cases h
    ·cases h
   ·cases h
def Wu{l m:WP}{b:Nat}:gu (l++m) b=match gu m b with|some x=>some x|none=>gu l b:=by
 induction l with
 |nil=>simp only[aX];cases gu m b<;>rfl
 |cons p l d=>obtain⟨k,v⟩:=p;simp only[bg,gu,d];cases gu m b<;>rfl
def EL{h:Tr bI}{b:Nat}{l:Q2}{k:Nat}:k∈Ku h b l↔k∈l/\b<=k/\∃d,h.get k=some d/\d.own=true:=by
 unfold Ku;rw[BM,aK];constructor
 ·rintro⟨f,g,e⟩
  refine⟨f,vC g,?_⟩;split at e
  ·next d j=>exact⟨d,j,e⟩
  ·cases e
 ·rintro⟨f,g,d,e,m⟩
  exact⟨f,aeo g,by rw[e];exact m⟩
def SR.cutAt{F:Env}{J τ:aA}{w:World}{c:Nat}(h:SR P F J w)(N:P.globals.size<c)(b:∀id o,τ.get id=some o->J.get id=some o)(k:∀id o,τ.get id=some o->id<c/\Cc c o=true)(O:c<=τ.next):SR P (F.cut c) τ w:=by
 have d:∀id q,id<c->F id=some q->F.cut c id=some q:=λid q l m=>by simp only[Env.cut];rw[aj l];exact m
 refine⟨λg p=>?_,λid q f=>?_,λid o j=>?_,λid s=>?_,λid o t z q B u v x E G H=>?_,h.jl,λid o q u v x=>h.lV id o q (b _ _ u) v ((Env.MJ _ _).pl _ _ x),h.tabs⟩
 ·obtain⟨I,es,l⟩:=h.nS g p;exact⟨I,es,d _ _ (by omega) l⟩
 ·simp only[Env.cut]at f;split at f
  ·omega
  ·cases f
 ·rcases h.live id o (b _ _ j)with⟨q,f,L⟩|⟨y,m⟩
  ·exact .inl ⟨q,d _ _ (k id o j).1 f,L.cut (k id o j).2⟩
  ·exact .inr ⟨Env.af0 (k id o j).1 y,m⟩
 ·have e:(decide (id<c)&&F.gh id)=true:=s;rw[aK,decide_eq_true_iff]at e;exact⟨by simp only[Env.cut];rw[aj e.1];exact(h.kK id e.2).1,by omega⟩
 ·exact h.sep id o t z q B (b _ _ u) v (b _ _ x) E ((Env.MJ _ _).pl _ _ G) ((Env.MJ _ _).pl _ _ H)
def SR.part{F:Env}{J τ:aA}{w:World}(h:SR P F J w)(b:∀id o,τ.get id=some o->J.get id=some o)(j:∀id,F.has id->id<τ.next):SR P F τ w:=
 ⟨h.nS,λid q l=>j id (.inl ⟨q,l⟩),λid o m=>h.live id o (b id o m),λid k=>⟨(h.kK id k).1,j id (.inr k)⟩,λid o d p q s e f g t u v=>h.sep id o d p q s (b _ _ e) f (b _ _ g) t u v,h.jl,λid o q e f g=>h.lV id o q (b _ _ e) f g,h.tabs⟩
def Px{c:Nat}{h:Tr bI}:∀{l:Q2},Pv c h l=true->∀k∈l,k<c/\∀o,h.get k=some o->Cc c o=true
 |[],_,k,hk=>by simp at hk
 |x::l,b,k,hk=>by
  simp only[Pv,aK]at b;simp only[bH]at hk;rcases hk with rfl|hk
  ·refine⟨by have:=b.1.1;rwa [jB]at this,λo d=>?_⟩;have:=b.1.2;rw[d]at this;exact this
  ·exact Px b.2 k hk
def ae6{c:Nat}{t:Tr AV}:∀{l:Q2},Mc c t l=true->∀k∈l,∀v,t.get k=some v->v.under c=true
 |[],_,k,hk=>by simp at hk
 |x::l,b,k,hk=>by
  simp only[Mc,aK]at b;simp only[bH]at hk;rcases hk with rfl|hk
  ·intro v d;have:=b.1;rw[d]at this;exact this
  ·exact ae6 b.2 k hk
def acw{M:Q2}{i:Nat}:∀{rs:Wk}{k:Nat}{b:Nat},b∉EN M i rs k->∀(j:Nat) r,rs[j]? =some r->zx M i (k+j)=true->b∉keysOf r.upd
 |[],k,b,_,j,r,e,_=>by simp at e
 |s::rs,k,b,d,j,r,e,f=>by
  unfold EN at d;cases j with
  |zero=>simp at e;subst e;rw[oL]at f;rw[aj f]at d;simp only[jJ,not_or]at d;exact d.1
  |succ j=>
   have g:b∉EN M i rs (k+1):=by
    split at d
    ·simp only[jJ,not_or]at d;exact d.2
    ·exact d
   exact acw g j r (by simpa using e) (by rw[show k+1+j=k+(j+1) by omega];exact f)
def aiF{M:Q2}{i:Nat}:∀{rs:Wk}{k:Nat}{b:Nat}(j:Nat)(r:dM),rs[j]? =some r->zx M i (k+j)=false->b∈keysOf r.upd->b∈QN M i rs k
 |[],k,b,j,r,d,_,_=>by simp at d
 |s::rs,k,b,j,r,d,e,f=>by
  unfold QN;cases j with
  |zero=>simp at d;subst d;rw[oL]at e;rw[ah (by rw[e];simp)];simp[f]
  |succ j=>
   have:=aiF (k:=k+1) j r (by simpa using d) (by rw[show k+1+j=k+(j+1) by omega];exact e) f;split
   ·exact this
   ·simp[this]
def Ctx.bound(C:Ctx P call ops M rs a0 J0 cf)(b:DT P ops rs a0 J0 cf F0 w0 D F w A)(id:Nat)(h:F.has id):id<cf:=b.st.rel.hasLt h
def Ctx.apart(C:Ctx P call ops M rs a0 J0 cf)(d:DT P ops rs a0 J0 cf F0 w0 D F w A)(g:rs[i]? =some r)(hi:D i=false){id:Nat}(h:F.has id):¬(r.base<=id/\id<r.next):=by
 rintro⟨q,t⟩
 have m:=C.lo g;rcases d.dm id h with f|⟨k,f,l,p⟩|⟨j,s,f,l,p,u⟩
 ·omega
 ·omega
 ·by_cases e:i=j
  ·subst e;rw[hi]at l;cases l
  ·rcases Nat.lt_or_gt_of_ne e with b|b
   ·have:=C.lt g f b;omega
   ·have:=C.lt f g b;omega
def Ctx.step(C:Ctx P call ops M rs a0 J0 cf)(R:sO P call)(ad:SR P F0 J0 w0)(g:DT P ops rs a0 J0 cf F0 w0 D F w A)(W:i<ops.size)(hi:D i=false)
 (GL:∀o,ops[i]? =some o->∀e∈o.after.toList,Region.binds .any e=true->D e.on=true) (aL:oQ ops M i=false) {K:Act->World->Prop} {Q:Exit->Act->World->Prop}
 (hK:∀F' A' w',DT P ops rs a0 J0 cf F0 w0 (mG D i) F' w' A'->K A' w'):wpOp P ops Q i K A w:=by
 obtain⟨o,V⟩:∃o,ops[i]? =some o:=⟨ops[i],by simp[W]⟩
 obtain⟨r,T⟩:∃r,rs[i]? =some r:=⟨_,bT (by rw[C.len];exact W)⟩
 have iG:=GL o V;have f:=C.one i r T;have E:=C.act g V T hi iG;have aM:=C.base T;have al:=C.lo T;have am:=C.hi T;have aP:P.globals.size<J0.next:=by obtain⟨sz,es,p⟩:=ad.nS P.globals.size (dD _);exact ad.dom _ _ p
 have an:=(C.slot i r T).1;have a7:=C.lock;have ag:=C.big;have ao:=C.bound g;unfold yX at f;rw[aL]at f;simp only[iw,if_false]at f;unfold CJ at f;rw[V]at f;simp only at f;unfold wpOp;rw[V];simp only;split at f
 ·cases f
 ·
   next hw=>
   rw[Ic E hw];simp only[iw,if_false];cases f;refine hK F _ w ⟨?_,?_,?_,?_⟩
   ·intro k o' hk ap e he q;unfold mG at hk⊢;simp only[oK]at hk⊢;rcases hk with hk|hk
    ·exact .inl (g.closed k o' hk ap e he q)
    ·have:=bK hk;subst this;rw[V]at ap;cases ap;exact .inl (GL _ V e he q)
   ·have hg:=C.ahk (J0:=J0) g.closed V T hi iG;refine g.st.sub ?_ (dD _) rfl;intro id m I;have:(kR (iF rs) 0 (mG D i) J0.h).get id=some m:=I;rw[hg]at this;exact this
   ·exact g.tr.add (Env.le.refl _) (C.Vx (a0:=a0) g.closed V T hi iG) (C.slot i _ T).2 (by rintro u hu;cases hu;exact⟨[],rfl,rfl⟩)
   ·intro id X;have ax:∀k,D k=true->mG D i k=true:=λk hk=>by unfold mG;rw[hk];rfl
    rcases g.dm id X with L|⟨k,L,Z,h7⟩|⟨j,s,L,Z,h7⟩
    ·exact .inl L
    ·exact .inr (.inl ⟨k,L,ax k Z,h7⟩)
    ·exact .inr (.inr ⟨j,s,L,ax j Z,h7⟩)
 ·
   next hw=>
   rw[Ic E hw];simp only[if_true];left;have B:∀l:Q2,r.vis=some l->∀id m,(lU (jD ((iF rs).take i) J0.h) l).get id=some m->(kR (iF rs) 0 D J0.h).get id=some m/\id∈l/\(jD ((iF rs).take i) J0.h).get id=some m:=by
    intro l hl id m I;rw[CV]at I;split at I
    ·next hm=>rw[<-C.aDt (J0:=J0) g.closed V T hi iG hl hm];exact⟨I,hm,I⟩
    ·cases I
   have ay:∀c,Mc c (jD ((lI rs).take i) a0.t) (o.looksAt ops)=true->TR P (F.cut c) {t:=lU (jD ((lI rs).take i) a0.t) (o.looksAt ops),n:=a0.n,gn:=a0.gn} A:=by
    intro c q;refine⟨E.gn,E.size,E.none,λd v hv=>?_⟩;obtain⟨x,hx,lT⟩:=E.slot d v hv;refine⟨x,hx,VR.cut v x ?_ lT⟩;rw[CV]at hv;split at hv
    ·next hd=>exact ae6 q d hd v hv
    ·cases hv
   split at f
   ·
     next ty aR=>
     split at f
     ·next z hz=>
      cases f;have G:wM P call o (bG.eval {t:=.nil,n:=a0.n,gn:=a0.gn}) {h:=.nil,next:=J0.next+i,lock:=J0.lock}=some (some (.p (J0.next+i) 0),({h:=.nil,next:=J0.next+i,lock:=J0.lock}:aA).new (.cells z ty true false)):=by unfold wM;rw[aR];simp only[hz,gZ]
      have N:SR P (F.cut J0.next) {h:=.nil,next:=J0.next+i,lock:=J0.lock} w:=g.st.rel.cutAt aP (λid m h=>by simp[aA.get]at h) (λid m h=>by simp[aA.get]at h) (by simp);refine C.gen R g V T W hi iG N (a:={t:=.nil,n:=a0.n,gn:=a0.gn}) ⟨E.gn,E.size,E.none,λd v hv=>by simp at hv⟩ (Env.MJ _ _) rfl G rfl (λid m h=>by simp[aA.get]at h) ?_ ?_ ?_ (dD _) ?_ ?_ hK
      ·rintro id X ⟨p,y⟩
       have Y:J0.next+i<=id:=p;have a1:id<J0.next+i+1:=y;rcases g.dm id X with H|⟨k,H,S,L⟩|⟨j,s,H,S,L,Z⟩
       ·omega
       ·have:k=i:=by omega
        subst this;rw[hi]at S;cases S
       ·have:=C.lo H;omega
      ·intro b m q;simp only[gu]at q;split at q
       ·next e=>
        cases q;subst e;refine⟨?_,.inr ⟨rfl,Tr.get_nil _⟩⟩;rw[aA.qE,aj rfl]
       ·cases q
      ·intro id m h;simp[aA.get]at h
      ·intro b q;have:=(zV _ _).1 q;simp[keysOf]at this;subst this;show J0.lock<=J0.next+i
       omega
      ·intro id p y;have Y:J0.next+i<=id:=p;have a1:id<J0.next+i+1:=y;have:=C.Zm;exact⟨by omega,by omega,.inl (by omega)⟩
     ·cases f
   ·split at f
    ·
      next l ab=>
      split at f
      ·next v τ' G=>
       rw[Ei]at G;split at f
       ·next aq=>
        cases f;have a2:=bK aq;have N:SR P F {h:=lU (jD ((iF rs).take i) J0.h) l,next:=vH,lock:=vH} w:=g.st.rel.part (λid m h=>(B l rfl id m h).1) (λid X=>yM (ao id X) ag);refine C.gen R g V T W hi iG N E (Env.le.refl _) rfl G rfl (λid m h=>(B l rfl id m h).1) ?_ ?_ ?_ ?_ ?_ ?_ hK
        ·rintro id X ⟨p,y⟩
         have Y:vH<=id:=p;omega
        ·intro b m q;simp[gu]at q
        ·intro id m p y H;have a3:vH<=id:=H;have:=ao id (N.Qs p);omega
        ·have:=C.Zm;show J0.lock<=vH;omega
        ·intro b q;simp[gu]at q
        ·intro id p y;have Y:vH<=id:=p;omega
       ·cases f
      ·cases f
    ·
      next l ab=>
      split at f
      ·next v τ' G=>
       rw[Ei]at G;split at f
       ·next aq=>
        cases f;have a2:=bK aq;have N:SR P F {h:=lU (jD ((iF rs).take i) J0.h) l,next:=vH,lock:=J0.lock} w:=g.st.rel.part (λid m h=>(B l rfl id m h).1) (λid X=>yM (ao id X) ag);refine C.gen R g V T W hi iG N E (Env.le.refl _) rfl G rfl (λid m h=>(B l rfl id m h).1) ?_ ?_ ?_ (dD _) ?_ ?_ hK
        ·rintro id X ⟨p,y⟩
         have Y:vH<=id:=p;omega
        ·intro b m q;obtain⟨p,y⟩:=aa8 q;obtain⟨H,S,aa,L,Z⟩:=EL.1 p;refine⟨y.symm,.inl ⟨aa,?_,Z⟩⟩;show(lU _ l).get b=_
         rw[CV,aj H];exact L
        ·intro id m p y H;obtain⟨_,S,L⟩:=B l rfl id m p;rw[zV,keys_map];exact EL.2 ⟨S,H,m,L,y⟩
        ·intro b q;rw[zV,keys_map]at q;exact(EL.1 q).2.1
        ·intro id p y;have Y:vH<=id:=p;omega
       ·cases f
      ·cases f
    ·
      next l ab=>
      split at f
      ·next O=>
       simp only[aK]at O;split at f
       ·next v τ' G=>
        rw[Ei]at G;cases f;simp only at al am an
        have N:SR P (F.cut (jO (J0.next+ops.size) rs i)) {h:=lU (jD ((iF rs).take i) J0.h) l,next:=jO (J0.next+ops.size) rs i,lock:=J0.lock} w:=
         g.st.rel.cutAt (by omega) (λid m h=>(B l rfl id m h).1) (λid m h=>by obtain⟨_,p,y⟩:=B l rfl id m h;have:=Px O.2 id p;exact⟨this.1,this.2 m y⟩) (dD _)
        refine C.gen R g V T W hi iG N (ay _ O.1) (Env.MJ _ _) rfl G rfl (λid m h=>(B l rfl id m h).1) ?_ ?_ ?_ (dD _) ?_ ?_ hK
        ·rintro id X ⟨p,y⟩
         exact C.apart g T hi X ⟨p,y⟩
        ·intro b m q;rw[Wu]at q;split at q
         ·next x hx=>
          cases q;obtain⟨p,y,H⟩:=JH hx;obtain⟨S,L⟩:=H m rfl;refine⟨S,.inr ⟨L,?_⟩⟩;show(lU _ l).get b=none
          rw[CV];split
          ·next hm=>have:=(Px O.2 b hm).1;omega
          ·rfl
         ·obtain⟨p,y⟩:=aa8 q;obtain⟨H,S,aa,L,Z⟩:=EL.1 p;refine⟨y.symm,.inl ⟨aa,?_,Z⟩⟩;show(lU _ l).get b=_
          rw[CV,aj H];exact L
        ·intro id m p y H;obtain⟨_,S,L⟩:=B l rfl id m p;rw[zV];unfold keysOf;rw[nM,jJ];left;have:=keys_map (Ku (jD ((iF rs).take i) J0.h) J0.lock l) (λk=>τ'.get k);unfold keysOf at this;rw[this];exact EL.2 ⟨S,H,m,L,y⟩
        ·intro b q;rw[Wu]at q;split at q
         ·next x hx=>
          obtain⟨p,_,_⟩:=JH hx;show J0.lock<=b
          omega
         ·rw[zV,keys_map]at q;exact(EL.1 q).2.1
        ·intro id p y;have Y:jO (J0.next+ops.size) rs i<=id:=p;exact⟨by omega,by omega,.inr ⟨p,y⟩⟩
       ·cases f
      ·cases f
    ·
      next ab=>
      split at f
      ·next v τ' az=>
       have G:=aFi az;rw[Ei]at G;cases f;simp only at al am an;have ac:∀id,F.has id->id<jO (J0.next+ops.size) rs i:=by
        intro id X;rcases g.dm id X with H|⟨k,H,S,L⟩|⟨j,s,H,S,L,Z⟩
        ·omega
        ·omega
        ·have ar:i≠j:=by rintro rfl;rw[hi]at S;cases S
         rcases Nat.lt_or_gt_of_ne ar with av|av
         ·have aw:j<ops.size:=by have:=(fM.1 H).1;rw[C.len]at this;exact this
          have ae:=C.open_ g.closed V hi iG aw (by rw[S];simp;omega);have hp:=NU V (C.pairs i j _ s T H ae);have:=(hp.2.2.2.2.1 rfl av).2.2;omega
         ·have:=C.lt H T av;simp only at this;omega
       have ai:∀id m,(Gw (jD ((iF rs).take i) J0.h) (EN M i (rs.take i) 0)).get id=some m->(kR (iF rs) 0 D J0.h).get id=some m:=by
        intro id m I;rw[ahj]at I;split at I
        ·cases I
        ·next aD=>
         rw[<-I,Nc (iF rs) i 0,Ep];congr 1;refine(NG _ _ _ _ _ λj u hj af=>?_).symm;obtain⟨s,hs,rfl⟩:=Sl hj;have aw:j<ops.size:=by have:=(fM.1 hs).1;rw[C.len]at this;exact this
         simp only[lQ]at af;have ae:=C.open_ g.closed V hi iG aw (λe=>af e.symm);apply QO;by_cases a4:j<i
         ·exact acw aD j s (by rw[mg,aj a4];exact hs) (by rw[lQ];exact ae)
         ·have ar:i<j:=by
           rcases yN i j with h|h
           ·exact h
           ·have:i=j:=by omega
            subst this;rw[hi]at af;simp at af
          have hp:=NU V (C.pairs i j _ s T hs ae);obtain⟨p,y,H⟩:=hp.2.2.2.2.1 rfl ar;intro ak;have a8:=p id ak;rw[Nc (iF rs) i 0]at I;cases hl:mX (iF rs) 0 (λj=>decide (j<0+i)) id with
          |none=>rw[hl]at I;have:=ad.hasLt (ad.Qs I);omega
          |some x=>
           obtain⟨j',u',S,L,Z⟩:=aa4 _ _ _ _ _ hl;obtain⟨s',a5,rfl⟩:=Sl S;simp only[lQ,decide_eq_true_eq]at L;have hk:id∈keysOf s'.upd:=(zV _ _).1 (by rw[Z];simp);have aE:(rs.take i)[j']? =some s':=by rw[mg,aj L];exact a5
           have a6:zx M i (0+j')=false:=by
            cases hu:zx M i (0+j')with
            |false=>rfl
            |true=>exact absurd hk (acw aD j' s' aE hu)
           have:=aiF j' s' aE a6 hk;exact Qg y this ak
       have N:SR P F {h:=Gw (jD ((iF rs).take i) J0.h) (EN M i (rs.take i) 0),next:=jO (J0.next+ops.size) rs i,lock:=jO (J0.next+ops.size) rs i} w:=g.st.rel.part ai ac;refine C.gen R g V T W hi iG N E (Env.le.refl _) rfl G rfl ai ?_ ?_ ?_ ?_ ?_ ?_ hK
       ·rintro id X ⟨p,y⟩
        exact C.apart g T hi X ⟨p,y⟩
       ·intro b m q;obtain⟨p,y,H⟩:=JH q;obtain⟨S,L⟩:=H m rfl;refine⟨S,.inr ⟨L,?_⟩⟩;cases hg:aA.get {h:=Gw (jD ((iF rs).take i) J0.h) (EN M i (rs.take i) 0),next:=jO (J0.next+ops.size) rs i,lock:=jO (J0.next+ops.size) rs i} b with
        |none=>rfl
        |some aa=>have:=ac b (N.Qs hg);omega
       ·intro id m p y H;have a3:jO (J0.next+ops.size) rs i<=id:=H;have:=ac id (N.Qs p);omega
       ·show J0.lock<=jO (J0.next+ops.size) rs i
        omega
       ·intro b q;cases hx:gu (GK τ' (jO (J0.next+ops.size) rs i) (τ'.next-jO (J0.next+ops.size) rs i)) b with
        |none=>exact absurd hx q
        |some x=>exact(JH hx).1
       ·intro id p y;have Y:jO (J0.next+ops.size) rs i<=id:=p;exact⟨by omega,by omega,.inr ⟨p,y⟩⟩
      ·generalize Ru o (bG.eval {t:=lU (jD ((lI rs).take i) a0.t) (o.looksAt ops),n:=a0.n,gn:=a0.gn}) (jD ((iF rs).take i) J0.h)=l at f;split at f
       ·next O=>
        simp only[aK]at O;split at f
        ·next v τ' G=>
         rw[Ei]at G;cases f;simp only at al am an
         have N:SR P (F.cut (jO (J0.next+ops.size) rs i)) {h:=lU (jD ((iF rs).take i) J0.h) l,next:=jO (J0.next+ops.size) rs i,lock:=J0.lock} w:=
          g.st.rel.cutAt (by omega) (λid m h=>(B l rfl id m h).1) (λid m h=>by obtain⟨_,p,y⟩:=B l rfl id m h;have:=Px O.2 id p;exact⟨this.1,this.2 m y⟩) (dD _)
         refine C.gen R g V T W hi iG N (ay _ O.1) (Env.MJ _ _) rfl G rfl (λid m h=>(B l rfl id m h).1) ?_ ?_ ?_ (dD _) ?_ ?_ hK
         ·rintro id X ⟨p,y⟩
          exact C.apart g T hi X ⟨p,y⟩
         ·intro b m q;rw[Wu]at q;split at q
          ·next x hx=>
           cases q;obtain⟨p,y,H⟩:=JH hx;obtain⟨S,L⟩:=H m rfl;refine⟨S,.inr ⟨L,?_⟩⟩;show(lU _ l).get b=none
           rw[CV];split
           ·next hm=>have:=(Px O.2 b hm).1;omega
           ·rfl
          ·obtain⟨p,y⟩:=aa8 q;obtain⟨H,S,aa,L,Z⟩:=EL.1 p;refine⟨y.symm,.inl ⟨aa,?_,Z⟩⟩;show(lU _ l).get b=_
           rw[CV,aj H];exact L
         ·intro id m p y H;obtain⟨_,S,L⟩:=B l rfl id m p;rw[zV];unfold keysOf;rw[nM,jJ];left;have:=keys_map (Ku (jD ((iF rs).take i) J0.h) J0.lock l) (λk=>τ'.get k);unfold keysOf at this;rw[this];exact EL.2 ⟨S,H,m,L,y⟩
         ·intro b q;rw[Wu]at q;split at q
          ·next x hx=>
           obtain⟨p,_,_⟩:=JH hx;show J0.lock<=b
           omega
          ·rw[zV,keys_map]at q;exact(EL.1 q).2.1
         ·intro id p y;have Y:jO (J0.next+ops.size) rs i<=id:=p;exact⟨by omega,by omega,.inr ⟨p,y⟩⟩
        ·cases f
       ·cases f
end
section
variable{call:Caller}{ops:W5}{M:Q2}{rs:Wk}{a0:bG}{J0:aA}{cf:Nat}{F0:Env}{w0:World}
def inB(b:Array Bool):Nat->Bool:=λj=>b.getD j false
def akz{b:Array Bool}(p:b.size=ops.size){i:Nat}(h:i∈Region.ready .any ops b):i<ops.size/\inB b i=false/\∀o,ops[i]? =some o->∀e∈o.after.toList,Region.binds .any e=true->inB b e.on=true:=by
 unfold Region.ready at h;simp only[BM,Aj,aK,wC]at h;obtain⟨j,g,d⟩:=h;have f:i<b.size:=by omega
 refine⟨j,?_,?_⟩
 ·unfold inB;rw[Af,DN f]at g⊢;exact g
 ·intro o k e l m;rw[k]at d;simp only[gZ,rV]at d;rw[Array.all_eq_true']at d;have:=d e (by simpa using l);rw[m]at this;simpa[inB]using this
def count_set(b:Array Bool)(i:Nat)(h:b[i]? =some false):(b.setIfInBounds i true).toList.count false+1=b.toList.count false:=by
 have d:i<b.size:=(rG.1 h).1;have g:b[i]=false:=(rG.1 h).2;have e:b.toList[i]'(by simpa using d)=false:=by simpa using g
 have f:0<b.toList.count false:=List.count_pos_iff.2 (by rw[<-e];exact gX _);rw[Array.toList_setIfInBounds,List.count_set (by simpa using d),e];have j:((false==false)=true):=rfl;have k:¬((true==false)=true):=by decide
 rw[aj j,ah k];omega
def aag{α:Type}:∀(b:List (List (Nat×Option α)))(k:Nat)(D:Nat->Bool)(t:Tr α),(∀j,j<b.length->D (k+j)=true)->kR b k D t=jD b t
 |[],_,_,_,_=>rfl
 |u::b,k,D,t,h=>by have h0:=h 0 (by simp);simp only[oL]at h0;rw[kR,aj h0,jD,aag b (k+1) D _ (λj d=>by rw[show k+1+j=k+(j+1) by omega];exact h (j+1) (by simpa using d))]
end
section
variable{ops:W5}{M:Q2}{rs:Wk}{a0:bG}{J:aA}{F0:Env}{w0:World}{n N0:Nat}
def anf(C:sQ ops M rs n N0)(Inv:(Nat->Bool)->Env->World->Act->Prop)
 (s:∀D F w A i (K:Act->World->Prop) (Q:Exit->Act->World->Prop),Inv D F w A->i<ops.size->D i=false->(∀o,ops[i]? =some o->∀e∈o.after.toList,Region.binds .any e=true->D e.on=true)->
  (∀F' t w',Inv (mG D i) F' w' t->K t w')->wpOp P ops Q i K A w) {Q:Exit->Act->World->Prop}
 (X:∀F' t w',Inv (λj=>decide (j<ops.size)) F' w' t->Q .normal t w'):
 ∀(fuel:Nat)(b:Array Bool)(F:Env)(w:World)(A:Act),b.size=ops.size->b.toList.count false=fuel->Inv (inB b) F w A->wpAny P .any ops Q fuel b A w:=by
 intro fuel;induction fuel with
 |zero=>
  intro b F w A E T f;have m:∀j,j<ops.size->inB b j=true:=by
   intro j v;have d:j<b.size:=by omega
   have u:b[j]∈b.toList:=by simp
   have:false∉b.toList:=List.count_eq_zero.1 T;unfold inB;rw[Af,DN d];cases I:b[j]with
   |true=>rfl
   |false=>rw[I]at u;exact absurd u this
  have L:inB b=λj=>decide (j<ops.size):=by
   funext j;by_cases v:j<ops.size
   ·rw[m j v];simp[v]
   ·unfold inB;rw[Af,Array.getElem?_eq_none (by omega)];simp[v]
  refine⟨?_,?_⟩
  ·apply List.eq_nil_iff_forall_not_mem.2;intro i hi;obtain⟨p,g,_⟩:=akz E hi;rw[m i p]at g;cases g
  ·rw[L]at f;exact X F A w f
 |succ fuel Y=>
  intro b F w A E T f;refine⟨λZ=>?_,λi hi=>?_⟩
  ·exfalso;have N:∃i,i<ops.size/\inB b i=false/\∀j,j<i->inB b j=true:=by
    have y:0<b.toList.count false:=by omega
    have u:=List.count_pos_iff.1 y;obtain⟨k,G⟩:=YC.1 u;have O:k<ops.size:=by have:=(fM.1 G).1;simp at this;omega
    have Qy:inB b k=false:=by unfold inB;rw[Af];rw[xF]at G;rw[G];rfl
    clear u G;induction k using Nat.strongRecOn with
    |_ k R=>
     by_cases H:∃j,j<k/\inB b j=false
     ·obtain⟨j,p,g⟩:=H;exact R j p (by omega) g
     ·refine⟨k,O,Qy,λj v=>?_⟩;cases I:inB b j with
      |true=>rfl
      |false=>exact absurd ⟨j,v,I⟩ H
   obtain⟨i,p,g,S⟩:=N;have q:i∈Region.ready .any ops b:=by
    unfold Region.ready;simp only[BM,Aj,aK,wC];have d:i<b.size:=by omega
    refine⟨p,?_,?_⟩
    ·unfold inB at g;rw[Af,DN d]at g⊢;exact g
    ·have V:ops[i]? =some ops[i]:=by simp[p]
     rw[V];simp only[gZ,rV];rw[Array.all_eq_true'];intro e he;cases H:Region.binds .any e with
     |false=>rfl
     |true=>
      simp only[Yq,Ag];obtain⟨u,W⟩:=C.mask V;have z:vY M e.on i=true:=by
       unfold vY;rw[zC,u];simp only[rV];have:∀(es:List Edge),e∈es->(Bh (λj=>(M.take i).getD j 0) es).testBit e.on=true:=by
        intro es;induction es with
        |nil=>intro h;simp at h
        |cons x es B=>
         intro h;rw[Bh];simp only[bH]at h;rcases h with rfl|h
         ·rw[aj H,Tq,Tq,Nat.testBit_two_pow];simp
         ·split
          ·rw[Tq,B h,Bool.or_true]
          ·exact B h
       exact this _ (by simpa using he)
      exact S e.on (C.abA z)
   rw[Z]at q;simp at q
  ·obtain⟨p,g,S⟩:=akz E hi;refine s _ _ _ _ i _ Q f p g S λF' t w' l=>?_;have hf:b[i]? =some false:=by
    have d:i<b.size:=by omega
    unfold inB at g;rw[Af,DN d]at g;rw[DN d];simpa using g
   have L:mG (inB b) i=inB (b.setIfInBounds i true):=by
    funext j;unfold mG inB;have d:i<b.size:=by omega
    rw[Af,Af,DR];by_cases e:i=j
    ·subst e;rw[aj rfl,aj d];simp
    ·rw[ah e,Hl (λe'=>e e'.symm)];simp
   rw[L]at l;exact Y _ F' w' t (by simpa using E) (by have:=count_set b i hf;omega) l
end
def alP{ops:W5}{M:Q2}:∀(k i j:Nat),XZ ops M k<=i->i<k->oN ops i=false->j<i->oN ops j=true\/vY M j i=true
 |0,i,j,_,h,_,_=>by omega
 |k+1,i,j,h1,g,b,d=>by
  unfold XZ at h1;split at h1
  ·next f=>
   by_cases e:i=k
   ·subst e;rw[b,Ag,List.all_eq_true]at f;have:=f j (by simpa using d);rwa [oK]at this
   ·exact alP k i j h1 (by omega) b d
  ·omega
def X0:∀(rs:Wk)(r:dM)(J:aA),xE (rs++[r]) J=match r.fin with|some τ=>τ|none=>xE rs J
 |[],_,_=>rfl
 |s::rs,r,J=>by
  show xE (rs++[r]) _=_
  rw[X0 rs r];rfl
def adl{rs:Wk}{J:aA}:∀k,k<=rs.length->(∀(i:Nat) r,i<k->rs[i]? =some r->r.fin=none)->xE (rs.take k) J=J
 |0,_,_=>by simp[xE]
 |k+1,e,h=>by
  obtain⟨r,b⟩:∃r,rs[k]? =some r:=⟨_,bT (by omega)⟩
  rw[SY,b,aey,X0,h k r (by omega) b];exact adl k (by omega) (λi d hi=>h i d (by omega))
def adn{rs:Wk}{J:aA}{m:Nat}{r:dM}{τ:aA}(g:rs[m]? =some r)(j:r.fin=some τ):∀k,m<k->k<=rs.length->(∀(i:Nat) d,m<i->i<k->rs[i]? =some d->d.fin=none)->xE (rs.take k) J=τ
 |0,h,_,_=>by omega
 |k+1,p,q,h=>by
  by_cases e:m=k
  ·subst e;rw[SY,g,aey,X0,j]
  ·obtain⟨d,b⟩:∃r,rs[k]? =some r:=⟨_,bT (by omega)⟩
   rw[SY,b,aey,X0,h k d (by omega) (by omega) b];exact adn g j k (by omega) (by omega) (λi f l s=>h i f l (by omega))
def atp{call:Caller}{o:Oper}(l:Em o=true){g:QP}{J1 J2 τ:aA}{v:Q4}(b:AY P call o g J1=some (v,τ)):AY P call o g J2=some (v,J2):=by
 rw[Ei]at b⊢;obtain⟨m,h,j,pos,f,guard⟩:=o;cases h with
 |move x=>simp only[wM,fC,bC,pF]at b⊢;obtain⟨u,d,e,_⟩:=b;exact⟨u,d,e,trivial⟩
 |assign x=>simp only[wM,fC,bC,pF]at b⊢;obtain⟨u,d,e,_⟩:=b;exact⟨u,d,e,trivial⟩
 |extract x k=>
  simp only[wM]at b⊢;split at b
  ·simp only[fC,bC,pF]at b⊢;obtain⟨u,d,e,_⟩:=b;exact⟨u,d,e,trivial⟩
  ·cases b
 |binOp h t x y z=>
  simp only[wM]at b⊢;split at b
  ·simp only[fC,bC,pF]at b⊢;obtain⟨u,d,e,_⟩:=b;exact⟨u,d,e,trivial⟩
  ·cases b
 |_=>simp[Em]at l
def aow{o:Oper}(e:Em o=true)(f:QP):afI o f=.na []:=by obtain⟨g,h,d,pos,b,guard⟩:=o;cases h<;>first|rfl|(simp[Em]at e)
def asf{call:Caller}{ops:W5}{d gn n i c:Nat}{e:Wk}{t:Tr AV}{h:Tr bI}{r:dM}(b:MK P call ops d gn n e i t h c=some r):r.next=c:=by
 unfold MK at b;split at b
 ·cases b
 ·split at b
  ·cases b
  ·cases b;rfl
  ·split at b
   ·cases b;rfl
   ·cases b
def ZH{call:Caller}{ops:W5}{M:Q2}{N0 d gn n i c:Nat}{f:Wk}{t:Tr AV}{h:Tr bI}{r:dM}{o:Oper}(p:ops[i]? =some o)(g:Em o=true)(b:CJ P call ops M N0 d gn n f i t h c=some r):
 r.upd=[]/\r.next=c/\r.fin=none/\((KZ o ops {t:=lU t (o.looksAt ops),n:=n,gn:=gn}=some false/\r.slot=su o (some (.fB [])))\/
  (KZ o ops {t:=lU t (o.looksAt ops),n:=n,gn:=gn}=some true/\∃v,(∀j,AY P call o (bG.eval {t:=lU t (o.looksAt ops),n:=n,gn:=gn}) j=some (v,j))/\r.slot=su o v)):=by
 unfold CJ at b;rw[p]at b;simp only at b;split at b
 ·cases b
 ·next k=>cases b;exact⟨rfl,rfl,rfl,.inl ⟨k,rfl⟩⟩
 ·next k=>
  split at b
  ·next u e=>exfalso;obtain⟨q,x,m,pos,l,guard⟩:=o;cases e;simp[Em]at g
  ·rw[aow g]at b;simp only at b;split at b
   ·next v τ s=>
    split at b
    ·cases b;exact⟨rfl,rfl,rfl,.inr ⟨k,v,λj=>atp g s,rfl⟩⟩
    ·cases b
   ·cases b
def Zq{ops:W5}{D:Nat->Bool}{i:Nat}(h:Closed ops D)(k:∀o,ops[i]? =some o->∀e∈o.after.toList,Region.binds .any e=true->D e.on=true):Closed ops (mG D i):=by
 intro j o b d e f g;unfold mG at b⊢;rw[oK]at b⊢;rcases b with b|b
 ·exact .inl (h j o b d e f g)
 ·have:=bK b;subst this;exact .inl (k o d e f g)
section
variable{call:Caller}{ops:W5}{M:Q2}{rs:Wk}{a:bG}{J:aA}{c:Nat}{D:Nat->Bool}
def Ctx.act'(C:Ctx P call ops M rs a J c)(g:Closed ops D){i:Nat}{o:Oper}{r:dM}(h:ops[i]? =some o)(j:rs[i]? =some r)(hi:D i=false)(k:∀e∈o.after.toList,Region.binds .any e=true->D e.on=true)
 {F:Env} {A:Act} (b:TR P F {t:=kR (lI rs) 0 D a.t,n:=a.n,gn:=a.gn} A):TR P F {t:=lU (jD ((lI rs).take i) a.t) (o.looksAt ops),n:=a.n,gn:=a.gn} A:=by
 refine⟨b.gn,b.size,b.none,λd v f=>?_⟩;rw[CV]at f;split at f
 ·next l=>
  rw[C.ak1 (a0:=a) g h j hi k l]at f;exact b.slot d v f
 ·cases f
def Ctx.last(C:Ctx P call ops M rs a J c)(k:sO P call)(p:Closed ops D){i:Nat}{o:Oper}{r:dM}(y:ops[i]? =some o)(z:rs[i]? =some r)(hi:D i=false)(I:∀e∈o.after.toList,Region.binds .any e=true->D e.on=true)(G:oQ ops M i=true)
 {F F1:Env} {w0 w1:World} {A:Act} (l:St P F J w0 F1 (xE (rs.take i) {h:=jD ((iF rs).take i) J.h,next:=jO (J.next+ops.size) rs i,lock:=J.lock}) w1)
 (m:TR P F1 {t:=kR (lI rs) 0 D a.t,n:=a.n,gn:=a.gn} A) {K:Act->World->Prop} {Q:Exit->Act->World->Prop}
 (L:∀B N E τ,r.fin=some τ->St P F J w0 B τ E->TR P B {t:=kR (lI rs) 0 (mG D i) a.t,n:=a.n,gn:=a.gn} N->K N E):wpOp P ops Q i K A w1:=by
 have b:=C.one i r z;unfold yX at b;rw[aj G]at b;unfold MK at b;rw[y]at b;simp only at b;have f:=C.act' p y z hi I m;have g:=λd=>C.Vx (a0:=a) p y z hi I d;have q:=(C.slot i r z).2;unfold wpOp;rw[y];simp only;split at b
 ·cases b
 ·next H=>
  cases b;rw[Ic f H];simp only[iw,if_false];exact L F1 _ w1 _ rfl l (m.add (Env.le.refl _) g q (by rintro u O;cases O;exact⟨[],rfl,rfl⟩))
 ·next H=>
  rw[Ic f H];simp only[if_true];left;split at b
  ·next v τ s=>
   rw[Ei]at s;cases b;refine YR l.rel k f s λx B E j R=>?_;exact L B _ E _ rfl (l.trans j) (m.add j.ext g q R)
  ·cases b
def Ctx.free(C:Ctx P call ops M rs a J c)(k:sO P call)(q:Closed ops D){i:Nat}{o:Oper}{r:dM}(s:ops[i]? =some o)(z:rs[i]? =some r)(hi:D i=false)(L:∀e∈o.after.toList,Region.binds .any e=true->D e.on=true)(N:Em o=true)
 {F F1:Env} {τ:aA} {w0 w1:World} {A:Act} (l:St P F J w0 F1 τ w1) (m:TR P F1 {t:=kR (lI rs) 0 D a.t,n:=a.n,gn:=a.gn} A) {K:Act->World->Prop} {Q:Exit->Act->World->Prop}
 (O:∀B R E,St P F J w0 B τ E->TR P B {t:=kR (lI rs) 0 (mG D i) a.t,n:=a.n,gn:=a.gn} R->K R E):wpOp P ops Q i K A w1:=by
 have f:=C.one i r z;unfold yX at f;have G:oQ ops M i=false:=by unfold oQ oN;rw[s];simp only[N,Yq,Bool.and_false]
 rw[G]at f;simp only[iw,if_false]at f;obtain⟨_,_,_,p⟩:=ZH s N f;have g:=C.act' q s z hi L m;have b:=λd=>C.Vx (a0:=a) q s z hi L d;have h:=(C.slot i r z).2;unfold wpOp;rw[s];simp only;rcases p with⟨H,I⟩|⟨H,v,S,I⟩
 ·rw[I]at b h;rw[Ic g H];simp only[iw,if_false];exact O F1 _ w1 l (m.add (Env.le.refl _) b h (by rintro u T;cases T;exact⟨[],rfl,rfl⟩))
 ·rw[I]at b h;rw[Ic g H];simp only[if_true];left;have y:=S τ;rw[Ei]at y;refine YR l.rel k g y λx B E j V=>?_;exact O B _ E (l.trans j) (m.add j.ext b h V)
def Ctx.alQ(C:Ctx P call ops M rs a J c){l:Nat}(d:∀i,l<=i->i<ops.size->oQ ops M i=true\/oN ops i=true):∀k,l+k<=ops.size->jO (J.next+ops.size) rs (l+k)=jO (J.next+ops.size) rs l
 |0,_=>rfl
 |k+1,h=>by
  have g:=C.alQ d k (by omega);obtain⟨r,e⟩:∃r,rs[l+k]? =some r:=⟨_,bT (by rw[C.len];omega)⟩
  obtain⟨o,f⟩:∃o,ops[l+k]? =some o:=⟨ops[l+k],by simp⟩
  have b:=C.one _ _ e;unfold yX at b;rw[show l+(k+1)=(l+k)+1 by omega,PW rs _ _ _ e,<-g];split at b
  ·exact asf b
  ·next j=>
   rcases d (l+k) (by omega) (by omega)with h1|h1
   ·exact absurd h1 j
   ·unfold oN at h1;rw[f]at h1;exact(ZH f h1 b).2.1
end
def asE(hm:P.follows .mixedOrders=true):SL P (YQ P):=by
 intro call v ops a J a' J' hs F w A id Q h ht hK;unfold YQ at hs;simp only at hs;split at hs
 ·next ae=>
  simp only[aK]at ae;split at hs
  ·next rs t hh c az=>
   split at hs
   ·next A8=>
    simp only[aK]at A8;obtain⟨⟨⟨aD,an⟩,af⟩,ao⟩:=A8;obtain⟨new,x,N,h3,h4,h5,h6⟩:=af2 _ _ _ _ _ _ _ _ _ _ az;simp only[aX]at x;subst x
    have C:Ctx P call ops (nU ops.toList []) rs a J c:={
     hM:=rfl
     mok:=ae.1
     len:=N
     one:=λi r E=>by have:=h6 i r E;simpa using this
     pairs:=ayU aD an (λi r E=>by have:=h6 i r E;exact asl (by simpa using this))
     slot:=by intro i r E;unfold als at af;rw[List.all_eq_true]at af;have:=af r (rQ E);simp only[aK]at this;refine⟨Nat.le_of_ble_eq_true this.1,λp aE=>?_⟩;have h8:=this.2;rw[List.all_eq_true]at h8;have:=h8 p aE;rwa [jB]at this
     fin:=h5
     big:=vC ao
     lock:=vC ae.2}
    refine wp_region_any hm ?_;have G:=C.Zm;have O:inB (Array.replicate ops.size false)=λ_=>false:=by funext j;unfold inB;rw[Af,Array.getElem?_replicate];split<;>rfl
    have ap:∀{α:Type}(us:List (List (Nat×Option α)))(k:Nat)(t:Tr α),kR us k (λ_=>false) t=t:=by
     intro α us;induction us with
     |nil=>intro k t;rfl
     |cons u us ih=>intro k t;rw[kR];simp only[iw,if_false];exact ih _ _
    have start:DT P ops rs a J c F {w with drawn:=w.drawn+1} (λ_=>false) F {w with drawn:=w.drawn+1} A:=by
     refine⟨λi o hi=>by simp at hi,?_,?_,λid hq=>.inl (h.hasLt hq)⟩
     ·rw[ap];refine(St.refl h.drew).sub (λid o W=>W) (by show J.next<=c;omega) rfl
     ·rw[ap];exact⟨ht.gn,ht.size,ht.none,ht.slot⟩
    have aq:kR (lI rs) 0 (λj=>decide (j<ops.size)) a.t=t:=by rw[h3];exact aag _ _ _ _ (λj q=>by simp[lI]at q⊢;omega)
    have H:∀i,i<ops.size->oQ ops (nU ops.toList []) i=true->oN ops i=false/\∀j,j<i->oN ops j=true\/vY (nU ops.toList []) j i=true:=by intro i hi d;unfold oQ at d;rw[aK,wC]at d;exact⟨d.2,λj q=>alP _ _ _ (vC d.1) hi d.2 q⟩
    have ag:∀i j,i<=j->j<ops.size->oQ ops (nU ops.toList []) i=true->oQ ops (nU ops.toList []) j=true\/oN ops j=true:=by
     intro i j aL q d;unfold oQ at d⊢;rw[aK,wC]at d;have:=vC d.1;cases V:oN ops j with
     |true=>exact .inr rfl
     |false=>left;rw[aeo (kF this aL)];rfl
    have I:∀i,oN ops i=true->oQ ops (nU ops.toList []) i=false:=by intro i V;unfold oQ;rw[V];simp
    have R:∀(i:Nat) r,rs[i]? =some r->oQ ops (nU ops.toList []) i=false->r.fin=none:=by intro i r E hi;have g:=C.one i r E;unfold yX at g;rw[hi]at g;simp only[iw,if_false]at g;exact asj g
    have aM:∀(i:Nat) r,rs[i]? =some r->oN ops i=true->r.upd=[]:=by
     intro i r E V;have g:=C.one i r E;unfold yX at g;rw[I i V]at g;simp only[iw,if_false]at g;unfold oN at V;split at V
     ·next o W=>exact(ZH W V g).1
     ·cases V
    let wd:World:={w with drawn:=w.drawn+1}
    cases hs
    refine anf C.tosQ (λD X w1 A1=>((∀i,i<ops.size->oQ ops (nU ops.toList []) i=true->D i=false)/\DT P ops rs a J c F wd D X w1 A1)\/
     ∃m,m<ops.size/\oQ ops (nU ops.toList []) m=true/\Closed ops D/\(∀j,j<ops.size->oN ops j=false->D j=decide (j<=m))/\∃r τ,rs[m]? =some r/\r.fin=some τ/\St P F J wd X τ w1/\TR P X {t:=kR (lI rs) 0 D a.t,n:=a.n,gn:=a.gn} A1) ?_ ?_ ops.size (Array.replicate ops.size false) F _ A (by simp) (by simp) (.inl ⟨λi _ _=>by rw[O],by rw[O];exact start⟩)
    ·intro D X w1 A1 i K Q' f y hi GL aa;obtain⟨o,W⟩:∃o,ops[i]? =some o:=⟨ops[i],by simp[y]⟩
     obtain⟨r,E⟩:∃r,rs[i]? =some r:=⟨_,bT (by rw[N];exact y)⟩
     have iG:=GL o W;rcases f with⟨hD,f⟩|⟨m,ar,ai,G,Nl,r1,τ1,ab,ac,S,QC⟩
     ·by_cases d:oQ ops (nU ops.toList []) i=true
      ·
        obtain⟨a7,av⟩:=H i y d;have ak:∀j,j<ops.size->oN ops j=false->D j=decide (j<i):=by
         intro j q s;by_cases x:j<i
         ·have:D j=true:=C.tK f.closed i o W iG j ((av j x).resolve_left (by rw[s];simp));rw[this];simp[x]
         ·have:D j=false:=hD j q ((ag i j (by omega) q d).resolve_right (by rw[s];simp));rw[this];simp[x]
        have aP:∀j,j<i->oQ ops (nU ops.toList []) j=false:=by
         intro j q;cases e:oQ ops (nU ops.toList []) j with
         |false=>rfl
         |true=>have x:=hD j (by omega) e;rw[ak j (by omega) (H j (by omega) e).1]at x;exact absurd q (of_decide_eq_false x)
        have aR:∀b,(jD ((iF rs).take i) J.h).get b=(kR (iF rs) 0 D J.h).get b:=by
         intro b;rw[Nc (iF rs) i 0,Ep];congr 1;refine NG _ _ _ _ _ λj u q aw=>?_;have Y:j<ops.size:=by have:=(fM.1 q).1;simp[iF]at this;omega
         simp only[lQ]at aw;cases s:oN ops j with
         |false=>exact absurd (ak j Y s).symm aw
         |true=>obtain⟨r',a0,hu⟩:=Sl q;rw[aM j r' a0 s]at hu;subst hu;rfl
        have Ns:jO (J.next+ops.size) rs i=c:=by have:=C.alQ (l:=i) (λk x N=>ag i k x N d) (ops.size-i) (by omega);rw[show i+(ops.size-i)=ops.size by omega]at this;rw[<-this];exact C.fin.symm
        have L:∀Z,xE (rs.take i) Z=Z:=λZ=>adl i (by omega) λj r' x N=>R j r' N (aP j x);refine C.last v f.closed W E hi iG d (F:=F) (w0:=wd) (F1:=X) ?_ f.tr λF' A' w' τ V z B=>aa F' A' w' (.inr ⟨i,y,d,Zq f.closed GL,?_,r,τ,E,V,z,B⟩)
        ·rw[L];refine f.st.sub (λax o' a1=>?_) (LH Ns.symm) rfl;rw[show(aA.get {h:=kR (iF rs) 0 D J.h,next:=c,lock:=J.lock} ax)=(kR (iF rs) 0 D J.h).get ax from rfl,<-aR];exact a1
        ·intro j q s;unfold mG;rw[ak j q s];by_cases e:j=i
         ·subst e;simp
         ·rw[Hl e,Le];congr 1;apply propext;omega
      ·have ay:oQ ops (nU ops.toList []) i=false:=by simpa using d
       refine C.step v h.drew f y hi GL ay λF' A' w' al=>aa F' A' w' (.inl ⟨λj q Y=>?_,al⟩);have am:j≠i:=λe=>by subst e;rw[ay]at Y;cases Y
       unfold mG;rw[hD j q Y,Hl am];rfl
     ·cases T:oN ops i with
      |true=>
       have a2:Em o=true:=by unfold oN at T;rw[W]at T;exact T
       refine C.free v G W E hi iG a2 S QC λF' A' w' z B=>aa F' A' w' (.inr ⟨m,ar,ai,Zq G GL,?_,r1,τ1,ab,ac,z,B⟩);intro j q s;have am:j≠i:=λe=>by subst e;rw[T]at s;cases s
       unfold mG;rw[Nl j q s,Hl am,Le]
      |false=>
       have a8:¬i<=m:=by intro a3;rw[Nl i y T]at hi;exact of_decide_eq_false hi a3
       have d:oQ ops (nU ops.toList []) i=true:=(ag m i (by omega) y ai).resolve_right (by rw[T];simp);have ad:∀j,m<j->j<i->oN ops j=true:=by
        intro j x N;cases s:oN ops j with
        |true=>rfl
        |false=>have h8:D j=true:=C.tK G i o W iG j (((H i y d).2 j N).resolve_left (by rw[s];simp));rw[Nl j (by omega) s]at h8;have:=Bq h8;omega
       have L:∀Z,xE (rs.take i) Z=τ1:=λZ=>adn ab ac i (by omega) (by omega) λj r' x N h3=>R j r' h3 (I j (ad j x N));refine C.last v G W E hi iG d (F:=F) (w0:=wd) (F1:=X) (by rw[L];exact S) QC λF' A' w' τ V z B=>aa F' A' w' (.inr ⟨i,y,d,Zq G GL,?_,r,τ,E,V,z,B⟩);intro j q s;unfold mG;rw[Nl j q s];by_cases e:j=i
       ·subst e;simp
       ·rw[Hl e,Le];congr 1;apply propext;constructor
        ·omega
        ·intro x;apply Classical.byContradiction;intro N;have:=ad j (by omega) (by omega);rw[this]at s;cases s
    ·intro X A1 w1 f;rcases f with⟨hD,f⟩|⟨m,ar,ai,G,Nl,r1,τ1,ab,ac,S,QC⟩
     ·have a4:∀i,i<ops.size->oQ ops (nU ops.toList []) i=false:=by
       intro i hi;cases e:oQ ops (nU ops.toList []) i with
       |false=>rfl
       |true=>have:=hD i hi e;simp at this;omega
      have L:xE rs {h:=hh,next:=c,lock:=J.lock} ={h:=hh,next:=c,lock:=J.lock}:=by have:=adl (rs:=rs) (J:={h:=hh,next:=c,lock:=J.lock}) rs.length (dD _) λj r' x N=>R j r' N (a4 j (by omega));rwa [Ak]at this
      rw[L]at hK;have a5:kR (iF rs) 0 (λj=>decide (j<ops.size)) J.h=hh:=by rw[h4];exact aag _ _ _ _ (λj q=>by simp[iF]at q⊢;omega)
      have z:=f.st;have B:=f.tr;rw[a5]at z;rw[aq]at B;exact hK X A1 w1 ((St.drew h).trans z) B
     ·have L:∀Z,xE rs Z=τ1:=by
       intro Z;have:=adn (J:=Z) ab ac rs.length (by omega) (dD _) λj r' x N h3=>by
        refine R j r' h3 (I j ?_);cases s:oN ops j with
        |true=>rfl
        |false=>
         have h9:decide (j<ops.size)=decide (j<=m):=Nl j (by omega) s;have a6:decide (j<ops.size)=true:=by simp;omega
         rw[a6]at h9;have:=Bq h9.symm;omega
       rwa [Ak]at this
      rw[L]at hK;rw[aq]at QC;exact hK X A1 w1 ((St.drew h).trans S) QC
   ·cases hs
  ·cases hs
 ·cases hs
section
variable{call:Caller}{ops:W5}{M:Q2}{N0 gn n:Nat}
end
def ags(d:P.follows .mixedOrders=true):SL P (YP P):=by intro call b ops a J e f g;exact asE d call b ops a J e f g
