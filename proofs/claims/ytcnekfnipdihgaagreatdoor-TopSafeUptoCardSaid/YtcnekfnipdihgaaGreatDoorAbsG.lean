/- Regions whose order Go leaves open: one operation keeps the invariant. -/
import Derived.Test.YtcnekfnipdihgaaGreatDoorAbsF
set_option linter.all false
namespace Go.aP
noncomputable section
variable[aJ]
variable{P:Program}
structure Ea(P:Program)(ops:W7)(rs:Wo)(a0:bK)(J0:aC)(cf:Nat)(F0:Env)(w0:World)(D:Nat->Bool)(F:Env)(w:World)(A:Act):Prop where
 closed:Closed ops D
 st:St P F0 J0 w0 F {h:=lg (iM rs) 0 D J0.h,next:=cf,lock:=J0.lock} w
 tr:TR P F {t:=lg (lV rs) 0 D a0.t,n:=a0.n,gn:=a0.gn} A
 dm:∀id,F.has id->id<J0.next\/(∃k,k<ops.size/\D k=true/\id=J0.next+k)\/(∃(j:Nat)(r:dX),rs[j]? =some r/\D j=true/\r.base<=id/\id<r.next)
def TR.add{F F':Env}{T l:Tr AV}{n gn:Nat}{A:Act}{o:Oper}{v:Qf}{x:Value}(h:TR P F {t:=T,n:=n,gn:=gn} A)(g:F.le F')(f:∀d,l.get d=(gQ (sW o v) d).getD (T.get d))
 (j:∀p∈sW o v,p.1<n) (s:∀u,v=some u->VR F' u x):TR P F' {t:=l,n:=n,gn:=gn} (A.put o.dst x):=by
 have m:=h.mono g;unfold sW at f j;cases q:o.dst with
 |none=>rw[q]at f;refine⟨h.gn,h.size,h.none,λd u b=>?_⟩;rw[f]at b;exact m.slot d u b
 |some d0=>
  rw[q]at f j;have k:=j (d0,v) aA;refine⟨h.gn,by have:=h.size;simpa[Act.put]using this,h.none,λd u b=>?_⟩;rw[f]at b;simp only[gQ]at b;show ∃y,(A.tmps.setIfInBounds d0 x)[d]? =some y/\_
  rw[D9];by_cases e:d=d0
  ·subst e;rw[au rfl,au (by have:=h.size;simp only at this k;omega)];rw[au rfl]at b;exact⟨x,rfl,s u b⟩
  ·rw[aj (λz=>e z.symm)];rw[aj e]at b;exact m.slot d u b
section
variable{call:Caller}{ops:W7}{M:Q4}{rs:Wo}{a0:bK}{J0:aC}{cf:Nat}{F0 F:Env}{w0 w:World}{D:Nat->Bool}{A:Act}{i nn N0:Nat}{o:Oper}{r:dX}
def mZ(D:Nat->Bool)(i:Nat):Nat->Bool:=λj=>D j ||Nat.beq j i
def aFa{rs:Wo}{i:Nat}{r:dX}(h:rs[i]? =some r):(iM rs)[i]? =some r.upd:=by simp[iM,h]
def aDC{rs:Wo}{i:Nat}{r:dX}(h:rs[i]? =some r):(lV rs)[i]? =some r.slot:=by simp[lV,h]
def TF{rs:Wo}{i:Nat}{u:YY}(h:(iM rs)[i]? =some u):∃r,rs[i]? =some r/\r.upd=u:=by simpa[iM]using h
def alW{rs:Wo}{i:Nat}{u:List (Nat×Qf)}(h:(lV rs)[i]? =some u):∃r,rs[i]? =some r/\r.slot=u:=by simpa[lV]using h
def Ov{N0 i j:Nat}{r s:dX}{o:Oper}(e:ops[i]? =some o)(h:SC ops N0 i j r s=true):rF (keysOf r.slot) (keysOf s.slot)=true/\rF (o.looksAt ops) (keysOf s.slot)=true/\rF (keysOf r.upd) (keysOf s.upd)=true/\
 (∀l,r.vis=some l->rF l (keysOf s.upd)=true)/\(r.vis=none->i<j->(∀k∈keysOf s.upd,N0<=k)/\rF r.loc (keysOf s.upd)=true/\s.base=s.next)/\(r.vis=none->i≠j->j<i\/i<j):=by
 unfold SC at h;rw[e]at h;simp only[aO]at h;obtain⟨⟨⟨f,g⟩,m⟩,b⟩:=h;refine⟨f,g,m,?_,?_,λ_ p=>ah⟩
 ·intro l q;rw[q]at b;exact b
 ·intro t u;rw[t]at b;simp only[oV,aO]at b;rcases b with b|⟨⟨d,v⟩,x⟩
  ·rw[jM]at b;omega
  ·refine⟨λk y=>?_,v,bQ x⟩;rw[List.all_eq_true]at d;exact um (d k y)
def tV.ahP(C:tV ops M rs nn N0)(p:Closed ops D)(h:ops[i]? =some o)(k:rs[i]? =some r)(hi:D i=false)(q:∀e∈o.after.toList,Region.binds .any e=true->D e.on=true)(b:Nat):
 (lg (iM rs) 0 (mZ D i) J0.h).get b=(gQ r.upd b).getD ((lg (iM rs) 0 D J0.h).get b):=by
 rw[EH,EH];have:=abB (iM rs) 0 i D b r.upd (aFa k) (by simpa using hi) (λj v t u l d=>by
  obtain⟨s,m,rfl⟩:=TF t;have f:j<ops.size:=by have:=(fV.1 m).1;rw[C.len]at this;exact this
  have g:=C.open_ p h hi q f (by simp at l;rw[l];simp;omega);have x:=Ov h (C.pairs i j r s k m g);exact RP (QL x.2.2.1 ((Ah _ _).1 d)))
 simp only[l9]at this;unfold mZ;rw[this];cases gQ r.upd b<;>rfl
def tV.Wh(C:tV ops M rs nn N0)(p:Closed ops D)(h:ops[i]? =some o)(k:rs[i]? =some r)(hi:D i=false)(q:∀e∈o.after.toList,Region.binds .any e=true->D e.on=true)(b:Nat):
 (lg (lV rs) 0 (mZ D i) a0.t).get b=(gQ r.slot b).getD ((lg (lV rs) 0 D a0.t).get b):=by
 rw[EH,EH];have:=abB (lV rs) 0 i D b r.slot (aDC k) (by simpa using hi) (λj v t u l d=>by
  obtain⟨s,m,rfl⟩:=alW t;have f:j<ops.size:=by have:=(fV.1 m).1;rw[C.len]at this;exact this
  have g:=C.open_ p h hi q f (by simp at l;rw[l];simp;omega);have x:=Ov h (C.pairs i j r s k m g);exact RP (QL x.1 ((Ah _ _).1 d)))
 simp only[l9]at this;unfold mZ;rw[this];cases gQ r.slot b<;>rfl
def tV.alC(C:tV ops M rs nn N0)(l:Closed ops D)(h:ops[i]? =some o)(m:rs[i]? =some r)(hi:D i=false)(p:∀e∈o.after.toList,Region.binds .any e=true->D e.on=true){d:Nat}(q:d∈o.looksAt ops):
 (jP ((lV rs).take i) a0.t).get d=(lg (lV rs) 0 D a0.t).get d:=by
 rw[NM (lV rs) i 0,EH];congr 1;refine Oc _ _ _ _ _ λj u t b=>?_;obtain⟨s,k,rfl⟩:=alW t;have f:j<ops.size:=by have:=(fV.1 k).1;rw[C.len]at this;exact this
 simp only[l9]at b;have g:=C.open_ l h hi p f (λe=>b e.symm);have v:=Ov h (C.pairs i j r s m k g);exact RP (QL v.2.1 q)
def tV.aDd(C:tV ops M rs nn N0)(m:Closed ops D)(h:ops[i]? =some o)(p:rs[i]? =some r)(hi:D i=false)(q:∀e∈o.after.toList,Region.binds .any e=true->D e.on=true){l:Q4}(t:r.vis=some l){b:Nat}(v:b∈l):
 (jP ((iM rs).take i) J0.h).get b=(lg (iM rs) 0 D J0.h).get b:=by
 rw[NM (iM rs) i 0,EH];congr 1;refine Oc _ _ _ _ _ λj u x d=>?_;obtain⟨s,k,rfl⟩:=TF x;have f:j<ops.size:=by have:=(fV.1 k).1;rw[C.len]at this;exact this
 simp only[l9]at d;have g:=C.open_ m h hi q f (λe=>d e.symm);have y:=Ov h (C.pairs i j r s p k g);exact RP (QL (y.2.2.2.1 l t) v)
def Ctx.act(C:Ctx P call ops M rs a0 J0 cf)(b:Ea P ops rs a0 J0 cf F0 w0 D F w A)(g:ops[i]? =some o)(h:rs[i]? =some r)(hi:D i=false)(j:∀e∈o.after.toList,Region.binds .any e=true->D e.on=true):
 TR P F {t:=mG (jP ((lV rs).take i) a0.t) (o.looksAt ops),n:=a0.n,gn:=a0.gn} A:=by
 refine⟨b.tr.gn,b.tr.size,b.tr.none,λd v f=>?_⟩;rw[Df]at f;split at f
 ·next k=>
  rw[C.alC (a0:=a0) b.closed g h hi j k]at f;exact b.tr.slot d v f
 ·cases f
def Ctx.gen(C:Ctx P call ops M rs a0 J0 cf)(I:tN P call)(d:Ea P ops rs a0 J0 cf F0 w0 D F w A)(ho:ops[i]? =some o)(Y:rs[i]? =some r)(aa:i<ops.size)(hi:D i=false)
 (iQ:∀e∈o.after.toList,Region.binds .any e=true->D e.on=true) {Z:Env} {τ τ':aC} {v:Qf} {a:bK} {K:Act->World->Prop} {Q:Exit->Act->World->Prop}
 (Wv:SR P Z τ w) (ab:TR P Z a A) (L:Z.le F) (R:Z.ro=F.ro) (ac:xq P call o a.eval τ=some (v,τ')) (Ro:r.slot=sW o v)
 (sub:∀id B,τ.get id=some B->(lg (iM rs) 0 D J0.h).get id=some B) (free:∀id,F.has id->¬(τ.next<=id/\id<τ'.next))
 (hu:∀b B,gQ r.upd b=some (some B)->τ'.get b=some B/\((∃o0,τ.get b=some o0/\o0.own=true)\/(B.own=true/\τ.get b=none)))
 (O7:∀id B,τ.get id=some B->B.own=true->τ.lock<=id->gQ r.upd id≠none) (ad:J0.lock<=τ.lock) (EK:∀b,gQ r.upd b≠none->τ.lock<=b)
 (E:∀id,τ.next<=id->id<τ'.next->J0.next<=id/\id<cf/\(id=J0.next+i\/(r.base<=id/\id<r.next)))
 (hK:∀F' A' w',Ea P ops rs a0 J0 cf F0 w0 (mZ D i) F' w' A'->K A' w'):o.wp P A w K Q:=by
 refine Zu Wv I ab ac λx p w' g hx=>?_;let F':Env:=⟨λid=>if τ.next<=id/\id<τ'.next then p id else F id,p.ro,λid=>if τ.next<=id/\id<τ'.next then p.gh id else F.gh id⟩
 have h1:F.le F':=⟨λid q m=>by
  show(if τ.next<=id/\id<τ'.next then p id else F id)=some q
  rw[aj (free id (.inl ⟨q,m⟩))];exact m,λb o hb=>g.ext.ro b o (by rw[R];exact hb),λid t=>by
  show(if τ.next<=id/\id<τ'.next then p.gh id else F.gh id)=true
  rw[aj (free id (.inr t))];exact t⟩
 have h2:p.le F':=⟨λid q m=>by
  show(if τ.next<=id/\id<τ'.next then p id else F id)=some q
  split
  ·exact m
  ·next y=>
   rcases g.ax8 m with f|f
   ·exact L.pl _ _ f
   ·exact absurd f y,λ_ _ h=>h,λid t=>by
  show(if τ.next<=id/\id<τ'.next then p.gh id else F.gh id)=true
  split
  ·exact t
  ·next y=>
   rcases g.new id (.inr t)with(⟨q,f⟩|f)|f
   ·have:=g.ext.pl _ _ f;rw[(g.rel.kH id t).1]at this;cases this
   ·exact L.gh _ f
   ·exact absurd f y⟩
 have z:∀id,F'.has id->F.has id\/(τ.next<=id/\id<τ'.next):=λid hh=>by
  by_cases y:τ.next<=id/\id<τ'.next
  ·exact .inr y
  ·left;rcases hh with⟨q,m⟩|t
   ·have S:(if τ.next<=id/\id<τ'.next then p id else F id)=some q:=m;rw[aj y]at S;exact .inl ⟨q,S⟩
   ·have l:(if τ.next<=id/\id<τ'.next then p.gh id else F.gh id)=true:=t;rw[aj y]at l;exact .inr l
 have ae:∀id,F'.gh id=true->F' id=none:=λid t=>by
  have l:(if τ.next<=id/\id<τ'.next then p.gh id else F.gh id)=true:=t;show(if τ.next<=id/\id<τ'.next then p id else F id)=none
  split at l
  ·next y=>rw[au y];exact(g.rel.kH id l).1
  ·next y=>rw[aj y];exact(d.st.rel.kH id l).1
 have t:=C.ahP (J0:=J0) d.closed ho Y hi iQ;have H:∀id,F'.has id->id<cf:=λid m=>by
  rcases z id m with f|⟨f,O⟩
  ·exact d.st.rel.hasLt f
  ·exact(E id f O).2.1
 obtain⟨af,size,T,own,rW⟩:=St.merge (J':={h:=lg (iM rs) 0 (mZ D i) J0.h,next:=cf,lock:=J0.lock}) (upd:=r.upd) (F':=F') d.st.rel Wv g sub L R rfl h1 h2 t hu O7 ad EK (λid q m=>H id (.inl ⟨q,m⟩)) (λid U=>⟨ae id U,H id (.inr U)⟩);refine hK F' _ w' ⟨?_,?_,?_,?_⟩
 ·intro k o' hk N e he hb;unfold mZ at hk⊢;simp only[oV]at hk⊢;rcases hk with hk|hk
  ·exact .inl (d.closed k o' hk N e he hb)
  ·have:=bQ hk;subst this;rw[ho]at N;cases N;exact .inl (iQ e he hb)
 ·refine d.st.then h1 af size T own g.os g.tape g.output rfl (dK _) ?_ rW;intro id m;rcases z id m with f|⟨f,O⟩
  ·exact .inl f
  ·exact .inr ⟨(E id f O).1,(E id f O).2.1⟩
 ·have l:=C.Wh (a0:=a0) d.closed ho Y hi iQ;rw[Ro]at l;exact d.tr.add h1 l (by rw[<-Ro];exact(C.slot i r Y).2) (λu ag=>VR.mono h2 _ _ (hx u ag))
 ·intro id m;have W:∀k,D k=true->mZ D i k=true:=λk hk=>by unfold mZ;rw[hk];rfl
  have X:mZ D i i=true:=by unfold mZ;simp
  rcases z id m with f|⟨f,O⟩
  ·rcases d.dm id f with G|⟨k,G,h6,h7⟩|⟨j,s,G,h6,h7⟩
   ·exact .inl G
   ·exact .inr (.inl ⟨k,G,W k h6,h7⟩)
   ·exact .inr (.inr ⟨j,s,G,W j h6,h7⟩)
  ·obtain⟨_,_,G|G⟩:=E id f O
   ·exact .inr (.inl ⟨i,aa,X,G⟩)
   ·exact .inr (.inr ⟨i,r,Y,X,G⟩)
end
section
variable{call:Caller}{ops:W7}{M:Q4}{rs:Wo}{a0:bK}{J0:aC}{cf:Nat}{F0 F:Env}{w0 w:World}{D:Nat->Bool}{A:Act}{i:Nat}{o:Oper}{r:dX}
def abH{l:Q4}{f:Nat->Option bM}{b:Nat}{x:Option bM}(h:gQ (l.map λk=>(k,f k)) b=some x):b∈l/\x=f b:=by
 induction l with
 |nil=>simp[gQ]at h
 |cons k l d=>
  simp only[iU,gQ]at h;split at h
  ·next y g=>cases h;have:=d g;exact⟨by simp[this.1],this.2⟩
  ·split at h
   ·next e=>cases h;subst e;exact⟨aA,rfl⟩
   ·cases h
def keys_map(l:Q4)(f:Nat->Option bM):keysOf (l.map λk=>(k,f k))=l:=by simp[keysOf,List.map_map,Function.comp_def]
def JW{τ:aC}:∀{n c b:Nat}{x:Option bM},gQ (G9 τ c n) b=some x->c<=b/\b<c+n/\∀o,x=some o->τ.get b=some o/\o.own=true
 |0,c,b,x,h=>by simp[G9,gQ]at h
 |n+1,c,b,x,h=>by
  simp only[G9,gQ]at h;split at h
  ·next y g=>
   cases h;obtain⟨h1,l,j⟩:=JW g;exact⟨ah,ah,j⟩
  ·split at h
   ·next e=>
    subst e;simp only[bf]at h;refine⟨Nat.le_refl _,ah,λo k=>?_⟩;rw[k]at h;split at h
    ·next m f=>
     split at h
     ·next d=>cases h;exact⟨f,d⟩
     ·cases h
    ·cases h
   ·cases h
def Xh{l m:YY}{b:Nat}:gQ (l++m) b=match gQ m b with|some x=>some x|none=>gQ l b:=by
 induction l with
 |nil=>simp only[aW];cases gQ m b<;>rfl
 |cons p l d=>obtain⟨k,v⟩:=p;simp only[bg,gQ,d];cases gQ m b<;>rfl
def EX{h:Tr bM}{b:Nat}{l:Q4}{k:Nat}:k∈KI h b l↔k∈l/\b<=k/\∃d,h.get k=some d/\d.own=true:=by
 unfold KI;rw[BZ,aO];constructor
 ·rintro⟨f,g,e⟩
  refine⟨f,um g,?_⟩;split at e
  ·next d j=>exact⟨d,j,e⟩
  ·cases e
 ·rintro⟨f,g,d,e,m⟩
  exact⟨f,aeS g,by rw[e];exact m⟩
def SR.cutAt{F:Env}{J τ:aC}{w:World}{c:Nat}(h:SR P F J w)(N:P.globals.size<c)(b:∀id o,τ.get id=some o->J.get id=some o)(k:∀id o,τ.get id=some o->id<c/\CS c o=true)(O:c<=τ.next):SR P (F.cut c) τ w:=by
 have d:∀id q,id<c->F id=some q->F.cut c id=some q:=λid q l m=>by simp only[Env.cut];rw[au l];exact m
 refine⟨λg p=>?_,λid q f=>?_,λid o j=>?_,λid s=>?_,λid o t z q B u v x E G H=>?_,h.jl,λid o q u v x=>h.lU id o q (b _ _ u) v ((Env.Nr _ _).pl _ _ x),h.tabs⟩
 ·obtain⟨I,es,l⟩:=h.nR g p;exact⟨I,es,d _ _ ah l⟩
 ·simp only[Env.cut]at f;split at f
  ·omega
  ·cases f
 ·rcases h.live id o (b _ _ j)with⟨q,f,L⟩|⟨y,m⟩
  ·exact .inl ⟨q,d _ _ (k id o j).1 f,L.cut (k id o j).2⟩
  ·exact .inr ⟨Env.agy (k id o j).1 y,m⟩
 ·have e:(decide (id<c)&&F.gh id)=true:=s;rw[aO,decide_eq_true_iff]at e;exact⟨by simp only[Env.cut];rw[au e.1];exact(h.kH id e.2).1,ah⟩
 ·exact h.sep id o t z q B (b _ _ u) v (b _ _ x) E ((Env.Nr _ _).pl _ _ G) ((Env.Nr _ _).pl _ _ H)
def SR.part{F:Env}{J τ:aC}{w:World}(h:SR P F J w)(b:∀id o,τ.get id=some o->J.get id=some o)(j:∀id,F.has id->id<τ.next):SR P F τ w:=
 ⟨h.nR,λid q l=>j id (.inl ⟨q,l⟩),λid o m=>h.live id o (b id o m),λid k=>⟨(h.kH id k).1,j id (.inr k)⟩,λid o d p q s e f g t u v=>h.sep id o d p q s (b _ _ e) f (b _ _ g) t u v,h.jl,λid o q e f g=>h.lU id o q (b _ _ e) f g,h.tabs⟩
def Qi{c:Nat}{h:Tr bM}:∀{l:Q4},Qh c h l=true->∀k∈l,k<c/\∀o,h.get k=some o->CS c o=true
 |[],_,k,hk=>by simp at hk
 |x::l,b,k,hk=>by
  simp only[Qh,aO]at b;simp only[bJ]at hk;rcases hk with rfl|hk
  ·refine⟨by have:=b.1.1;rwa [jM]at this,λo d=>?_⟩;have:=b.1.2;rw[d]at this;exact this
  ·exact Qi b.2 k hk
def afy{c:Nat}{t:Tr AV}:∀{l:Q4},MV c t l=true->∀k∈l,∀v,t.get k=some v->v.under c=true
 |[],_,k,hk=>by simp at hk
 |x::l,b,k,hk=>by
  simp only[MV,aO]at b;simp only[bJ]at hk;rcases hk with rfl|hk
  ·intro v d;have:=b.1;rw[d]at this;exact this
  ·exact afy b.2 k hk
def ac2{M:Q4}{i:Nat}:∀{rs:Wo}{k:Nat}{b:Nat},b∉EZ M i rs k->∀(j:Nat) r,rs[j]? =some r->zJ M i (k+j)=true->b∉keysOf r.upd
 |[],k,b,_,j,r,e,_=>by simp at e
 |s::rs,k,b,d,j,r,e,f=>by
  unfold EZ at d;cases j with
  |zero=>simp at e;subst e;rw[oW]at f;rw[au f]at d;simp only[iP,not_or]at d;exact d.1
  |succ j=>
   have g:b∉EZ M i rs (k+1):=by
    split at d
    ·simp only[iP,not_or]at d;exact d.2
    ·exact d
   exact ac2 g j r (by simpa using e) (by rw[(ah:k+1+j=k+(j+1))];exact f)
def ai9{M:Q4}{i:Nat}:∀{rs:Wo}{k:Nat}{b:Nat}(j:Nat)(r:dX),rs[j]? =some r->zJ M i (k+j)=false->b∈keysOf r.upd->b∈RN M i rs k
 |[],k,b,j,r,d,_,_=>by simp at d
 |s::rs,k,b,j,r,d,e,f=>by
  unfold RN;cases j with
  |zero=>simp at d;subst d;rw[oW]at e;rw[aj (by rw[e];simp)];simp[f]
  |succ j=>
   have:=ai9 (k:=k+1) j r (by simpa using d) (by rw[(ah:k+1+j=k+(j+1))];exact e) f;split
   ·exact this
   ·simp[this]
def Ctx.bound(C:Ctx P call ops M rs a0 J0 cf)(b:Ea P ops rs a0 J0 cf F0 w0 D F w A)(id:Nat)(h:F.has id):id<cf:=b.st.rel.hasLt h
def Ctx.apart(C:Ctx P call ops M rs a0 J0 cf)(d:Ea P ops rs a0 J0 cf F0 w0 D F w A)(g:rs[i]? =some r)(hi:D i=false){id:Nat}(h:F.has id):¬(r.base<=id/\id<r.next):=by
 rintro⟨q,t⟩
 have m:=C.lo g;rcases d.dm id h with f|⟨k,f,l,p⟩|⟨j,s,f,l,p,u⟩
 ·omega
 ·omega
 ·by_cases e:i=j
  ·subst e;rw[hi]at l;cases l
  ·rcases Nat.lt_or_gt_of_ne e with b|b
   ·have:=C.lt g f b;omega
   ·have:=C.lt f g b;omega
def Ctx.step(C:Ctx P call ops M rs a0 J0 cf)(R:tN P call)(ad:SR P F0 J0 w0)(g:Ea P ops rs a0 J0 cf F0 w0 D F w A)(W:i<ops.size)(hi:D i=false)
 (Hf:∀o,ops[i]? =some o->∀e∈o.after.toList,Region.binds .any e=true->D e.on=true) (aL:pI ops M i=false) {K:Act->World->Prop} {Q:Exit->Act->World->Prop}
 (hK:∀F' A' w',Ea P ops rs a0 J0 cf F0 w0 (mZ D i) F' w' A'->K A' w'):wpOp P ops Q i K A w:=by
 obtain⟨o,U⟩:∃o,ops[i]? =some o:=⟨ops[i],by simp[W]⟩
 obtain⟨r,T⟩:∃r,rs[i]? =some r:=⟨_,bV (by rw[C.len];exact W)⟩
 have iQ:=Hf o U;have f:=C.one i r T;have E:=C.act g U T hi iQ;have aM:=C.base T;have al:=C.lo T;have am:=C.hi T;have aR:P.globals.size<J0.next:=by obtain⟨sz,es,p⟩:=ad.nR P.globals.size (dK _);exact ad.dom _ _ p
 have an:=(C.slot i r T).1;have a8:=C.lock;have ag:=C.big;have ao:=C.bound g;unfold zk at f;rw[aL]at f;simp only[iJ,if_false]at f;unfold CW at f;rw[U]at f;simp only at f;unfold wpOp;rw[U];simp only;split at f
 ·cases f
 ·
   next hw=>
   rw[Iu E hw];simp only[iJ,if_false];cases f;refine hK F _ w ⟨?_,?_,?_,?_⟩
   ·intro k o' hk ap e he q;unfold mZ at hk⊢;simp only[oV]at hk⊢;rcases hk with hk|hk
    ·exact .inl (g.closed k o' hk ap e he q)
    ·have:=bQ hk;subst this;rw[U]at ap;cases ap;exact .inl (Hf _ U e he q)
   ·have hg:=C.ahP (J0:=J0) g.closed U T hi iQ;refine g.st.sub ?_ (dK _) rfl;intro id m I;have:(lg (iM rs) 0 (mZ D i) J0.h).get id=some m:=I;rw[hg]at this;exact this
   ·exact g.tr.add (Env.le.refl _) (C.Wh (a0:=a0) g.closed U T hi iQ) (C.slot i _ T).2 (by rintro u hu;cases hu;exact⟨[],rfl,rfl⟩)
   ·intro id X;have ax:∀k,D k=true->mZ D i k=true:=λk hk=>by unfold mZ;rw[hk];rfl
    rcases g.dm id X with L|⟨k,L,Z,h7⟩|⟨j,s,L,Z,h7⟩
    ·exact .inl L
    ·exact .inr (.inl ⟨k,L,ax k Z,h7⟩)
    ·exact .inr (.inr ⟨j,s,L,ax j Z,h7⟩)
 ·
   next hw=>
   rw[Iu E hw];simp only[if_true];left;have B:∀l:Q4,r.vis=some l->∀id m,(mG (jP ((iM rs).take i) J0.h) l).get id=some m->(lg (iM rs) 0 D J0.h).get id=some m/\id∈l/\(jP ((iM rs).take i) J0.h).get id=some m:=by
    intro l hl id m I;rw[Df]at I;split at I
    ·next hm=>rw[<-C.aDd (J0:=J0) g.closed U T hi iQ hl hm];exact⟨I,hm,I⟩
    ·cases I
   have ay:∀c,MV c (jP ((lV rs).take i) a0.t) (o.looksAt ops)=true->TR P (F.cut c) {t:=mG (jP ((lV rs).take i) a0.t) (o.looksAt ops),n:=a0.n,gn:=a0.gn} A:=by
    intro c q;refine⟨E.gn,E.size,E.none,λd v hv=>?_⟩;obtain⟨x,hx,mD⟩:=E.slot d v hv;refine⟨x,hx,VR.cut v x ?_ mD⟩;rw[Df]at hv;split at hv
    ·next hd=>exact afy q d hd v hv
    ·cases hv
   split at f
   ·
     next ty a1=>
     split at f
     ·next z hz=>
      cases f;have G:xq P call o (bK.eval {t:=.nil,n:=a0.n,gn:=a0.gn}) {h:=.nil,next:=J0.next+i,lock:=J0.lock}=some (some (.p (J0.next+i) 0),({h:=.nil,next:=J0.next+i,lock:=J0.lock}:aC).new (.cells z ty true false)):=by unfold xq;rw[a1];simp only[hz,iH]
      have N:SR P (F.cut J0.next) {h:=.nil,next:=J0.next+i,lock:=J0.lock} w:=g.st.rel.cutAt aR (λid m h=>by simp[aC.get]at h) (λid m h=>by simp[aC.get]at h) aA;refine C.gen R g U T W hi iQ N (a:={t:=.nil,n:=a0.n,gn:=a0.gn}) ⟨E.gn,E.size,E.none,λd v hv=>by simp at hv⟩ (Env.Nr _ _) rfl G rfl (λid m h=>by simp[aC.get]at h) ?_ ?_ ?_ (dK _) ?_ ?_ hK
      ·rintro id X ⟨p,y⟩
       have Y:J0.next+i<=id:=p;have a2:id<J0.next+i+1:=y;rcases g.dm id X with H|⟨k,H,S,L⟩|⟨j,s,H,S,L,Z⟩
       ·omega
       ·have:k=i:=ah;subst this;rw[hi]at S;cases S
       ·have:=C.lo H;omega
      ·intro b m q;simp only[gQ]at q;split at q
       ·next e=>
        cases q;subst e;refine⟨?_,.inr ⟨rfl,Tr.get_nil _⟩⟩;rw[aC.qK,au rfl]
       ·cases q
      ·intro id m h;simp[aC.get]at h
      ·intro b q;have:=(Ah _ _).1 q;simp[keysOf]at this;subst this;show J0.lock<=J0.next+i
       omega
      ·intro id p y;have Y:J0.next+i<=id:=p;have a2:id<J0.next+i+1:=y;have:=C.Z5;exact⟨ah,ah,.inl ah⟩
     ·cases f
   ·split at f
    ·
      next l ab=>
      split at f
      ·next v τ' G=>
       rw[Ez]at G;split at f
       ·next aq=>
        cases f;have a3:=bQ aq;have N:SR P F {h:=mG (jP ((iM rs).take i) J0.h) l,next:=vW,lock:=vW} w:=g.st.rel.part (λid m h=>(B l rfl id m h).1) (λid X=>yX (ao id X) ag);refine C.gen R g U T W hi iQ N E (Env.le.refl _) rfl G rfl (λid m h=>(B l rfl id m h).1) ?_ ?_ ?_ ?_ ?_ ?_ hK
        ·rintro id X ⟨p,y⟩
         have Y:vW<=id:=p;omega
        ·intro b m q;simp[gQ]at q
        ·intro id m p y H;have a4:vW<=id:=H;have:=ao id (N.Q9 p);omega
        ·have:=C.Z5;show J0.lock<=vW;omega
        ·intro b q;simp[gQ]at q
        ·intro id p y;have Y:vW<=id:=p;omega
       ·cases f
      ·cases f
    ·
      next l ab=>
      split at f
      ·next v τ' G=>
       rw[Ez]at G;split at f
       ·next aq=>
        cases f;have a3:=bQ aq;have N:SR P F {h:=mG (jP ((iM rs).take i) J0.h) l,next:=vW,lock:=J0.lock} w:=g.st.rel.part (λid m h=>(B l rfl id m h).1) (λid X=>yX (ao id X) ag);refine C.gen R g U T W hi iQ N E (Env.le.refl _) rfl G rfl (λid m h=>(B l rfl id m h).1) ?_ ?_ ?_ (dK _) ?_ ?_ hK
        ·rintro id X ⟨p,y⟩
         have Y:vW<=id:=p;omega
        ·intro b m q;obtain⟨p,y⟩:=abH q;obtain⟨H,S,aa,L,Z⟩:=EX.1 p;refine⟨y.symm,.inl ⟨aa,?_,Z⟩⟩;show(mG _ l).get b=_
         rw[Df,au H];exact L
        ·intro id m p y H;obtain⟨_,S,L⟩:=B l rfl id m p;rw[Ah,keys_map];exact EX.2 ⟨S,H,m,L,y⟩
        ·intro b q;rw[Ah,keys_map]at q;exact(EX.1 q).2.1
        ·intro id p y;have Y:vW<=id:=p;omega
       ·cases f
      ·cases f
    ·
      next l ab=>
      split at f
      ·next O=>
       simp only[aO]at O;split at f
       ·next v τ' G=>
        rw[Ez]at G;cases f;simp only at al am an
        have N:SR P (F.cut (jX (J0.next+ops.size) rs i)) {h:=mG (jP ((iM rs).take i) J0.h) l,next:=jX (J0.next+ops.size) rs i,lock:=J0.lock} w:=
         g.st.rel.cutAt ah (λid m h=>(B l rfl id m h).1) (λid m h=>by obtain⟨_,p,y⟩:=B l rfl id m h;have:=Qi O.2 id p;exact⟨this.1,this.2 m y⟩) (dK _)
        refine C.gen R g U T W hi iQ N (ay _ O.1) (Env.Nr _ _) rfl G rfl (λid m h=>(B l rfl id m h).1) ?_ ?_ ?_ (dK _) ?_ ?_ hK
        ·rintro id X ⟨p,y⟩
         exact C.apart g T hi X ⟨p,y⟩
        ·intro b m q;rw[Xh]at q;split at q
         ·next x hx=>
          cases q;obtain⟨p,y,H⟩:=JW hx;obtain⟨S,L⟩:=H m rfl;refine⟨S,.inr ⟨L,?_⟩⟩;show(mG _ l).get b=none
          rw[Df];split
          ·next hm=>have:=(Qi O.2 b hm).1;omega
          ·rfl
         ·obtain⟨p,y⟩:=abH q;obtain⟨H,S,aa,L,Z⟩:=EX.1 p;refine⟨y.symm,.inl ⟨aa,?_,Z⟩⟩;show(mG _ l).get b=_
          rw[Df,au H];exact L
        ·intro id m p y H;obtain⟨_,S,L⟩:=B l rfl id m p;rw[Ah];unfold keysOf;rw[nP,iP];left;have:=keys_map (KI (jP ((iM rs).take i) J0.h) J0.lock l) (λk=>τ'.get k);unfold keysOf at this;rw[this];exact EX.2 ⟨S,H,m,L,y⟩
        ·intro b q;rw[Xh]at q;split at q
         ·next x hx=>
          obtain⟨p,_,_⟩:=JW hx;show J0.lock<=b
          omega
         ·rw[Ah,keys_map]at q;exact(EX.1 q).2.1
        ·intro id p y;have Y:jX (J0.next+ops.size) rs i<=id:=p;exact⟨ah,ah,.inr ⟨p,y⟩⟩
       ·cases f
      ·cases f
    ·
      next ab=>
      split at f
      ·next v τ' az=>
       have G:=aE6 az;rw[Ez]at G;cases f;simp only at al am an;have ac:∀id,F.has id->id<jX (J0.next+ops.size) rs i:=by
        intro id X;rcases g.dm id X with H|⟨k,H,S,L⟩|⟨j,s,H,S,L,Z⟩
        ·omega
        ·omega
        ·have ar:i≠j:=by rintro rfl;rw[hi]at S;cases S
         rcases Nat.lt_or_gt_of_ne ar with av|av
         ·have aw:j<ops.size:=by have:=(fV.1 H).1;rw[C.len]at this;exact this
          have ae:=C.open_ g.closed U hi iQ aw (by rw[S];simp;omega);have hp:=Ov U (C.pairs i j _ s T H ae);have:=(hp.2.2.2.2.1 rfl av).2.2;omega
         ·have:=C.lt H T av;simp only at this;omega
       have ai:∀id m,(GZ (jP ((iM rs).take i) J0.h) (EZ M i (rs.take i) 0)).get id=some m->(lg (iM rs) 0 D J0.h).get id=some m:=by
        intro id m I;rw[ahO]at I;split at I
        ·cases I
        ·next aD=>
         rw[<-I,NM (iM rs) i 0,EH];congr 1;refine(Oc _ _ _ _ _ λj u hj af=>?_).symm;obtain⟨s,hs,rfl⟩:=TF hj;have aw:j<ops.size:=by have:=(fV.1 hs).1;rw[C.len]at this;exact this
         simp only[l9]at af;have ae:=C.open_ g.closed U hi iQ aw (λe=>af e.symm);apply RP;by_cases a5:j<i
         ·exact ac2 aD j s (by rw[mW,au a5];exact hs) (by rw[l9];exact ae)
         ·have ar:i<j:=by
           rcases xY i j with h|h
           ·exact h
           ·have:i=j:=ah;subst this;rw[hi]at af;simp at af
          have hp:=Ov U (C.pairs i j _ s T hs ae);obtain⟨p,y,H⟩:=hp.2.2.2.2.1 rfl ar;intro ak;have a9:=p id ak;rw[NM (iM rs) i 0]at I;cases hl:nH (iM rs) 0 (λj=>decide (j<0+i)) id with
          |none=>rw[hl]at I;have:=ad.hasLt (ad.Q9 I);omega
          |some x=>
           obtain⟨j',u',S,L,Z⟩:=abC _ _ _ _ _ hl;obtain⟨s',a6,rfl⟩:=TF S;simp only[l9,decide_eq_true_eq]at L;have hk:id∈keysOf s'.upd:=(Ah _ _).1 (by rw[Z];simp);have aE:(rs.take i)[j']? =some s':=by rw[mW,au L];exact a6
           have a7:zJ M i (0+j')=false:=by
            cases hu:zJ M i (0+j')with
            |false=>rfl
            |true=>exact absurd hk (ac2 aD j' s' aE hu)
           have:=ai9 j' s' aE a7 hk;exact QL y this ak
       have N:SR P F {h:=GZ (jP ((iM rs).take i) J0.h) (EZ M i (rs.take i) 0),next:=jX (J0.next+ops.size) rs i,lock:=jX (J0.next+ops.size) rs i} w:=g.st.rel.part ai ac;refine C.gen R g U T W hi iQ N E (Env.le.refl _) rfl G rfl ai ?_ ?_ ?_ ?_ ?_ ?_ hK
       ·rintro id X ⟨p,y⟩
        exact C.apart g T hi X ⟨p,y⟩
       ·intro b m q;obtain⟨p,y,H⟩:=JW q;obtain⟨S,L⟩:=H m rfl;refine⟨S,.inr ⟨L,?_⟩⟩;cases hg:aC.get {h:=GZ (jP ((iM rs).take i) J0.h) (EZ M i (rs.take i) 0),next:=jX (J0.next+ops.size) rs i,lock:=jX (J0.next+ops.size) rs i} b with
        |none=>rfl
        |some aa=>have:=ac b (N.Q9 hg);omega
       ·intro id m p y H;have a4:jX (J0.next+ops.size) rs i<=id:=H;have:=ac id (N.Q9 p);omega
       ·show J0.lock<=jX (J0.next+ops.size) rs i
        omega
       ·intro b q;cases hx:gQ (G9 τ' (jX (J0.next+ops.size) rs i) (τ'.next-jX (J0.next+ops.size) rs i)) b with
        |none=>exact absurd hx q
        |some x=>exact(JW hx).1
       ·intro id p y;have Y:jX (J0.next+ops.size) rs i<=id:=p;exact⟨ah,ah,.inr ⟨p,y⟩⟩
      ·generalize SQ o (bK.eval {t:=mG (jP ((lV rs).take i) a0.t) (o.looksAt ops),n:=a0.n,gn:=a0.gn}) (jP ((iM rs).take i) J0.h)=l at f;split at f
       ·next O=>
        simp only[aO]at O;split at f
        ·next v τ' G=>
         rw[Ez]at G;cases f;simp only at al am an
         have N:SR P (F.cut (jX (J0.next+ops.size) rs i)) {h:=mG (jP ((iM rs).take i) J0.h) l,next:=jX (J0.next+ops.size) rs i,lock:=J0.lock} w:=
          g.st.rel.cutAt ah (λid m h=>(B l rfl id m h).1) (λid m h=>by obtain⟨_,p,y⟩:=B l rfl id m h;have:=Qi O.2 id p;exact⟨this.1,this.2 m y⟩) (dK _)
         refine C.gen R g U T W hi iQ N (ay _ O.1) (Env.Nr _ _) rfl G rfl (λid m h=>(B l rfl id m h).1) ?_ ?_ ?_ (dK _) ?_ ?_ hK
         ·rintro id X ⟨p,y⟩
          exact C.apart g T hi X ⟨p,y⟩
         ·intro b m q;rw[Xh]at q;split at q
          ·next x hx=>
           cases q;obtain⟨p,y,H⟩:=JW hx;obtain⟨S,L⟩:=H m rfl;refine⟨S,.inr ⟨L,?_⟩⟩;show(mG _ l).get b=none
           rw[Df];split
           ·next hm=>have:=(Qi O.2 b hm).1;omega
           ·rfl
          ·obtain⟨p,y⟩:=abH q;obtain⟨H,S,aa,L,Z⟩:=EX.1 p;refine⟨y.symm,.inl ⟨aa,?_,Z⟩⟩;show(mG _ l).get b=_
           rw[Df,au H];exact L
         ·intro id m p y H;obtain⟨_,S,L⟩:=B l rfl id m p;rw[Ah];unfold keysOf;rw[nP,iP];left;have:=keys_map (KI (jP ((iM rs).take i) J0.h) J0.lock l) (λk=>τ'.get k);unfold keysOf at this;rw[this];exact EX.2 ⟨S,H,m,L,y⟩
         ·intro b q;rw[Xh]at q;split at q
          ·next x hx=>
           obtain⟨p,_,_⟩:=JW hx;show J0.lock<=b
           omega
          ·rw[Ah,keys_map]at q;exact(EX.1 q).2.1
         ·intro id p y;have Y:jX (J0.next+ops.size) rs i<=id:=p;exact⟨ah,ah,.inr ⟨p,y⟩⟩
        ·cases f
       ·cases f
end
section
variable{call:Caller}{ops:W7}{M:Q4}{rs:Wo}{a0:bK}{J0:aC}{cf:Nat}{F0:Env}{w0:World}
def inB(b:Array Bool):Nat->Bool:=λj=>b.getD j false
def ak6{b:Array Bool}(p:b.size=ops.size){i:Nat}(h:i∈Region.ready .any ops b):i<ops.size/\inB b i=false/\∀o,ops[i]? =some o->∀e∈o.after.toList,Region.binds .any e=true->inB b e.on=true:=by
 unfold Region.ready at h;simp only[BZ,AO,aO,wU]at h;obtain⟨j,g,d⟩:=h;have f:i<b.size:=ah;refine⟨j,?_,?_⟩
 ·unfold inB;rw[Az,D8 f]at g⊢;exact g
 ·intro o k e l m;rw[k]at d;simp only[iH,sH]at d;rw[Array.all_eq_true']at d;have:=d e (by simpa using l);rw[m]at this;simpa[inB]using this
def count_set(b:Array Bool)(i:Nat)(h:b[i]? =some false):(b.setIfInBounds i true).toList.count false+1=b.toList.count false:=by
 have d:i<b.size:=(rX.1 h).1;have g:b[i]=false:=(rX.1 h).2;have e:b.toList[i]'(by simpa using d)=false:=by simpa using g
 have f:0<b.toList.count false:=List.count_pos_iff.2 (by rw[<-e];exact gY _);rw[Array.toList_setIfInBounds,List.count_set (by simpa using d),e];have j:((false==false)=true):=rfl;have k:¬((true==false)=true):=aU;rw[au j,aj k];omega
def aaM{α:Type}:∀(b:List (List (Nat×Option α)))(k:Nat)(D:Nat->Bool)(t:Tr α),(∀j,j<b.length->D (k+j)=true)->lg b k D t=jP b t
 |[],_,_,_,_=>rfl
 |u::b,k,D,t,h=>by have h0:=h 0 aA;simp only[oW]at h0;rw[lg,au h0,jP,aaM b (k+1) D _ (λj d=>by rw[(ah:k+1+j=k+(j+1))];exact h (j+1) (by simpa using d))]
end
section
variable{ops:W7}{M:Q4}{rs:Wo}{a0:bK}{J:aC}{F0:Env}{w0:World}{n N0:Nat}
def anM(C:tV ops M rs n N0)(Inv:(Nat->Bool)->Env->World->Act->Prop)
 (s:∀D F w A i (K:Act->World->Prop) (Q:Exit->Act->World->Prop),Inv D F w A->i<ops.size->D i=false->(∀o,ops[i]? =some o->∀e∈o.after.toList,Region.binds .any e=true->D e.on=true)->
  (∀F' t w',Inv (mZ D i) F' w' t->K t w')->wpOp P ops Q i K A w) {Q:Exit->Act->World->Prop}
 (X:∀F' t w',Inv (λj=>decide (j<ops.size)) F' w' t->Q .normal t w'):
 ∀(fuel:Nat)(b:Array Bool)(F:Env)(w:World)(A:Act),b.size=ops.size->b.toList.count false=fuel->Inv (inB b) F w A->wpAny P .any ops Q fuel b A w:=by
 intro fuel;induction fuel with
 |zero=>
  intro b F w A E T f;have m:∀j,j<ops.size->inB b j=true:=by
   intro j v;have d:j<b.size:=ah;have u:b[j]∈b.toList:=aA;have:false∉b.toList:=List.count_eq_zero.1 T;unfold inB;rw[Az,D8 d];cases I:b[j]with
   |true=>rfl
   |false=>rw[I]at u;exact absurd u this
  have L:inB b=λj=>decide (j<ops.size):=by
   funext j;by_cases v:j<ops.size
   ·rw[m j v];simp[v]
   ·unfold inB;rw[Az,am6 ah];simp[v]
  refine⟨?_,?_⟩
  ·apply List.eq_nil_iff_forall_not_mem.2;intro i hi;obtain⟨p,g,_⟩:=ak6 E hi;rw[m i p]at g;cases g
  ·rw[L]at f;exact X F A w f
 |succ fuel Y=>
  intro b F w A E T f;refine⟨λZ=>?_,λi hi=>?_⟩
  ·exfalso;have N:∃i,i<ops.size/\inB b i=false/\∀j,j<i->inB b j=true:=by
    have y:0<b.toList.count false:=ah;have u:=List.count_pos_iff.1 y;obtain⟨k,G⟩:=Ze.1 u;have O:k<ops.size:=by have:=(fV.1 G).1;simp at this;omega
    have Rk:inB b k=false:=by unfold inB;rw[Az];rw[xR]at G;rw[G];rfl
    clear u G;induction k using Nat.strongRecOn with
    |_ k R=>
     by_cases H:∃j,j<k/\inB b j=false
     ·obtain⟨j,p,g⟩:=H;exact R j p ah g
     ·refine⟨k,O,Rk,λj v=>?_⟩;cases I:inB b j with
      |true=>rfl
      |false=>exact absurd ⟨j,v,I⟩ H
   obtain⟨i,p,g,S⟩:=N;have q:i∈Region.ready .any ops b:=by
    unfold Region.ready;simp only[BZ,AO,aO,wU];have d:i<b.size:=ah;refine⟨p,?_,?_⟩
    ·unfold inB at g;rw[Az,D8 d]at g⊢;exact g
    ·have U:ops[i]? =some ops[i]:=by simp[p]
     rw[U];simp only[iH,sH];rw[Array.all_eq_true'];intro e he;cases H:Region.binds .any e with
     |false=>rfl
     |true=>
      simp only[Y3,AA];obtain⟨u,W⟩:=C.mask U;have z:wM M e.on i=true:=by
       unfold wM;rw[zN,u];simp only[sH];have:∀(es:List Edge),e∈es->(BI (λj=>(M.take i).getD j 0) es).testBit e.on=true:=by
        intro es;induction es with
        |nil=>intro h;simp at h
        |cons x es B=>
         intro h;rw[BI];simp only[bJ]at h;rcases h with rfl|h
         ·rw[au H,Um,Um,Nat.testBit_two_pow];simp
         ·split
          ·rw[Um,B h,Bool.or_true]
          ·exact B h
       exact this _ (by simpa using he)
      exact S e.on (C.ab6 z)
   rw[Z]at q;simp at q
  ·obtain⟨p,g,S⟩:=ak6 E hi;refine s _ _ _ _ i _ Q f p g S λF' t w' l=>?_;have hf:b[i]? =some false:=by have d:i<b.size:=ah;unfold inB at g;rw[Az,D8 d]at g;rw[D8 d];simpa using g
   have L:mZ (inB b) i=inB (b.setIfInBounds i true):=by
    funext j;unfold mZ inB;have d:i<b.size:=ah;rw[Az,Az,D9];by_cases e:i=j
    ·subst e;rw[au rfl,au d];simp
    ·rw[aj e,H8 (λe'=>e e'.symm)];simp
   rw[L]at l;exact Y _ F' w' t (by simpa using E) (by have:=count_set b i hf;omega) l
end
def ami{ops:W7}{M:Q4}:∀(k i j:Nat),YE ops M k<=i->i<k->pq ops i=false->j<i->pq ops j=true\/wM M j i=true
 |0,i,j,_,h,_,_=>ah
 |k+1,i,j,h1,g,b,d=>by
  unfold YE at h1;split at h1
  ·next f=>
   by_cases e:i=k
   ·subst e;rw[b,AA,List.all_eq_true]at f;have:=f j (by simpa using d);rwa [oV]at this
   ·exact ami k i j h1 ah b d
  ·omega
def YF:∀(rs:Wo)(r:dX)(J:aC),xQ (rs++[r]) J=match r.fin with|some τ=>τ|none=>xQ rs J
 |[],_,_=>rfl
 |s::rs,r,J=>by
  show xQ (rs++[r]) _=_
  rw[YF rs r];rfl
def adR{rs:Wo}{J:aC}:∀k,k<=rs.length->(∀(i:Nat) r,i<k->rs[i]? =some r->r.fin=none)->xQ (rs.take k) J=J
 |0,_,_=>by simp[xQ]
 |k+1,e,h=>by
  obtain⟨r,b⟩:∃r,rs[k]? =some r:=⟨_,bV ah⟩
  rw[Ue,b,ae0,YF,h k r ah b];exact adR k ah (λi d hi=>h i d ah)
def adS{rs:Wo}{J:aC}{m:Nat}{r:dX}{τ:aC}(g:rs[m]? =some r)(j:r.fin=some τ):∀k,m<k->k<=rs.length->(∀(i:Nat) d,m<i->i<k->rs[i]? =some d->d.fin=none)->xQ (rs.take k) J=τ
 |0,h,_,_=>ah
 |k+1,p,q,h=>by
  by_cases e:m=k
  ·subst e;rw[Ue,g,ae0,YF,j]
  ·obtain⟨d,b⟩:∃r,rs[k]? =some r:=⟨_,bV ah⟩
   rw[Ue,b,ae0,YF,h k d ah ah b];exact adS g j k ah ah (λi f l s=>h i f l ah)
def atD{call:Caller}{o:Oper}(l:ED o=true){g:QR}{J1 J2 τ:aC}{v:Qf}(b:Bj P call o g J1=some (v,τ)):Bj P call o g J2=some (v,J2):=by
 rw[Ez]at b⊢;obtain⟨m,h,j,pos,f,guard⟩:=o;cases h with
 |move x=>simp only[xq,fH,bG,pU]at b⊢;obtain⟨u,d,e,_⟩:=b;exact⟨u,d,e,trivial⟩
 |assign x=>simp only[xq,fH,bG,pU]at b⊢;obtain⟨u,d,e,_⟩:=b;exact⟨u,d,e,trivial⟩
 |extract x k=>
  simp only[xq]at b⊢;split at b
  ·simp only[fH,bG,pU]at b⊢;obtain⟨u,d,e,_⟩:=b;exact⟨u,d,e,trivial⟩
  ·cases b
 |binOp h t x y z=>
  simp only[xq]at b⊢;split at b
  ·simp only[fH,bG,pU]at b⊢;obtain⟨u,d,e,_⟩:=b;exact⟨u,d,e,trivial⟩
  ·cases b
 |_=>simp[ED]at l
def aoY{o:Oper}(e:ED o=true)(f:QR):agd o f=.na []:=by obtain⟨g,h,d,pos,b,guard⟩:=o;cases h<;>first|rfl|(simp[ED]at e)
def asw{call:Caller}{ops:W7}{d gn n i c:Nat}{e:Wo}{t:Tr AV}{h:Tr bM}{r:dX}(b:Ns P call ops d gn n e i t h c=some r):r.next=c:=by
 unfold Ns at b;split at b
 ·cases b
 ·split at b
  ·cases b
  ·cases b;rfl
  ·split at b
   ·cases b;rfl
   ·cases b
def aaq{call:Caller}{ops:W7}{M:Q4}{N0 d gn n i c:Nat}{f:Wo}{t:Tr AV}{h:Tr bM}{r:dX}{o:Oper}(p:ops[i]? =some o)(g:ED o=true)(b:CW P call ops M N0 d gn n f i t h c=some r):
 r.upd=[]/\r.next=c/\r.fin=none/\((LH o ops {t:=mG t (o.looksAt ops),n:=n,gn:=gn}=some false/\r.slot=sW o (some (.fG [])))\/
  (LH o ops {t:=mG t (o.looksAt ops),n:=n,gn:=gn}=some true/\∃v,(∀j,Bj P call o (bK.eval {t:=mG t (o.looksAt ops),n:=n,gn:=gn}) j=some (v,j))/\r.slot=sW o v)):=by
 unfold CW at b;rw[p]at b;simp only at b;split at b
 ·cases b
 ·next k=>cases b;exact⟨rfl,rfl,rfl,.inl ⟨k,rfl⟩⟩
 ·next k=>
  split at b
  ·next u e=>exfalso;obtain⟨q,x,m,pos,l,guard⟩:=o;cases e;simp[ED]at g
  ·rw[aoY g]at b;simp only at b;split at b
   ·next v τ s=>
    split at b
    ·cases b;exact⟨rfl,rfl,rfl,.inr ⟨k,v,λj=>atD g s,rfl⟩⟩
    ·cases b
   ·cases b
def aac{ops:W7}{D:Nat->Bool}{i:Nat}(h:Closed ops D)(k:∀o,ops[i]? =some o->∀e∈o.after.toList,Region.binds .any e=true->D e.on=true):Closed ops (mZ D i):=by
 intro j o b d e f g;unfold mZ at b⊢;rw[oV]at b⊢;rcases b with b|b
 ·exact .inl (h j o b d e f g)
 ·have:=bQ b;subst this;exact .inl (k o d e f g)
section
variable{call:Caller}{ops:W7}{M:Q4}{rs:Wo}{a:bK}{J:aC}{c:Nat}{D:Nat->Bool}
def Ctx.act'(C:Ctx P call ops M rs a J c)(g:Closed ops D){i:Nat}{o:Oper}{r:dX}(h:ops[i]? =some o)(j:rs[i]? =some r)(hi:D i=false)(k:∀e∈o.after.toList,Region.binds .any e=true->D e.on=true)
 {F:Env} {A:Act} (b:TR P F {t:=lg (lV rs) 0 D a.t,n:=a.n,gn:=a.gn} A):TR P F {t:=mG (jP ((lV rs).take i) a.t) (o.looksAt ops),n:=a.n,gn:=a.gn} A:=by
 refine⟨b.gn,b.size,b.none,λd v f=>?_⟩;rw[Df]at f;split at f
 ·next l=>
  rw[C.alC (a0:=a) g h j hi k l]at f;exact b.slot d v f
 ·cases f
def Ctx.last(C:Ctx P call ops M rs a J c)(k:tN P call)(p:Closed ops D){i:Nat}{o:Oper}{r:dX}(y:ops[i]? =some o)(z:rs[i]? =some r)(hi:D i=false)(I:∀e∈o.after.toList,Region.binds .any e=true->D e.on=true)(G:pI ops M i=true)
 {F F1:Env} {w0 w1:World} {A:Act} (l:St P F J w0 F1 (xQ (rs.take i) {h:=jP ((iM rs).take i) J.h,next:=jX (J.next+ops.size) rs i,lock:=J.lock}) w1)
 (m:TR P F1 {t:=lg (lV rs) 0 D a.t,n:=a.n,gn:=a.gn} A) {K:Act->World->Prop} {Q:Exit->Act->World->Prop}
 (L:∀B N E τ,r.fin=some τ->St P F J w0 B τ E->TR P B {t:=lg (lV rs) 0 (mZ D i) a.t,n:=a.n,gn:=a.gn} N->K N E):wpOp P ops Q i K A w1:=by
 have b:=C.one i r z;unfold zk at b;rw[au G]at b;unfold Ns at b;rw[y]at b;simp only at b;have f:=C.act' p y z hi I m;have g:=λd=>C.Wh (a0:=a) p y z hi I d;have q:=(C.slot i r z).2;unfold wpOp;rw[y];simp only;split at b
 ·cases b
 ·next H=>
  cases b;rw[Iu f H];simp only[iJ,if_false];exact L F1 _ w1 _ rfl l (m.add (Env.le.refl _) g q (by rintro u O;cases O;exact⟨[],rfl,rfl⟩))
 ·next H=>
  rw[Iu f H];simp only[if_true];left;split at b
  ·next v τ s=>
   rw[Ez]at s;cases b;refine Zu l.rel k f s λx B E j R=>?_;exact L B _ E _ rfl (l.trans j) (m.add j.ext g q R)
  ·cases b
def Ctx.free(C:Ctx P call ops M rs a J c)(k:tN P call)(q:Closed ops D){i:Nat}{o:Oper}{r:dX}(s:ops[i]? =some o)(z:rs[i]? =some r)(hi:D i=false)(L:∀e∈o.after.toList,Region.binds .any e=true->D e.on=true)(N:ED o=true)
 {F F1:Env} {τ:aC} {w0 w1:World} {A:Act} (l:St P F J w0 F1 τ w1) (m:TR P F1 {t:=lg (lV rs) 0 D a.t,n:=a.n,gn:=a.gn} A) {K:Act->World->Prop} {Q:Exit->Act->World->Prop}
 (O:∀B R E,St P F J w0 B τ E->TR P B {t:=lg (lV rs) 0 (mZ D i) a.t,n:=a.n,gn:=a.gn} R->K R E):wpOp P ops Q i K A w1:=by
 have f:=C.one i r z;unfold zk at f;have G:pI ops M i=false:=by unfold pI pq;rw[s];simp only[N,Y3,Bool.and_false]
 rw[G]at f;simp only[iJ,if_false]at f;obtain⟨_,_,_,p⟩:=aaq s N f;have g:=C.act' q s z hi L m;have b:=λd=>C.Wh (a0:=a) q s z hi L d;have h:=(C.slot i r z).2;unfold wpOp;rw[s];simp only;rcases p with⟨H,I⟩|⟨H,v,S,I⟩
 ·rw[I]at b h;rw[Iu g H];simp only[iJ,if_false];exact O F1 _ w1 l (m.add (Env.le.refl _) b h (by rintro u T;cases T;exact⟨[],rfl,rfl⟩))
 ·rw[I]at b h;rw[Iu g H];simp only[if_true];left;have y:=S τ;rw[Ez]at y;refine Zu l.rel k g y λx B E j U=>?_;exact O B _ E (l.trans j) (m.add j.ext b h U)
def Ctx.amj(C:Ctx P call ops M rs a J c){l:Nat}(d:∀i,l<=i->i<ops.size->pI ops M i=true\/pq ops i=true):∀k,l+k<=ops.size->jX (J.next+ops.size) rs (l+k)=jX (J.next+ops.size) rs l
 |0,_=>rfl
 |k+1,h=>by
  have g:=C.amj d k ah;obtain⟨r,e⟩:∃r,rs[l+k]? =some r:=⟨_,bV (by rw[C.len];omega)⟩
  obtain⟨o,f⟩:∃o,ops[l+k]? =some o:=⟨ops[l+k],aA⟩
  have b:=C.one _ _ e;unfold zk at b;rw[(ah:l+(k+1)=(l+k)+1),Qx rs _ _ _ e,<-g];split at b
  ·exact asw b
  ·next j=>
   rcases d (l+k) ah ah with h1|h1
   ·exact absurd h1 j
   ·unfold pq at h1;rw[f]at h1;exact(aaq f h1 b).2.1
end
def asP(hm:P.follows .mixedOrders=true):TW P (Zt P):=by
 intro call v ops a J a' J' hs F w A id Q h ht hK;unfold Zt at hs;simp only at hs;split at hs
 ·next ae=>
  simp only[aO]at ae;split at hs
  ·next rs t hh c az=>
   split at hs
   ·next Bo=>
    simp only[aO]at Bo;obtain⟨⟨⟨aD,an⟩,af⟩,ao⟩:=Bo;obtain⟨new,x,N,h3,h4,h5,h6⟩:=agz _ _ _ _ _ _ _ _ _ _ az;simp only[aW]at x;subst x
    have C:Ctx P call ops (ou ops.toList []) rs a J c:={
     hM:=rfl
     mok:=ae.1
     len:=N
     one:=λi r E=>by have:=h6 i r E;simpa using this
     pairs:=ayR aD an (λi r E=>by have:=h6 i r E;exact asB (by simpa using this))
     slot:=by intro i r E;unfold alX at af;rw[List.all_eq_true]at af;have:=af r (sD E);simp only[aO]at this;refine⟨Nat.le_of_ble_eq_true this.1,λp aE=>?_⟩;have h8:=this.2;rw[List.all_eq_true]at h8;have:=h8 p aE;rwa [jM]at this
     fin:=h5
     big:=um ao
     lock:=um ae.2}
    refine wp_region_any hm ?_;have G:=C.Z5;have O:inB (Array.replicate ops.size false)=λ_=>false:=by funext j;unfold inB;rw[Az,Array.getElem?_replicate];split<;>rfl
    have ap:∀{α:Type}(us:List (List (Nat×Option α)))(k:Nat)(t:Tr α),lg us k (λ_=>false) t=t:=by
     intro α us;induction us with
     |nil=>intro k t;rfl
     |cons u us ih=>intro k t;rw[lg];simp only[iJ,if_false];exact ih _ _
    have start:Ea P ops rs a J c F {w with drawn:=w.drawn+1} (λ_=>false) F {w with drawn:=w.drawn+1} A:=by
     refine⟨λi o hi=>by simp at hi,?_,?_,λid hq=>.inl (h.hasLt hq)⟩
     ·rw[ap];refine(St.refl h.drew).sub (λid o W=>W) (by show J.next<=c;omega) rfl
     ·rw[ap];exact⟨ht.gn,ht.size,ht.none,ht.slot⟩
    have aq:lg (lV rs) 0 (λj=>decide (j<ops.size)) a.t=t:=by rw[h3];exact aaM _ _ _ _ (λj q=>by simp[lV]at q⊢;omega)
    have H:∀i,i<ops.size->pI ops (ou ops.toList []) i=true->pq ops i=false/\∀j,j<i->pq ops j=true\/wM (ou ops.toList []) j i=true:=by intro i hi d;unfold pI at d;rw[aO,wU]at d;exact⟨d.2,λj q=>ami _ _ _ (um d.1) hi d.2 q⟩
    have ag:∀i j,i<=j->j<ops.size->pI ops (ou ops.toList []) i=true->pI ops (ou ops.toList []) j=true\/pq ops j=true:=by
     intro i j aL q d;unfold pI at d⊢;rw[aO,wU]at d;have:=um d.1;cases U:pq ops j with
     |true=>exact .inr rfl
     |false=>left;rw[aeS (kR this aL)];rfl
    have I:∀i,pq ops i=true->pI ops (ou ops.toList []) i=false:=by intro i U;unfold pI;rw[U];simp
    have R:∀(i:Nat) r,rs[i]? =some r->pI ops (ou ops.toList []) i=false->r.fin=none:=by intro i r E hi;have g:=C.one i r E;unfold zk at g;rw[hi]at g;simp only[iJ,if_false]at g;exact asA g
    have aM:∀(i:Nat) r,rs[i]? =some r->pq ops i=true->r.upd=[]:=by
     intro i r E U;have g:=C.one i r E;unfold zk at g;rw[I i U]at g;simp only[iJ,if_false]at g;unfold pq at U;split at U
     ·next o W=>exact(aaq W U g).1
     ·cases U
    let wd:World:={w with drawn:=w.drawn+1}
    cases hs
    refine anM C.totV (λD X w1 A1=>((∀i,i<ops.size->pI ops (ou ops.toList []) i=true->D i=false)/\Ea P ops rs a J c F wd D X w1 A1)\/
     ∃m,m<ops.size/\pI ops (ou ops.toList []) m=true/\Closed ops D/\(∀j,j<ops.size->pq ops j=false->D j=decide (j<=m))/\∃r τ,rs[m]? =some r/\r.fin=some τ/\St P F J wd X τ w1/\TR P X {t:=lg (lV rs) 0 D a.t,n:=a.n,gn:=a.gn} A1) ?_ ?_ ops.size (Array.replicate ops.size false) F _ A aA aA (.inl ⟨λi _ _=>by rw[O],by rw[O];exact start⟩)
    ·intro D X w1 A1 i K Q' f y hi Hf aa;obtain⟨o,W⟩:∃o,ops[i]? =some o:=⟨ops[i],by simp[y]⟩
     obtain⟨r,E⟩:∃r,rs[i]? =some r:=⟨_,bV (by rw[N];exact y)⟩
     have iQ:=Hf o W;rcases f with⟨hD,f⟩|⟨m,ar,ai,G,NS,r1,τ1,ab,ac,S,Rq⟩
     ·by_cases d:pI ops (ou ops.toList []) i=true
      ·
        obtain⟨a8,av⟩:=H i y d;have ak:∀j,j<ops.size->pq ops j=false->D j=decide (j<i):=by
         intro j q s;by_cases x:j<i
         ·have:D j=true:=C.uo f.closed i o W iQ j ((av j x).resolve_left (by rw[s];simp));rw[this];simp[x]
         ·have:D j=false:=hD j q ((ag i j ah q d).resolve_right (by rw[s];simp));rw[this];simp[x]
        have aR:∀j,j<i->pI ops (ou ops.toList []) j=false:=by
         intro j q;cases e:pI ops (ou ops.toList []) j with
         |false=>rfl
         |true=>have x:=hD j ah e;rw[ak j ah (H j ah e).1]at x;exact absurd q (of_decide_eq_false x)
        have a0:∀b,(jP ((iM rs).take i) J.h).get b=(lg (iM rs) 0 D J.h).get b:=by
         intro b;rw[NM (iM rs) i 0,EH];congr 1;refine Oc _ _ _ _ _ λj u q aw=>?_;have Y:j<ops.size:=by have:=(fV.1 q).1;simp[iM]at this;omega
         simp only[l9]at aw;cases s:pq ops j with
         |false=>exact absurd (ak j Y s).symm aw
         |true=>obtain⟨r',a1,hu⟩:=TF q;rw[aM j r' a1 s]at hu;subst hu;rfl
        have NW:jX (J.next+ops.size) rs i=c:=by have:=C.amj (l:=i) (λk x N=>ag i k x N d) (ops.size-i) ah;rw[(ah:i+(ops.size-i)=ops.size)]at this;rw[<-this];exact C.fin.symm
        have L:∀Z,xQ (rs.take i) Z=Z:=λZ=>adR i ah λj r' x N=>R j r' N (aR j x);refine C.last v f.closed W E hi iQ d (F:=F) (w0:=wd) (F1:=X) ?_ f.tr λF' A' w' τ U z B=>aa F' A' w' (.inr ⟨i,y,d,aac f.closed Hf,?_,r,τ,E,U,z,B⟩)
        ·rw[L];refine f.st.sub (λax o' a2=>?_) (L9 NW.symm) rfl;rw[show(aC.get {h:=lg (iM rs) 0 D J.h,next:=c,lock:=J.lock} ax)=(lg (iM rs) 0 D J.h).get ax from rfl,<-a0];exact a2
        ·intro j q s;unfold mZ;rw[ak j q s];by_cases e:j=i
         ·subst e;simp
         ·rw[H8 e,LM];congr 1;apply propext;omega
      ·have ay:pI ops (ou ops.toList []) i=false:=by simpa using d
       refine C.step v h.drew f y hi Hf ay λF' A' w' al=>aa F' A' w' (.inl ⟨λj q Y=>?_,al⟩);have am:j≠i:=λe=>by subst e;rw[ay]at Y;cases Y
       unfold mZ;rw[hD j q Y,H8 am];rfl
     ·cases T:pq ops i with
      |true=>
       have a3:ED o=true:=by unfold pq at T;rw[W]at T;exact T
       refine C.free v G W E hi iQ a3 S Rq λF' A' w' z B=>aa F' A' w' (.inr ⟨m,ar,ai,aac G Hf,?_,r1,τ1,ab,ac,z,B⟩);intro j q s;have am:j≠i:=λe=>by subst e;rw[T]at s;cases s
       unfold mZ;rw[NS j q s,H8 am,LM]
      |false=>
       have a9:¬i<=m:=by intro a4;rw[NS i y T]at hi;exact of_decide_eq_false hi a4
       have d:pI ops (ou ops.toList []) i=true:=(ag m i ah y ai).resolve_right (by rw[T];simp);have ad:∀j,m<j->j<i->pq ops j=true:=by
        intro j x N;cases s:pq ops j with
        |true=>rfl
        |false=>have h8:D j=true:=C.uo G i o W iQ j (((H i y d).2 j N).resolve_left (by rw[s];simp));rw[NS j ah s]at h8;have:=Du h8;omega
       have L:∀Z,xQ (rs.take i) Z=τ1:=λZ=>adS ab ac i ah ah λj r' x N h3=>R j r' h3 (I j (ad j x N));refine C.last v G W E hi iQ d (F:=F) (w0:=wd) (F1:=X) (by rw[L];exact S) Rq λF' A' w' τ U z B=>aa F' A' w' (.inr ⟨i,y,d,aac G Hf,?_,r,τ,E,U,z,B⟩);intro j q s;unfold mZ;rw[NS j q s];by_cases e:j=i
       ·subst e;simp
       ·rw[H8 e,LM];congr 1;apply propext;constructor
        ·omega
        ·intro x;apply Classical.byContradiction;intro N;have:=ad j ah ah;rw[this]at s;cases s
    ·intro X A1 w1 f;rcases f with⟨hD,f⟩|⟨m,ar,ai,G,NS,r1,τ1,ab,ac,S,Rq⟩
     ·have a5:∀i,i<ops.size->pI ops (ou ops.toList []) i=false:=by
       intro i hi;cases e:pI ops (ou ops.toList []) i with
       |false=>rfl
       |true=>have:=hD i hi e;simp at this;omega
      have L:xQ rs {h:=hh,next:=c,lock:=J.lock} ={h:=hh,next:=c,lock:=J.lock}:=by have:=adR (rs:=rs) (J:={h:=hh,next:=c,lock:=J.lock}) rs.length (dK _) λj r' x N=>R j r' N (a5 j ah);rwa [AP]at this
      rw[L]at hK;have a6:lg (iM rs) 0 (λj=>decide (j<ops.size)) J.h=hh:=by rw[h4];exact aaM _ _ _ _ (λj q=>by simp[iM]at q⊢;omega)
      have z:=f.st;have B:=f.tr;rw[a6]at z;rw[aq]at B;exact hK X A1 w1 ((St.drew h).trans z) B
     ·have L:∀Z,xQ rs Z=τ1:=by
       intro Z;have:=adS (J:=Z) ab ac rs.length ah (dK _) λj r' x N h3=>by
        refine R j r' h3 (I j ?_);cases s:pq ops j with
        |true=>rfl
        |false=>
         have h9:decide (j<ops.size)=decide (j<=m):=NS j ah s;have a7:decide (j<ops.size)=true:=by simp;omega
         rw[a7]at h9;have:=Du h9.symm;omega
       rwa [AP]at this
      rw[L]at hK;rw[aq]at Rq;exact hK X A1 w1 ((St.drew h).trans S) Rq
   ·cases hs
  ·cases hs
 ·cases hs
section
variable{call:Caller}{ops:W7}{M:Q4}{N0 gn n:Nat}
end
def agV(d:P.follows .mixedOrders=true):TW P (Zr P):=by intro call b ops a J e f g;exact asP d call b ops a J e f g
