/- Regions whose order Go leaves open: one operation keeps the invariant. -/
import Derived.Test.YtkoclengoeonnaaGreatDoorAbsF
set_option linter.all false
namespace Go.aP
noncomputable section
variable[aJ]
variable{P:Program}
structure Dh(P:Program)(ops:W5)(rs:Wk)(a0:bF)(J0:aC)(cf:Nat)(F0:Env)(w0:World)(D:Nat->Bool)(F:Env)(w:World)(A:Act):Prop where
 closed:Closed ops D
 st:St P F0 J0 w0 F {h:=ku (gZ rs) 0 D J0.h,next:=cf,lock:=J0.lock} w
 tr:TR P F {t:=ku (kU rs) 0 D a0.t,n:=a0.n,gn:=a0.gn} A
 dm:∀id,F.has id->id<J0.next\/(∃k,k<ops.size/\D k=true/\id=J0.next+k)\/(∃(j:Nat)(r:dJ),rs[j]? =some r/\D j=true/\r.base<=id/\id<r.next)
def TR.add{F F':Env}{T m:Tr AV}{n gn:Nat}{A:Act}{o:Oper}{v:Q4}{x:Value}(h:TR P F {t:=T,n:=n,gn:=gn} A)(g:F.le F')(f:∀d,m.get d=(fV (qN o v) d).getD (T.get d))
 (j:∀p∈qN o v,p.1<n) (z:∀u,v=some u->VR F' u x):TR P F' {t:=m,n:=n,gn:=gn} (A.put o.dst x):=by
 have q:=h.mono g;unfold qN at f j;cases s:o.dst with
 |none=>rw[s]at f;refine⟨h.gn,h.size,h.none,λd u b=>?_⟩;rw[f]at b;exact q.slot d u b
 |some k=>
  rw[s]at f j;have l:=j (k,v) aA;refine⟨h.gn,by have:=h.size;simpa[Act.put]using this,h.none,λd u b=>?_⟩;rw[f]at b;simp only[fV]at b;show ∃y,(A.tmps.setIfInBounds k x)[d]? =some y/\_
  rw[Df];by_cases e:d=k
  ·subst e;rw[au rfl,au (by have:=h.size;simp only at this l;omega)];rw[au rfl]at b;exact⟨x,rfl,z u b⟩
  ·rw[aj (λB=>e B.symm)];rw[aj e]at b;exact q.slot d u b
section
variable{call:Caller}{ops:W5}{M:Q2}{rs:Wk}{a0:bF}{J0:aC}{cf:Nat}{F0 F:Env}{w0 w:World}{D:Nat->Bool}{A:Act}{i nn N0:Nat}{o:Oper}{r:dJ}
def lI(D:Nat->Bool)(i:Nat):Nat->Bool:=λj=>D j ||Nat.beq j i
def aBI{rs:Wk}{i:Nat}{r:dJ}(h:rs[i]? =some r):(gZ rs)[i]? =some r.upd:=by simp[gZ,h]
def aAb{rs:Wk}{i:Nat}{r:dJ}(h:rs[i]? =some r):(kU rs)[i]? =some r.slot:=by simp[kU,h]
def QN{rs:Wk}{i:Nat}{u:WN}(h:(gZ rs)[i]? =some u):∃r,rs[i]? =some r/\r.upd=u:=by simpa[gZ]using h
def ajB{rs:Wk}{i:Nat}{u:List (Nat×Q4)}(h:(kU rs)[i]? =some u):∃r,rs[i]? =some r/\r.slot=u:=by simpa[kU]using h
def MN{N0 i j:Nat}{r s:dJ}{o:Oper}(e:ops[i]? =some o)(h:Qn ops N0 i j r s=true):qj (keysOf r.slot) (keysOf s.slot)=true/\qj (o.looksAt ops) (keysOf s.slot)=true/\qj (keysOf r.upd) (keysOf s.upd)=true/\
 (∀l,r.vis=some l->qj l (keysOf s.upd)=true)/\(r.vis=none->i<j->(∀k∈keysOf s.upd,N0<=k)/\qj r.loc (keysOf s.upd)=true/\s.base=s.next)/\(r.vis=none->i≠j->j<i\/i<j):=by
 unfold Qn at h;rw[e]at h;simp only[aO]at h;obtain⟨⟨⟨f,g⟩,m⟩,b⟩:=h;refine⟨f,g,m,?_,?_,λ_ p=>ah⟩
 ·intro l q;rw[q]at b;exact b
 ·intro t u;rw[t]at b;simp only[nO,aO]at b;rcases b with b|⟨⟨d,v⟩,x⟩
  ·rw[jv]at b;omega
  ·refine⟨λk y=>?_,v,bM x⟩;rw[List.all_eq_true]at d;exact uh (d k y)
def qW.aga(C:qW ops M rs nn N0)(p:Closed ops D)(h:ops[i]? =some o)(k:rs[i]? =some r)(hi:D i=false)(q:∀e∈o.after.toList,Region.binds .any e=true->D e.on=true)(b:Nat):
 (ku (gZ rs) 0 (lI D i) J0.h).get b=(fV r.upd b).getD ((ku (gZ rs) 0 D J0.h).get b):=by
 rw[D5,D5];have:=Z4 (gZ rs) 0 i D b r.upd (aBI k) (by simpa using hi) (λj v t u l d=>by
  obtain⟨s,m,rfl⟩:=QN t;have f:j<ops.size:=by have:=(fH.1 m).1;rw[C.len]at this;exact this
  have g:=C.open_ p h hi q f (by simp at l;rw[l];simp;omega);have x:=MN h (C.pairs i j r s k m g);exact P7 (O5 x.2.2.1 ((yY _ _).1 d)))
 simp only[kX]at this;unfold lI;rw[this];cases fV r.upd b<;>rfl
def qW.Uo(C:qW ops M rs nn N0)(p:Closed ops D)(h:ops[i]? =some o)(k:rs[i]? =some r)(hi:D i=false)(q:∀e∈o.after.toList,Region.binds .any e=true->D e.on=true)(b:Nat):
 (ku (kU rs) 0 (lI D i) a0.t).get b=(fV r.slot b).getD ((ku (kU rs) 0 D a0.t).get b):=by
 rw[D5,D5];have:=Z4 (kU rs) 0 i D b r.slot (aAb k) (by simpa using hi) (λj v t u l d=>by
  obtain⟨s,m,rfl⟩:=ajB t;have f:j<ops.size:=by have:=(fH.1 m).1;rw[C.len]at this;exact this
  have g:=C.open_ p h hi q f (by simp at l;rw[l];simp;omega);have x:=MN h (C.pairs i j r s k m g);exact P7 (O5 x.1 ((yY _ _).1 d)))
 simp only[kX]at this;unfold lI;rw[this];cases fV r.slot b<;>rfl
def qW.aji(C:qW ops M rs nn N0)(l:Closed ops D)(h:ops[i]? =some o)(m:rs[i]? =some r)(hi:D i=false)(p:∀e∈o.after.toList,Region.binds .any e=true->D e.on=true){d:Nat}(q:d∈o.looksAt ops):
 (jw ((kU rs).take i) a0.t).get d=(ku (kU rs) 0 D a0.t).get d:=by
 rw[LQ (kU rs) i 0,D5];congr 1;refine Md _ _ _ _ _ λj u t b=>?_;obtain⟨s,k,rfl⟩:=ajB t;have f:j<ops.size:=by have:=(fH.1 k).1;rw[C.len]at this;exact this
 simp only[kX]at b;have g:=C.open_ l h hi p f (λe=>b e.symm);have v:=MN h (C.pairs i j r s m k g);exact P7 (O5 v.2.1 q)
def qW.azQ(C:qW ops M rs nn N0)(m:Closed ops D)(h:ops[i]? =some o)(p:rs[i]? =some r)(hi:D i=false)(q:∀e∈o.after.toList,Region.binds .any e=true->D e.on=true){l:Q2}(t:r.vis=some l){b:Nat}(v:b∈l):
 (jw ((gZ rs).take i) J0.h).get b=(ku (gZ rs) 0 D J0.h).get b:=by
 rw[LQ (gZ rs) i 0,D5];congr 1;refine Md _ _ _ _ _ λj u x d=>?_;obtain⟨s,k,rfl⟩:=QN x;have f:j<ops.size:=by have:=(fH.1 k).1;rw[C.len]at this;exact this
 simp only[kX]at d;have g:=C.open_ m h hi q f (λe=>d e.symm);have y:=MN h (C.pairs i j r s p k g);exact P7 (O5 (y.2.2.2.1 l t) v)
def Ctx.act(C:Ctx P call ops M rs a0 J0 cf)(b:Dh P ops rs a0 J0 cf F0 w0 D F w A)(g:ops[i]? =some o)(h:rs[i]? =some r)(hi:D i=false)(j:∀e∈o.after.toList,Region.binds .any e=true->D e.on=true):
 TR P F {t:=lg (jw ((kU rs).take i) a0.t) (o.looksAt ops),n:=a0.n,gn:=a0.gn} A:=by
 refine⟨b.tr.gn,b.tr.size,b.tr.none,λd v f=>?_⟩;rw[BL]at f;split at f
 ·next k=>
  rw[C.aji (a0:=a0) b.closed g h hi j k]at f;exact b.tr.slot d v f
 ·cases f
def Ctx.gen(C:Ctx P call ops M rs a0 J0 cf)(I:qV P call)(d:Dh P ops rs a0 J0 cf F0 w0 D F w A)(ho:ops[i]? =some o)(X:rs[i]? =some r)(aa:i<ops.size)(hi:D i=false)
 (iD:∀e∈o.after.toList,Region.binds .any e=true->D e.on=true) {Y:Env} {τ τ':aC} {v:Q4} {a:bF} {K:Act->World->Prop} {Q:Exit->Act->World->Prop}
 (Uz:SR P Y τ w) (ab:TR P Y a A) (L:Y.le F) (R:Y.ro=F.ro) (ac:vH P call o a.eval τ=some (v,τ')) (PO:r.slot=qN o v)
 (sub:∀id B,τ.get id=some B->(ku (gZ rs) 0 D J0.h).get id=some B) (free:∀id,F.has id->¬(τ.next<=id/\id<τ'.next))
 (hu:∀b B,fV r.upd b=some (some B)->τ'.get b=some B/\((∃o0,τ.get b=some o0/\o0.own=true)\/(B.own=true/\τ.get b=none)))
 (NI:∀id B,τ.get id=some B->B.own=true->τ.lock<=id->fV r.upd id≠none) (ad:J0.lock<=τ.lock) (yX:∀b,fV r.upd b≠none->τ.lock<=b)
 (E:∀id,τ.next<=id->id<τ'.next->J0.next<=id/\id<cf/\(id=J0.next+i\/(r.base<=id/\id<r.next)))
 (hK:∀F' A' w',Dh P ops rs a0 J0 cf F0 w0 (lI D i) F' w' A'->K A' w'):o.wp P A w K Q:=by
 refine XU Uz I ab ac λx p w' g hx=>?_;let F':Env:=⟨λid=>if τ.next<=id/\id<τ'.next then p id else F id,p.ro,λid=>if τ.next<=id/\id<τ'.next then p.gh id else F.gh id⟩
 have h1:F.le F':=⟨λid q m=>by
  show(if τ.next<=id/\id<τ'.next then p id else F id)=some q
  rw[aj (free id (.inl ⟨q,m⟩))];exact m,λb o Z=>g.ext.ro b o (by rw[R];exact Z),λid t=>by
  show(if τ.next<=id/\id<τ'.next then p.gh id else F.gh id)=true
  rw[aj (free id (.inr t))];exact t⟩
 have h2:p.le F':=⟨λid q m=>by
  show(if τ.next<=id/\id<τ'.next then p id else F id)=some q
  split
  ·exact m
  ·next y=>
   rcases g.au9 m with f|f
   ·exact L.pl _ _ f
   ·exact absurd f y,λ_ _ h=>h,λid t=>by
  show(if τ.next<=id/\id<τ'.next then p.gh id else F.gh id)=true
  split
  ·exact t
  ·next y=>
   rcases g.new id (.inr t)with(⟨q,f⟩|f)|f
   ·have:=g.ext.pl _ _ f;rw[(g.rel.jU id t).1]at this;cases this
   ·exact L.gh _ f
   ·exact absurd f y⟩
 have z:∀id,F'.has id->F.has id\/(τ.next<=id/\id<τ'.next):=λid hh=>by
  by_cases y:τ.next<=id/\id<τ'.next
  ·exact .inr y
  ·left;rcases hh with⟨q,m⟩|t
   ·have S:(if τ.next<=id/\id<τ'.next then p id else F id)=some q:=m;rw[aj y]at S;exact .inl ⟨q,S⟩
   ·have l:(if τ.next<=id/\id<τ'.next then p.gh id else F.gh id)=true:=t;rw[aj y]at l;exact .inr l
 have Zr:∀id,F'.gh id=true->F' id=none:=λid t=>by
  have l:(if τ.next<=id/\id<τ'.next then p.gh id else F.gh id)=true:=t;show(if τ.next<=id/\id<τ'.next then p id else F id)=none
  split at l
  ·next y=>rw[au y];exact(g.rel.jU id l).1
  ·next y=>rw[aj y];exact(d.st.rel.jU id l).1
 have t:=C.aga (J0:=J0) d.closed ho X hi iD;have H:∀id,F'.has id->id<cf:=λid m=>by
  rcases z id m with f|⟨f,O⟩
  ·exact d.st.rel.hasLt f
  ·exact(E id f O).2.1
 obtain⟨ae,size,T,own,qH⟩:=St.merge (J':={h:=ku (gZ rs) 0 (lI D i) J0.h,next:=cf,lock:=J0.lock}) (upd:=r.upd) (F':=F') d.st.rel Uz g sub L R rfl h1 h2 t hu NI ad yX (λid q m=>H id (.inl ⟨q,m⟩)) (λid U=>⟨Zr id U,H id (.inr U)⟩);refine hK F' _ w' ⟨?_,?_,?_,?_⟩
 ·intro k o' hk N e he Z;unfold lI at hk⊢;simp only[nO]at hk⊢;rcases hk with hk|hk
  ·exact .inl (d.closed k o' hk N e he Z)
  ·have:=bM hk;subst this;rw[ho]at N;cases N;exact .inl (iD e he Z)
 ·refine d.st.then h1 ae size T own g.os g.tape g.output rfl (cO _) ?_ qH;intro id m;rcases z id m with f|⟨f,O⟩
  ·exact .inl f
  ·exact .inr ⟨(E id f O).1,(E id f O).2.1⟩
 ·have l:=C.Uo (a0:=a0) d.closed ho X hi iD;rw[PO]at l;exact d.tr.add h1 l (by rw[<-PO];exact(C.slot i r X).2) (λu af=>VR.mono h2 _ _ (hx u af))
 ·intro id m;have V:∀k,D k=true->lI D i k=true:=λk hk=>by unfold lI;rw[hk];rfl
  have W:lI D i i=true:=by unfold lI;simp
  rcases z id m with f|⟨f,O⟩
  ·rcases d.dm id f with G|⟨k,G,h6,h7⟩|⟨j,s,G,h6,h7⟩
   ·exact .inl G
   ·exact .inr (.inl ⟨k,G,V k h6,h7⟩)
   ·exact .inr (.inr ⟨j,s,G,V j h6,h7⟩)
  ·obtain⟨_,_,G|G⟩:=E id f O
   ·exact .inr (.inl ⟨i,aa,W,G⟩)
   ·exact .inr (.inr ⟨i,r,X,W,G⟩)
end
section
variable{call:Caller}{ops:W5}{M:Q2}{rs:Wk}{a0:bF}{J0:aC}{cf:Nat}{F0 F:Env}{w0 w:World}{D:Nat->Bool}{A:Act}{i:Nat}{o:Oper}{r:dJ}
def aac{l:Q2}{f:Nat->Option bG}{b:Nat}{x:Option bG}(h:fV (l.map λk=>(k,f k)) b=some x):b∈l/\x=f b:=by
 induction l with
 |nil=>simp[fV]at h
 |cons k l d=>
  simp only[iC,fV]at h;split at h
  ·next y g=>cases h;have:=d g;exact⟨by simp[this.1],this.2⟩
  ·split at h
   ·next e=>cases h;subst e;exact⟨aA,rfl⟩
   ·cases h
def keys_map(l:Q2)(f:Nat->Option bG):keysOf (l.map λk=>(k,f k))=l:=by simp[keysOf,List.map_map,Function.comp_def]
def I7{τ:aC}:∀{n c b:Nat}{x:Option bG},fV (F5 τ c n) b=some x->c<=b/\b<c+n/\∀o,x=some o->τ.get b=some o/\o.own=true
 |0,c,b,x,h=>by simp[F5,fV]at h
 |n+1,c,b,x,h=>by
  simp only[F5,fV]at h;split at h
  ·next y g=>
   cases h;obtain⟨h1,l,j⟩:=I7 g;exact⟨ah,ah,j⟩
  ·split at h
   ·next e=>
    subst e;simp only[aY]at h;refine⟨Nat.le_refl _,ah,λo k=>?_⟩;rw[k]at h;split at h
    ·next m f=>
     split at h
     ·next d=>cases h;exact⟨f,d⟩
     ·cases h
    ·cases h
   ·cases h
def Vd{l m:WN}{b:Nat}:fV (l++m) b=match fV m b with|some x=>some x|none=>fV l b:=by
 induction l with
 |nil=>simp only[bf];cases fV m b<;>rfl
 |cons p l d=>obtain⟨k,v⟩:=p;simp only[bI,fV,d];cases fV m b<;>rfl
def En{h:Tr bG}{b:Nat}{l:Q2}{k:Nat}:k∈Jy h b l↔k∈l/\b<=k/\∃d,h.get k=some d/\d.own=true:=by
 unfold Jy;rw[Ky,aO];constructor
 ·rintro⟨f,g,e⟩
  refine⟨f,uh g,?_⟩;split at e
  ·next d j=>exact⟨d,j,e⟩
  ·cases e
 ·rintro⟨f,g,d,e,m⟩
  exact⟨f,adq g,by rw[e];exact m⟩
def SR.cutAt{F:Env}{J τ:aC}{w:World}{c:Nat}(h:SR P F J w)(N:P.globals.size<c)(b:∀id o,τ.get id=some o->J.get id=some o)(k:∀id o,τ.get id=some o->id<c/\Bl c o=true)(O:c<=τ.next):SR P (F.cut c) τ w:=by
 have d:∀id q,id<c->F id=some q->F.cut c id=some q:=λid q l m=>by simp only[Env.cut];rw[au l];exact m
 refine⟨λg p=>?_,λid q f=>?_,λid o j=>?_,λid s=>?_,λid o t z q B u v x E G H=>?_,h.jc,λid o q u v x=>h.lq id o q (b _ _ u) v ((Env.Le _ _).pl _ _ x),h.tabs⟩
 ·obtain⟨I,es,l⟩:=h.mJ g p;exact⟨I,es,d _ _ ah l⟩
 ·simp only[Env.cut]at f;split at f
  ·omega
  ·cases f
 ·rcases h.live id o (b _ _ j)with⟨q,f,L⟩|⟨y,m⟩
  ·exact .inl ⟨q,d _ _ (k id o j).1 f,L.cut (k id o j).2⟩
  ·exact .inr ⟨Env.aeW (k id o j).1 y,m⟩
 ·have e:(decide (id<c)&&F.gh id)=true:=s;rw[aO,decide_eq_true_iff]at e;exact⟨by simp only[Env.cut];rw[au e.1];exact(h.jU id e.2).1,ah⟩
 ·exact h.sep id o t z q B (b _ _ u) v (b _ _ x) E ((Env.Le _ _).pl _ _ G) ((Env.Le _ _).pl _ _ H)
def SR.part{F:Env}{J τ:aC}{w:World}(h:SR P F J w)(b:∀id o,τ.get id=some o->J.get id=some o)(j:∀id,F.has id->id<τ.next):SR P F τ w:=
 ⟨h.mJ,λid q l=>j id (.inl ⟨q,l⟩),λid o m=>h.live id o (b id o m),λid k=>⟨(h.jU id k).1,j id (.inr k)⟩,λid o d p q s e f g t u v=>h.sep id o d p q s (b _ _ e) f (b _ _ g) t u v,h.jc,λid o q e f g=>h.lq id o q (b _ _ e) f g,h.tabs⟩
def Ov{c:Nat}{h:Tr bG}:∀{l:Q2},Ou c h l=true->∀k∈l,k<c/\∀o,h.get k=some o->Bl c o=true
 |[],_,k,hk=>by simp at hk
 |x::l,b,k,hk=>by
  simp only[Ou,aO]at b;simp only[bJ]at hk;rcases hk with rfl|hk
  ·refine⟨by have:=b.1.1;rwa [jv]at this,λo d=>?_⟩;have:=b.1.2;rw[d]at this;exact this
  ·exact Ov b.2 k hk
def ad1{c:Nat}{t:Tr AV}:∀{l:Q2},KT c t l=true->∀k∈l,∀v,t.get k=some v->v.under c=true
 |[],_,k,hk=>by simp at hk
 |x::l,b,k,hk=>by
  simp only[KT,aO]at b;simp only[bJ]at hk;rcases hk with rfl|hk
  ·intro v d;have:=b.1;rw[d]at this;exact this
  ·exact ad1 b.2 k hk
def abr{M:Q2}{i:Nat}:∀{rs:Wk}{k:Nat}{b:Nat},b∉Ep M i rs k->∀(j:Nat) r,rs[j]? =some r->yH M i (k+j)=true->b∉keysOf r.upd
 |[],k,b,_,j,r,e,_=>by simp at e
 |s::rs,k,b,d,j,r,e,f=>by
  unfold Ep at d;cases j with
  |zero=>simp at e;subst e;rw[nR]at f;rw[au f]at d;simp only[ny,not_or]at d;exact d.1
  |succ j=>
   have g:b∉Ep M i rs (k+1):=by
    split at d
    ·simp only[ny,not_or]at d;exact d.2
    ·exact d
   exact abr g j r (by simpa using e) (by rw[(ah:k+1+j=k+(j+1))];exact f)
def ahf{M:Q2}{i:Nat}:∀{rs:Wk}{k:Nat}{b:Nat}(j:Nat)(r:dJ),rs[j]? =some r->yH M i (k+j)=false->b∈keysOf r.upd->b∈P6 M i rs k
 |[],k,b,j,r,d,_,_=>by simp at d
 |s::rs,k,b,j,r,d,e,f=>by
  unfold P6;cases j with
  |zero=>simp at d;subst d;rw[nR]at e;rw[aj (by rw[e];simp)];simp[f]
  |succ j=>
   have:=ahf (k:=k+1) j r (by simpa using d) (by rw[(ah:k+1+j=k+(j+1))];exact e) f;split
   ·exact this
   ·simp[this]
def Ctx.bound(C:Ctx P call ops M rs a0 J0 cf)(b:Dh P ops rs a0 J0 cf F0 w0 D F w A)(id:Nat)(h:F.has id):id<cf:=b.st.rel.hasLt h
def Ctx.apart(C:Ctx P call ops M rs a0 J0 cf)(d:Dh P ops rs a0 J0 cf F0 w0 D F w A)(g:rs[i]? =some r)(hi:D i=false){id:Nat}(h:F.has id):¬(r.base<=id/\id<r.next):=by
 rintro⟨q,t⟩
 have m:=C.lo g;rcases d.dm id h with f|⟨k,f,l,p⟩|⟨j,s,f,l,p,u⟩
 ·omega
 ·omega
 ·by_cases e:i=j
  ·subst e;rw[hi]at l;cases l
  ·rcases Nat.lt_or_gt_of_ne e with b|b
   ·have:=C.lt g f b;omega
   ·have:=C.lt f g b;omega
def Ctx.step(C:Ctx P call ops M rs a0 J0 cf)(R:qV P call)(ac:SR P F0 J0 w0)(g:Dh P ops rs a0 J0 cf F0 w0 D F w A)(V:i<ops.size)(hi:D i=false)
 (F6:∀o,ops[i]? =some o->∀e∈o.after.toList,Region.binds .any e=true->D e.on=true) (aD:nX ops M i=false) {K:Act->World->Prop} {Q:Exit->Act->World->Prop}
 (hK:∀F' A' w',Dh P ops rs a0 J0 cf F0 w0 (lI D i) F' w' A'->K A' w'):wpOp P ops Q i K A w:=by
 obtain⟨o,U⟩:∃o,ops[i]? =some o:=⟨ops[i],by simp[V]⟩
 obtain⟨r,T⟩:∃r,rs[i]? =some r:=⟨_,bT (by rw[C.len];exact V)⟩
 have iD:=F6 o U;have f:=C.one i r T;have E:=C.act g U T hi iD;have aE:=C.base T;have ak:=C.lo T;have al:=C.hi T;have aL:P.globals.size<J0.next:=by obtain⟨sz,es,p⟩:=ac.mJ P.globals.size (cO _);exact ac.dom _ _ p
 have am:=(C.slot i r T).1;have a6:=C.lock;have af:=C.big;have Zj:=C.bound g;unfold yj at f;rw[aD]at f;simp only[ig,if_false]at f;unfold BA at f;rw[U]at f;simp only at f;unfold wpOp;rw[U];simp only;split at f
 ·cases f
 ·
   next hw=>
   rw[G6 E hw];simp only[ig,if_false];cases f;refine hK F _ w ⟨?_,?_,?_,?_⟩
   ·intro k o' hk an e he q;unfold lI at hk⊢;simp only[nO]at hk⊢;rcases hk with hk|hk
    ·exact .inl (g.closed k o' hk an e he q)
    ·have:=bM hk;subst this;rw[U]at an;cases an;exact .inl (F6 _ U e he q)
   ·have hg:=C.aga (J0:=J0) g.closed U T hi iD;refine g.st.sub ?_ (cO _) rfl;intro id m I;have:(ku (gZ rs) 0 (lI D i) J0.h).get id=some m:=I;rw[hg]at this;exact this
   ·exact g.tr.add (Env.le.refl _) (C.Uo (a0:=a0) g.closed U T hi iD) (C.slot i _ T).2 (by rintro u hu;cases hu;exact⟨[],rfl,rfl⟩)
   ·intro id W;have av:∀k,D k=true->lI D i k=true:=λk hk=>by unfold lI;rw[hk];rfl
    rcases g.dm id W with L|⟨k,L,Y,h7⟩|⟨j,s,L,Y,h7⟩
    ·exact .inl L
    ·exact .inr (.inl ⟨k,L,av k Y,h7⟩)
    ·exact .inr (.inr ⟨j,s,L,av j Y,h7⟩)
 ·
   next hw=>
   rw[G6 E hw];simp only[if_true];left;have B:∀l:Q2,r.vis=some l->∀id m,(lg (jw ((gZ rs).take i) J0.h) l).get id=some m->(ku (gZ rs) 0 D J0.h).get id=some m/\id∈l/\(jw ((gZ rs).take i) J0.h).get id=some m:=by
    intro l hl id m I;rw[BL]at I;split at I
    ·next hm=>rw[<-C.azQ (J0:=J0) g.closed U T hi iD hl hm];exact⟨I,hm,I⟩
    ·cases I
   have aw:∀c,KT c (jw ((kU rs).take i) a0.t) (o.looksAt ops)=true->TR P (F.cut c) {t:=lg (jw ((kU rs).take i) a0.t) (o.looksAt ops),n:=a0.n,gn:=a0.gn} A:=by
    intro c q;refine⟨E.gn,E.size,E.none,λd v hv=>?_⟩;obtain⟨x,hx,kZ⟩:=E.slot d v hv;refine⟨x,hx,VR.cut v x ?_ kZ⟩;rw[BL]at hv;split at hv
    ·next hd=>exact ad1 q d hd v hv
    ·cases hv
   split at f
   ·
     next ty aM=>
     split at f
     ·next z hz=>
      cases f;have G:vH P call o (bF.eval {t:=.nil,n:=a0.n,gn:=a0.gn}) {h:=.nil,next:=J0.next+i,lock:=J0.lock}=some (some (.p (J0.next+i) 0),({h:=.nil,next:=J0.next+i,lock:=J0.lock}:aC).new (.cells z ty true false)):=by unfold vH;rw[aM];simp only[hz,gU]
      have N:SR P (F.cut J0.next) {h:=.nil,next:=J0.next+i,lock:=J0.lock} w:=g.st.rel.cutAt aL (λid m h=>by simp[aC.get]at h) (λid m h=>by simp[aC.get]at h) aA;refine C.gen R g U T V hi iD N (a:={t:=.nil,n:=a0.n,gn:=a0.gn}) ⟨E.gn,E.size,E.none,λd v hv=>by simp at hv⟩ (Env.Le _ _) rfl G rfl (λid m h=>by simp[aC.get]at h) ?_ ?_ ?_ (cO _) ?_ ?_ hK
      ·rintro id W ⟨p,y⟩
       have X:J0.next+i<=id:=p;have aR:id<J0.next+i+1:=y;rcases g.dm id W with H|⟨k,H,S,L⟩|⟨j,s,H,S,L,Y⟩
       ·omega
       ·have:k=i:=ah;subst this;rw[hi]at S;cases S
       ·have:=C.lo H;omega
      ·intro b m q;simp only[fV]at q;split at q
       ·next e=>
        cases q;subst e;refine⟨?_,.inr ⟨rfl,Tr.get_nil _⟩⟩;rw[aC.pF,au rfl]
       ·cases q
      ·intro id m h;simp[aC.get]at h
      ·intro b q;have:=(yY _ _).1 q;simp[keysOf]at this;subst this;show J0.lock<=J0.next+i
       omega
      ·intro id p y;have X:J0.next+i<=id:=p;have aR:id<J0.next+i+1:=y;have:=C.Yk;exact⟨ah,ah,.inl ah⟩
     ·cases f
   ·split at f
    ·
      next l aa=>
      split at f
      ·next v τ' G=>
       rw[DV]at G;split at f
       ·next ao=>
        cases f;have a1:=bM ao;have N:SR P F {h:=lg (jw ((gZ rs).take i) J0.h) l,next:=uz,lock:=uz} w:=g.st.rel.part (λid m h=>(B l rfl id m h).1) (λid W=>xR (Zj id W) af);refine C.gen R g U T V hi iD N E (Env.le.refl _) rfl G rfl (λid m h=>(B l rfl id m h).1) ?_ ?_ ?_ ?_ ?_ ?_ hK
        ·rintro id W ⟨p,y⟩
         have X:uz<=id:=p;omega
        ·intro b m q;simp[fV]at q
        ·intro id m p y H;have a2:uz<=id:=H;have:=Zj id (N.Px p);omega
        ·have:=C.Yk;show J0.lock<=uz;omega
        ·intro b q;simp[fV]at q
        ·intro id p y;have X:uz<=id:=p;omega
       ·cases f
      ·cases f
    ·
      next l aa=>
      split at f
      ·next v τ' G=>
       rw[DV]at G;split at f
       ·next ao=>
        cases f;have a1:=bM ao;have N:SR P F {h:=lg (jw ((gZ rs).take i) J0.h) l,next:=uz,lock:=J0.lock} w:=g.st.rel.part (λid m h=>(B l rfl id m h).1) (λid W=>xR (Zj id W) af);refine C.gen R g U T V hi iD N E (Env.le.refl _) rfl G rfl (λid m h=>(B l rfl id m h).1) ?_ ?_ ?_ (cO _) ?_ ?_ hK
        ·rintro id W ⟨p,y⟩
         have X:uz<=id:=p;omega
        ·intro b m q;obtain⟨p,y⟩:=aac q;obtain⟨H,S,Z,L,Y⟩:=En.1 p;refine⟨y.symm,.inl ⟨Z,?_,Y⟩⟩;show(lg _ l).get b=_
         rw[BL,au H];exact L
        ·intro id m p y H;obtain⟨_,S,L⟩:=B l rfl id m p;rw[yY,keys_map];exact En.2 ⟨S,H,m,L,y⟩
        ·intro b q;rw[yY,keys_map]at q;exact(En.1 q).2.1
        ·intro id p y;have X:uz<=id:=p;omega
       ·cases f
      ·cases f
    ·
      next l aa=>
      split at f
      ·next O=>
       simp only[aO]at O;split at f
       ·next v τ' G=>
        rw[DV]at G;cases f;simp only at ak al am
        have N:SR P (F.cut (jF (J0.next+ops.size) rs i)) {h:=lg (jw ((gZ rs).take i) J0.h) l,next:=jF (J0.next+ops.size) rs i,lock:=J0.lock} w:=
         g.st.rel.cutAt ah (λid m h=>(B l rfl id m h).1) (λid m h=>by obtain⟨_,p,y⟩:=B l rfl id m h;have:=Ov O.2 id p;exact⟨this.1,this.2 m y⟩) (cO _)
        refine C.gen R g U T V hi iD N (aw _ O.1) (Env.Le _ _) rfl G rfl (λid m h=>(B l rfl id m h).1) ?_ ?_ ?_ (cO _) ?_ ?_ hK
        ·rintro id W ⟨p,y⟩
         exact C.apart g T hi W ⟨p,y⟩
        ·intro b m q;rw[Vd]at q;split at q
         ·next x hx=>
          cases q;obtain⟨p,y,H⟩:=I7 hx;obtain⟨S,L⟩:=H m rfl;refine⟨S,.inr ⟨L,?_⟩⟩;show(lg _ l).get b=none
          rw[BL];split
          ·next hm=>have:=(Ov O.2 b hm).1;omega
          ·rfl
         ·obtain⟨p,y⟩:=aac q;obtain⟨H,S,Z,L,Y⟩:=En.1 p;refine⟨y.symm,.inl ⟨Z,?_,Y⟩⟩;show(lg _ l).get b=_
          rw[BL,au H];exact L
        ·intro id m p y H;obtain⟨_,S,L⟩:=B l rfl id m p;rw[yY];unfold keysOf;rw[ng,ny];left;have:=keys_map (Jy (jw ((gZ rs).take i) J0.h) J0.lock l) (λk=>τ'.get k);unfold keysOf at this;rw[this];exact En.2 ⟨S,H,m,L,y⟩
        ·intro b q;rw[Vd]at q;split at q
         ·next x hx=>
          obtain⟨p,_,_⟩:=I7 hx;show J0.lock<=b
          omega
         ·rw[yY,keys_map]at q;exact(En.1 q).2.1
        ·intro id p y;have X:jF (J0.next+ops.size) rs i<=id:=p;exact⟨ah,ah,.inr ⟨p,y⟩⟩
       ·cases f
      ·cases f
    ·
      next aa=>
      split at f
      ·next v τ' ax=>
       have G:=aBE ax;rw[DV]at G;cases f;simp only at ak al am;have ab:∀id,F.has id->id<jF (J0.next+ops.size) rs i:=by
        intro id W;rcases g.dm id W with H|⟨k,H,S,L⟩|⟨j,s,H,S,L,Y⟩
        ·omega
        ·omega
        ·have ap:i≠j:=by rintro rfl;rw[hi]at S;cases S
         rcases Nat.lt_or_gt_of_ne ap with aq|aq
         ·have ar:j<ops.size:=by have:=(fH.1 H).1;rw[C.len]at this;exact this
          have ad:=C.open_ g.closed U hi iD ar (by rw[S];simp;omega);have hp:=MN U (C.pairs i j _ s T H ad);have:=(hp.2.2.2.2.1 rfl aq).2.2;omega
         ·have:=C.lt H T aq;simp only at this;omega
       have ag:∀id m,(FV (jw ((gZ rs).take i) J0.h) (Ep M i (rs.take i) 0)).get id=some m->(ku (gZ rs) 0 D J0.h).get id=some m:=by
        intro id m I;rw[af9]at I;split at I
        ·cases I
        ·next ay=>
         rw[<-I,LQ (gZ rs) i 0,D5];congr 1;refine(Md _ _ _ _ _ λj u hj ae=>?_).symm;obtain⟨s,hs,rfl⟩:=QN hj;have ar:j<ops.size:=by have:=(fH.1 hs).1;rw[C.len]at this;exact this
         simp only[kX]at ae;have ad:=C.open_ g.closed U hi iD ar (λe=>ae e.symm);apply P7;by_cases a3:j<i
         ·exact abr ay j s (by rw[lT,au a3];exact hs) (by rw[kX];exact ad)
         ·have ap:i<j:=by
           rcases zM i j with h|h
           ·exact h
           ·have:i=j:=ah;subst this;rw[hi]at ae;simp at ae
          have hp:=MN U (C.pairs i j _ s T hs ad);obtain⟨p,y,H⟩:=hp.2.2.2.2.1 rfl ap;intro ai;have a7:=p id ai;rw[LQ (gZ rs) i 0]at I;cases hl:lM (gZ rs) 0 (λj=>decide (j<0+i)) id with
          |none=>rw[hl]at I;have:=ac.hasLt (ac.Px I);omega
          |some x=>
           obtain⟨j',u',S,L,Y⟩:=Z5 _ _ _ _ _ hl;obtain⟨s',a4,rfl⟩:=QN S;simp only[kX,decide_eq_true_eq]at L;have hk:id∈keysOf s'.upd:=(yY _ _).1 (by rw[Y];simp);have az:(rs.take i)[j']? =some s':=by rw[lT,au L];exact a4
           have a5:yH M i (0+j')=false:=by
            cases hu:yH M i (0+j')with
            |false=>rfl
            |true=>exact absurd hk (abr ay j' s' az hu)
           have:=ahf j' s' az a5 hk;exact O5 y this ai
       have N:SR P F {h:=FV (jw ((gZ rs).take i) J0.h) (Ep M i (rs.take i) 0),next:=jF (J0.next+ops.size) rs i,lock:=jF (J0.next+ops.size) rs i} w:=g.st.rel.part ag ab;refine C.gen R g U T V hi iD N E (Env.le.refl _) rfl G rfl ag ?_ ?_ ?_ ?_ ?_ ?_ hK
       ·rintro id W ⟨p,y⟩
        exact C.apart g T hi W ⟨p,y⟩
       ·intro b m q;obtain⟨p,y,H⟩:=I7 q;obtain⟨S,L⟩:=H m rfl;refine⟨S,.inr ⟨L,?_⟩⟩;cases hg:aC.get {h:=FV (jw ((gZ rs).take i) J0.h) (Ep M i (rs.take i) 0),next:=jF (J0.next+ops.size) rs i,lock:=jF (J0.next+ops.size) rs i} b with
        |none=>rfl
        |some Z=>have:=ab b (N.Px hg);omega
       ·intro id m p y H;have a2:jF (J0.next+ops.size) rs i<=id:=H;have:=ab id (N.Px p);omega
       ·show J0.lock<=jF (J0.next+ops.size) rs i
        omega
       ·intro b q;cases hx:fV (F5 τ' (jF (J0.next+ops.size) rs i) (τ'.next-jF (J0.next+ops.size) rs i)) b with
        |none=>exact absurd hx q
        |some x=>exact(I7 hx).1
       ·intro id p y;have X:jF (J0.next+ops.size) rs i<=id:=p;exact⟨ah,ah,.inr ⟨p,y⟩⟩
      ·generalize Qw o (bF.eval {t:=lg (jw ((kU rs).take i) a0.t) (o.looksAt ops),n:=a0.n,gn:=a0.gn}) (jw ((gZ rs).take i) J0.h)=l at f;split at f
       ·next O=>
        simp only[aO]at O;split at f
        ·next v τ' G=>
         rw[DV]at G;cases f;simp only at ak al am
         have N:SR P (F.cut (jF (J0.next+ops.size) rs i)) {h:=lg (jw ((gZ rs).take i) J0.h) l,next:=jF (J0.next+ops.size) rs i,lock:=J0.lock} w:=
          g.st.rel.cutAt ah (λid m h=>(B l rfl id m h).1) (λid m h=>by obtain⟨_,p,y⟩:=B l rfl id m h;have:=Ov O.2 id p;exact⟨this.1,this.2 m y⟩) (cO _)
         refine C.gen R g U T V hi iD N (aw _ O.1) (Env.Le _ _) rfl G rfl (λid m h=>(B l rfl id m h).1) ?_ ?_ ?_ (cO _) ?_ ?_ hK
         ·rintro id W ⟨p,y⟩
          exact C.apart g T hi W ⟨p,y⟩
         ·intro b m q;rw[Vd]at q;split at q
          ·next x hx=>
           cases q;obtain⟨p,y,H⟩:=I7 hx;obtain⟨S,L⟩:=H m rfl;refine⟨S,.inr ⟨L,?_⟩⟩;show(lg _ l).get b=none
           rw[BL];split
           ·next hm=>have:=(Ov O.2 b hm).1;omega
           ·rfl
          ·obtain⟨p,y⟩:=aac q;obtain⟨H,S,Z,L,Y⟩:=En.1 p;refine⟨y.symm,.inl ⟨Z,?_,Y⟩⟩;show(lg _ l).get b=_
           rw[BL,au H];exact L
         ·intro id m p y H;obtain⟨_,S,L⟩:=B l rfl id m p;rw[yY];unfold keysOf;rw[ng,ny];left;have:=keys_map (Jy (jw ((gZ rs).take i) J0.h) J0.lock l) (λk=>τ'.get k);unfold keysOf at this;rw[this];exact En.2 ⟨S,H,m,L,y⟩
         ·intro b q;rw[Vd]at q;split at q
          ·next x hx=>
           obtain⟨p,_,_⟩:=I7 hx;show J0.lock<=b
           omega
          ·rw[yY,keys_map]at q;exact(En.1 q).2.1
         ·intro id p y;have X:jF (J0.next+ops.size) rs i<=id:=p;exact⟨ah,ah,.inr ⟨p,y⟩⟩
        ·cases f
       ·cases f
end
section
variable{call:Caller}{ops:W5}{M:Q2}{rs:Wk}{a0:bF}{J0:aC}{cf:Nat}{F0:Env}{w0:World}
def inB(b:Array Bool):Nat->Bool:=λj=>b.getD j false
def aiV{b:Array Bool}(p:b.size=ops.size){i:Nat}(h:i∈Region.ready .any ops b):i<ops.size/\inB b i=false/\∀o,ops[i]? =some o->∀e∈o.after.toList,Region.binds .any e=true->inB b e.on=true:=by
 unfold Region.ready at h;simp only[Ky,zK,aO,zG]at h;obtain⟨j,g,d⟩:=h;have f:i<b.size:=ah;refine⟨j,?_,?_⟩
 ·unfold inB;rw[zF,Dc f]at g⊢;exact g
 ·intro o k e l m;rw[k]at d;simp only[gU,rD]at d;rw[Array.all_eq_true']at d;have:=d e (by simpa using l);rw[m]at this;simpa[inB]using this
def count_set(b:Array Bool)(i:Nat)(h:b[i]? =some false):(b.setIfInBounds i true).toList.count false+1=b.toList.count false:=by
 have d:i<b.size:=(qI.1 h).1;have g:b[i]=false:=(qI.1 h).2;have e:b.toList[i]'(by simpa using d)=false:=by simpa using g
 have f:0<b.toList.count false:=List.count_pos_iff.2 (by rw[<-e];exact iq _);rw[Array.toList_setIfInBounds,List.count_set (by simpa using d),e];have j:((false==false)=true):=rfl;have k:¬((true==false)=true):=aX;rw[au j,aj k];omega
def Y2{α:Type}:∀(b:List (List (Nat×Option α)))(k:Nat)(D:Nat->Bool)(t:Tr α),(∀j,j<b.length->D (k+j)=true)->ku b k D t=jw b t
 |[],_,_,_,_=>rfl
 |u::b,k,D,t,h=>by have h0:=h 0 aA;simp only[nR]at h0;rw[ku,au h0,jw,Y2 b (k+1) D _ (λj d=>by rw[(ah:k+1+j=k+(j+1))];exact h (j+1) (by simpa using d))]
end
section
variable{ops:W5}{M:Q2}{rs:Wk}{a0:bF}{J:aC}{F0:Env}{w0:World}{n N0:Nat}
def alj(C:qW ops M rs n N0)(Inv:(Nat->Bool)->Env->World->Act->Prop)
 (s:∀D F w A i (K:Act->World->Prop) (Q:Exit->Act->World->Prop),Inv D F w A->i<ops.size->D i=false->(∀o,ops[i]? =some o->∀e∈o.after.toList,Region.binds .any e=true->D e.on=true)->
  (∀F' t w',Inv (lI D i) F' w' t->K t w')->wpOp P ops Q i K A w) {Q:Exit->Act->World->Prop}
 (W:∀F' t w',Inv (λj=>decide (j<ops.size)) F' w' t->Q .normal t w'):
 ∀(fuel:Nat)(b:Array Bool)(F:Env)(w:World)(A:Act),b.size=ops.size->b.toList.count false=fuel->Inv (inB b) F w A->wpAny P .any ops Q fuel b A w:=by
 intro fuel;induction fuel with
 |zero=>
  intro b F w A E T f;have m:∀j,j<ops.size->inB b j=true:=by
   intro j v;have d:j<b.size:=ah;have u:b[j]∈b.toList:=aA;have:false∉b.toList:=List.count_eq_zero.1 T;unfold inB;rw[zF,Dc d];cases I:b[j]with
   |true=>rfl
   |false=>rw[I]at u;exact absurd u this
  have L:inB b=λj=>decide (j<ops.size):=by
   funext j;by_cases v:j<ops.size
   ·rw[m j v];simp[v]
   ·unfold inB;rw[zF,Array.getElem?_eq_none ah];simp[v]
  refine⟨?_,?_⟩
  ·apply List.eq_nil_iff_forall_not_mem.2;intro i hi;obtain⟨p,g,_⟩:=aiV E hi;rw[m i p]at g;cases g
  ·rw[L]at f;exact W F A w f
 |succ fuel X=>
  intro b F w A E T f;refine⟨λY=>?_,λi hi=>?_⟩
  ·exfalso;have N:∃i,i<ops.size/\inB b i=false/\∀j,j<i->inB b j=true:=by
    have y:0<b.toList.count false:=ah;have u:=List.count_pos_iff.1 y;obtain⟨k,G⟩:=XD.1 u;have O:k<ops.size:=by have:=(fH.1 G).1;simp at this;omega
    have Z:inB b k=false:=by unfold inB;rw[zF];rw[wC]at G;rw[G];rfl
    clear u G;induction k using Nat.strongRecOn with
    |_ k R=>
     by_cases H:∃j,j<k/\inB b j=false
     ·obtain⟨j,p,g⟩:=H;exact R j p ah g
     ·refine⟨k,O,Z,λj v=>?_⟩;cases I:inB b j with
      |true=>rfl
      |false=>exact absurd ⟨j,v,I⟩ H
   obtain⟨i,p,g,S⟩:=N;have q:i∈Region.ready .any ops b:=by
    unfold Region.ready;simp only[Ky,zK,aO,zG];have d:i<b.size:=ah;refine⟨p,?_,?_⟩
    ·unfold inB at g;rw[zF,Dc d]at g⊢;exact g
    ·have U:ops[i]? =some ops[i]:=by simp[p]
     rw[U];simp only[gU,rD];rw[Array.all_eq_true'];intro e he;cases H:Region.binds .any e with
     |false=>rfl
     |true=>
      simp only[Xt,AL];obtain⟨u,V⟩:=C.mask U;have z:uT M e.on i=true:=by
       unfold uT;rw[yK,u];simp only[rD];have:∀(es:List Edge),e∈es->(Am (λj=>(M.take i).getD j 0) es).testBit e.on=true:=by
        intro es;induction es with
        |nil=>intro h;simp at h
        |cons x es B=>
         intro h;rw[Am];simp only[bJ]at h;rcases h with rfl|h
         ·rw[au H,Rt,Rt,Nat.testBit_two_pow];simp
         ·split
          ·rw[Rt,B h,Bool.or_true]
          ·exact B h
       exact this _ (by simpa using he)
      exact S e.on (C.aay z)
   rw[Y]at q;simp at q
  ·obtain⟨p,g,S⟩:=aiV E hi;refine s _ _ _ _ i _ Q f p g S λF' t w' l=>?_;have hf:b[i]? =some false:=by have d:i<b.size:=ah;unfold inB at g;rw[zF,Dc d]at g;rw[Dc d];simpa using g
   have L:lI (inB b) i=inB (b.setIfInBounds i true):=by
    funext j;unfold lI inB;have d:i<b.size:=ah;rw[zF,zF,Df];by_cases e:i=j
    ·subst e;rw[au rfl,au d];simp
    ·rw[aj e,Gq (λe'=>e e'.symm)];simp
   rw[L]at l;exact X _ F' w' t (by simpa using E) (by have:=count_set b i hf;omega) l
end
def aj0{ops:W5}{M:Q2}:∀(k i j:Nat),WS ops M k<=i->i<k->nS ops i=false->j<i->nS ops j=true\/uT M j i=true
 |0,i,j,_,h,_,_=>ah
 |k+1,i,j,h1,g,b,d=>by
  unfold WS at h1;split at h1
  ·next f=>
   by_cases e:i=k
   ·subst e;rw[b,AL,List.all_eq_true]at f;have:=f j (by simpa using d);rwa [nO]at this
   ·exact aj0 k i j h1 ah b d
  ·omega
def WT:∀(rs:Wk)(r:dJ)(J:aC),wB (rs++[r]) J=match r.fin with|some τ=>τ|none=>wB rs J
 |[],_,_=>rfl
 |s::rs,r,J=>by
  show wB (rs++[r]) _=_
  rw[WT rs r];rfl
def ach{rs:Wk}{J:aC}:∀k,k<=rs.length->(∀(i:Nat) r,i<k->rs[i]? =some r->r.fin=none)->wB (rs.take k) J=J
 |0,_,_=>by simp[wB]
 |k+1,e,h=>by
  obtain⟨r,b⟩:∃r,rs[k]? =some r:=⟨_,bT ah⟩
  rw[Rj,b,ady,WT,h k r ah b];exact ach k ah (λi d hi=>h i d ah)
def aci{rs:Wk}{J:aC}{m:Nat}{r:dJ}{τ:aC}(g:rs[m]? =some r)(j:r.fin=some τ):∀k,m<k->k<=rs.length->(∀(i:Nat) d,m<i->i<k->rs[i]? =some d->d.fin=none)->wB (rs.take k) J=τ
 |0,h,_,_=>ah
 |k+1,p,q,h=>by
  by_cases e:m=k
  ·subst e;rw[Rj,g,ady,WT,j]
  ·obtain⟨d,b⟩:∃r,rs[k]? =some r:=⟨_,bT ah⟩
   rw[Rj,b,ady,WT,h k d ah ah b];exact aci g j k ah ah (λi f l s=>h i f l ah)
def aqx{call:Caller}{o:Oper}(l:DX o=true){g:QP}{J1 J2 τ:aC}{v:Q4}(b:Ac P call o g J1=some (v,τ)):Ac P call o g J2=some (v,J2):=by
 rw[DV]at b⊢;obtain⟨m,h,j,pos,f,guard⟩:=o;cases h with
 |move x=>simp only[vH,dW,bn,oD]at b⊢;obtain⟨u,d,e,_⟩:=b;exact⟨u,d,e,trivial⟩
 |assign x=>simp only[vH,dW,bn,oD]at b⊢;obtain⟨u,d,e,_⟩:=b;exact⟨u,d,e,trivial⟩
 |extract x k=>
  simp only[vH]at b⊢;split at b
  ·simp only[dW,bn,oD]at b⊢;obtain⟨u,d,e,_⟩:=b;exact⟨u,d,e,trivial⟩
  ·cases b
 |binOp h t x y z=>
  simp only[vH]at b⊢;split at b
  ·simp only[dW,bn,oD]at b⊢;obtain⟨u,d,e,_⟩:=b;exact⟨u,d,e,trivial⟩
  ·cases b
 |_=>simp[DX]at l
def amq{o:Oper}(e:DX o=true)(f:QP):aeF o f=.na []:=by obtain⟨g,h,d,pos,b,guard⟩:=o;cases h<;>first|rfl|(simp[DX]at e)
def apA{call:Caller}{ops:W5}{d gn n i c:Nat}{e:Wk}{t:Tr AV}{h:Tr bG}{r:dJ}(b:Lh P call ops d gn n e i t h c=some r):r.next=c:=by
 unfold Lh at b;split at b
 ·cases b
 ·split at b
  ·cases b
  ·cases b;rfl
  ·split at b
   ·cases b;rfl
   ·cases b
def YF{call:Caller}{ops:W5}{M:Q2}{N0 d gn n i c:Nat}{f:Wk}{t:Tr AV}{h:Tr bG}{r:dJ}{o:Oper}(p:ops[i]? =some o)(g:DX o=true)(b:BA P call ops M N0 d gn n f i t h c=some r):
 r.upd=[]/\r.next=c/\r.fin=none/\((J4 o ops {t:=lg t (o.looksAt ops),n:=n,gn:=gn}=some false/\r.slot=qN o (some (.dU [])))\/
  (J4 o ops {t:=lg t (o.looksAt ops),n:=n,gn:=gn}=some true/\∃v,(∀j,Ac P call o (bF.eval {t:=lg t (o.looksAt ops),n:=n,gn:=gn}) j=some (v,j))/\r.slot=qN o v)):=by
 unfold BA at b;rw[p]at b;simp only at b;split at b
 ·cases b
 ·next k=>cases b;exact⟨rfl,rfl,rfl,.inl ⟨k,rfl⟩⟩
 ·next k=>
  split at b
  ·next u e=>exfalso;obtain⟨q,x,m,pos,l,guard⟩:=o;cases e;simp[DX]at g
  ·rw[amq g]at b;simp only at b;split at b
   ·next v τ s=>
    split at b
    ·cases b;exact⟨rfl,rfl,rfl,.inr ⟨k,v,λj=>aqx g s,rfl⟩⟩
    ·cases b
   ·cases b
def Yq{ops:W5}{D:Nat->Bool}{i:Nat}(h:Closed ops D)(k:∀o,ops[i]? =some o->∀e∈o.after.toList,Region.binds .any e=true->D e.on=true):Closed ops (lI D i):=by
 intro j o b d e f g;unfold lI at b⊢;rw[nO]at b⊢;rcases b with b|b
 ·exact .inl (h j o b d e f g)
 ·have:=bM b;subst this;exact .inl (k o d e f g)
section
variable{call:Caller}{ops:W5}{M:Q2}{rs:Wk}{a:bF}{J:aC}{c:Nat}{D:Nat->Bool}
def Ctx.act'(C:Ctx P call ops M rs a J c)(g:Closed ops D){i:Nat}{o:Oper}{r:dJ}(h:ops[i]? =some o)(j:rs[i]? =some r)(hi:D i=false)(k:∀e∈o.after.toList,Region.binds .any e=true->D e.on=true)
 {F:Env} {A:Act} (b:TR P F {t:=ku (kU rs) 0 D a.t,n:=a.n,gn:=a.gn} A):TR P F {t:=lg (jw ((kU rs).take i) a.t) (o.looksAt ops),n:=a.n,gn:=a.gn} A:=by
 refine⟨b.gn,b.size,b.none,λd v f=>?_⟩;rw[BL]at f;split at f
 ·next l=>
  rw[C.aji (a0:=a) g h j hi k l]at f;exact b.slot d v f
 ·cases f
def Ctx.last(C:Ctx P call ops M rs a J c)(k:qV P call)(p:Closed ops D){i:Nat}{o:Oper}{r:dJ}(y:ops[i]? =some o)(z:rs[i]? =some r)(hi:D i=false)(I:∀e∈o.after.toList,Region.binds .any e=true->D e.on=true)(G:nX ops M i=true)
 {F F1:Env} {w0 w1:World} {A:Act} (l:St P F J w0 F1 (wB (rs.take i) {h:=jw ((gZ rs).take i) J.h,next:=jF (J.next+ops.size) rs i,lock:=J.lock}) w1)
 (m:TR P F1 {t:=ku (kU rs) 0 D a.t,n:=a.n,gn:=a.gn} A) {K:Act->World->Prop} {Q:Exit->Act->World->Prop}
 (L:∀B N E τ,r.fin=some τ->St P F J w0 B τ E->TR P B {t:=ku (kU rs) 0 (lI D i) a.t,n:=a.n,gn:=a.gn} N->K N E):wpOp P ops Q i K A w1:=by
 have b:=C.one i r z;unfold yj at b;rw[au G]at b;unfold Lh at b;rw[y]at b;simp only at b;have f:=C.act' p y z hi I m;have g:=λd=>C.Uo (a0:=a) p y z hi I d;have q:=(C.slot i r z).2;unfold wpOp;rw[y];simp only;split at b
 ·cases b
 ·next H=>
  cases b;rw[G6 f H];simp only[ig,if_false];exact L F1 _ w1 _ rfl l (m.add (Env.le.refl _) g q (by rintro u O;cases O;exact⟨[],rfl,rfl⟩))
 ·next H=>
  rw[G6 f H];simp only[if_true];left;split at b
  ·next v τ s=>
   rw[DV]at s;cases b;refine XU l.rel k f s λx B E j R=>?_;exact L B _ E _ rfl (l.trans j) (m.add j.ext g q R)
  ·cases b
def Ctx.free(C:Ctx P call ops M rs a J c)(k:qV P call)(q:Closed ops D){i:Nat}{o:Oper}{r:dJ}(s:ops[i]? =some o)(z:rs[i]? =some r)(hi:D i=false)(L:∀e∈o.after.toList,Region.binds .any e=true->D e.on=true)(N:DX o=true)
 {F F1:Env} {τ:aC} {w0 w1:World} {A:Act} (l:St P F J w0 F1 τ w1) (m:TR P F1 {t:=ku (kU rs) 0 D a.t,n:=a.n,gn:=a.gn} A) {K:Act->World->Prop} {Q:Exit->Act->World->Prop}
 (O:∀B R E,St P F J w0 B τ E->TR P B {t:=ku (kU rs) 0 (lI D i) a.t,n:=a.n,gn:=a.gn} R->K R E):wpOp P ops Q i K A w1:=by
 have f:=C.one i r z;unfold yj at f;have G:nX ops M i=false:=by unfold nX nS;rw[s];simp only[N,Xt,Bool.and_false]
 rw[G]at f;simp only[ig,if_false]at f;obtain⟨_,_,_,p⟩:=YF s N f;have g:=C.act' q s z hi L m;have b:=λd=>C.Uo (a0:=a) q s z hi L d;have h:=(C.slot i r z).2;unfold wpOp;rw[s];simp only;rcases p with⟨H,I⟩|⟨H,v,S,I⟩
 ·rw[I]at b h;rw[G6 g H];simp only[ig,if_false];exact O F1 _ w1 l (m.add (Env.le.refl _) b h (by rintro u T;cases T;exact⟨[],rfl,rfl⟩))
 ·rw[I]at b h;rw[G6 g H];simp only[if_true];left;have y:=S τ;rw[DV]at y;refine XU l.rel k g y λx B E j U=>?_;exact O B _ E (l.trans j) (m.add j.ext b h U)
def Ctx.aj1(C:Ctx P call ops M rs a J c){l:Nat}(d:∀i,l<=i->i<ops.size->nX ops M i=true\/nS ops i=true):∀k,l+k<=ops.size->jF (J.next+ops.size) rs (l+k)=jF (J.next+ops.size) rs l
 |0,_=>rfl
 |k+1,h=>by
  have g:=C.aj1 d k ah;obtain⟨r,e⟩:∃r,rs[l+k]? =some r:=⟨_,bT (by rw[C.len];omega)⟩
  obtain⟨o,f⟩:∃o,ops[l+k]? =some o:=⟨ops[l+k],aA⟩
  have b:=C.one _ _ e;unfold yj at b;rw[(ah:l+(k+1)=(l+k)+1),OQ rs _ _ _ e,<-g];split at b
  ·exact apA b
  ·next j=>
   rcases d (l+k) ah ah with h1|h1
   ·exact absurd h1 j
   ·unfold nS at h1;rw[f]at h1;exact(YF f h1 b).2.1
end
def apR(hm:P.follows .mixedOrders=true):Q8 P (XT P):=by
 intro call v ops a J a' J' Z F w A id Q h ht hK;unfold XT at Z;simp only at Z;split at Z
 ·next ae=>
  simp only[aO]at ae;split at Z
  ·next rs t hh c ax=>
   split at Z
   ·next Ae=>
    simp only[aO]at Ae;obtain⟨⟨⟨ay,al⟩,af⟩,am⟩:=Ae;obtain⟨new,x,N,h3,h4,h5,h6⟩:=aeX _ _ _ _ _ _ _ _ _ _ ax;simp only[bf]at x;subst x
    have C:Ctx P call ops (mM ops.toList []) rs a J c:={
     hM:=rfl
     mok:=ae.1
     len:=N
     one:=λi r E=>by have:=h6 i r E;simpa using this
     pairs:=avV ay al (λi r E=>by have:=h6 i r E;exact apF (by simpa using this))
     slot:=by intro i r E;unfold ajC at af;rw[List.all_eq_true]at af;have:=af r (rX E);simp only[aO]at this;refine⟨Nat.le_of_ble_eq_true this.1,λp az=>?_⟩;have h8:=this.2;rw[List.all_eq_true]at h8;have:=h8 p az;rwa [jv]at this
     fin:=h5
     big:=uh am
     lock:=uh ae.2}
    refine wp_region_any hm ?_;have G:=C.Yk;have O:inB (Array.replicate ops.size false)=λ_=>false:=by funext j;unfold inB;rw[zF,Array.getElem?_replicate];split<;>rfl
    have an:∀{α:Type}(us:List (List (Nat×Option α)))(k:Nat)(t:Tr α),ku us k (λ_=>false) t=t:=by
     intro α us;induction us with
     |nil=>intro k t;rfl
     |cons u us ih=>intro k t;rw[ku];simp only[ig,if_false];exact ih _ _
    have start:Dh P ops rs a J c F {w with drawn:=w.drawn+1} (λ_=>false) F {w with drawn:=w.drawn+1} A:=by
     refine⟨λi o hi=>by simp at hi,?_,?_,λid hq=>.inl (h.hasLt hq)⟩
     ·rw[an];refine(St.refl h.drew).sub (λid o V=>V) (by show J.next<=c;omega) rfl
     ·rw[an];exact⟨ht.gn,ht.size,ht.none,ht.slot⟩
    have ao:ku (kU rs) 0 (λj=>decide (j<ops.size)) a.t=t:=by rw[h3];exact Y2 _ _ _ _ (λj q=>by simp[kU]at q⊢;omega)
    have H:∀i,i<ops.size->nX ops (mM ops.toList []) i=true->nS ops i=false/\∀j,j<i->nS ops j=true\/uT (mM ops.toList []) j i=true:=by intro i hi d;unfold nX at d;rw[aO,zG]at d;exact⟨d.2,λj q=>aj0 _ _ _ (uh d.1) hi d.2 q⟩
    have ag:∀i j,i<=j->j<ops.size->nX ops (mM ops.toList []) i=true->nX ops (mM ops.toList []) j=true\/nS ops j=true:=by
     intro i j aD q d;unfold nX at d⊢;rw[aO,zG]at d;have:=uh d.1;cases U:nS ops j with
     |true=>exact .inr rfl
     |false=>left;rw[adq (kR this aD)];rfl
    have I:∀i,nS ops i=true->nX ops (mM ops.toList []) i=false:=by intro i U;unfold nX;rw[U];simp
    have R:∀(i:Nat) r,rs[i]? =some r->nX ops (mM ops.toList []) i=false->r.fin=none:=by intro i r E hi;have g:=C.one i r E;unfold yj at g;rw[hi]at g;simp only[ig,if_false]at g;exact apE g
    have aE:∀(i:Nat) r,rs[i]? =some r->nS ops i=true->r.upd=[]:=by
     intro i r E U;have g:=C.one i r E;unfold yj at g;rw[I i U]at g;simp only[ig,if_false]at g;unfold nS at U;split at U
     ·next o V=>exact(YF V U g).1
     ·cases U
    let wd:World:={w with drawn:=w.drawn+1}
    cases Z
    refine alj C.toqW (λD W w1 A1=>((∀i,i<ops.size->nX ops (mM ops.toList []) i=true->D i=false)/\Dh P ops rs a J c F wd D W w1 A1)\/
     ∃m,m<ops.size/\nX ops (mM ops.toList []) m=true/\Closed ops D/\(∀j,j<ops.size->nS ops j=false->D j=decide (j<=m))/\∃r τ,rs[m]? =some r/\r.fin=some τ/\St P F J wd W τ w1/\TR P W {t:=ku (kU rs) 0 D a.t,n:=a.n,gn:=a.gn} A1) ?_ ?_ ops.size (Array.replicate ops.size false) F _ A aA aA (.inl ⟨λi _ _=>by rw[O],by rw[O];exact start⟩)
    ·intro D W w1 A1 i K Q' f y hi F6 aa;obtain⟨o,V⟩:∃o,ops[i]? =some o:=⟨ops[i],by simp[y]⟩
     obtain⟨r,E⟩:∃r,rs[i]? =some r:=⟨_,bT (by rw[N];exact y)⟩
     have iD:=F6 o V;rcases f with⟨hD,f⟩|⟨m,ap,Zu,G,LX,r1,τ1,ab,ac,S,PS⟩
     ·by_cases d:nX ops (mM ops.toList []) i=true
      ·
        obtain⟨a7,aq⟩:=H i y d;have Zd:∀j,j<ops.size->nS ops j=false->D j=decide (j<i):=by
         intro j q s;by_cases x:j<i
         ·have:D j=true:=C.rE f.closed i o V iD j ((aq j x).resolve_left (by rw[s];simp));rw[this];simp[x]
         ·have:D j=false:=hD j q ((ag i j ah q d).resolve_right (by rw[s];simp));rw[this];simp[x]
        have aL:∀j,j<i->nX ops (mM ops.toList []) j=false:=by
         intro j q;cases e:nX ops (mM ops.toList []) j with
         |false=>rfl
         |true=>have x:=hD j ah e;rw[Zd j ah (H j ah e).1]at x;exact absurd q (of_decide_eq_false x)
        have aM:∀b,(jw ((gZ rs).take i) J.h).get b=(ku (gZ rs) 0 D J.h).get b:=by
         intro b;rw[LQ (gZ rs) i 0,D5];congr 1;refine Md _ _ _ _ _ λj u q ar=>?_;have X:j<ops.size:=by have:=(fH.1 q).1;simp[gZ]at this;omega
         simp only[kX]at ar;cases s:nS ops j with
         |false=>exact absurd (Zd j X s).symm ar
         |true=>obtain⟨r',aR,hu⟩:=QN q;rw[aE j r' aR s]at hu;subst hu;rfl
        have a0:jF (J.next+ops.size) rs i=c:=by have:=C.aj1 (l:=i) (λk x N=>ag i k x N d) (ops.size-i) ah;rw[(ah:i+(ops.size-i)=ops.size)]at this;rw[<-this];exact C.fin.symm
        have L:∀Y,wB (rs.take i) Y=Y:=λY=>ach i ah λj r' x N=>R j r' N (aL j x);refine C.last v f.closed V E hi iD d (F:=F) (w0:=wd) (F1:=W) ?_ f.tr λF' A' w' τ U z B=>aa F' A' w' (.inr ⟨i,y,d,Yq f.closed F6,?_,r,τ,E,U,z,B⟩)
        ·rw[L];refine f.st.sub (λav o' a1=>?_) (KD a0.symm) rfl;rw[show(aC.get {h:=ku (gZ rs) 0 D J.h,next:=c,lock:=J.lock} av)=(ku (gZ rs) 0 D J.h).get av from rfl,<-aM];exact a1
        ·intro j q s;unfold lI;rw[Zd j q s];by_cases e:j=i
         ·subst e;simp
         ·rw[Gq e,NT];congr 1;apply propext;omega
      ·have aw:nX ops (mM ops.toList []) i=false:=by simpa using d
       refine C.step v h.drew f y hi F6 aw λF' A' w' ai=>aa F' A' w' (.inl ⟨λj q X=>?_,ai⟩);have ak:j≠i:=λe=>by subst e;rw[aw]at X;cases X
       unfold lI;rw[hD j q X,Gq ak];rfl
     ·cases T:nS ops i with
      |true=>
       have a2:DX o=true:=by unfold nS at T;rw[V]at T;exact T
       refine C.free v G V E hi iD a2 S PS λF' A' w' z B=>aa F' A' w' (.inr ⟨m,ap,Zu,Yq G F6,?_,r1,τ1,ab,ac,z,B⟩);intro j q s;have ak:j≠i:=λe=>by subst e;rw[T]at s;cases s
       unfold lI;rw[LX j q s,Gq ak,NT]
      |false=>
       have a8:¬i<=m:=by intro a3;rw[LX i y T]at hi;exact of_decide_eq_false hi a3
       have d:nX ops (mM ops.toList []) i=true:=(ag m i ah y Zu).resolve_right (by rw[T];simp);have ad:∀j,m<j->j<i->nS ops j=true:=by
        intro j x N;cases s:nS ops j with
        |true=>rfl
        |false=>have h8:D j=true:=C.rE G i o V iD j (((H i y d).2 j N).resolve_left (by rw[s];simp));rw[LX j ah s]at h8;have:=Em h8;omega
       have L:∀Y,wB (rs.take i) Y=τ1:=λY=>aci ab ac i ah ah λj r' x N h3=>R j r' h3 (I j (ad j x N));refine C.last v G V E hi iD d (F:=F) (w0:=wd) (F1:=W) (by rw[L];exact S) PS λF' A' w' τ U z B=>aa F' A' w' (.inr ⟨i,y,d,Yq G F6,?_,r,τ,E,U,z,B⟩);intro j q s;unfold lI;rw[LX j q s];by_cases e:j=i
       ·subst e;simp
       ·rw[Gq e,NT];congr 1;apply propext;constructor
        ·omega
        ·intro x;apply Classical.byContradiction;intro N;have:=ad j ah ah;rw[this]at s;cases s
    ·intro W A1 w1 f;rcases f with⟨hD,f⟩|⟨m,ap,Zu,G,LX,r1,τ1,ab,ac,S,PS⟩
     ·have a4:∀i,i<ops.size->nX ops (mM ops.toList []) i=false:=by
       intro i hi;cases e:nX ops (mM ops.toList []) i with
       |false=>rfl
       |true=>have:=hD i hi e;simp at this;omega
      have L:wB rs {h:=hh,next:=c,lock:=J.lock} ={h:=hh,next:=c,lock:=J.lock}:=by have:=ach (rs:=rs) (J:={h:=hh,next:=c,lock:=J.lock}) rs.length (cO _) λj r' x N=>R j r' N (a4 j ah);rwa [zL]at this
      rw[L]at hK;have a5:ku (gZ rs) 0 (λj=>decide (j<ops.size)) J.h=hh:=by rw[h4];exact Y2 _ _ _ _ (λj q=>by simp[gZ]at q⊢;omega)
      have z:=f.st;have B:=f.tr;rw[a5]at z;rw[ao]at B;exact hK W A1 w1 ((St.drew h).trans z) B
     ·have L:∀Y,wB rs Y=τ1:=by
       intro Y;have:=aci (J:=Y) ab ac rs.length ah (cO _) λj r' x N h3=>by
        refine R j r' h3 (I j ?_);cases s:nS ops j with
        |true=>rfl
        |false=>
         have h9:decide (j<ops.size)=decide (j<=m):=LX j ah s;have a6:decide (j<ops.size)=true:=by simp;omega
         rw[a6]at h9;have:=Em h9.symm;omega
       rwa [zL]at this
      rw[L]at hK;rw[ao]at PS;exact hK W A1 w1 ((St.drew h).trans S) PS
   ·cases Z
  ·cases Z
 ·cases Z
section
variable{call:Caller}{ops:W5}{M:Q2}{N0 gn n:Nat}
end
def afh(d:P.follows .mixedOrders=true):Q8 P (XR P):=by intro call b ops a J e f g;exact apR d call b ops a J e f g
