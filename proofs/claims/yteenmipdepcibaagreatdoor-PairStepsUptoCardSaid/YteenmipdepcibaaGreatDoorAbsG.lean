/- Regions whose order Go leaves open: one operation keeps the invariant. -/
import Derived.Test.YteenmipdepcibaaGreatDoorAbsF
set_option linter.unusedSimpArgs false
set_option linter.unusedSectionVars false
set_option linter.unusedVariables false
namespace Go.aN
noncomputable section
variable[aH]
variable{P:Program}
structure BJ(P:Program)(ops:W3)(rs:We)(a0:bg)(J0:aA)(cf:Nat)(F0:Env)(w0:World)(D:Nat->Bool)(F:Env)(w:World)(A:Act):Prop where
 closed:Closed ops D
 st:St P F0 J0 w0 F {h:=jM (gV rs) 0 D J0.h,next:=cf,lock:=J0.lock} w
 tr:TR P F {t:=jM (kD rs) 0 D a0.t,n:=a0.n,gn:=a0.gn} A
 dm:∀id,F.has id->id<J0.next\/(∃k,k<ops.size/\D k=true/\id=J0.next+k)\/(∃(j:Nat)(r:dA),rs[j]? =some r/\D j=true/\r.base<=id/\id<r.next)
theorem TR.add{F F':Env}{T T':Tr AV}{n gn:Nat}{A:Act}{o:Oper}{v:Q4}{x:Value}(h:TR P F {t:=T,n:=n,gn:=gn} A)(hle:F.le F')(hg:∀d,T'.get d=(fM (qA o v) d).getD (T.get d))
 (hb:∀p∈qA o v,p.1<n) (hv:∀u,v=some u->VR F' u x):TR P F' {t:=T',n:=n,gn:=gn} (A.put o.dst x):=by
 have h':=h.mono hle;unfold qA at hg hb;cases hd:o.dst with
 |none=>rw[hd]at hg;refine⟨h.gn,h.size,h.none,λd u hu=>?_⟩;rw[hg]at hu;exact h'.slot d u hu
 |some d0=>
  rw[hd]at hg hb;have hd0:=hb (d0,v) (by simp);refine⟨h.gn,by have:=h.size;simpa[Act.put]using this,h.none,λd u hu=>?_⟩;rw[hg]at hu;simp only[fM]at hu;show ∃y,(A.tmps.setIfInBounds d0 x)[d]? =some y/\_
  rw[BI];by_cases e:d=d0
  ·subst e;rw[aj rfl,aj (by have:=h.size;simp only at this hd0;omega)];rw[aj rfl]at hu;exact⟨x,rfl,hv u hu⟩
  ·rw[ah (λe'=>e e'.symm)];rw[ah e]at hu;exact h'.slot d u hu
section
variable{call:Caller}{ops:W3}{M:Q2}{rs:We}{a0:bg}{J0:aA}{cf:Nat}{F0 F:Env}{w0 w:World}{D:Nat->Bool}{A:Act}{i nn N0:Nat}{o:Oper}{r:dA}
def kW(D:Nat->Bool)(i:Nat):Nat->Bool:=λj=>D j ||Nat.beq j i
theorem aAI{rs:We}{i:Nat}{r:dA}(h:rs[i]? =some r):(gV rs)[i]? =some r.upd:=by simp[gV,h]
theorem azh{rs:We}{i:Nat}{r:dA}(h:rs[i]? =some r):(kD rs)[i]? =some r.slot:=by simp[kD,h]
theorem Qi{rs:We}{i:Nat}{u:WF}(h:(gV rs)[i]? =some u):∃r,rs[i]? =some r/\r.upd=u:=by simpa[gV]using h
theorem aiM{rs:We}{i:Nat}{u:List (Nat×Q4)}(h:(kD rs)[i]? =some u):∃r,rs[i]? =some r/\r.slot=u:=by simpa[kD]using h
theorem LP{N0 i j:Nat}{r s:dA}{o:Oper}(ho:ops[i]? =some o)(h:Py ops N0 i j r s=true):pG (keysOf r.slot) (keysOf s.slot)=true/\pG (o.looksAt ops) (keysOf s.slot)=true/\pG (keysOf r.upd) (keysOf s.upd)=true/\
 (∀l,r.vis=some l->pG l (keysOf s.upd)=true)/\(r.vis=none->i<j->(∀k∈keysOf s.upd,N0<=k)/\pG r.loc (keysOf s.upd)=true/\s.base=s.next)/\(r.vis=none->i≠j->j<i\/i<j):=by
 unfold Py at h;rw[ho]at h;simp only[aK]at h;obtain⟨⟨⟨h1,h2⟩,h3⟩,h4⟩:=h;refine⟨h1,h2,h3,?_,?_,λ_ hne=>by omega⟩
 ·intro l hl;rw[hl]at h4;exact h4
 ·intro hn hij;rw[hn]at h4;simp only[nO,aK]at h4;rcases h4 with h4|⟨⟨h5,h6⟩,h7⟩
  ·rw[jd]at h4;omega
  ·refine⟨λk hk=>?_,h6,bD h7⟩;rw[List.all_eq_true]at h5;exact sO (h5 k hk)
theorem qI.afd(C:qI ops M rs nn N0)(hD:Closed ops D)(ho:ops[i]? =some o)(hr:rs[i]? =some r)(hi:D i=false)(gW:∀e∈o.after.toList,Region.binds .any e=true->D e.on=true)(b:Nat):
 (jM (gV rs) 0 (kW D i) J0.h).get b=(fM r.upd b).getD ((jM (gV rs) 0 D J0.h).get b):=by
 rw[CW,CW];have:=Zn (gV rs) 0 i D b r.upd (aAI hr) (by simpa using hi) (λj v hj hij CY hne=>by
  obtain⟨s,hs,rfl⟩:=Qi hj;have hjl:j<ops.size:=by have:=(eU.1 hs).1;rw[C.len]at this;exact this
  have hun:=C.open_ hD ho hi gW hjl (by simp at CY;rw[CY];simp;omega);have hp:=LP ho (C.pairs i j r s hr hs hun);exact O5 (Oo hp.2.2.1 ((yu _ _).1 hne)))
 simp only[kH]at this;unfold kW;rw[this];cases fM r.upd b<;>rfl
theorem qI.Tt(C:qI ops M rs nn N0)(hD:Closed ops D)(ho:ops[i]? =some o)(hr:rs[i]? =some r)(hi:D i=false)(gW:∀e∈o.after.toList,Region.binds .any e=true->D e.on=true)(b:Nat):
 (jM (kD rs) 0 (kW D i) a0.t).get b=(fM r.slot b).getD ((jM (kD rs) 0 D a0.t).get b):=by
 rw[CW,CW];have:=Zn (kD rs) 0 i D b r.slot (azh hr) (by simpa using hi) (λj v hj hij CY hne=>by
  obtain⟨s,hs,rfl⟩:=aiM hj;have hjl:j<ops.size:=by have:=(eU.1 hs).1;rw[C.len]at this;exact this
  have hun:=C.open_ hD ho hi gW hjl (by simp at CY;rw[CY];simp;omega);have hp:=LP ho (C.pairs i j r s hr hs hun);exact O5 (Oo hp.1 ((yu _ _).1 hne)))
 simp only[kH]at this;unfold kW;rw[this];cases fM r.slot b<;>rfl
theorem qI.ais(C:qI ops M rs nn N0)(hD:Closed ops D)(ho:ops[i]? =some o)(hr:rs[i]? =some r)(hi:D i=false)(gW:∀e∈o.after.toList,Region.binds .any e=true->D e.on=true){d:Nat}(hd:d∈o.looksAt ops):
 (jf ((kD rs).take i) a0.t).get d=(jM (kD rs) 0 D a0.t).get d:=by
 rw[KN (kD rs) i 0,CW];congr 1;refine Le _ _ _ _ _ λj u hj hne=>?_;obtain⟨s,hs,rfl⟩:=aiM hj;have hjl:j<ops.size:=by have:=(eU.1 hs).1;rw[C.len]at this;exact this
 simp only[kH]at hne;have hun:=C.open_ hD ho hi gW hjl (λe=>hne e.symm);have hp:=LP ho (C.pairs i j r s hr hs hun);exact O5 (Oo hp.2.1 hd)
theorem qI.ayX(C:qI ops M rs nn N0)(hD:Closed ops D)(ho:ops[i]? =some o)(hr:rs[i]? =some r)(hi:D i=false)(gW:∀e∈o.after.toList,Region.binds .any e=true->D e.on=true){l:Q2}(hv:r.vis=some l){b:Nat}(hb:b∈l):
 (jf ((gV rs).take i) J0.h).get b=(jM (gV rs) 0 D J0.h).get b:=by
 rw[KN (gV rs) i 0,CW];congr 1;refine Le _ _ _ _ _ λj u hj hne=>?_;obtain⟨s,hs,rfl⟩:=Qi hj;have hjl:j<ops.size:=by have:=(eU.1 hs).1;rw[C.len]at this;exact this
 simp only[kH]at hne;have hun:=C.open_ hD ho hi gW hjl (λe=>hne e.symm);have hp:=LP ho (C.pairs i j r s hr hs hun);exact O5 (Oo (hp.2.2.2.1 l hv) hb)
theorem Ctx.act(C:Ctx P call ops M rs a0 J0 cf)(hinv:BJ P ops rs a0 J0 cf F0 w0 D F w A)(ho:ops[i]? =some o)(hr:rs[i]? =some r)(hi:D i=false)(gW:∀e∈o.after.toList,Region.binds .any e=true->D e.on=true):
 TR P F {t:=kM (jf ((kD rs).take i) a0.t) (o.looksAt ops),n:=a0.n,gn:=a0.gn} A:=by
 refine⟨hinv.tr.gn,hinv.tr.size,hinv.tr.none,λd v hv=>?_⟩;rw[Az]at hv;split at hv
 ·next hd=>
  rw[C.ais (a0:=a0) hinv.closed ho hr hi gW hd]at hv;exact hinv.tr.slot d v hv
 ·cases hv
theorem Ctx.gen(C:Ctx P call ops M rs a0 J0 cf)(hcall:qH P call)(hinv:BJ P ops rs a0 J0 cf F0 w0 D F w A)(ho:ops[i]? =some o)(hr:rs[i]? =some r)(hil:i<ops.size)(hi:D i=false)
 (gW:∀e∈o.after.toList,Region.binds .any e=true->D e.on=true) {Fi:Env} {τ τ':aA} {v:Q4} {a:bg} {K:Act->World->Prop} {Q:Exit->Act->World->Prop}
 (TJ:SR P Fi τ w) (hTi:TR P Fi a A) (hle:Fi.le F) (hro:Fi.ro=F.ro) (hop:uI P call o a.eval τ=some (v,τ')) (OU:r.slot=qA o v)
 (sub:∀id ob,τ.get id=some ob->(jM (gV rs) 0 D J0.h).get id=some ob) (free:∀id,F.has id->¬(τ.next<=id/\id<τ'.next))
 (hu:∀b ob,fM r.upd b=some (some ob)->τ'.get b=some ob/\((∃o0,τ.get b=some o0/\o0.own=true)\/(ob.own=true/\τ.get b=none)))
 (MW:∀id ob,τ.get id=some ob->ob.own=true->τ.lock<=id->fM r.upd id≠none) (hlk:J0.lock<=τ.lock) (C9:∀b,fM r.upd b≠none->τ.lock<=b)
 (hdm:∀id,τ.next<=id->id<τ'.next->J0.next<=id/\id<cf/\(id=J0.next+i\/(r.base<=id/\id<r.next)))
 (hK:∀F' A' w',BJ P ops rs a0 J0 cf F0 w0 (kW D i) F' w' A'->K A' w'):o.wp P A w K Q:=by
 refine Xg TJ hcall hTi hop λx qX w' hst hx=>?_;let F':Env:=⟨λid=>if τ.next<=id/\id<τ'.next then qX id else F id,qX.ro,λid=>if τ.next<=id/\id<τ'.next then qX.gh id else F.gh id⟩
 have h1:F.le F':=⟨λid q hq=>by
  show(if τ.next<=id/\id<τ'.next then qX id else F id)=some q
  rw[ah (free id (.inl ⟨q,hq⟩))];exact hq,λb o hb=>hst.ext.ro b o (by rw[hro];exact hb),λid hg=>by
  show(if τ.next<=id/\id<τ'.next then qX.gh id else F.gh id)=true
  rw[ah (free id (.inr hg))];exact hg⟩
 have h2:qX.le F':=⟨λid q hq=>by
  show(if τ.next<=id/\id<τ'.next then qX id else F id)=some q
  split
  ·exact hq
  ·next hn=>
   rcases hst.aur hq with h3|h3
   ·exact hle.pl _ _ h3
   ·exact absurd h3 hn,λ_ _ h=>h,λid hg=>by
  show(if τ.next<=id/\id<τ'.next then qX.gh id else F.gh id)=true
  split
  ·exact hg
  ·next hn=>
   rcases hst.new id (.inr hg)with(⟨q,h3⟩|h3)|h3
   ·have:=hst.ext.pl _ _ h3;rw[(hst.rel.jH id hg).1]at this;cases this
   ·exact hle.gh _ h3
   ·exact absurd h3 hn⟩
 have hnew:∀id,F'.has id->F.has id\/(τ.next<=id/\id<τ'.next):=λid hh=>by
  by_cases hn:τ.next<=id/\id<τ'.next
  ·exact .inr hn
  ·left;rcases hh with⟨q,hq⟩|hg
   ·have hq':(if τ.next<=id/\id<τ'.next then qX id else F id)=some q:=hq;rw[ah hn]at hq';exact .inl ⟨q,hq'⟩
   ·have hg':(if τ.next<=id/\id<τ'.next then qX.gh id else F.gh id)=true:=hg;rw[ah hn]at hg';exact .inr hg'
 have YR:∀id,F'.gh id=true->F' id=none:=λid hg=>by
  have hg':(if τ.next<=id/\id<τ'.next then qX.gh id else F.gh id)=true:=hg;show(if τ.next<=id/\id<τ'.next then qX id else F id)=none
  split at hg'
  ·next hn=>rw[aj hn];exact(hst.rel.jH id hg').1
  ·next hn=>rw[ah hn];exact(hinv.st.rel.jH id hg').1
 have hg:=C.afd (J0:=J0) hinv.closed ho hr hi gW;have hdom:∀id,F'.has id->id<cf:=λid hq=>by
  rcases hnew id hq with h3|⟨h3,h4⟩
  ·exact hinv.st.rel.hasLt h3
  ·exact(hdm id h3 h4).2.1
 obtain⟨rel,size,keep,own,qg⟩:=St.merge (J':={h:=jM (gV rs) 0 (kW D i) J0.h,next:=cf,lock:=J0.lock}) (upd:=r.upd) (F':=F') hinv.st.rel TJ hst sub hle hro rfl h1 h2 hg hu MW hlk C9 (λid q hq=>hdom id (.inl ⟨q,hq⟩)) (λid hgi=>⟨YR id hgi,hdom id (.inr hgi)⟩);refine hK F' _ w' ⟨?_,?_,?_,?_⟩
 ·intro k o' hk ho' e he hb;unfold kW at hk⊢;simp only[nO]at hk⊢;rcases hk with hk|hk
  ·exact .inl (hinv.closed k o' hk ho' e he hb)
  ·have:=bD hk;subst this;rw[ho]at ho';cases ho';exact .inl (gW e he hb)
 ·refine hinv.st.then h1 rel size keep own hst.os hst.tape hst.output rfl (bV _) ?_ qg;intro id hq;rcases hnew id hq with h3|⟨h3,h4⟩
  ·exact .inl h3
  ·exact .inr ⟨(hdm id h3 h4).1,(hdm id h3 h4).2.1⟩
 ·have hg':=C.Tt (a0:=a0) hinv.closed ho hr hi gW;rw[OU]at hg';exact hinv.tr.add h1 hg' (by rw[<-OU];exact(C.slot i r hr).2) (λu hu'=>VR.mono h2 _ _ (hx u hu'))
 ·intro id hq;have hD':∀k,D k=true->kW D i k=true:=λk hk=>by unfold kW;rw[hk];rfl
  have hii:kW D i i=true:=by unfold kW;simp
  rcases hnew id hq with h3|⟨h3,h4⟩
  ·rcases hinv.dm id h3 with h5|⟨k,h5,h6,h7⟩|⟨j,s,h5,h6,h7⟩
   ·exact .inl h5
   ·exact .inr (.inl ⟨k,h5,hD' k h6,h7⟩)
   ·exact .inr (.inr ⟨j,s,h5,hD' j h6,h7⟩)
  ·obtain⟨_,_,h5|h5⟩:=hdm id h3 h4
   ·exact .inr (.inl ⟨i,hil,hii,h5⟩)
   ·exact .inr (.inr ⟨i,r,hr,hii,h5⟩)
end
section
variable{call:Caller}{ops:W3}{M:Q2}{rs:We}{a0:bg}{J0:aA}{cf:Nat}{F0 F:Env}{w0 w:World}{D:Nat->Bool}{A:Act}{i:Nat}{o:Oper}{r:dA}
theorem Zt{l:Q2}{f:Nat->Option bn}{b:Nat}{x:Option bn}(h:fM (l.map λk=>(k,f k)) b=some x):b∈l/\x=f b:=by
 induction l with
 |nil=>simp[fM]at h
 |cons k l ih=>
  simp only[iD,fM]at h;split at h
  ·next y hy=>cases h;have:=ih hy;exact⟨by simp[this.1],this.2⟩
  ·split at h
   ·next e=>cases h;subst e;exact⟨by simp,rfl⟩
   ·cases h
theorem keys_map(l:Q2)(f:Nat->Option bn):keysOf (l.map λk=>(k,f k))=l:=by simp[keysOf,List.map_map,Function.comp_def]
theorem Ih{τ:aA}:∀{n c b:Nat}{x:Option bn},fM (ES τ c n) b=some x->c<=b/\b<c+n/\∀o,x=some o->τ.get b=some o/\o.own=true
 |0,c,b,x,h=>by simp[ES,fM]at h
 |n+1,c,b,x,h=>by
  simp only[ES,fM]at h;split at h
  ·next y hy=>
   cases h;obtain⟨h1,h2,h3⟩:=Ih hy;exact⟨by omega,by omega,h3⟩
  ·split at h
   ·next e=>
    subst e;simp only[aW]at h;refine⟨Nat.le_refl _,by omega,λo ho=>?_⟩;rw[ho]at h;split at h
    ·next o' ho'=>
     split at h
     ·next hown=>cases h;exact⟨ho',hown⟩
     ·cases h
    ·cases h
   ·cases h
theorem Uy{l m:WF}{b:Nat}:fM (l++m) b=match fM m b with|some x=>some x|none=>fM l b:=by
 induction l with
 |nil=>simp only[aV];cases fM m b<;>rfl
 |cons p l ih=>obtain⟨k,v⟩:=p;simp only[bC,fM,ih];cases fM m b<;>rfl
theorem Dt{h:Tr bn}{lock:Nat}{l:Q2}{k:Nat}:k∈IX h lock l↔k∈l/\lock<=k/\∃ob,h.get k=some ob/\ob.own=true:=by
 unfold IX;rw[JJ,aK];constructor
 ·rintro⟨h1,h2,h3⟩
  refine⟨h1,sO h2,?_⟩;split at h3
  ·next ob hob=>exact⟨ob,hob,h3⟩
  ·cases h3
 ·rintro⟨h1,h2,ob,h3,h4⟩
  exact⟨h1,acv h2,by rw[h3];exact h4⟩
theorem SR.cutAt{F:Env}{J τ:aA}{w:World}{c:Nat}(h:SR P F J w)(hg:P.globals.size<c)(hsub:∀id o,τ.get id=some o->J.get id=some o)(hc:∀id o,τ.get id=some o->id<c/\Ac c o=true)(hn:c<=τ.next):SR P (F.cut c) τ w:=by
 have hcut:∀id q,id<c->F id=some q->F.cut c id=some q:=λid q h1 h2=>by simp only[Env.cut];rw[aj h1];exact h2
 refine⟨λg hgg=>?_,λid q hq=>?_,λid o ho=>?_,λid hg'=>?_,λid o id' o' q q' a1 a2 a3 a4 a5 a6=>?_,h.iT,λid o q a1 a2 a3=>h.kN id o q (hsub _ _ a1) a2 ((Env.Kw _ _).pl _ _ a3),h.tabs⟩
 ·obtain⟨sz,es,h1⟩:=h.mg g hgg;exact⟨sz,es,hcut _ _ (by omega) h1⟩
 ·simp only[Env.cut]at hq;split at hq
  ·omega
  ·cases hq
 ·rcases h.live id o (hsub _ _ ho)with⟨q,hq,hr⟩|⟨hgi,h2⟩
  ·exact .inl ⟨q,hcut _ _ (hc id o ho).1 hq,hr.cut (hc id o ho).2⟩
  ·exact .inr ⟨Env.ad3 (hc id o ho).1 hgi,h2⟩
 ·have hg2:(decide (id<c)&&F.gh id)=true:=hg';rw[aK,decide_eq_true_iff]at hg2;exact⟨by simp only[Env.cut];rw[aj hg2.1];exact(h.jH id hg2.2).1,by omega⟩
 ·exact h.sep id o id' o' q q' (hsub _ _ a1) a2 (hsub _ _ a3) a4 ((Env.Kw _ _).pl _ _ a5) ((Env.Kw _ _).pl _ _ a6)
theorem SR.part{F:Env}{J τ:aA}{w:World}(h:SR P F J w)(hsub:∀id o,τ.get id=some o->J.get id=some o)(hn:∀id,F.has id->id<τ.next):SR P F τ w:=
 ⟨h.mg,λid q hq=>hn id (.inl ⟨q,hq⟩),λid o ho=>h.live id o (hsub id o ho),λid hg=>⟨(h.jH id hg).1,hn id (.inr hg)⟩,λid o id' o' q q' a1 a2 a3 a4 a5 a6=>h.sep id o id' o' q q' (hsub _ _ a1) a2 (hsub _ _ a3) a4 a5 a6,h.iT,λid o q a1 a2 a3=>h.kN id o q (hsub _ _ a1) a2 a3,h.tabs⟩
theorem NS{c:Nat}{h:Tr bn}:∀{l:Q2},NR c h l=true->∀k∈l,k<c/\∀o,h.get k=some o->Ac c o=true
 |[],_,k,hk=>by simp at hk
 |x::l,hb,k,hk=>by
  simp only[NR,aK]at hb;simp only[bG]at hk;rcases hk with rfl|hk
  ·refine⟨by have:=hb.1.1;rwa [jd]at this,λo ho=>?_⟩;have:=hb.1.2;rw[ho]at this;exact this
  ·exact NS hb.2 k hk
theorem ac3{c:Nat}{t:Tr AV}:∀{l:Q2},J6 c t l=true->∀k∈l,∀v,t.get k=some v->v.under c=true
 |[],_,k,hk=>by simp at hk
 |x::l,hb,k,hk=>by
  simp only[J6,aK]at hb;simp only[bG]at hk;rcases hk with rfl|hk
  ·intro v hv;have:=hb.1;rw[hv]at this;exact this
  ·exact ac3 hb.2 k hk
theorem aaG{M:Q2}{i:Nat}:∀{rs:We}{k:Nat}{b:Nat},b∉Dv M i rs k->∀(j:Nat) r,rs[j]? =some r->xO M i (k+j)=true->b∉keysOf r.upd
 |[],k,b,_,j,r,hj,_=>by simp at hj
 |s::rs,k,b,hb,j,r,hj,hu=>by
  unfold Dv at hb;cases j with
  |zero=>simp at hj;subst hj;rw[nC]at hu;rw[aj hu]at hb;simp only[kG,not_or]at hb;exact hb.1
  |succ j=>
   have hb':b∉Dv M i rs (k+1):=by
    split at hb
    ·simp only[kG,not_or]at hb;exact hb.2
    ·exact hb
   exact aaG hb' j r (by simpa using hj) (by rw[show k+1+j=k+(j+1) by omega];exact hu)
theorem agm{M:Q2}{i:Nat}:∀{rs:We}{k:Nat}{b:Nat}(j:Nat)(r:dA),rs[j]? =some r->xO M i (k+j)=false->b∈keysOf r.upd->b∈O4 M i rs k
 |[],k,b,j,r,hj,_,_=>by simp at hj
 |s::rs,k,b,j,r,hj,hu,hb=>by
  unfold O4;cases j with
  |zero=>simp at hj;subst hj;rw[nC]at hu;rw[ah (by rw[hu];simp)];simp[hb]
  |succ j=>
   have:=agm (k:=k+1) j r (by simpa using hj) (by rw[show k+1+j=k+(j+1) by omega];exact hu) hb;split
   ·exact this
   ·simp[this]
theorem Ctx.bound(C:Ctx P call ops M rs a0 J0 cf)(hinv:BJ P ops rs a0 J0 cf F0 w0 D F w A)(id:Nat)(h:F.has id):id<cf:=hinv.st.rel.hasLt h
theorem Ctx.apart(C:Ctx P call ops M rs a0 J0 cf)(hinv:BJ P ops rs a0 J0 cf F0 w0 D F w A)(hr:rs[i]? =some r)(hi:D i=false){id:Nat}(h:F.has id):¬(r.base<=id/\id<r.next):=by
 rintro⟨h1,h2⟩
 have hlo:=C.lo hr;rcases hinv.dm id h with h3|⟨k,h3,h4,h5⟩|⟨j,s,h3,h4,h5,h6⟩
 ·omega
 ·omega
 ·by_cases hij:i=j
  ·subst hij;rw[hi]at h4;cases h4
  ·rcases Nat.lt_or_gt_of_ne hij with hlt|hlt
   ·have:=C.lt hr h3 hlt;omega
   ·have:=C.lt h3 hr hlt;omega
theorem Ctx.step(C:Ctx P call ops M rs a0 J0 cf)(hcall:qH P call)(hS0:SR P F0 J0 w0)(hinv:BJ P ops rs a0 J0 cf F0 w0 D F w A)(hil:i<ops.size)(hi:D i=false)
 (ET:∀o,ops[i]? =some o->∀e∈o.after.toList,Region.binds .any e=true->D e.on=true) (hnl:nK ops M i=false) {K:Act->World->Prop} {Q:Exit->Act->World->Prop}
 (hK:∀F' A' w',BJ P ops rs a0 J0 cf F0 w0 (kW D i) F' w' A'->K A' w'):wpOp P ops Q i K A w:=by
 obtain⟨o,ho⟩:∃o,ops[i]? =some o:=⟨ops[i],by simp[hil]⟩
 obtain⟨r,hr⟩:∃r,rs[i]? =some r:=⟨_,bK (by rw[C.len];exact hil)⟩
 have gW:=ET o ho;have hone:=C.one i r hr;have hact:=C.act hinv ho hr hi gW;have hbase:=C.base hr;have hlo:=C.lo hr;have hhi:=C.hi hr;have hN0:P.globals.size<J0.next:=by obtain⟨sz,es,h1⟩:=hS0.mg P.globals.size (bV _);exact hS0.dom _ _ h1
 have hbn:=(C.slot i r hr).1;have aCR:=C.lock;have hbig:=C.big;have YK:=C.bound hinv;unfold xB at hone;rw[hnl]at hone;simp only[iO,if_false]at hone;unfold Aj at hone;rw[ho]at hone;simp only at hone;unfold wpOp;rw[ho];simp only;split at hone
 ·cases hone
 ·
   next hw=>
   rw[FW hact hw];simp only[iO,if_false];cases hone;refine hK F _ w ⟨?_,?_,?_,?_⟩
   ·intro k o' hk ho' e he hb;unfold kW at hk⊢;simp only[nO]at hk⊢;rcases hk with hk|hk
    ·exact .inl (hinv.closed k o' hk ho' e he hb)
    ·have:=bD hk;subst this;rw[ho]at ho';cases ho';exact .inl (ET _ ho e he hb)
   ·have hg:=C.afd (J0:=J0) hinv.closed ho hr hi gW;refine hinv.st.sub ?_ (bV _) rfl;intro id ob hob;have:(jM (gV rs) 0 (kW D i) J0.h).get id=some ob:=hob;rw[hg]at this;exact this
   ·exact hinv.tr.add (Env.le.refl _) (C.Tt (a0:=a0) hinv.closed ho hr hi gW) (C.slot i _ hr).2 (by rintro u hu;cases hu;exact⟨[],rfl,rfl⟩)
   ·intro id hq;have hD':∀k,D k=true->kW D i k=true:=λk hk=>by unfold kW;rw[hk];rfl
    rcases hinv.dm id hq with h5|⟨k,h5,h6,h7⟩|⟨j,s,h5,h6,h7⟩
    ·exact .inl h5
    ·exact .inr (.inl ⟨k,h5,hD' k h6,h7⟩)
    ·exact .inr (.inr ⟨j,s,h5,hD' j h6,h7⟩)
 ·
   next hw=>
   rw[FW hact hw];simp only[if_true];left;have rest:∀l:Q2,r.vis=some l->∀id ob,(kM (jf ((gV rs).take i) J0.h) l).get id=some ob->(jM (gV rs) 0 D J0.h).get id=some ob/\id∈l/\(jf ((gV rs).take i) J0.h).get id=some ob:=by
    intro l hl id ob hob;rw[Az]at hob;split at hob
    ·next hm=>rw[<-C.ayX (J0:=J0) hinv.closed ho hr hi gW hl hm];exact⟨hob,hm,hob⟩
    ·cases hob
   have ad2:∀c,J6 c (jf ((kD rs).take i) a0.t) (o.looksAt ops)=true->TR P (F.cut c) {t:=kM (jf ((kD rs).take i) a0.t) (o.looksAt ops),n:=a0.n,gn:=a0.gn} A:=by
    intro c hb;refine⟨hact.gn,hact.size,hact.none,λd v hv=>?_⟩;obtain⟨x,hx,kJ⟩:=hact.slot d v hv;refine⟨x,hx,VR.cut v x ?_ kJ⟩;rw[Az]at hv;split at hv
    ·next hd=>exact ac3 hb d hd v hv
    ·cases hv
   split at hone
   ·
     next ty hty=>
     split at hone
     ·next z hz=>
      cases hone;have hop:uI P call o (bg.eval {t:=.nil,n:=a0.n,gn:=a0.gn}) {h:=.nil,next:=J0.next+i,lock:=J0.lock}=some (some (.p (J0.next+i) 0),({h:=.nil,next:=J0.next+i,lock:=J0.lock}:aA).new (.cells z ty true false)):=by unfold uI;rw[hty];simp only[hz,gI]
      have hS':SR P (F.cut J0.next) {h:=.nil,next:=J0.next+i,lock:=J0.lock} w:=hinv.st.rel.cutAt hN0 (λid ob h=>by simp[aA.get]at h) (λid ob h=>by simp[aA.get]at h) (by simp);refine C.gen hcall hinv ho hr hil hi gW hS' (a:={t:=.nil,n:=a0.n,gn:=a0.gn}) ⟨hact.gn,hact.size,hact.none,λd v hv=>by simp at hv⟩ (Env.Kw _ _) rfl hop rfl (λid ob h=>by simp[aA.get]at h) ?_ ?_ ?_ (bV _) ?_ ?_ hK
      ·rintro id hq ⟨h1,h2⟩
       have h1':J0.next+i<=id:=h1;have h2':id<J0.next+i+1:=h2;rcases hinv.dm id hq with h3|⟨k,h3,h4,h5⟩|⟨j,s,h3,h4,h5,h6⟩
       ·omega
       ·have:k=i:=by omega
        subst this;rw[hi]at h4;cases h4
       ·have:=C.lo h3;omega
      ·intro b ob hb;simp only[fM]at hb;split at hb
       ·next e=>
        cases hb;subst e;refine⟨?_,.inr ⟨rfl,Tr.get_nil _⟩⟩;rw[aA.oK,aj rfl]
       ·cases hb
      ·intro id ob h;simp[aA.get]at h
      ·intro b hb;have:=(yu _ _).1 hb;simp[keysOf]at this;subst this;show J0.lock<=J0.next+i
       omega
      ·intro id h1 h2;have h1':J0.next+i<=id:=h1;have h2':id<J0.next+i+1:=h2;have:=C.XK;exact⟨by omega,by omega,.inl (by omega)⟩
     ·cases hone
   ·split at hone
    ·
      next l hcls=>
      split at hone
      ·next v τ' hop=>
       rw[CP]at hop;split at hone
       ·next hnx=>
        cases hone;have arS:=bD hnx;have hS':SR P F {h:=kM (jf ((gV rs).take i) J0.h) l,next:=sU,lock:=sU} w:=hinv.st.rel.part (λid ob h=>(rest l rfl id ob h).1) (λid hq=>wZ (YK id hq) hbig);refine C.gen hcall hinv ho hr hil hi gW hS' hact (Env.le.refl _) rfl hop rfl (λid ob h=>(rest l rfl id ob h).1) ?_ ?_ ?_ ?_ ?_ ?_ hK
        ·rintro id hq ⟨h1,h2⟩
         have h1':sU<=id:=h1;omega
        ·intro b ob hb;simp[fM]at hb
        ·intro id ob h1 h2 h3;have h3':sU<=id:=h3;have:=YK id (hS'.OI h1);omega
        ·have:=C.XK;show J0.lock<=sU;omega
        ·intro b hb;simp[fM]at hb
        ·intro id h1 h2;have h1':sU<=id:=h1;omega
       ·cases hone
      ·cases hone
    ·
      next l hcls=>
      split at hone
      ·next v τ' hop=>
       rw[CP]at hop;split at hone
       ·next hnx=>
        cases hone;have arS:=bD hnx;have hS':SR P F {h:=kM (jf ((gV rs).take i) J0.h) l,next:=sU,lock:=J0.lock} w:=hinv.st.rel.part (λid ob h=>(rest l rfl id ob h).1) (λid hq=>wZ (YK id hq) hbig);refine C.gen hcall hinv ho hr hil hi gW hS' hact (Env.le.refl _) rfl hop rfl (λid ob h=>(rest l rfl id ob h).1) ?_ ?_ ?_ (bV _) ?_ ?_ hK
        ·rintro id hq ⟨h1,h2⟩
         have h1':sU<=id:=h1;omega
        ·intro b ob hb;obtain⟨h1,h2⟩:=Zt hb;obtain⟨h3,h4,ob',h5,h6⟩:=Dt.1 h1;refine⟨h2.symm,.inl ⟨ob',?_,h6⟩⟩;show(kM _ l).get b=_
         rw[Az,aj h3];exact h5
        ·intro id ob h1 h2 h3;obtain⟨_,h4,h5⟩:=rest l rfl id ob h1;rw[yu,keys_map];exact Dt.2 ⟨h4,h3,ob,h5,h2⟩
        ·intro b hb;rw[yu,keys_map]at hb;exact(Dt.1 hb).2.1
        ·intro id h1 h2;have h1':sU<=id:=h1;omega
       ·cases hone
      ·cases hone
    ·
      next l hcls=>
      split at hone
      ·next hbel=>
       simp only[aK]at hbel;split at hone
       ·next v τ' hop=>
        rw[CP]at hop;cases hone;simp only at hlo hhi hbn
        have hS':SR P (F.cut (jo (J0.next+ops.size) rs i)) {h:=kM (jf ((gV rs).take i) J0.h) l,next:=jo (J0.next+ops.size) rs i,lock:=J0.lock} w:=
         hinv.st.rel.cutAt (by omega) (λid ob h=>(rest l rfl id ob h).1) (λid ob h=>by obtain⟨_,h1,h2⟩:=rest l rfl id ob h;have:=NS hbel.2 id h1;exact⟨this.1,this.2 ob h2⟩) (bV _)
        refine C.gen hcall hinv ho hr hil hi gW hS' (ad2 _ hbel.1) (Env.Kw _ _) rfl hop rfl (λid ob h=>(rest l rfl id ob h).1) ?_ ?_ ?_ (bV _) ?_ ?_ hK
        ·rintro id hq ⟨h1,h2⟩
         exact C.apart hinv hr hi hq ⟨h1,h2⟩
        ·intro b ob hb;rw[Uy]at hb;split at hb
         ·next x hx=>
          cases hb;obtain⟨h1,h2,h3⟩:=Ih hx;obtain⟨h4,h5⟩:=h3 ob rfl;refine⟨h4,.inr ⟨h5,?_⟩⟩;show(kM _ l).get b=none
          rw[Az];split
          ·next hm=>have:=(NS hbel.2 b hm).1;omega
          ·rfl
         ·obtain⟨h1,h2⟩:=Zt hb;obtain⟨h3,h4,ob',h5,h6⟩:=Dt.1 h1;refine⟨h2.symm,.inl ⟨ob',?_,h6⟩⟩;show(kM _ l).get b=_
          rw[Az,aj h3];exact h5
        ·intro id ob h1 h2 h3;obtain⟨_,h4,h5⟩:=rest l rfl id ob h1;rw[yu];unfold keysOf;rw[lX,kG];left;have:=keys_map (IX (jf ((gV rs).take i) J0.h) J0.lock l) (λk=>τ'.get k);unfold keysOf at this;rw[this];exact Dt.2 ⟨h4,h3,ob,h5,h2⟩
        ·intro b hb;rw[Uy]at hb;split at hb
         ·next x hx=>
          obtain⟨h1,_,_⟩:=Ih hx;show J0.lock<=b
          omega
         ·rw[yu,keys_map]at hb;exact(Dt.1 hb).2.1
        ·intro id h1 h2;have h1':jo (J0.next+ops.size) rs i<=id:=h1;exact⟨by omega,by omega,.inr ⟨h1,h2⟩⟩
       ·cases hone
      ·cases hone
    ·
      next hcls=>
      split at hone
      ·next v τ' hop0=>
       have hop:=aAE hop0;rw[CP]at hop;cases hone;simp only at hlo hhi hbn;have hall:∀id,F.has id->id<jo (J0.next+ops.size) rs i:=by
        intro id hq;rcases hinv.dm id hq with h3|⟨k,h3,h4,h5⟩|⟨j,s,h3,h4,h5,h6⟩
        ·omega
        ·omega
        ·have hij:i≠j:=by rintro rfl;rw[hi]at h4;cases h4
         rcases Nat.lt_or_gt_of_ne hij with hlt|hlt
         ·have hjl:j<ops.size:=by have:=(eU.1 h3).1;rw[C.len]at this;exact this
          have hun:=C.open_ hinv.closed ho hi gW hjl (by rw[h4];simp;omega);have hp:=LP ho (C.pairs i j _ s hr h3 hun);have:=(hp.2.2.2.2.1 rfl hlt).2.2;omega
         ·have:=C.lt h3 hr hlt;simp only at this;omega
       have hsub:∀id ob,(EM (jf ((gV rs).take i) J0.h) (Dv M i (rs.take i) 0)).get id=some ob->(jM (gV rs) 0 D J0.h).get id=some ob:=by
        intro id ob hob;rw[afc]at hob;split at hob
        ·cases hob
        ·next hnk=>
         rw[<-hob,KN (gV rs) i 0,CW];congr 1;refine(Le _ _ _ _ _ λj u hj hne=>?_).symm;obtain⟨s,hs,rfl⟩:=Qi hj;have hjl:j<ops.size:=by have:=(eU.1 hs).1;rw[C.len]at this;exact this
         simp only[kH]at hne;have hun:=C.open_ hinv.closed ho hi gW hjl (λe=>hne e.symm);apply O5;by_cases hji:j<i
         ·exact aaG hnk j s (by rw[kS,aj hji];exact hs) (by rw[kH];exact hun)
         ·have hij:i<j:=by
           rcases xU i j with h|h
           ·exact h
           ·have:i=j:=by omega
            subst this;rw[hi]at hne;simp at hne
          have hp:=LP ho (C.pairs i j _ s hr hs hun);obtain⟨h1,h2,h3⟩:=hp.2.2.2.2.1 rfl hij;intro hmem;have hge:=h1 id hmem;rw[KN (gV rs) i 0]at hob;cases hl:lC (gV rs) 0 (λj=>decide (j<0+i)) id with
          |none=>rw[hl]at hob;have:=hS0.hasLt (hS0.OI hob);omega
          |some x=>
           obtain⟨j',u',h4,h5,h6⟩:=Zo _ _ _ _ _ hl;obtain⟨s',hs',rfl⟩:=Qi h4;simp only[kH,decide_eq_true_eq]at h5;have hk:id∈keysOf s'.upd:=(yu _ _).1 (by rw[h6];simp);have htk:(rs.take i)[j']? =some s':=by rw[kS,aj h5];exact hs'
           have hnu:xO M i (0+j')=false:=by
            cases hu:xO M i (0+j')with
            |false=>rfl
            |true=>exact absurd hk (aaG hnk j' s' htk hu)
           have:=agm j' s' htk hnu hk;exact Oo h2 this hmem
       have hS':SR P F {h:=EM (jf ((gV rs).take i) J0.h) (Dv M i (rs.take i) 0),next:=jo (J0.next+ops.size) rs i,lock:=jo (J0.next+ops.size) rs i} w:=hinv.st.rel.part hsub hall;refine C.gen hcall hinv ho hr hil hi gW hS' hact (Env.le.refl _) rfl hop rfl hsub ?_ ?_ ?_ ?_ ?_ ?_ hK
       ·rintro id hq ⟨h1,h2⟩
        exact C.apart hinv hr hi hq ⟨h1,h2⟩
       ·intro b ob hb;obtain⟨h1,h2,h3⟩:=Ih hb;obtain⟨h4,h5⟩:=h3 ob rfl;refine⟨h4,.inr ⟨h5,?_⟩⟩;cases hg:aA.get {h:=EM (jf ((gV rs).take i) J0.h) (Dv M i (rs.take i) 0),next:=jo (J0.next+ops.size) rs i,lock:=jo (J0.next+ops.size) rs i} b with
        |none=>rfl
        |some ob'=>have:=hall b (hS'.OI hg);omega
       ·intro id ob h1 h2 h3;have h3':jo (J0.next+ops.size) rs i<=id:=h3;have:=hall id (hS'.OI h1);omega
       ·show J0.lock<=jo (J0.next+ops.size) rs i
        omega
       ·intro b hb;cases hx:fM (ES τ' (jo (J0.next+ops.size) rs i) (τ'.next-jo (J0.next+ops.size) rs i)) b with
        |none=>exact absurd hx hb
        |some x=>exact(Ih hx).1
       ·intro id h1 h2;have h1':jo (J0.next+ops.size) rs i<=id:=h1;exact⟨by omega,by omega,.inr ⟨h1,h2⟩⟩
      ·generalize PO o (bg.eval {t:=kM (jf ((kD rs).take i) a0.t) (o.looksAt ops),n:=a0.n,gn:=a0.gn}) (jf ((gV rs).take i) J0.h)=l at hone;split at hone
       ·next hbel=>
        simp only[aK]at hbel;split at hone
        ·next v τ' hop=>
         rw[CP]at hop;cases hone;simp only at hlo hhi hbn
         have hS':SR P (F.cut (jo (J0.next+ops.size) rs i)) {h:=kM (jf ((gV rs).take i) J0.h) l,next:=jo (J0.next+ops.size) rs i,lock:=J0.lock} w:=
          hinv.st.rel.cutAt (by omega) (λid ob h=>(rest l rfl id ob h).1) (λid ob h=>by obtain⟨_,h1,h2⟩:=rest l rfl id ob h;have:=NS hbel.2 id h1;exact⟨this.1,this.2 ob h2⟩) (bV _)
         refine C.gen hcall hinv ho hr hil hi gW hS' (ad2 _ hbel.1) (Env.Kw _ _) rfl hop rfl (λid ob h=>(rest l rfl id ob h).1) ?_ ?_ ?_ (bV _) ?_ ?_ hK
         ·rintro id hq ⟨h1,h2⟩
          exact C.apart hinv hr hi hq ⟨h1,h2⟩
         ·intro b ob hb;rw[Uy]at hb;split at hb
          ·next x hx=>
           cases hb;obtain⟨h1,h2,h3⟩:=Ih hx;obtain⟨h4,h5⟩:=h3 ob rfl;refine⟨h4,.inr ⟨h5,?_⟩⟩;show(kM _ l).get b=none
           rw[Az];split
           ·next hm=>have:=(NS hbel.2 b hm).1;omega
           ·rfl
          ·obtain⟨h1,h2⟩:=Zt hb;obtain⟨h3,h4,ob',h5,h6⟩:=Dt.1 h1;refine⟨h2.symm,.inl ⟨ob',?_,h6⟩⟩;show(kM _ l).get b=_
           rw[Az,aj h3];exact h5
         ·intro id ob h1 h2 h3;obtain⟨_,h4,h5⟩:=rest l rfl id ob h1;rw[yu];unfold keysOf;rw[lX,kG];left;have:=keys_map (IX (jf ((gV rs).take i) J0.h) J0.lock l) (λk=>τ'.get k);unfold keysOf at this;rw[this];exact Dt.2 ⟨h4,h3,ob,h5,h2⟩
         ·intro b hb;rw[Uy]at hb;split at hb
          ·next x hx=>
           obtain⟨h1,_,_⟩:=Ih hx;show J0.lock<=b
           omega
          ·rw[yu,keys_map]at hb;exact(Dt.1 hb).2.1
         ·intro id h1 h2;have h1':jo (J0.next+ops.size) rs i<=id:=h1;exact⟨by omega,by omega,.inr ⟨h1,h2⟩⟩
        ·cases hone
       ·cases hone
end
section
variable{call:Caller}{ops:W3}{M:Q2}{rs:We}{a0:bg}{J0:aA}{cf:Nat}{F0:Env}{w0:World}
def inB(listed:Array Bool):Nat->Bool:=λj=>listed.getD j false
theorem ah3{listed:Array Bool}(hl:listed.size=ops.size){i:Nat}(h:i∈Region.ready .any ops listed):i<ops.size/\inB listed i=false/\∀o,ops[i]? =some o->∀e∈o.after.toList,Region.binds .any e=true->inB listed e.on=true:=by
 unfold Region.ready at h;simp only[JJ,yN,aK,yJ]at h;obtain⟨h1,h2,h3⟩:=h;have hlt:i<listed.size:=by omega
 refine⟨h1,?_,?_⟩
 ·unfold inB;rw[yI,BH hlt]at h2⊢;exact h2
 ·intro o ho e he hb;rw[ho]at h3;simp only[gI,qN]at h3;rw[Array.all_eq_true']at h3;have:=h3 e (by simpa using he);rw[hb]at this;simpa[inB]using this
theorem count_set(listed:Array Bool)(i:Nat)(h:listed[i]? =some false):(listed.setIfInBounds i true).toList.count false+1=listed.toList.count false:=by
 have hlt:i<listed.size:=(qh.1 h).1;have hv:listed[i]=false:=(qh.1 h).2;have h1:listed.toList[i]'(by simpa using hlt)=false:=by simpa using hv
 have hpos:0<listed.toList.count false:=List.count_pos_iff.2 (by rw[<-h1];exact gK _);rw[Array.toList_setIfInBounds,List.count_set (by simpa using hlt),h1];have e1:((false==false)=true):=rfl;have e2:¬((true==false)=true):=by decide
 rw[aj e1,ah e2];omega
theorem Yt{α:Type}:∀(us:List (List (Nat×Option α)))(k:Nat)(D:Nat->Bool)(t:Tr α),(∀j,j<us.length->D (k+j)=true)->jM us k D t=jf us t
 |[],_,_,_,_=>rfl
 |u::us,k,D,t,h=>by have h0:=h 0 (by simp);simp only[nC]at h0;rw[jM,aj h0,jf,Yt us (k+1) D _ (λj hj=>by rw[show k+1+j=k+(j+1) by omega];exact h (j+1) (by simpa using hj))]
end
section
variable{ops:W3}{M:Q2}{rs:We}{a0:bg}{J:aA}{F0:Env}{w0:World}{n N0:Nat}
theorem akr(C:qI ops M rs n N0)(Inv:(Nat->Bool)->Env->World->Act->Prop)
 (hstep:∀D F w A i (K:Act->World->Prop) (Q:Exit->Act->World->Prop),Inv D F w A->i<ops.size->D i=false->(∀o,ops[i]? =some o->∀e∈o.after.toList,Region.binds .any e=true->D e.on=true)->
  (∀F' A' w',Inv (kW D i) F' w' A'->K A' w')->wpOp P ops Q i K A w) {Q:Exit->Act->World->Prop}
 (hK:∀F' A' w',Inv (λj=>decide (j<ops.size)) F' w' A'->Q .normal A' w'):
 ∀(fuel:Nat)(listed:Array Bool)(F:Env)(w:World)(A:Act),listed.size=ops.size->listed.toList.count false=fuel->Inv (inB listed) F w A->wpAny P .any ops Q fuel listed A w:=by
 intro fuel;induction fuel with
 |zero=>
  intro listed F w A hl hc hinv;have hall:∀j,j<ops.size->inB listed j=true:=by
   intro j hj;have hlt:j<listed.size:=by omega
   have hm:listed[j]∈listed.toList:=by simp
   have:false∉listed.toList:=List.count_eq_zero.1 hc;unfold inB;rw[yI,BH hlt];cases hv:listed[j]with
   |true=>rfl
   |false=>rw[hv]at hm;exact absurd hm this
  have hD:inB listed=λj=>decide (j<ops.size):=by
   funext j;by_cases hj:j<ops.size
   ·rw[hall j hj];simp[hj]
   ·unfold inB;rw[yI,Array.getElem?_eq_none (by omega)];simp[hj]
  refine⟨?_,?_⟩
  ·apply List.eq_nil_iff_forall_not_mem.2;intro i hi;obtain⟨h1,h2,_⟩:=ah3 hl hi;rw[hall i h1]at h2;cases h2
  ·rw[hD]at hinv;exact hK F A w hinv
 |succ fuel ih=>
  intro listed F w A hl hc hinv;refine⟨λhr=>?_,λi hi=>?_⟩
  ·exfalso;have hex:∃i,i<ops.size/\inB listed i=false/\∀j,j<i->inB listed j=true:=by
    have hpos:0<listed.toList.count false:=by omega
    have hm:=List.count_pos_iff.1 hpos;obtain⟨k,hk⟩:=WR.1 hm;have arL:k<ops.size:=by have:=(eU.1 hk).1;simp at this;omega
    have OO:inB listed k=false:=by unfold inB;rw[yI];rw[vC]at hk;rw[hk];rfl
    clear hm hk;induction k using Nat.strongRecOn with
    |_ k ihk=>
     by_cases hb:∃j,j<k/\inB listed j=false
     ·obtain⟨j,h1,h2⟩:=hb;exact ihk j h1 (by omega) h2
     ·refine⟨k,arL,OO,λj hj=>?_⟩;cases hv:inB listed j with
      |true=>rfl
      |false=>exact absurd ⟨j,hj,hv⟩ hb
   obtain⟨i,h1,h2,h3⟩:=hex;have hmem:i∈Region.ready .any ops listed:=by
    unfold Region.ready;simp only[JJ,yN,aK,yJ];have hlt:i<listed.size:=by omega
    refine⟨h1,?_,?_⟩
    ·unfold inB at h2;rw[yI,BH hlt]at h2⊢;exact h2
    ·have ho:ops[i]? =some ops[i]:=by simp[h1]
     rw[ho];simp only[gI,qN];rw[Array.all_eq_true'];intro e he;cases hb:Region.binds .any e with
     |false=>rfl
     |true=>
      simp only[WB,zJ];obtain⟨hm,hlen⟩:=C.mask ho;have hbit:uf M e.on i=true:=by
       unfold uf;rw[xR,hm];simp only[qN];have:∀(es:List Edge),e∈es->(zA (λj=>(M.take i).getD j 0) es).testBit e.on=true:=by
        intro es;induction es with
        |nil=>intro h;simp at h
        |cons x es afL=>
         intro h;rw[zA];simp only[bG]at h;rcases h with rfl|h
         ·rw[aj hb,QG,QG,Nat.testBit_two_pow];simp
         ·split
          ·rw[QG,afL h,Bool.or_true]
          ·exact afL h
       exact this _ (by simpa using he)
      exact h3 e.on (C.ZQ hbit)
   rw[hr]at hmem;simp at hmem
  ·obtain⟨h1,h2,h3⟩:=ah3 hl hi;refine hstep _ _ _ _ i _ Q hinv h1 h2 h3 λF' A' w' hinv'=>?_;have hf:listed[i]? =some false:=by
    have hlt:i<listed.size:=by omega
    unfold inB at h2;rw[yI,BH hlt]at h2;rw[BH hlt];simpa using h2
   have hD:kW (inB listed) i=inB (listed.setIfInBounds i true):=by
    funext j;unfold kW inB;have hlt:i<listed.size:=by omega
    rw[yI,yI,BI];by_cases e:i=j
    ·subst e;rw[aj rfl,aj hlt];simp
    ·rw[ah e,Fj (λe'=>e e'.symm)];simp
   rw[hD]at hinv';exact ih _ F' w' A' (by simpa using hl) (by have:=count_set listed i hf;omega) hinv'
end
theorem ai8{ops:W3}{M:Q2}:∀(k i j:Nat),VY ops M k<=i->i<k->nG ops i=false->j<i->nG ops j=true\/uf M j i=true
 |0,i,j,_,h,_,_=>by omega
 |k+1,i,j,h1,h2,h3,h4=>by
  unfold VY at h1;split at h1
  ·next ha=>
   by_cases e:i=k
   ·subst e;rw[h3,zJ,List.all_eq_true]at ha;have:=ha j (by simpa using h4);rwa [nO]at this
   ·exact ai8 k i j h1 (by omega) h3 h4
  ·omega
theorem VZ:∀(rs:We)(r:dA)(J:aA),vw (rs++[r]) J=match r.fin with|some τ=>τ|none=>vw rs J
 |[],_,_=>rfl
 |s::rs,r,J=>by
  show vw (rs++[r]) _=_
  rw[VZ rs r];rfl
theorem abr{rs:We}{J:aA}:∀k,k<=rs.length->(∀(i:Nat) r,i<k->rs[i]? =some r->r.fin=none)->vw (rs.take k) J=J
 |0,_,_=>by simp[vw]
 |k+1,hk,h=>by
  obtain⟨r,hr⟩:∃r,rs[k]? =some r:=⟨_,bK (by omega)⟩
  rw[WT,hr,acE,VZ,h k r (by omega) hr];exact abr k (by omega) (λi r' hi=>h i r' (by omega))
theorem abt{rs:We}{J:aA}{m:Nat}{r:dA}{τ:aA}(hr:rs[m]? =some r)(hf:r.fin=some τ):∀k,m<k->k<=rs.length->(∀(i:Nat) r',m<i->i<k->rs[i]? =some r'->r'.fin=none)->vw (rs.take k) J=τ
 |0,h,_,_=>by omega
 |k+1,hm,hk,h=>by
  by_cases e:m=k
  ·subst e;rw[WT,hr,acE,VZ,hf]
  ·obtain⟨r',hr'⟩:∃r,rs[k]? =some r:=⟨_,bK (by omega)⟩
   rw[WT,hr',acE,VZ,h k r' (by omega) (by omega) hr'];exact abt hr hf k (by omega) (by omega) (λi r'' h1 h2=>h i r'' h1 (by omega))
theorem apY{call:Caller}{o:Oper}(hf:CS o=true){ev:QP}{J1 J2 τ:aA}{v:Q4}(hs:zh P call o ev J1=some (v,τ)):zh P call o ev J2=some (v,J2):=by
 rw[CP]at hs⊢;obtain⟨dst,op,type,pos,after,guard⟩:=o;cases op with
 |move x=>simp only[uI,dR,aZ,nR]at hs⊢;obtain⟨u,h1,h2,_⟩:=hs;exact⟨u,h1,h2,trivial⟩
 |assign x=>simp only[uI,dR,aZ,nR]at hs⊢;obtain⟨u,h1,h2,_⟩:=hs;exact⟨u,h1,h2,trivial⟩
 |extract x k=>
  simp only[uI]at hs⊢;split at hs
  ·simp only[dR,aZ,nR]at hs⊢;obtain⟨u,h1,h2,_⟩:=hs;exact⟨u,h1,h2,trivial⟩
  ·cases hs
 |binOp op t x y z=>
  simp only[uI]at hs⊢;split at hs
  ·simp only[dR,aZ,nR]at hs⊢;obtain⟨u,h1,h2,_⟩:=hs;exact⟨u,h1,h2,trivial⟩
  ·cases hs
 |_=>simp[CS]at hf
theorem alA{o:Oper}(hf:CS o=true)(ev:QP):adM o ev=.na []:=by obtain⟨dst,op,type,pos,after,guard⟩:=o;cases op<;>first|rfl|(simp[CS]at hf)
theorem aoX{call:Caller}{ops:W3}{lock gn n i c:Nat}{prev:We}{t:Tr AV}{h:Tr bn}{r:dA}(hs:Ky P call ops lock gn n prev i t h c=some r):r.next=c:=by
 unfold Ky at hs;split at hs
 ·cases hs
 ·split at hs
  ·cases hs
  ·cases hs;rfl
  ·split at hs
   ·cases hs;rfl
   ·cases hs
theorem X7{call:Caller}{ops:W3}{M:Q2}{N0 lock gn n i c:Nat}{prev:We}{t:Tr AV}{h:Tr bn}{r:dA}{o:Oper}(ho:ops[i]? =some o)(hf:CS o=true)(hs:Aj P call ops M N0 lock gn n prev i t h c=some r):
 r.upd=[]/\r.next=c/\r.fin=none/\((Jt o ops {t:=kM t (o.looksAt ops),n:=n,gn:=gn}=some false/\r.slot=qA o (some (.dP [])))\/
  (Jt o ops {t:=kM t (o.looksAt ops),n:=n,gn:=gn}=some true/\∃v,(∀J2,zh P call o (bg.eval {t:=kM t (o.looksAt ops),n:=n,gn:=gn}) J2=some (v,J2))/\r.slot=qA o v)):=by
 unfold Aj at hs;rw[ho]at hs;simp only at hs;split at hs
 ·cases hs
 ·next hw=>cases hs;exact⟨rfl,rfl,rfl,.inl ⟨hw,rfl⟩⟩
 ·next hw=>
  split at hs
  ·next ty e=>exfalso;obtain⟨dst,op,type,pos,after,guard⟩:=o;cases e;simp[CS]at hf
  ·rw[alA hf]at hs;simp only at hs;split at hs
   ·next v τ hv=>
    split at hs
    ·cases hs;exact⟨rfl,rfl,rfl,.inr ⟨hw,v,λJ2=>apY hf hv,rfl⟩⟩
    ·cases hs
   ·cases hs
theorem XQ{ops:W3}{D:Nat->Bool}{i:Nat}(h:Closed ops D)(hd:∀o,ops[i]? =some o->∀e∈o.after.toList,Region.binds .any e=true->D e.on=true):Closed ops (kW D i):=by
 intro j o hj ho e he hb;unfold kW at hj⊢;rw[nO]at hj⊢;rcases hj with hj|hj
 ·exact .inl (h j o hj ho e he hb)
 ·have:=bD hj;subst this;exact .inl (hd o ho e he hb)
section
variable{call:Caller}{ops:W3}{M:Q2}{rs:We}{a:bg}{J:aA}{c:Nat}{D:Nat->Bool}
theorem Ctx.act'(C:Ctx P call ops M rs a J c)(hcl:Closed ops D){i:Nat}{o:Oper}{r:dA}(ho:ops[i]? =some o)(hr:rs[i]? =some r)(hi:D i=false)(gW:∀e∈o.after.toList,Region.binds .any e=true->D e.on=true)
 {F:Env} {A:Act} (htr:TR P F {t:=jM (kD rs) 0 D a.t,n:=a.n,gn:=a.gn} A):TR P F {t:=kM (jf ((kD rs).take i) a.t) (o.looksAt ops),n:=a.n,gn:=a.gn} A:=by
 refine⟨htr.gn,htr.size,htr.none,λd v hv=>?_⟩;rw[Az]at hv;split at hv
 ·next hd=>
  rw[C.ais (a0:=a) hcl ho hr hi gW hd]at hv;exact htr.slot d v hv
 ·cases hv
theorem Ctx.last(C:Ctx P call ops M rs a J c)(hcall:qH P call)(hcl:Closed ops D){i:Nat}{o:Oper}{r:dA}(ho:ops[i]? =some o)(hr:rs[i]? =some r)(hi:D i=false)(gW:∀e∈o.after.toList,Region.binds .any e=true->D e.on=true)(hla:nK ops M i=true)
 {F F1:Env} {w0 w1:World} {A:Act} (hst:St P F J w0 F1 (vw (rs.take i) {h:=jf ((gV rs).take i) J.h,next:=jo (J.next+ops.size) rs i,lock:=J.lock}) w1)
 (htr:TR P F1 {t:=jM (kD rs) 0 D a.t,n:=a.n,gn:=a.gn} A) {K:Act->World->Prop} {Q:Exit->Act->World->Prop}
 (hK:∀F' A' w' τ,r.fin=some τ->St P F J w0 F' τ w'->TR P F' {t:=jM (kD rs) 0 (kW D i) a.t,n:=a.n,gn:=a.gn} A'->K A' w'):wpOp P ops Q i K A w1:=by
 have hone:=C.one i r hr;unfold xB at hone;rw[aj hla]at hone;unfold Ky at hone;rw[ho]at hone;simp only at hone;have hact:=C.act' hcl ho hr hi gW htr;have hnext:=λd=>C.Tt (a0:=a) hcl ho hr hi gW d;have hsl:=(C.slot i r hr).2;unfold wpOp;rw[ho];simp only;split at hone
 ·cases hone
 ·next hw=>
  cases hone;rw[FW hact hw];simp only[iO,if_false];exact hK F1 _ w1 _ rfl hst (htr.add (Env.le.refl _) hnext hsl (by rintro u hu;cases hu;exact⟨[],rfl,rfl⟩))
 ·next hw=>
  rw[FW hact hw];simp only[if_true];left;split at hone
  ·next v τ hop=>
   rw[CP]at hop;cases hone;refine Xg hst.rel hcall hact hop λx F' w' hst2 hx=>?_;exact hK F' _ w' _ rfl (hst.trans hst2) (htr.add hst2.ext hnext hsl hx)
  ·cases hone
theorem Ctx.free(C:Ctx P call ops M rs a J c)(hcall:qH P call)(hcl:Closed ops D){i:Nat}{o:Oper}{r:dA}(ho:ops[i]? =some o)(hr:rs[i]? =some r)(hi:D i=false)(gW:∀e∈o.after.toList,Region.binds .any e=true->D e.on=true)(hf:CS o=true)
 {F F1:Env} {τ:aA} {w0 w1:World} {A:Act} (hst:St P F J w0 F1 τ w1) (htr:TR P F1 {t:=jM (kD rs) 0 D a.t,n:=a.n,gn:=a.gn} A) {K:Act->World->Prop} {Q:Exit->Act->World->Prop}
 (hK:∀F' A' w',St P F J w0 F' τ w'->TR P F' {t:=jM (kD rs) 0 (kW D i) a.t,n:=a.n,gn:=a.gn} A'->K A' w'):wpOp P ops Q i K A w1:=by
 have hone:=C.one i r hr;unfold xB at hone;have hnl:nK ops M i=false:=by unfold nK nG;rw[ho];simp only[hf,WB,Bool.and_false]
 rw[hnl]at hone;simp only[iO,if_false]at hone;obtain⟨_,_,_,hcase⟩:=X7 ho hf hone;have hact:=C.act' hcl ho hr hi gW htr;have hnext:=λd=>C.Tt (a0:=a) hcl ho hr hi gW d;have hsl:=(C.slot i r hr).2;unfold wpOp;rw[ho];simp only;rcases hcase with⟨hw,hs⟩|⟨hw,v,hv,hs⟩
 ·rw[hs]at hnext hsl;rw[FW hact hw];simp only[iO,if_false];exact hK F1 _ w1 hst (htr.add (Env.le.refl _) hnext hsl (by rintro u hu;cases hu;exact⟨[],rfl,rfl⟩))
 ·rw[hs]at hnext hsl;rw[FW hact hw];simp only[if_true];left;have hop:=hv τ;rw[CP]at hop;refine Xg hst.rel hcall hact hop λx F' w' hst2 hx=>?_;exact hK F' _ w' (hst.trans hst2) (htr.add hst2.ext hnext hsl hx)
theorem Ctx.ai9(C:Ctx P call ops M rs a J c){l:Nat}(hl:∀i,l<=i->i<ops.size->nK ops M i=true\/nG ops i=true):∀k,l+k<=ops.size->jo (J.next+ops.size) rs (l+k)=jo (J.next+ops.size) rs l
 |0,_=>rfl
 |k+1,h=>by
  have ih:=C.ai9 hl k (by omega);obtain⟨r,hr⟩:∃r,rs[l+k]? =some r:=⟨_,bK (by rw[C.len];omega)⟩
  obtain⟨o,ho⟩:∃o,ops[l+k]? =some o:=⟨ops[l+k],by simp⟩
  have hone:=C.one _ _ hr;unfold xB at hone;rw[show l+(k+1)=(l+k)+1 by omega,N9 rs _ _ _ hr,<-ih];split at hone
  ·exact aoX hone
  ·next hn=>
   rcases hl (l+k) (by omega) (by omega)with h1|h1
   ·exact absurd h1 hn
   ·unfold nG at h1;rw[ho]at h1;exact(X7 ho h1 hone).2.1
end
theorem apc(hm:P.follows .mixedOrders=true):Qv P (Xf P):=by
 intro call hcall ops a J a' J' hs F w A id Q h ht hK;unfold Xf at hs;simp only at hs;split at hs
 ·next hok=>
  simp only[aK]at hok;split at hs
  ·next rs t hh c hgo=>
   split at hs
   ·next zk=>
    simp only[aK]at zk;obtain⟨⟨⟨arY,hdy0⟩,hsl⟩,hbig⟩:=zk;obtain⟨new,h1,h2,h3,h4,h5,h6⟩:=ad4 _ _ _ _ _ _ _ _ _ _ hgo;simp only[aV]at h1;subst h1
    have C:Ctx P call ops (mD ops.toList []) rs a J c:={
     hM:=rfl
     mok:=hok.1
     len:=h2
     one:=λi r hr=>by have:=h6 i r hr;simpa using this
     pairs:=au5 arY hdy0 (λi r hr=>by have:=h6 i r hr;exact ao2 (by simpa using this))
     slot:=by intro i r hr;unfold aiN at hsl;rw[List.all_eq_true]at hsl;have:=hsl r (rC hr);simp only[aK]at this;refine⟨Nat.le_of_ble_eq_true this.1,λp hpm=>?_⟩;have h8:=this.2;rw[List.all_eq_true]at h8;have:=h8 p hpm;rwa [jd]at this
     fin:=h5
     big:=sO hbig
     lock:=sO hok.2}
    refine wp_region_any hm ?_;have hcl:=C.XK;have hempty:inB (Array.replicate ops.size false)=λ_=>false:=by funext j;unfold inB;rw[yI,Array.getElem?_replicate];split<;>rfl
    have hno:∀{α:Type}(us:List (List (Nat×Option α)))(k:Nat)(t:Tr α),jM us k (λ_=>false) t=t:=by
     intro α us;induction us with
     |nil=>intro k t;rfl
     |cons u us ih=>intro k t;rw[jM];simp only[iO,if_false];exact ih _ _
    have start:BJ P ops rs a J c F {w with drawn:=w.drawn+1} (λ_=>false) F {w with drawn:=w.drawn+1} A:=by
     refine⟨λi o hi=>by simp at hi,?_,?_,λid hq=>.inl (h.hasLt hq)⟩
     ·rw[hno];refine(St.refl h.drew).sub (λid o ho=>ho) (by show J.next<=c;omega) rfl
     ·rw[hno];exact⟨ht.gn,ht.size,ht.none,ht.slot⟩
    have afI:jM (kD rs) 0 (λj=>decide (j<ops.size)) a.t=t:=by rw[h3];exact Yt _ _ _ _ (λj hj=>by simp[kD]at hj⊢;omega)
    have hlast:∀i,i<ops.size->nK ops (mD ops.toList []) i=true->nG ops i=false/\∀j,j<i->nG ops j=true\/uf (mD ops.toList []) j i=true:=by intro i hi hla;unfold nK at hla;rw[aK,yJ]at hla;exact⟨hla.2,λj hj=>ai8 _ _ _ (sO hla.1) hi hla.2 hj⟩
    have hup:∀i j,i<=j->j<ops.size->nK ops (mD ops.toList []) i=true->nK ops (mD ops.toList []) j=true\/nG ops j=true:=by
     intro i j hij hj hla;unfold nK at hla⊢;rw[aK,yJ]at hla;have:=sO hla.1;cases hf:nG ops j with
     |true=>exact .inr rfl
     |false=>left;rw[acv (jD this hij)];rfl
    have hfree:∀i,nG ops i=true->nK ops (mD ops.toList []) i=false:=by intro i hf;unfold nK;rw[hf];simp
    have hfin:∀(i:Nat) r,rs[i]? =some r->nK ops (mD ops.toList []) i=false->r.fin=none:=by intro i r hr hi;have hone:=C.one i r hr;unfold xB at hone;rw[hi]at hone;simp only[iO,if_false]at hone;exact ao1 hone
    have arH:∀(i:Nat) r,rs[i]? =some r->nG ops i=true->r.upd=[]:=by
     intro i r hr hf;have hone:=C.one i r hr;unfold xB at hone;rw[hfree i hf]at hone;simp only[iO,if_false]at hone;unfold nG at hf;split at hf
     ·next o ho=>exact(X7 ho hf hone).1
     ·cases hf
    let wd:World:={w with drawn:=w.drawn+1}
    cases hs
    refine akr C.toqI (λD F1 w1 A1=>((∀i,i<ops.size->nK ops (mD ops.toList []) i=true->D i=false)/\BJ P ops rs a J c F wd D F1 w1 A1)\/
     ∃m,m<ops.size/\nK ops (mD ops.toList []) m=true/\Closed ops D/\(∀j,j<ops.size->nG ops j=false->D j=decide (j<=m))/\∃r τ,rs[m]? =some r/\r.fin=some τ/\St P F J wd F1 τ w1/\TR P F1 {t:=jM (kD rs) 0 D a.t,n:=a.n,gn:=a.gn} A1) ?_ ?_ ops.size (Array.replicate ops.size false) F _ A (by simp) (by simp) (.inl ⟨λi _ _=>by rw[hempty],by rw[hempty];exact start⟩)
    ·intro D F1 w1 A1 i K Q' hinv hil hi ET hK';obtain⟨o,ho⟩:∃o,ops[i]? =some o:=⟨ops[i],by simp[hil]⟩
     obtain⟨r,hr⟩:∃r,rs[i]? =some r:=⟨_,bK (by rw[h2];exact hil)⟩
     have gW:=ET o ho;rcases hinv with⟨hD,hinv⟩|⟨m,hm2,YT,hcl,KR,r1,τ1,hr1,hf1,hst1,OV⟩
     ·by_cases hla:nK ops (mD ops.toList []) i=true
      ·
        obtain⟨hnf,hord⟩:=hlast i hil hla;have YG:∀j,j<ops.size->nG ops j=false->D j=decide (j<i):=by
         intro j hj pK;by_cases h1:j<i
         ·have:D j=true:=C.qO hinv.closed i o ho gW j ((hord j h1).resolve_left (by rw[pK];simp));rw[this];simp[h1]
         ·have:D j=false:=hD j hj ((hup i j (by omega) hj hla).resolve_right (by rw[pK];simp));rw[this];simp[h1]
        have arv:∀j,j<i->nK ops (mD ops.toList []) j=false:=by
         intro j hj;cases e:nK ops (mD ops.toList []) j with
         |false=>rfl
         |true=>have h1:=hD j (by omega) e;rw[YG j (by omega) (hlast j (by omega) e).1]at h1;exact absurd hj (of_decide_eq_false h1)
        have ar6:∀b,(jf ((gV rs).take i) J.h).get b=(jM (gV rs) 0 D J.h).get b:=by
         intro b;rw[KN (gV rs) i 0,CW];congr 1;refine Le _ _ _ _ _ λj u hj hne=>?_;have hjl:j<ops.size:=by have:=(eU.1 hj).1;simp[gV]at this;omega
         simp only[kH]at hne;cases pK:nG ops j with
         |false=>exact absurd (YG j hjl pK).symm hne
         |true=>obtain⟨r',hr',hu⟩:=Qi hj;rw[arH j r' hr' pK]at hu;subst hu;rfl
        have KW:jo (J.next+ops.size) rs i=c:=by have:=C.ai9 (l:=i) (λk h1 h2=>hup i k h1 h2 hla) (ops.size-i) (by omega);rw[show i+(ops.size-i)=ops.size by omega]at this;rw[<-this];exact C.fin.symm
        have hts:∀J1,vw (rs.take i) J1=J1:=λJ1=>abr i (by omega) λj r' h1 h2=>hfin j r' h2 (arv j h1);refine C.last hcall hinv.closed ho hr hi gW hla (F:=F) (w0:=wd) (F1:=F1) ?_ hinv.tr λF' A' w' τ hf hst htr=>hK' F' A' w' (.inr ⟨i,hil,hla,XQ hinv.closed ET,?_,r,τ,hr,hf,hst,htr⟩)
        ·rw[hts];refine hinv.st.sub (λid' o' ho'=>?_) (JO KW.symm) rfl;rw[show(aA.get {h:=jM (gV rs) 0 D J.h,next:=c,lock:=J.lock} id')=(jM (gV rs) 0 D J.h).get id' from rfl,<-ar6];exact ho'
        ·intro j hj pK;unfold kW;rw[YG j hj pK];by_cases e:j=i
         ·subst e;simp
         ·rw[Fj e,Nl];congr 1;apply propext;omega
      ·have hnl:nK ops (mD ops.toList []) i=false:=by simpa using hla
       refine C.step hcall h.drew hinv hil hi ET hnl λF' A' w' hinv'=>hK' F' A' w' (.inl ⟨λj hj hjl=>?_,hinv'⟩);have hji:j≠i:=λe=>by subst e;rw[hnl]at hjl;cases hjl
       unfold kW;rw[hD j hj hjl,Fj hji];rfl
     ·cases hif:nG ops i with
      |true=>
       have hof:CS o=true:=by unfold nG at hif;rw[ho]at hif;exact hif
       refine C.free hcall hcl ho hr hi gW hof hst1 OV λF' A' w' hst htr=>hK' F' A' w' (.inr ⟨m,hm2,YT,XQ hcl ET,?_,r1,τ1,hr1,hf1,hst,htr⟩);intro j hj pK;have hji:j≠i:=λe=>by subst e;rw[hif]at pK;cases pK
       unfold kW;rw[KR j hj pK,Fj hji,Nl]
      |false=>
       have him:¬i<=m:=by intro hle;rw[KR i hil hif]at hi;exact of_decide_eq_false hi hle
       have hla:nK ops (mD ops.toList []) i=true:=(hup m i (by omega) hil YT).resolve_right (by rw[hif];simp);have hmid:∀j,m<j->j<i->nG ops j=true:=by
        intro j h1 h2;cases pK:nG ops j with
        |true=>rfl
        |false=>have h8:D j=true:=C.qO hcl i o ho gW j (((hlast i hil hla).2 j h2).resolve_left (by rw[pK];simp));rw[KR j (by omega) pK]at h8;have:=Fv h8;omega
       have hts:∀J1,vw (rs.take i) J1=τ1:=λJ1=>abt hr1 hf1 i (by omega) (by omega) λj r' h1 h2 h3=>hfin j r' h3 (hfree j (hmid j h1 h2));refine C.last hcall hcl ho hr hi gW hla (F:=F) (w0:=wd) (F1:=F1) (by rw[hts];exact hst1) OV λF' A' w' τ hf hst htr=>hK' F' A' w' (.inr ⟨i,hil,hla,XQ hcl ET,?_,r,τ,hr,hf,hst,htr⟩);intro j hj pK;unfold kW;rw[KR j hj pK];by_cases e:j=i
       ·subst e;simp
       ·rw[Fj e,Nl];congr 1;apply propext;constructor
        ·omega
        ·intro h1;apply Classical.byContradiction;intro h2;have:=hmid j (by omega) (by omega);rw[this]at pK;cases pK
    ·intro F1 A1 w1 hinv;rcases hinv with⟨hD,hinv⟩|⟨m,hm2,YT,hcl,KR,r1,τ1,hr1,hf1,hst1,OV⟩
     ·have arQ:∀i,i<ops.size->nK ops (mD ops.toList []) i=false:=by
       intro i hi;cases e:nK ops (mD ops.toList []) i with
       |false=>rfl
       |true=>have:=hD i hi e;simp at this;omega
      have hts:vw rs {h:=hh,next:=c,lock:=J.lock} ={h:=hh,next:=c,lock:=J.lock}:=by have:=abr (rs:=rs) (J:={h:=hh,next:=c,lock:=J.lock}) rs.length (bV _) λj r' h1 h2=>hfin j r' h2 (arQ j (by omega));rwa [yO]at this
      rw[hts]at hK;have ar7:jM (gV rs) 0 (λj=>decide (j<ops.size)) J.h=hh:=by rw[h4];exact Yt _ _ _ _ (λj hj=>by simp[gV]at hj⊢;omega)
      have hst:=hinv.st;have htr:=hinv.tr;rw[ar7]at hst;rw[afI]at htr;exact hK F1 A1 w1 ((St.drew h).trans hst) htr
     ·have hts:∀J1,vw rs J1=τ1:=by
       intro J1;have:=abt (J:=J1) hr1 hf1 rs.length (by omega) (bV _) λj r' h1 h2 h3=>by
        refine hfin j r' h3 (hfree j ?_);cases pK:nG ops j with
        |true=>rfl
        |false=>
         have h9:decide (j<ops.size)=decide (j<=m):=KR j (by omega) pK;have h10:decide (j<ops.size)=true:=by simp;omega
         rw[h10]at h9;have:=Fv h9.symm;omega
       rwa [yO]at this
      rw[hts]at hK;rw[afI]at OV;exact hK F1 A1 w1 ((St.drew h).trans hst1) OV
   ·cases hs
  ·cases hs
 ·cases hs
section
variable{call:Caller}{ops:W3}{M:Q2}{N0 gn n:Nat}
end
theorem aej(hm:P.follows .mixedOrders=true):Qv P (Xe P):=by intro call hcall ops a J a' J' hs;exact apc hm call hcall ops a J a' J' hs
