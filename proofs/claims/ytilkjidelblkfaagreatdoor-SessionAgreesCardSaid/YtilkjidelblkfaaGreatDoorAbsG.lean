/- Regions whose order Go leaves open: one operation keeps the invariant. -/
import Derived.Test.YtilkjidelblkfaaGreatDoorAbsF
namespace Go.aJ
set_option linter.unusedSimpArgs false
noncomputable section
variable [aG]
set_option linter.unusedSectionVars false
set_option linter.unusedVariables false
variable {P:Program}
structure zW (P:Program) (ops:Array Oper) (rs:List bP) (a0:aV) (σ0:au) (cf:Nat) (η0:Env) (w0:World) (D:Nat->Bool) (η:Env) (w:World) (A:Act):Prop where
 closed:Closed ops D
 st:St P η0 σ0 w0 η { h:=iO (fU rs) 0 D σ0.h,next:=cf,lock:=σ0.lock } w
 tr:TR P η { t:=iO (iE rs) 0 D a0.t,n:=a0.n,gn:=a0.gn } A
 dm:∀id,η.has id->id < σ0.next\/(∃k,k < ops.size/\D k=true/\id=σ0.next+k)\/(∃ (j:Nat) (r:bP),rs[j]? = some r/\D j=true/\r.base<=id/\id < r.next)
theorem TR.add {η η':Env} {T T':Tr AV} {n gn:Nat} {A:Act} {o:Oper} {v:Option AV} {x:Value} (h:TR P η { t:=T,n:=n,gn:=gn } A) (hle:η.le η') (hg:∀d,T'.get d=(eX (lF o v) d).getD (T.get d))
 (hb:∀p∈lF o v,p.1 < n) (hv:∀u,v=some u->VR η' u x):TR P η' { t:=T',n:=n,gn:=gn } (A.put o.dst x):=by
 have h':=h.mono hle;unfold lF at hg hb;cases hd:o.dst with
 | none=>
   rw [hd] at hg;refine ⟨h.gn,h.size,h.none,λd u hu=>?_⟩;rw [hg] at hu;exact h'.slot d u hu
 | some d0=>
   rw [hd] at hg hb;have hd0:=hb (d0,v) (by simp);refine ⟨h.gn,by have:=h.size;simpa [Act.put] using this,h.none,λd u hu=>?_⟩;rw [hg] at hu;simp only [eX] at hu;show ∃y,(A.tmps.setIfInBounds d0 x)[d]? = some y/\_
   rw [zU];by_cases e:d=d0
   ·subst e
    rw [aj rfl,aj (by have:=h.size;simp only at this hd0;omega)];rw [aj rfl] at hu;exact ⟨x,rfl,hv u hu⟩
   ·rw [ah (λe'=>e e'.symm)]
    rw [ah e] at hu;exact h'.slot d u hu
section
variable {call:Caller} {ops:Array Oper} {M:List Nat} {rs:List bP} {a0:aV} {σ0:au} {cf:Nat} {η0 η:Env} {w0 w:World} {D:Nat->Bool} {A:Act} {i nn N0:Nat} {o:Oper} {r:bP}
def gB (D:Nat->Bool) (i:Nat):Nat->Bool:=λj=>D j || Nat.beq j i
theorem asT {rs:List bP} {i:Nat} {r:bP} (h:rs[i]? = some r):(fU rs)[i]? = some r.upd:=by simp [fU,h]
theorem arI {rs:List bP} {i:Nat} {r:bP} (h:rs[i]? = some r):(iE rs)[i]? = some r.slot:=by simp [iE,h]
theorem Nk {rs:List bP} {i:Nat} {u:List (Nat×Option aY)} (h:(fU rs)[i]? = some u):∃r,rs[i]? = some r/\r.upd=u:=by simpa [fU] using h
theorem afq {rs:List bP} {i:Nat} {u:List (Nat×Option AV)} (h:(iE rs)[i]? = some u):∃r,rs[i]? = some r/\r.slot=u:=by simpa [iE] using h
theorem Jf {N0 i j:Nat} {r s:bP} {o:Oper} (ho:ops[i]? = some o) (h:Me ops N0 i j r s=true):nV (keysOf r.slot) (keysOf s.slot)=true/\nV (o.looksAt ops) (keysOf s.slot)=true/\nV (keysOf r.upd) (keysOf s.upd)=true/\
 (∀l,r.vis=some l->nV l (keysOf s.upd)=true)/\(r.vis=none->i < j->(∀k∈keysOf s.upd,N0<=k)/\nV r.loc (keysOf s.upd)=true/\s.base=s.next)/\(r.vis=none->i≠j->j < i\/i < j):=by
 unfold Me at h;rw [ho] at h;simp only [aI] at h;obtain ⟨⟨⟨h1,h2⟩,h3⟩,h4⟩:=h;refine ⟨h1,h2,h3, ?_, ?_,λ_ hne=>by omega⟩
 ·intro l hl;rw [hl] at h4;exact h4
 ·intro hn hij
  rw [hn] at h4;simp only [lU,aI] at h4;rcases h4 with h4 | ⟨⟨h5,h6⟩,h7⟩
  ·rw [iK] at h4;omega
  ·refine ⟨λk hk=>?_,h6,bf h7⟩
   rw [List.all_eq_true] at h5;exact qE (h5 k hk)
theorem oK.ab5 (C:oK ops M rs nn N0) (hD:Closed ops D) (ho:ops[i]? = some o) (hr:rs[i]? = some r) (hi:D i=false) (fH:∀e∈o.after.toList,Region.binds .any e=true->D e.on=true) (b:Nat) :
 (iO (fU rs) 0 (gB D i) σ0.h).get b=(eX r.upd b).getD ((iO (fU rs) 0 D σ0.h).get b):=by
 rw [AP,AP];have:=Wq (fU rs) 0 i D b r.upd (asT hr) (by simpa using hi) (λj v hj hij xW hne=>by
  obtain ⟨s,hs,rfl⟩:=Nk hj;have hjl:j < ops.size:=by have:=(dX.1 hs).1;rw [C.len] at this;exact this
  have hun:=C.open_ hD ho hi fH hjl (by simp at xW;rw [xW];simp;omega);have hp:=Jf ho (C.pairs i j r s hr hs hun);exact LQ (KP hp.2.2.1 ((wZ _ _).1 hne)))
 simp only [jk] at this;unfold gB;rw [this];cases eX r.upd b<;>rfl
theorem oK.KY (C:oK ops M rs nn N0) (hD:Closed ops D) (ho:ops[i]? = some o) (hr:rs[i]? = some r) (hi:D i=false) (fH:∀e∈o.after.toList,Region.binds .any e=true->D e.on=true) (b:Nat) :
 (iO (iE rs) 0 (gB D i) a0.t).get b=(eX r.slot b).getD ((iO (iE rs) 0 D a0.t).get b):=by
 rw [AP,AP];have:=Wq (iE rs) 0 i D b r.slot (arI hr) (by simpa using hi) (λj v hj hij xW hne=>by
  obtain ⟨s,hs,rfl⟩:=afq hj;have hjl:j < ops.size:=by have:=(dX.1 hs).1;rw [C.len] at this;exact this
  have hun:=C.open_ hD ho hi fH hjl (by simp at xW;rw [xW];simp;omega);have hp:=Jf ho (C.pairs i j r s hr hs hun);exact LQ (KP hp.1 ((wZ _ _).1 hne)))
 simp only [jk] at this;unfold gB;rw [this];cases eX r.slot b<;>rfl
theorem oK.Yl (C:oK ops M rs nn N0) (hD:Closed ops D) (ho:ops[i]? = some o) (hr:rs[i]? = some r) (hi:D i=false) (fH:∀e∈o.after.toList,Region.binds .any e=true->D e.on=true) {d:Nat} (hd:d∈o.looksAt ops) :
 (gZ ((iE rs).take i) a0.t).get d=(iO (iE rs) 0 D a0.t).get d:=by
 rw [Iw (iE rs) i 0,AP];congr 1;refine IZ _ _ _ _ _ λj u hj hne=>?_;obtain ⟨s,hs,rfl⟩:=afq hj;have hjl:j < ops.size:=by have:=(dX.1 hs).1;rw [C.len] at this;exact this
 simp only [jk] at hne;have hun:=C.open_ hD ho hi fH hjl (λe=>hne e.symm);have hp:=Jf ho (C.pairs i j r s hr hs hun);exact LQ (KP hp.2.1 hd)
theorem oK.arv (C:oK ops M rs nn N0) (hD:Closed ops D) (ho:ops[i]? = some o) (hr:rs[i]? = some r) (hi:D i=false) (fH:∀e∈o.after.toList,Region.binds .any e=true->D e.on=true) {l:List Nat} (hv:r.vis=some l) {b:Nat} (hb:b∈l) :
 (gZ ((fU rs).take i) σ0.h).get b=(iO (fU rs) 0 D σ0.h).get b:=by
 rw [Iw (fU rs) i 0,AP];congr 1;refine IZ _ _ _ _ _ λj u hj hne=>?_;obtain ⟨s,hs,rfl⟩:=Nk hj;have hjl:j < ops.size:=by have:=(dX.1 hs).1;rw [C.len] at this;exact this
 simp only [jk] at hne;have hun:=C.open_ hD ho hi fH hjl (λe=>hne e.symm);have hp:=Jf ho (C.pairs i j r s hr hs hun);exact LQ (KP (hp.2.2.2.1 l hv) hb)
theorem Ctx.act (C:Ctx P call ops M rs a0 σ0 cf) (hinv:zW P ops rs a0 σ0 cf η0 w0 D η w A) (ho:ops[i]? = some o) (hr:rs[i]? = some r) (hi:D i=false) (fH:∀e∈o.after.toList,Region.binds .any e=true->D e.on=true) :
 TR P η { t:=iy (gZ ((iE rs).take i) a0.t) (o.looksAt ops),n:=a0.n,gn:=a0.gn } A:=by
 refine ⟨hinv.tr.gn,hinv.tr.size,hinv.tr.none,λd v hv=>?_⟩;rw [xU] at hv;split at hv
 ·next hd=>
  rw [C.Yl (a0:=a0) hinv.closed ho hr hi fH hd] at hv;exact hinv.tr.slot d v hv
 ·cases hv
theorem Ctx.gen (C:Ctx P call ops M rs a0 σ0 cf) (hcall:qj P call) (hinv:zW P ops rs a0 σ0 cf η0 w0 D η w A) (ho:ops[i]? = some o) (hr:rs[i]? = some r) (hil:i < ops.size) (hi:D i=false)
 (fH:∀e∈o.after.toList,Region.binds .any e=true->D e.on=true) {ηi:Env} {τ τ':au} {v:Option AV} {a:aV} {K:Act->World->Prop} {Q:Exit->Act->World->Prop}
 (P8:SR P ηi τ w) (hTi:TR P ηi a A) (hle:ηi.le η) (hro:ηi.ro=η.ro) (hop:pO P call o a.eval τ=some (v,τ')) (Ls:r.slot=lF o v)
 (sub:∀id ob,τ.get id=some ob->(iO (fU rs) 0 D σ0.h).get id=some ob) (free:∀id,η.has id->¬ (τ.next<=id/\id < τ'.next))
 (hu:∀b ob,eX r.upd b=some (some ob)->τ'.get b=some ob/\((∃o0,τ.get b=some o0/\o0.own=true)\/(ob.own=true/\τ.get b=none)))
 (Jw:∀id ob,τ.get id=some ob->ob.own=true->τ.lock<=id->eX r.upd id≠none) (hlk:σ0.lock<=τ.lock) (IU:∀b,eX r.upd b≠none->τ.lock<=b)
 (hdm:∀id,τ.next<=id->id < τ'.next->σ0.next<=id/\id < cf/\(id=σ0.next+i\/(r.base<=id/\id < r.next)))
 (hK:∀η' A' w',zW P ops rs a0 σ0 cf η0 w0 (gB D i) η' w' A'->K A' w'):o.wp P A w K Q:=by
 refine Oh P8 hcall hTi hop λx qh w' hst hx=>?_;let η':Env:=⟨λid=>if τ.next<=id/\id < τ'.next then qh id else η id,qh.ro,λid=>if τ.next<=id/\id < τ'.next then qh.gh id else η.gh id⟩
 have h1:η.le η':=⟨λid q hq=>by
  show (if τ.next<=id/\id < τ'.next then qh id else η id)=some q
  rw [ah (free id (.inl ⟨q,hq⟩))];exact hq,λb o hb=>hst.ext.ro b o (by rw [hro];exact hb),λid hg=>by
  show (if τ.next<=id/\id < τ'.next then qh.gh id else η.gh id)=true
  rw [ah (free id (.inr hg))];exact hg⟩
 have h2:qh.le η':=⟨λid q hq=>by
  show (if τ.next<=id/\id < τ'.next then qh id else η id)=some q
  split
  ·exact hq
  ·next hn=>
   rcases hst.an0 hq with h3 | h3
   ·exact hle.pl _ _ h3
   ·exact absurd h3 hn,λ_ _ h=>h,λid hg=>by
  show (if τ.next<=id/\id < τ'.next then qh.gh id else η.gh id)=true
  split
  ·exact hg
  ·next hn=>
   rcases hst.new id (.inr hg) with (⟨q,h3⟩ | h3) | h3
   ·have:=hst.ext.pl _ _ h3
    rw [(hst.rel.jq id hg).1] at this;cases this
   ·exact hle.gh _ h3
   ·exact absurd h3 hn⟩
 have hnew:∀id,η'.has id->η.has id\/(τ.next<=id/\id < τ'.next):=λid hh=>by
  by_cases hn:τ.next<=id/\id < τ'.next
  ·exact .inr hn
  ·left
   rcases hh with ⟨q,hq⟩ | hg
   ·have hq':(if τ.next<=id/\id < τ'.next then qh id else η id)=some q:=hq
    rw [ah hn] at hq';exact .inl ⟨q,hq'⟩
   ·have hg':(if τ.next<=id/\id < τ'.next then qh.gh id else η.gh id)=true:=hg
    rw [ah hn] at hg';exact .inr hg'
 have VF:∀id,η'.gh id=true->η' id=none:=λid hg=>by
  have hg':(if τ.next<=id/\id < τ'.next then qh.gh id else η.gh id)=true:=hg;show (if τ.next<=id/\id < τ'.next then qh id else η id)=none
  split at hg'
  ·next hn=>rw [aj hn];exact (hst.rel.jq id hg').1
  ·next hn=>rw [ah hn];exact (hinv.st.rel.jq id hg').1
 have hg:=C.ab5 (σ0:=σ0) hinv.closed ho hr hi fH;have hdom:∀id,η'.has id->id < cf:=λid hq=>by
  rcases hnew id hq with h3 | ⟨h3,h4⟩
  ·exact hinv.st.rel.hasLt h3
  ·exact (hdm id h3 h4).2.1
 obtain ⟨rel,size,keep,own,oZ⟩:=St.merge (σ':={ h:=iO (fU rs) 0 (gB D i) σ0.h,next:=cf,lock:=σ0.lock }) (upd:=r.upd) (η':=η') hinv.st.rel P8 hst sub hle hro rfl h1 h2 hg hu Jw hlk IU (λid q hq=>hdom id (.inl ⟨q,hq⟩)) (λid hgi=>⟨VF id hgi,hdom id (.inr hgi)⟩);refine hK η' _ w' ⟨?_, ?_, ?_, ?_⟩
 ·intro k o' hk ho' e he hb
  unfold gB at hk ⊢;simp only [lU] at hk ⊢;rcases hk with hk | hk
  ·exact .inl (hinv.closed k o' hk ho' e he hb)
  ·have:=bf hk;subst this
   rw [ho] at ho';cases ho';exact .inl (fH e he hb)
 ·refine hinv.st.then h1 rel size keep own hst.os hst.tape hst.output rfl (dH _) ?_ oZ
  intro id hq;rcases hnew id hq with h3 | ⟨h3,h4⟩
  ·exact .inl h3
  ·exact .inr ⟨(hdm id h3 h4).1,(hdm id h3 h4).2.1⟩
 ·have hg':=C.KY (a0:=a0) hinv.closed ho hr hi fH
  rw [Ls] at hg';exact hinv.tr.add h1 hg' (by rw [<- Ls];exact (C.slot i r hr).2) (λu hu'=>VR.mono h2 _ _ (hx u hu'))
 ·intro id hq
  have hD':∀k,D k=true->gB D i k=true:=λk hk=>by unfold gB;rw [hk];rfl
  have hii:gB D i i=true:=by unfold gB;simp
  rcases hnew id hq with h3 | ⟨h3,h4⟩
  ·rcases hinv.dm id h3 with h5 | ⟨k,h5,h6,h7⟩ | ⟨j,s,h5,h6,h7⟩
   ·exact .inl h5
   ·exact .inr (.inl ⟨k,h5,hD' k h6,h7⟩)
   ·exact .inr (.inr ⟨j,s,h5,hD' j h6,h7⟩)
  ·obtain ⟨_,_,h5 | h5⟩:=hdm id h3 h4
   ·exact .inr (.inl ⟨i,hil,hii,h5⟩)
   ·exact .inr (.inr ⟨i,r,hr,hii,h5⟩)
end
end
end Go.aJ
namespace Go.aJ
set_option linter.unusedSimpArgs false
noncomputable section
variable [aG]
set_option linter.unusedSectionVars false
set_option linter.unusedVariables false
variable {P:Program}
section
variable {call:Caller} {ops:Array Oper} {M:List Nat} {rs:List bP} {a0:aV} {σ0:au} {cf:Nat} {η0 η:Env} {w0 w:World} {D:Nat->Bool} {A:Act} {i:Nat} {o:Oper} {r:bP}
theorem WA {l:List Nat} {f:Nat->Option aY} {b:Nat} {x:Option aY} (h:eX (l.map λk=>(k,f k)) b=some x):b∈l/\x=f b:=by
 induction l with
 | nil=>simp [eX] at h
 | cons k l ih=>
   simp only [gV,eX] at h;split at h
   ·next y hy=>cases h;have:=ih hy;exact ⟨by simp [this.1],this.2⟩
   ·split at h
    ·next e=>cases h;subst e;exact ⟨by simp,rfl⟩
    ·cases h
theorem keys_map (l:List Nat) (f:Nat->Option aY):keysOf (l.map λk=>(k,f k))=l:=by
 simp [keysOf,List.map_map,Function.comp_def]
theorem EX {τ:au}:∀ {n c b:Nat} {x:Option aY},eX (Dq τ c n) b=some x->c<=b/\b < c+n/\∀o,x=some o->τ.get b=some o/\o.own=true
 | 0,c,b,x,h=>by simp [Dq,eX] at h
 | n+1,c,b,x,h=>by
   simp only [Dq,eX] at h;split at h
   ·next y hy=>
    cases h;obtain ⟨h1,h2,h3⟩:=EX hy;exact ⟨by omega,by omega,h3⟩
   ·split at h
    ·next e=>
     subst e;simp only [aT] at h;refine ⟨Nat.le_refl _,by omega,λo ho=>?_⟩;rw [ho] at h;split at h
     ·next o' ho'=>
      split at h
      ·next hown=>cases h;exact ⟨ho',hown⟩
      ·cases h
     ·cases h
    ·cases h
theorem QF {l m:List (Nat×Option aY)} {b:Nat}:eX (l++m) b=match eX m b with | some x=>some x | none=>eX l b:=by
 induction l with
 | nil=>simp only [bn];cases eX m b<;>rfl
 | cons p l ih=>
   obtain ⟨k,v⟩:=p;simp only [bJ,eX,ih];cases eX m b<;>rfl
theorem Bl {h:Tr aY} {lock:Nat} {l:List Nat} {k:Nat}:k∈FP h lock l↔k∈l/\lock<=k/\∃ob,h.get k=some ob/\ob.own=true:=by
 unfold FP;rw [GY,aI];constructor
 ·rintro ⟨h1,h2,h3⟩
  refine ⟨h1,qE h2, ?_⟩;split at h3
  ·next ob hob=>exact ⟨ob,hob,h3⟩
  ·cases h3
 ·rintro ⟨h1,h2,ob,h3,h4⟩
  exact ⟨h1,ZC h2,by rw [h3];exact h4⟩
theorem SR.cutAt {η:Env} {σ τ:au} {w:World} {c:Nat} (h:SR P η σ w) (hg:P.globals.size < c) (hsub:∀id o,τ.get id=some o->σ.get id=some o) (hc:∀id o,τ.get id=some o->id < c/\yS c o=true) (hn:c<=τ.next):SR P (η.cut c) τ w:=by
 have hcut:∀id q,id < c->η id=some q->η.cut c id=some q:=λid q h1 h2=>by simp only [Env.cut];rw [aj h1];exact h2
 refine ⟨λg hgg=>?_,λid q hq=>?_,λid o ho=>?_,λid hg'=>?_,λid o id' o' q q' a1 a2 a3 a4 a5 a6=>?_,h.iP,λid o q a1 a2 a3=>h.ku id o q (hsub _ _ a1) a2 ((Env.H9 _ _).pl _ _ a3),h.tabs⟩
 ·obtain ⟨sz,es,h1⟩:=h.kY g hgg;exact ⟨sz,es,hcut _ _ (by omega) h1⟩
 ·simp only [Env.cut] at hq
  split at hq
  ·omega
  ·cases hq
 ·rcases h.live id o (hsub _ _ ho) with ⟨q,hq,hr⟩ | ⟨hgi,h2⟩
  ·exact .inl ⟨q,hcut _ _ (hc id o ho).1 hq,hr.cut (hc id o ho).2⟩
  ·exact .inr ⟨Env.aa3 (hc id o ho).1 hgi,h2⟩
 ·have hg2:(decide (id < c)&&η.gh id)=true:=hg'
  rw [aI,decide_eq_true_iff] at hg2;exact ⟨by simp only [Env.cut];rw [aj hg2.1];exact (h.jq id hg2.2).1,by omega⟩
 ·exact h.sep id o id' o' q q' (hsub _ _ a1) a2 (hsub _ _ a3) a4 ((Env.H9 _ _).pl _ _ a5) ((Env.H9 _ _).pl _ _ a6)
theorem SR.part {η:Env} {σ τ:au} {w:World} (h:SR P η σ w) (hsub:∀id o,τ.get id=some o->σ.get id=some o) (hn:∀id,η.has id->id < τ.next):SR P η τ w:=
 ⟨h.kY,λid q hq=>hn id (.inl ⟨q,hq⟩),λid o ho=>h.live id o (hsub id o ho),λid hg=>⟨(h.jq id hg).1,hn id (.inr hg)⟩,λid o id' o' q q' a1 a2 a3 a4 a5 a6=>h.sep id o id' o' q q' (hsub _ _ a1) a2 (hsub _ _ a3) a4 a5 a6,h.iP,λid o q a1 a2 a3=>h.ku id o q (hsub _ _ a1) a2 a3,h.tabs⟩
theorem Ko {c:Nat} {h:Tr aY}:∀ {l:List Nat},J9 c h l=true->∀k∈l,k < c/\∀o,h.get k=some o->yS c o=true
 | [],_,k,hk=>by simp at hk
 | x::l,hb,k,hk=>by
   simp only [J9,aI] at hb;simp only [bC] at hk;rcases hk with rfl | hk
   ·refine ⟨by have:=hb.1.1;rwa [iK] at this,λo ho=>?_⟩
    have:=hb.1.2;rw [ho] at this;exact this
   ·exact Ko hb.2 k hk
theorem aam {c:Nat} {t:Tr AV}:∀ {l:List Nat},Hy c t l=true->∀k∈l,∀v,t.get k=some v->v.under c=true
 | [],_,k,hk=>by simp at hk
 | x::l,hb,k,hk=>by
   simp only [Hy,aI] at hb;simp only [bC] at hk;rcases hk with rfl | hk
   ·intro v hv;have:=hb.1;rw [hv] at this;exact this
   ·exact aam hb.2 k hk
theorem X0 {M:List Nat} {i:Nat}:∀ {rs:List bP} {k:Nat} {b:Nat},b∉Bq M i rs k->∀ (j:Nat) r,rs[j]? = some r->wH M i (k+j)=true->b∉keysOf r.upd
 | [],k,b,_,j,r,hj,_=>by simp at hj
 | s::rs,k,b,hb,j,r,hj,hu=>by
   unfold Bq at hb;cases j with
   | zero=>
     simp at hj;subst hj;rw [jR] at hu;rw [aj hu] at hb;simp only [jO,not_or] at hb;exact hb.1
   | succ j=>
     have hb':b∉Bq M i rs (k+1):=by
      split at hb
      ·simp only [jO,not_or] at hb;exact hb.2
      ·exact hb
     exact X0 hb' j r (by simpa using hj) (by rw [show k+1+j=k+(j+1) by omega];exact hu)
theorem ac5 {M:List Nat} {i:Nat}:∀ {rs:List bP} {k:Nat} {b:Nat} (j:Nat) (r:bP),rs[j]? = some r->wH M i (k+j)=false->b∈keysOf r.upd->b∈LP M i rs k
 | [],k,b,j,r,hj,_,_=>by simp at hj
 | s::rs,k,b,j,r,hj,hu,hb=>by
   unfold LP;cases j with
   | zero=>
     simp at hj;subst hj;rw [jR] at hu;rw [ah (by rw [hu];simp)];simp [hb]
   | succ j=>
     have:=ac5 (k:=k+1) j r (by simpa using hj) (by rw [show k+1+j=k+(j+1) by omega];exact hu) hb;split
     ·exact this
     ·simp [this]
theorem Ctx.bound (C:Ctx P call ops M rs a0 σ0 cf) (hinv:zW P ops rs a0 σ0 cf η0 w0 D η w A) (id:Nat) (h:η.has id):id < cf:=hinv.st.rel.hasLt h
theorem Ctx.apart (C:Ctx P call ops M rs a0 σ0 cf) (hinv:zW P ops rs a0 σ0 cf η0 w0 D η w A) (hr:rs[i]? = some r) (hi:D i=false) {id:Nat} (h:η.has id):¬ (r.base<=id/\id < r.next):=by
 rintro ⟨h1,h2⟩
 have hlo:=C.lo hr;rcases hinv.dm id h with h3 | ⟨k,h3,h4,h5⟩ | ⟨j,s,h3,h4,h5,h6⟩
 ·omega
 ·omega
 ·by_cases hij:i=j
  ·subst hij;rw [hi] at h4;cases h4
  ·rcases Nat.lt_or_gt_of_ne hij with hlt | hlt
   ·have:=C.lt hr h3 hlt;omega
   ·have:=C.lt h3 hr hlt;omega
theorem Ctx.step (C:Ctx P call ops M rs a0 σ0 cf) (hcall:qj P call) (hS0:SR P η0 σ0 w0) (hinv:zW P ops rs a0 σ0 cf η0 w0 D η w A) (hil:i < ops.size) (hi:D i=false)
 (xY:∀o,ops[i]? = some o->∀e∈o.after.toList,Region.binds .any e=true->D e.on=true) (hnl:lM ops M i=false) {K:Act->World->Prop} {Q:Exit->Act->World->Prop}
 (hK:∀η' A' w',zW P ops rs a0 σ0 cf η0 w0 (gB D i) η' w' A'->K A' w'):wpOp P ops Q i K A w:=by
 obtain ⟨o,ho⟩:∃o,ops[i]? = some o:=⟨ops[i],by simp [hil]⟩
 obtain ⟨r,hr⟩:∃r,rs[i]? = some r:=⟨_,bM (by rw [C.len];exact hil)⟩
 have fH:=xY o ho;have hone:=C.one i r hr;have hact:=C.act hinv ho hr hi fH;have hbase:=C.base hr;have hlo:=C.lo hr;have hhi:=C.hi hr;have hN0:P.globals.size < σ0.next:=by
  obtain ⟨sz,es,h1⟩:=hS0.kY P.globals.size (dH _);exact hS0.dom _ _ h1
 have hbn:=(C.slot i r hr).1;have acs:=C.lock;have hbig:=C.big;have Vw:=C.bound hinv;unfold vU at hone;rw [hnl] at hone;simp only [fV,if_false] at hone;unfold yX at hone;rw [ho] at hone;simp only at hone;unfold wpOp;rw [ho];simp only;split at hone
 ·cases hone
 ·
   next hw=>
   rw [Cb hact hw];simp only [fV,if_false];cases hone;refine hK η _ w ⟨?_, ?_, ?_, ?_⟩
   ·intro k o' hk ho' e he hb
    unfold gB at hk ⊢;simp only [lU] at hk ⊢;rcases hk with hk | hk
    ·exact .inl (hinv.closed k o' hk ho' e he hb)
    ·have:=bf hk;subst this
     rw [ho] at ho';cases ho';exact .inl (xY _ ho e he hb)
   ·have hg:=C.ab5 (σ0:=σ0) hinv.closed ho hr hi fH
    refine hinv.st.sub ?_ (dH _) rfl;intro id ob hob;have:(iO (fU rs) 0 (gB D i) σ0.h).get id=some ob:=hob;rw [hg] at this;exact this
   ·exact hinv.tr.add (Env.le.refl _) (C.KY (a0:=a0) hinv.closed ho hr hi fH) (C.slot i _ hr).2 (by rintro u hu;cases hu;exact ⟨[],rfl,rfl⟩)
   ·intro id hq
    have hD':∀k,D k=true->gB D i k=true:=λk hk=>by unfold gB;rw [hk];rfl
    rcases hinv.dm id hq with h5 | ⟨k,h5,h6,h7⟩ | ⟨j,s,h5,h6,h7⟩
    ·exact .inl h5
    ·exact .inr (.inl ⟨k,h5,hD' k h6,h7⟩)
    ·exact .inr (.inr ⟨j,s,h5,hD' j h6,h7⟩)
 ·
   next hw=>
   rw [Cb hact hw];simp only [if_true];left;have rest:∀l:List Nat,r.vis=some l->∀id ob,(iy (gZ ((fU rs).take i) σ0.h) l).get id=some ob->(iO (fU rs) 0 D σ0.h).get id=some ob/\id∈l/\(gZ ((fU rs).take i) σ0.h).get id=some ob:=by
    intro l hl id ob hob;rw [xU] at hob;split at hob
    ·next hm=>rw [<- C.arv (σ0:=σ0) hinv.closed ho hr hi fH hl hm];exact ⟨hob,hm,hob⟩
    ·cases hob
   have aa2:∀c,Hy c (gZ ((iE rs).take i) a0.t) (o.looksAt ops)=true->TR P (η.cut c) { t:=iy (gZ ((iE rs).take i) a0.t) (o.looksAt ops),n:=a0.n,gn:=a0.gn } A:=by
    intro c hb;refine ⟨hact.gn,hact.size,hact.none,λd v hv=>?_⟩;obtain ⟨x,hx,jP⟩:=hact.slot d v hv;refine ⟨x,hx,VR.cut v x ?_ jP⟩;rw [xU] at hv;split at hv
    ·next hd=>exact aam hb d hd v hv
    ·cases hv
   split at hone
   ·
     next ty hty=>
     split at hone
     ·next z hz=>
      cases hone;have hop:pO P call o (aV.eval { t:=.nil,n:=a0.n,gn:=a0.gn }) { h:=.nil,next:=σ0.next+i,lock:=σ0.lock }=some (some (.p (σ0.next+i) 0),({ h:=.nil,next:=σ0.next+i,lock:=σ0.lock }:au).new (.cells z ty true false)):=by
       unfold pO;rw [hty];simp only [hz,fK]
      have hS':SR P (η.cut σ0.next) { h:=.nil,next:=σ0.next+i,lock:=σ0.lock } w:=hinv.st.rel.cutAt hN0 (λid ob h=>by simp [au.get] at h) (λid ob h=>by simp [au.get] at h) (by simp);refine C.gen hcall hinv ho hr hil hi fH hS' (a:={ t:=.nil,n:=a0.n,gn:=a0.gn }) ⟨hact.gn,hact.size,hact.none,λd v hv=>by simp at hv⟩ (Env.H9 _ _) rfl hop rfl (λid ob h=>by simp [au.get] at h) ?_ ?_ ?_ (dH _) ?_ ?_ hK
      ·rintro id hq ⟨h1,h2⟩
       have h1':σ0.next+i<=id:=h1;have h2':id < σ0.next+i+1:=h2;rcases hinv.dm id hq with h3 | ⟨k,h3,h4,h5⟩ | ⟨j,s,h3,h4,h5,h6⟩
       ·omega
       ·have:k=i:=by omega
        subst this;rw [hi] at h4;cases h4
       ·have:=C.lo h3;omega
      ·intro b ob hb
       simp only [eX] at hb;split at hb
       ·next e=>
        cases hb;subst e;refine ⟨?_,.inr ⟨rfl,Tr.get_nil _⟩⟩;rw [au.oQ,aj rfl]
       ·cases hb
      ·intro id ob h;simp [au.get] at h
      ·intro b hb
       have:=(wZ _ _).1 hb;simp [keysOf] at this;subst this;show σ0.lock<=σ0.next+i
       omega
      ·intro id h1 h2
       have h1':σ0.next+i<=id:=h1;have h2':id < σ0.next+i+1:=h2;have:=C.Uy;exact ⟨by omega,by omega,.inl (by omega)⟩
     ·cases hone
   ·split at hone
    ·
      next l hcls=>
      split at hone
      ·next v τ' hop=>
       rw [sU] at hop;split at hone
       ·next hnx=>
        cases hone;have alK:=bf hnx;have hS':SR P η { h:=iy (gZ ((fU rs).take i) σ0.h) l,next:=ru,lock:=ru } w:=hinv.st.rel.part (λid ob h=>(rest l rfl id ob h).1) (λid hq=>vI (Vw id hq) hbig);refine C.gen hcall hinv ho hr hil hi fH hS' hact (Env.le.refl _) rfl hop rfl (λid ob h=>(rest l rfl id ob h).1) ?_ ?_ ?_ ?_ ?_ ?_ hK
        ·rintro id hq ⟨h1,h2⟩
         have h1':ru<=id:=h1;omega
        ·intro b ob hb;simp [eX] at hb
        ·intro id ob h1 h2 h3
         have h3':ru<=id:=h3;have:=Vw id (hS'.Ll h1);omega
        ·have:=C.Uy;show σ0.lock<=ru;omega
        ·intro b hb;simp [eX] at hb
        ·intro id h1 h2
         have h1':ru<=id:=h1;omega
       ·cases hone
      ·cases hone
    ·
      next l hcls=>
      split at hone
      ·next v τ' hop=>
       rw [sU] at hop;split at hone
       ·next hnx=>
        cases hone;have alK:=bf hnx;have hS':SR P η { h:=iy (gZ ((fU rs).take i) σ0.h) l,next:=ru,lock:=σ0.lock } w:=hinv.st.rel.part (λid ob h=>(rest l rfl id ob h).1) (λid hq=>vI (Vw id hq) hbig);refine C.gen hcall hinv ho hr hil hi fH hS' hact (Env.le.refl _) rfl hop rfl (λid ob h=>(rest l rfl id ob h).1) ?_ ?_ ?_ (dH _) ?_ ?_ hK
        ·rintro id hq ⟨h1,h2⟩
         have h1':ru<=id:=h1;omega
        ·intro b ob hb
         obtain ⟨h1,h2⟩:=WA hb;obtain ⟨h3,h4,ob',h5,h6⟩:=Bl.1 h1;refine ⟨h2.symm,.inl ⟨ob', ?_,h6⟩⟩;show (iy _ l).get b=_
         rw [xU,aj h3];exact h5
        ·intro id ob h1 h2 h3
         obtain ⟨_,h4,h5⟩:=rest l rfl id ob h1;rw [wZ,keys_map];exact Bl.2 ⟨h4,h3,ob,h5,h2⟩
        ·intro b hb
         rw [wZ,keys_map] at hb;exact (Bl.1 hb).2.1
        ·intro id h1 h2
         have h1':ru<=id:=h1;omega
       ·cases hone
      ·cases hone
    ·
      next l hcls=>
      split at hone
      ·next hbel=>
       simp only [aI] at hbel;split at hone
       ·next v τ' hop=>
        rw [sU] at hop;cases hone;simp only at hlo hhi hbn
        have hS':SR P (η.cut (iY (σ0.next+ops.size) rs i)) { h:=iy (gZ ((fU rs).take i) σ0.h) l,next:=iY (σ0.next+ops.size) rs i,lock:=σ0.lock } w:=
         hinv.st.rel.cutAt (by omega) (λid ob h=>(rest l rfl id ob h).1) (λid ob h=>by
          obtain ⟨_,h1,h2⟩:=rest l rfl id ob h;have:=Ko hbel.2 id h1;exact ⟨this.1,this.2 ob h2⟩) (dH _)
        refine C.gen hcall hinv ho hr hil hi fH hS' (aa2 _ hbel.1) (Env.H9 _ _) rfl hop rfl (λid ob h=>(rest l rfl id ob h).1) ?_ ?_ ?_ (dH _) ?_ ?_ hK
        ·rintro id hq ⟨h1,h2⟩
         exact C.apart hinv hr hi hq ⟨h1,h2⟩
        ·intro b ob hb
         rw [QF] at hb;split at hb
         ·next x hx=>
          cases hb;obtain ⟨h1,h2,h3⟩:=EX hx;obtain ⟨h4,h5⟩:=h3 ob rfl;refine ⟨h4,.inr ⟨h5, ?_⟩⟩;show (iy _ l).get b=none
          rw [xU];split
          ·next hm=>have:=(Ko hbel.2 b hm).1;omega
          ·rfl
         ·obtain ⟨h1,h2⟩:=WA hb
          obtain ⟨h3,h4,ob',h5,h6⟩:=Bl.1 h1;refine ⟨h2.symm,.inl ⟨ob', ?_,h6⟩⟩;show (iy _ l).get b=_
          rw [xU,aj h3];exact h5
        ·intro id ob h1 h2 h3
         obtain ⟨_,h4,h5⟩:=rest l rfl id ob h1;rw [wZ];unfold keysOf;rw [mQ,jO];left;have:=keys_map (FP (gZ ((fU rs).take i) σ0.h) σ0.lock l) (λk=>τ'.get k);unfold keysOf at this;rw [this];exact Bl.2 ⟨h4,h3,ob,h5,h2⟩
        ·intro b hb
         rw [QF] at hb;split at hb
         ·next x hx=>
          obtain ⟨h1,_,_⟩:=EX hx;show σ0.lock<=b
          omega
         ·rw [wZ,keys_map] at hb
          exact (Bl.1 hb).2.1
        ·intro id h1 h2
         have h1':iY (σ0.next+ops.size) rs i<=id:=h1;exact ⟨by omega,by omega,.inr ⟨h1,h2⟩⟩
       ·cases hone
      ·cases hone
    ·
      next hcls=>
      split at hone
      ·next v τ' hop0=>
       have hop:=asP hop0;rw [sU] at hop;cases hone;simp only at hlo hhi hbn;have hall:∀id,η.has id->id < iY (σ0.next+ops.size) rs i:=by
        intro id hq;rcases hinv.dm id hq with h3 | ⟨k,h3,h4,h5⟩ | ⟨j,s,h3,h4,h5,h6⟩
        ·omega
        ·omega
        ·have hij:i≠j:=by rintro rfl;rw [hi] at h4;cases h4
         rcases Nat.lt_or_gt_of_ne hij with hlt | hlt
         ·have hjl:j < ops.size:=by have:=(dX.1 h3).1;rw [C.len] at this;exact this
          have hun:=C.open_ hinv.closed ho hi fH hjl (by rw [h4];simp;omega);have hp:=Jf ho (C.pairs i j _ s hr h3 hun);have:=(hp.2.2.2.2.1 rfl hlt).2.2;omega
         ·have:=C.lt h3 hr hlt
          simp only at this;omega
       have hsub:∀id ob,(Di (gZ ((fU rs).take i) σ0.h) (Bq M i (rs.take i) 0)).get id=some ob->(iO (fU rs) 0 D σ0.h).get id=some ob:=by
        intro id ob hob;rw [ab4] at hob;split at hob
        ·cases hob
        ·next hnk=>
         rw [<- hob,Iw (fU rs) i 0,AP];congr 1;refine (IZ _ _ _ _ _ λj u hj hne=>?_).symm;obtain ⟨s,hs,rfl⟩:=Nk hj;have hjl:j < ops.size:=by have:=(dX.1 hs).1;rw [C.len] at this;exact this
         simp only [jk] at hne;have hun:=C.open_ hinv.closed ho hi fH hjl (λe=>hne e.symm);apply LQ;by_cases hji:j < i
         ·exact X0 hnk j s (by rw [kQ,aj hji];exact hs) (by rw [jk];exact hun)
         ·have hij:i < j:=by
           rcases wP i j with h | h
           ·exact h
           ·have:i=j:=by omega
            subst this;rw [hi] at hne;simp at hne
          have hp:=Jf ho (C.pairs i j _ s hr hs hun);obtain ⟨h1,h2,h3⟩:=hp.2.2.2.2.1 rfl hij;intro hmem;have hge:=h1 id hmem;rw [Iw (fU rs) i 0] at hob;cases hl:jX (fU rs) 0 (λj=>decide (j < 0+i)) id with
          | none=>
            rw [hl] at hob;have:=hS0.hasLt (hS0.Ll hob);omega
          | some x=>
            obtain ⟨j',u',h4,h5,h6⟩:=Ws _ _ _ _ _ hl;obtain ⟨s',hs',rfl⟩:=Nk h4;simp only [jk,decide_eq_true_eq] at h5;have hk:id∈keysOf s'.upd:=(wZ _ _).1 (by rw [h6];simp);have htk:(rs.take i)[j']? = some s':=by rw [kQ,aj h5];exact hs'
            have hnu:wH M i (0+j')=false:=by
             cases hu:wH M i (0+j') with
             | false=>rfl
             | true=>exact absurd hk (X0 hnk j' s' htk hu)
            have:=ac5 j' s' htk hnu hk;exact KP h2 this hmem
       have hS':SR P η { h:=Di (gZ ((fU rs).take i) σ0.h) (Bq M i (rs.take i) 0),next:=iY (σ0.next+ops.size) rs i,lock:=iY (σ0.next+ops.size) rs i } w:=hinv.st.rel.part hsub hall;refine C.gen hcall hinv ho hr hil hi fH hS' hact (Env.le.refl _) rfl hop rfl hsub ?_ ?_ ?_ ?_ ?_ ?_ hK
       ·rintro id hq ⟨h1,h2⟩
        exact C.apart hinv hr hi hq ⟨h1,h2⟩
       ·intro b ob hb
        obtain ⟨h1,h2,h3⟩:=EX hb;obtain ⟨h4,h5⟩:=h3 ob rfl;refine ⟨h4,.inr ⟨h5, ?_⟩⟩;cases hg:au.get { h:=Di (gZ ((fU rs).take i) σ0.h) (Bq M i (rs.take i) 0),next:=iY (σ0.next+ops.size) rs i,lock:=iY (σ0.next+ops.size) rs i } b with
        | none=>rfl
        | some ob'=>
          have:=hall b (hS'.Ll hg);omega
       ·intro id ob h1 h2 h3
        have h3':iY (σ0.next+ops.size) rs i<=id:=h3;have:=hall id (hS'.Ll h1);omega
       ·show σ0.lock<=iY (σ0.next+ops.size) rs i
        omega
       ·intro b hb
        cases hx:eX (Dq τ' (iY (σ0.next+ops.size) rs i) (τ'.next - iY (σ0.next+ops.size) rs i)) b with
        | none=>exact absurd hx hb
        | some x=>exact (EX hx).1
       ·intro id h1 h2
        have h1':iY (σ0.next+ops.size) rs i<=id:=h1;exact ⟨by omega,by omega,.inr ⟨h1,h2⟩⟩
      ·generalize MH o (aV.eval { t:=iy (gZ ((iE rs).take i) a0.t) (o.looksAt ops),n:=a0.n,gn:=a0.gn }) (gZ ((fU rs).take i) σ0.h)=l at hone
       split at hone
       ·next hbel=>
        simp only [aI] at hbel;split at hone
        ·next v τ' hop=>
         rw [sU] at hop;cases hone;simp only at hlo hhi hbn
         have hS':SR P (η.cut (iY (σ0.next+ops.size) rs i)) { h:=iy (gZ ((fU rs).take i) σ0.h) l,next:=iY (σ0.next+ops.size) rs i,lock:=σ0.lock } w:=
          hinv.st.rel.cutAt (by omega) (λid ob h=>(rest l rfl id ob h).1) (λid ob h=>by
           obtain ⟨_,h1,h2⟩:=rest l rfl id ob h;have:=Ko hbel.2 id h1;exact ⟨this.1,this.2 ob h2⟩) (dH _)
         refine C.gen hcall hinv ho hr hil hi fH hS' (aa2 _ hbel.1) (Env.H9 _ _) rfl hop rfl (λid ob h=>(rest l rfl id ob h).1) ?_ ?_ ?_ (dH _) ?_ ?_ hK
         ·rintro id hq ⟨h1,h2⟩
          exact C.apart hinv hr hi hq ⟨h1,h2⟩
         ·intro b ob hb
          rw [QF] at hb;split at hb
          ·next x hx=>
           cases hb;obtain ⟨h1,h2,h3⟩:=EX hx;obtain ⟨h4,h5⟩:=h3 ob rfl;refine ⟨h4,.inr ⟨h5, ?_⟩⟩;show (iy _ l).get b=none
           rw [xU];split
           ·next hm=>have:=(Ko hbel.2 b hm).1;omega
           ·rfl
          ·obtain ⟨h1,h2⟩:=WA hb
           obtain ⟨h3,h4,ob',h5,h6⟩:=Bl.1 h1;refine ⟨h2.symm,.inl ⟨ob', ?_,h6⟩⟩;show (iy _ l).get b=_
           rw [xU,aj h3];exact h5
         ·intro id ob h1 h2 h3
          obtain ⟨_,h4,h5⟩:=rest l rfl id ob h1;rw [wZ];unfold keysOf;rw [mQ,jO];left;have:=keys_map (FP (gZ ((fU rs).take i) σ0.h) σ0.lock l) (λk=>τ'.get k);unfold keysOf at this;rw [this];exact Bl.2 ⟨h4,h3,ob,h5,h2⟩
         ·intro b hb
          rw [QF] at hb;split at hb
          ·next x hx=>
           obtain ⟨h1,_,_⟩:=EX hx;show σ0.lock<=b
           omega
          ·rw [wZ,keys_map] at hb
           exact (Bl.1 hb).2.1
         ·intro id h1 h2
          have h1':iY (σ0.next+ops.size) rs i<=id:=h1;exact ⟨by omega,by omega,.inr ⟨h1,h2⟩⟩
        ·cases hone
       ·cases hone
end
end
end Go.aJ
namespace Go.aJ
set_option linter.unusedSimpArgs false
noncomputable section
variable [aG]
set_option linter.unusedSectionVars false
set_option linter.unusedVariables false
variable {P:Program}
section
variable {call:Caller} {ops:Array Oper} {M:List Nat} {rs:List bP} {a0:aV} {σ0:au} {cf:Nat} {η0:Env} {w0:World}
def inB (listed:Array Bool):Nat->Bool:=λj=>listed.getD j false
theorem aeU {listed:Array Bool} (hl:listed.size=ops.size) {i:Nat} (h:i∈Region.ready .any ops listed):i < ops.size/\inB listed i=false/\∀o,ops[i]? = some o->∀e∈o.after.toList,Region.binds .any e=true->inB listed e.on=true:=by
 unfold Region.ready at h;simp only [GY,xG,aI,wK] at h;obtain ⟨h1,h2,h3⟩:=h;have hlt:i < listed.size:=by omega
 refine ⟨h1, ?_, ?_⟩
 ·unfold inB
  rw [wJ,zT hlt] at h2 ⊢;exact h2
 ·intro o ho e he hb
  rw [ho] at h3;simp only [fK,pJ] at h3;rw [Array.all_eq_true'] at h3;have:=h3 e (by simpa using he);rw [hb] at this;simpa [inB] using this
theorem count_set (listed:Array Bool) (i:Nat) (h:listed[i]? = some false):(listed.setIfInBounds i true).toList.count false+1=listed.toList.count false:=by
 have hlt:i < listed.size:=(nN.1 h).1;have hv:listed[i]=false:=(nN.1 h).2;have h1:listed.toList[i]'(by simpa using hlt)=false:=by simpa using hv
 have hpos:0 < listed.toList.count false:=List.count_pos_iff.2 (by rw [<- h1];exact gU _);rw [Array.toList_setIfInBounds,List.count_set (by simpa using hlt),h1];have e1:((false==false)=true):=rfl;have e2:¬ ((true==false)=true):=by decide
 rw [aj e1,ah e2];omega
theorem PN {α:Type}:∀ (us:List (List (Nat×Option α))) (k:Nat) (D:Nat->Bool) (t:Tr α),(∀j,j < us.length->D (k+j)=true)->iO us k D t=gZ us t
 | [],_,_,_,_=>rfl
 | u::us,k,D,t,h=>by
   have h0:=h 0 (by simp);simp only [jR] at h0;rw [iO,aj h0,gZ,PN us (k+1) D _ (λj hj=>by rw [show k+1+j=k+(j+1) by omega];exact h (j+1) (by simpa using hj))]
end
section
variable {ops:Array Oper} {M:List Nat} {rs:List bP} {a0:aV} {σ:au} {η0:Env} {w0:World} {n N0:Nat}
theorem aae (C:oK ops M rs n N0) (Inv:(Nat->Bool)->Env->World->Act->Prop)
 (hstep:∀D η w A i (K:Act->World->Prop) (Q:Exit->Act->World->Prop),Inv D η w A->i < ops.size->D i=false->(∀o,ops[i]? = some o->∀e∈o.after.toList,Region.binds .any e=true->D e.on=true)->
  (∀η' A' w',Inv (gB D i) η' w' A'->K A' w')->wpOp P ops Q i K A w) {Q:Exit->Act->World->Prop}
 (hK:∀η' A' w',Inv (λj=>decide (j < ops.size)) η' w' A'->Q .normal A' w') :
 ∀ (fuel:Nat) (listed:Array Bool) (η:Env) (w:World) (A:Act),listed.size=ops.size->listed.toList.count false=fuel->Inv (inB listed) η w A->wpAny P .any ops Q fuel listed A w:=by
 intro fuel;induction fuel with
 | zero=>
   intro listed η w A hl hc hinv;have hall:∀j,j < ops.size->inB listed j=true:=by
    intro j hj;have hlt:j < listed.size:=by omega
    have hm:listed[j]∈listed.toList:=by simp
    have:false∉listed.toList:=List.count_eq_zero.1 hc;unfold inB;rw [wJ,zT hlt];cases hv:listed[j] with
    | true=>rfl
    | false=>rw [hv] at hm;exact absurd hm this
   have hD:inB listed=λj=>decide (j < ops.size):=by
    funext j;by_cases hj:j < ops.size
    ·rw [hall j hj];simp [hj]
    ·unfold inB
     rw [wJ,Array.getElem?_eq_none (by omega)];simp [hj]
   refine ⟨?_, ?_⟩
   ·apply List.eq_nil_iff_forall_not_mem.2
    intro i hi;obtain ⟨h1,h2,_⟩:=aeU hl hi;rw [hall i h1] at h2;cases h2
   ·rw [hD] at hinv;exact hK η A w hinv
 | succ fuel ih=>
   intro listed η w A hl hc hinv;refine ⟨λhr=>?_,λi hi=>?_⟩
   ·exfalso
    have hex:∃i,i < ops.size/\inB listed i=false/\∀j,j < i->inB listed j=true:=by
     have hpos:0 < listed.toList.count false:=by omega
     have hm:=List.count_pos_iff.1 hpos;obtain ⟨k,hk⟩:=TI.1 hm;have alB:k < ops.size:=by have:=(dX.1 hk).1;simp at this;omega
     have hkf:inB listed k=false:=by
      unfold inB;rw [wJ];rw [tX] at hk;rw [hk];rfl
     clear hm hk;induction k using Nat.strongRecOn with
     | _ k ihk=>
       by_cases hb:∃j,j < k/\inB listed j=false
       ·obtain ⟨j,h1,h2⟩:=hb
        exact ihk j h1 (by omega) h2
       ·refine ⟨k,alB,hkf,λj hj=>?_⟩
        cases hv:inB listed j with
        | true=>rfl
        | false=>exact absurd ⟨j,hj,hv⟩ hb
    obtain ⟨i,h1,h2,h3⟩:=hex;have hmem:i∈Region.ready .any ops listed:=by
     unfold Region.ready;simp only [GY,xG,aI,wK];have hlt:i < listed.size:=by omega
     refine ⟨h1, ?_, ?_⟩
     ·unfold inB at h2
      rw [wJ,zT hlt] at h2 ⊢;exact h2
     ·have ho:ops[i]? = some ops[i]:=by simp [h1]
      rw [ho];simp only [fK,pJ];rw [Array.all_eq_true'];intro e he;cases hb:Region.binds .any e with
      | false=>rfl
      | true=>
        simp only [Tt,zV];obtain ⟨hm,hlen⟩:=C.mask ho;have hbit:pX M e.on i=true:=by
         unfold pX;rw [yF,hm];simp only [pJ];have:∀ (es:List Edge),e∈es->(yh (λj=>(M.take i).getD j 0) es).testBit e.on=true:=by
          intro es;induction es with
          | nil=>intro h;simp at h
          | cons x es acC=>
            intro h;rw [yh];simp only [bC] at h;rcases h with rfl | h
            ·rw [aj hb,NT,NT,Nat.testBit_two_pow];simp
            ·split
             ·rw [NT,acC h,Bool.or_true]
             ·exact acC h
         exact this _ (by simpa using he)
        exact h3 e.on (C.Xd hbit)
    rw [hr] at hmem;simp at hmem
   ·obtain ⟨h1,h2,h3⟩:=aeU hl hi
    refine hstep _ _ _ _ i _ Q hinv h1 h2 h3 λη' A' w' hinv'=>?_;have hf:listed[i]? = some false:=by
     have hlt:i < listed.size:=by omega
     unfold inB at h2;rw [wJ,zT hlt] at h2;rw [zT hlt];simpa using h2
    have hD:gB (inB listed) i=inB (listed.setIfInBounds i true):=by
     funext j;unfold gB inB;have hlt:i < listed.size:=by omega
     rw [wJ,wJ,zU];by_cases e:i=j
     ·subst e;rw [aj rfl,aj hlt];simp
     ·rw [ah e,vY (λe'=>e e'.symm)];simp
    rw [hD] at hinv';exact ih _ η' w' A' (by simpa using hl) (by have:=count_set listed i hf;omega) hinv'
end
theorem afH {ops:Array Oper} {M:List Nat}:∀ (k i j:Nat),SB ops M k<=i->i < k->lH ops i=false->j < i->lH ops j=true\/pX M j i=true
 | 0,i,j,_,h,_,_=>by omega
 | k+1,i,j,h1,h2,h3,h4=>by
   unfold SB at h1;split at h1
   ·next ha=>
    by_cases e:i=k
    ·subst e
     rw [h3,zV,List.all_eq_true] at ha;have:=ha j (by simpa using h4);rwa [lU] at this
    ·exact afH k i j h1 (by omega) h3 h4
   ·omega
theorem SC:∀ (rs:List bP) (r:bP) (σ:au),tV (rs++[r]) σ=match r.fin with | some τ=>τ | none=>tV rs σ
 | [],_,_=>rfl
 | s::rs,r,σ=>by
   show tV (rs++[r]) _=_
   rw [SC rs r];rfl
theorem YH {rs:List bP} {σ:au}:∀k,k<=rs.length->(∀ (i:Nat) r,i < k->rs[i]? = some r->r.fin=none)->tV (rs.take k) σ=σ
 | 0,_,_=>by simp [tV]
 | k+1,hk,h=>by
   obtain ⟨r,hr⟩:∃r,rs[k]? = some r:=⟨_,bM (by omega)⟩
   rw [TK,hr,ZL,SC,h k r (by omega) hr];exact YH k (by omega) (λi r' hi=>h i r' (by omega))
theorem YI {rs:List bP} {σ:au} {m:Nat} {r:bP} {τ:au} (hr:rs[m]? = some r) (hf:r.fin=some τ):∀k,m < k->k<=rs.length->(∀ (i:Nat) r',m < i->i < k->rs[i]? = some r'->r'.fin=none)->tV (rs.take k) σ=τ
 | 0,h,_,_=>by omega
 | k+1,hm,hk,h=>by
   by_cases e:m=k
   ·subst e
    rw [TK,hr,ZL,SC,hf]
   ·obtain ⟨r',hr'⟩:∃r,rs[k]? = some r:=⟨_,bM (by omega)⟩
    rw [TK,hr',ZL,SC,h k r' (by omega) (by omega) hr'];exact YI hr hf k (by omega) (by omega) (λi r'' h1 h2=>h i r'' h1 (by omega))
theorem akm {call:Caller} {o:Oper} (hf:AB o=true) {ev:Operand->Option AV} {σ1 σ2 τ:au} {v:Option AV} (hs:lG P call o ev σ1=some (v,τ)):lG P call o ev σ2=some (v,σ2):=by
 rw [sU] at hs ⊢;obtain ⟨dst,op,type,pos,after,guard⟩:=o;cases op with
 | move x=>
   simp only [pO,dn,aX,kH] at hs ⊢;obtain ⟨u,h1,h2,_⟩:=hs;exact ⟨u,h1,h2,trivial⟩
 | assign x=>
   simp only [pO,dn,aX,kH] at hs ⊢;obtain ⟨u,h1,h2,_⟩:=hs;exact ⟨u,h1,h2,trivial⟩
 | extract x k=>
   simp only [pO] at hs ⊢;split at hs
   ·simp only [dn,aX,kH] at hs ⊢
    obtain ⟨u,h1,h2,_⟩:=hs;exact ⟨u,h1,h2,trivial⟩
   ·cases hs
 | binOp op t x y z=>
   simp only [pO] at hs ⊢;split at hs
   ·simp only [dn,aX,kH] at hs ⊢
    obtain ⟨u,h1,h2,_⟩:=hs;exact ⟨u,h1,h2,trivial⟩
   ·cases hs
 | _=>simp [AB] at hf
theorem ahQ {o:Oper} (hf:AB o=true) (ev:Operand->Option AV):aaO o ev=.na []:=by
 obtain ⟨dst,op,type,pos,after,guard⟩:=o;cases op<;>first | rfl | (simp [AB] at hf)
theorem ajw {call:Caller} {ops:Array Oper} {lock gn n i c:Nat} {prev:List bP} {t:Tr AV} {h:Tr aY} {r:bP} (hs:Ia P call ops lock gn n prev i t h c=some r):r.next=c:=by
 unfold Ia at hs;split at hs
 ·cases hs
 ·split at hs
  ·cases hs
  ·cases hs;rfl
  ·split at hs
   ·cases hs;rfl
   ·cases hs
theorem UL {call:Caller} {ops:Array Oper} {M:List Nat} {N0 lock gn n i c:Nat} {prev:List bP} {t:Tr AV} {h:Tr aY} {r:bP} {o:Oper} (ho:ops[i]? = some o) (hf:AB o=true) (hs:yX P call ops M N0 lock gn n prev i t h c=some r) :
 r.upd=[]/\r.next=c/\r.fin=none/\((BZ o ops { t:=iy t (o.looksAt ops),n:=n,gn:=gn }=some false/\r.slot=lF o (some (.bY [])))\/
  (BZ o ops { t:=iy t (o.looksAt ops),n:=n,gn:=gn }=some true/\∃v,(∀σ2,lG P call o (aV.eval { t:=iy t (o.looksAt ops),n:=n,gn:=gn }) σ2=some (v,σ2))/\r.slot=lF o v)):=by
 unfold yX at hs;rw [ho] at hs;simp only at hs;split at hs
 ·cases hs
 ·next hw=>cases hs;exact ⟨rfl,rfl,rfl,.inl ⟨hw,rfl⟩⟩
 ·next hw=>
  split at hs
  ·next ty e=>exfalso;obtain ⟨dst,op,type,pos,after,guard⟩:=o;cases e;simp [AB] at hf
  ·rw [ahQ hf] at hs
   simp only at hs;split at hs
   ·next v τ hv=>
    split at hs
    ·cases hs
     exact ⟨rfl,rfl,rfl,.inr ⟨hw,v,λσ2=>akm hf hv,rfl⟩⟩
    ·cases hs
   ·cases hs
theorem OY {ops:Array Oper} {D:Nat->Bool} {i:Nat} (h:Closed ops D) (hd:∀o,ops[i]? = some o->∀e∈o.after.toList,Region.binds .any e=true->D e.on=true):Closed ops (gB D i):=by
 intro j o hj ho e he hb;unfold gB at hj ⊢;rw [lU] at hj ⊢;rcases hj with hj | hj
 ·exact .inl (h j o hj ho e he hb)
 ·have:=bf hj
  subst this;exact .inl (hd o ho e he hb)
section
variable {call:Caller} {ops:Array Oper} {M:List Nat} {rs:List bP} {a:aV} {σ:au} {c:Nat} {D:Nat->Bool}
theorem Ctx.act' (C:Ctx P call ops M rs a σ c) (hcl:Closed ops D) {i:Nat} {o:Oper} {r:bP} (ho:ops[i]? = some o) (hr:rs[i]? = some r) (hi:D i=false) (fH:∀e∈o.after.toList,Region.binds .any e=true->D e.on=true)
 {η:Env} {A:Act} (htr:TR P η { t:=iO (iE rs) 0 D a.t,n:=a.n,gn:=a.gn } A):TR P η { t:=iy (gZ ((iE rs).take i) a.t) (o.looksAt ops),n:=a.n,gn:=a.gn } A:=by
 refine ⟨htr.gn,htr.size,htr.none,λd v hv=>?_⟩;rw [xU] at hv;split at hv
 ·next hd=>
  rw [C.Yl (a0:=a) hcl ho hr hi fH hd] at hv;exact htr.slot d v hv
 ·cases hv
theorem Ctx.last (C:Ctx P call ops M rs a σ c) (hcall:qj P call) (hcl:Closed ops D) {i:Nat} {o:Oper} {r:bP} (ho:ops[i]? = some o) (hr:rs[i]? = some r) (hi:D i=false) (fH:∀e∈o.after.toList,Region.binds .any e=true->D e.on=true) (hla:lM ops M i=true)
 {η η1:Env} {w0 w1:World} {A:Act} (hst:St P η σ w0 η1 (tV (rs.take i) { h:=gZ ((fU rs).take i) σ.h,next:=iY (σ.next+ops.size) rs i,lock:=σ.lock }) w1)
 (htr:TR P η1 { t:=iO (iE rs) 0 D a.t,n:=a.n,gn:=a.gn } A) {K:Act->World->Prop} {Q:Exit->Act->World->Prop}
 (hK:∀η' A' w' τ,r.fin=some τ->St P η σ w0 η' τ w'->TR P η' { t:=iO (iE rs) 0 (gB D i) a.t,n:=a.n,gn:=a.gn } A'->K A' w'):wpOp P ops Q i K A w1:=by
 have hone:=C.one i r hr;unfold vU at hone;rw [aj hla] at hone;unfold Ia at hone;rw [ho] at hone;simp only at hone;have hact:=C.act' hcl ho hr hi fH htr;have hnext:=λd=>C.KY (a0:=a) hcl ho hr hi fH d;have hsl:=(C.slot i r hr).2;unfold wpOp;rw [ho];simp only;split at hone
 ·cases hone
 ·next hw=>
  cases hone;rw [Cb hact hw];simp only [fV,if_false];exact hK η1 _ w1 _ rfl hst (htr.add (Env.le.refl _) hnext hsl (by rintro u hu;cases hu;exact ⟨[],rfl,rfl⟩))
 ·next hw=>
  rw [Cb hact hw];simp only [if_true];left;split at hone
  ·next v τ hop=>
   rw [sU] at hop;cases hone;refine Oh hst.rel hcall hact hop λx η' w' hst2 hx=>?_;exact hK η' _ w' _ rfl (hst.trans hst2) (htr.add hst2.ext hnext hsl hx)
  ·cases hone
theorem Ctx.free (C:Ctx P call ops M rs a σ c) (hcall:qj P call) (hcl:Closed ops D) {i:Nat} {o:Oper} {r:bP} (ho:ops[i]? = some o) (hr:rs[i]? = some r) (hi:D i=false) (fH:∀e∈o.after.toList,Region.binds .any e=true->D e.on=true) (hf:AB o=true)
 {η η1:Env} {τ:au} {w0 w1:World} {A:Act} (hst:St P η σ w0 η1 τ w1) (htr:TR P η1 { t:=iO (iE rs) 0 D a.t,n:=a.n,gn:=a.gn } A) {K:Act->World->Prop} {Q:Exit->Act->World->Prop}
 (hK:∀η' A' w',St P η σ w0 η' τ w'->TR P η' { t:=iO (iE rs) 0 (gB D i) a.t,n:=a.n,gn:=a.gn } A'->K A' w'):wpOp P ops Q i K A w1:=by
 have hone:=C.one i r hr;unfold vU at hone;have hnl:lM ops M i=false:=by
  unfold lM lH;rw [ho];simp only [hf,Tt,Bool.and_false]
 rw [hnl] at hone;simp only [fV,if_false] at hone;obtain ⟨_,_,_,hcase⟩:=UL ho hf hone;have hact:=C.act' hcl ho hr hi fH htr;have hnext:=λd=>C.KY (a0:=a) hcl ho hr hi fH d;have hsl:=(C.slot i r hr).2;unfold wpOp;rw [ho];simp only;rcases hcase with ⟨hw,hs⟩ | ⟨hw,v,hv,hs⟩
 ·rw [hs] at hnext hsl
  rw [Cb hact hw];simp only [fV,if_false];exact hK η1 _ w1 hst (htr.add (Env.le.refl _) hnext hsl (by rintro u hu;cases hu;exact ⟨[],rfl,rfl⟩))
 ·rw [hs] at hnext hsl
  rw [Cb hact hw];simp only [if_true];left;have hop:=hv τ;rw [sU] at hop;refine Oh hst.rel hcall hact hop λx η' w' hst2 hx=>?_;exact hK η' _ w' (hst.trans hst2) (htr.add hst2.ext hnext hsl hx)
theorem Ctx.afI (C:Ctx P call ops M rs a σ c) {l:Nat} (hl:∀i,l<=i->i < ops.size->lM ops M i=true\/lH ops i=true):∀k,l+k<=ops.size->iY (σ.next+ops.size) rs (l+k)=iY (σ.next+ops.size) rs l
 | 0,_=>rfl
 | k+1,h=>by
   have ih:=C.afI hl k (by omega);obtain ⟨r,hr⟩:∃r,rs[l+k]? = some r:=⟨_,bM (by rw [C.len];omega)⟩
   obtain ⟨o,ho⟩:∃o,ops[l+k]? = some o:=⟨ops[l+k],by simp⟩
   have hone:=C.one _ _ hr;unfold vU at hone;rw [show l+(k+1)=(l+k)+1 by omega,Kz rs _ _ _ hr,<- ih];split at hone
   ·exact ajw hone
   ·next hn=>
    rcases hl (l+k) (by omega) (by omega) with h1 | h1
    ·exact absurd h1 hn
    ·unfold lH at h1
     rw [ho] at h1;exact (UL ho h1 hone).2.1
end
theorem ajJ (hm:P.follows .mixedOrders=true):JG P (Ub P):=by
 intro call hcall ops a σ a' σ' hs η w A id Q h ht hK;unfold Ub at hs;simp only at hs;split at hs
 ·next hok=>
  simp only [aI] at hok;split at hs
  ·next rs t hh c hgo=>
   split at hs
   ·next uO=>
    simp only [aI] at uO;obtain ⟨⟨⟨IQ,hdy0⟩,hsl⟩,hbig⟩:=uO;obtain ⟨new,h1,h2,h3,h4,h5,h6⟩:=aa4 _ _ _ _ _ _ _ _ _ _ hgo;simp only [bn] at h1;subst h1
    have C:Ctx P call ops (jY ops.toList []) rs a σ c:={
     hM:=rfl
     WQ:=hok.1
     len:=h2
     one:=λi r hr=>by have:=h6 i r hr;simpa using this
     pairs:=aea IQ hdy0 (λi r hr=>by have:=h6 i r hr;exact ajB (by simpa using this))
     slot:=by
      intro i r hr;unfold RF at hsl;rw [List.all_eq_true] at hsl;have:=hsl r (oL hr);simp only [aI] at this;refine ⟨Nat.le_of_ble_eq_true this.1,λp hpm=>?_⟩;have h8:=this.2;rw [List.all_eq_true] at h8;have:=h8 p hpm;rwa [iK] at this
     fin:=h5
     big:=qE hbig
     lock:=qE hok.2 }
    refine wp_region_any hm ?_;have hcl:=C.Uy;have hempty:inB (Array.replicate ops.size false)=λ_=>false:=by
     funext j;unfold inB;rw [wJ,agn];split<;>rfl
    have hno:∀ {α:Type} (us:List (List (Nat×Option α))) (k:Nat) (t:Tr α),iO us k (λ_=>false) t=t:=by
     intro α us;induction us with
     | nil=>intro k t;rfl
     | cons u us ih=>intro k t;rw [iO];simp only [fV,if_false];exact ih _ _
    have start:zW P ops rs a σ c η { w with drawn:=w.drawn+1 } (λ_=>false) η { w with drawn:=w.drawn+1 } A:=by
     refine ⟨λi o hi=>by simp at hi, ?_, ?_,λid hq=>.inl (h.hasLt hq)⟩
     ·rw [hno]
      refine (St.refl h.drew).sub (λid o ho=>ho) (by show σ.next<=c;omega) rfl
     ·rw [hno];exact ⟨ht.gn,ht.size,ht.none,ht.slot⟩
    have Qh:iO (iE rs) 0 (λj=>decide (j < ops.size)) a.t=t:=by
     rw [h3];exact PN _ _ _ _ (λj hj=>by simp [iE] at hj ⊢;omega)
    have hlast:∀i,i < ops.size->lM ops (jY ops.toList []) i=true->lH ops i=false/\∀j,j < i->lH ops j=true\/pX (jY ops.toList []) j i=true:=by
     intro i hi hla;unfold lM at hla;rw [aI,wK] at hla;exact ⟨hla.2,λj hj=>afH _ _ _ (qE hla.1) hi hla.2 hj⟩
    have hup:∀i j,i<=j->j < ops.size->lM ops (jY ops.toList []) i=true->lM ops (jY ops.toList []) j=true\/lH ops j=true:=by
     intro i j hij hj hla;unfold lM at hla ⊢;rw [aI,wK] at hla;have:=qE hla.1;cases hf:lH ops j with
     | true=>exact .inr rfl
     | false=>left;rw [ZC (jw this hij)];rfl
    have hfree:∀i,lH ops i=true->lM ops (jY ops.toList []) i=false:=by
     intro i hf;unfold lM;rw [hf];simp
    have hfin:∀ (i:Nat) r,rs[i]? = some r->lM ops (jY ops.toList []) i=false->r.fin=none:=by
     intro i r hr hi;have hone:=C.one i r hr;unfold vU at hone;rw [hi] at hone;simp only [fV,if_false] at hone;exact ajA hone
    have alx:∀ (i:Nat) r,rs[i]? = some r->lH ops i=true->r.upd=[]:=by
     intro i r hr hf;have hone:=C.one i r hr;unfold vU at hone;rw [hfree i hf] at hone;simp only [fV,if_false] at hone;unfold lH at hf;split at hf
     ·next o ho=>exact (UL ho hf hone).1
     ·cases hf
    let wd:World:={ w with drawn:=w.drawn+1 }
    cases hs
    refine aae C.tooK (λD η1 w1 A1=>((∀i,i < ops.size->lM ops (jY ops.toList []) i=true->D i=false)/\zW P ops rs a σ c η wd D η1 w1 A1)\/
     ∃m,m < ops.size/\lM ops (jY ops.toList []) m=true/\Closed ops D/\(∀j,j < ops.size->lH ops j=false->D j=decide (j<=m))/\∃r τ,rs[m]? = some r/\r.fin=some τ/\St P η σ wd η1 τ w1/\TR P η1 { t:=iO (iE rs) 0 D a.t,n:=a.n,gn:=a.gn } A1) ?_ ?_ ops.size (Array.replicate ops.size false) η _ A (by simp) (by simp) (.inl ⟨λi _ _=>by rw [hempty],by rw [hempty];exact start⟩)
    ·intro D η1 w1 A1 i K Q' hinv hil hi xY hK'
     obtain ⟨o,ho⟩:∃o,ops[i]? = some o:=⟨ops[i],by simp [hil]⟩
     obtain ⟨r,hr⟩:∃r,rs[i]? = some r:=⟨_,bM (by rw [h2];exact hil)⟩
     have fH:=xY o ho;rcases hinv with ⟨hD,hinv⟩ | ⟨m,hm2,VI,hcl,IC,r1,τ1,hr1,hf1,hst1,Lu⟩
     ·by_cases hla:lM ops (jY ops.toList []) i=true
      ·
        obtain ⟨hnf,hord⟩:=hlast i hil hla;have Vp:∀j,j < ops.size->lH ops j=false->D j=decide (j < i):=by
         intro j hj og;by_cases h1:j < i
         ·have:D j=true:=C.nS hinv.closed i o ho fH j ((hord j h1).resolve_left (by rw [og];simp))
          rw [this];simp [h1]
         ·have:D j=false:=hD j hj ((hup i j (by omega) hj hla).resolve_right (by rw [og];simp))
          rw [this];simp [h1]
        have ali:∀j,j < i->lM ops (jY ops.toList []) j=false:=by
         intro j hj;cases e:lM ops (jY ops.toList []) j with
         | false=>rfl
         | true=>
           have h1:=hD j (by omega) e;rw [Vp j (by omega) (hlast j (by omega) e).1] at h1;exact absurd hj (of_decide_eq_false h1)
        have alX:∀b,(gZ ((fU rs).take i) σ.h).get b=(iO (fU rs) 0 D σ.h).get b:=by
         intro b;rw [Iw (fU rs) i 0,AP];congr 1;refine IZ _ _ _ _ _ λj u hj hne=>?_;have hjl:j < ops.size:=by have:=(dX.1 hj).1;simp [fU] at this;omega
         simp only [jk] at hne;cases og:lH ops j with
         | false=>exact absurd (Vp j hjl og).symm hne
         | true=>
           obtain ⟨r',hr',hu⟩:=Nk hj;rw [alx j r' hr' og] at hu;subst hu;rfl
        have xX:iY (σ.next+ops.size) rs i=c:=by
         have:=C.afI (l:=i) (λk h1 h2=>hup i k h1 h2 hla) (ops.size - i) (by omega);rw [show i+(ops.size - i)=ops.size by omega] at this;rw [<- this];exact C.fin.symm
        have hts:∀σ1,tV (rs.take i) σ1=σ1:=λσ1=>YH i (by omega) λj r' h1 h2=>hfin j r' h2 (ali j h1);refine C.last hcall hinv.closed ho hr hi fH hla (η:=η) (w0:=wd) (η1:=η1) ?_ hinv.tr λη' A' w' τ hf hst htr=>hK' η' A' w' (.inr ⟨i,hil,hla,OY hinv.closed xY, ?_,r,τ,hr,hf,hst,htr⟩)
        ·rw [hts]
         refine hinv.st.sub (λid' o' ho'=>?_) (G6 xX.symm) rfl;rw [show (au.get { h:=iO (fU rs) 0 D σ.h,next:=c,lock:=σ.lock } id')=(iO (fU rs) 0 D σ.h).get id' from rfl,<- alX];exact ho'
        ·intro j hj og
         unfold gB;rw [Vp j hj og];by_cases e:j=i
         ·subst e;simp
         ·rw [vY e,Cc];congr 1;apply propext;omega
      ·have hnl:lM ops (jY ops.toList []) i=false:=by simpa using hla
       refine C.step hcall h.drew hinv hil hi xY hnl λη' A' w' hinv'=>hK' η' A' w' (.inl ⟨λj hj hjl=>?_,hinv'⟩);have hji:j≠i:=λe=>by subst e;rw [hnl] at hjl;cases hjl
       unfold gB;rw [hD j hj hjl,vY hji];rfl
     ·cases hif:lH ops i with
      | true=>
        have hof:AB o=true:=by unfold lH at hif;rw [ho] at hif;exact hif
        refine C.free hcall hcl ho hr hi fH hof hst1 Lu λη' A' w' hst htr=>hK' η' A' w' (.inr ⟨m,hm2,VI,OY hcl xY, ?_,r1,τ1,hr1,hf1,hst,htr⟩);intro j hj og;have hji:j≠i:=λe=>by subst e;rw [hif] at og;cases og
        unfold gB;rw [IC j hj og,vY hji,Cc]
      | false=>
        have him:¬ i<=m:=by
         intro hle;rw [IC i hil hif] at hi;exact of_decide_eq_false hi hle
        have hla:lM ops (jY ops.toList []) i=true:=(hup m i (by omega) hil VI).resolve_right (by rw [hif];simp);have hmid:∀j,m < j->j < i->lH ops j=true:=by
         intro j h1 h2;cases og:lH ops j with
         | true=>rfl
         | false=>
           have h8:D j=true:=C.nS hcl i o ho fH j (((hlast i hil hla).2 j h2).resolve_left (by rw [og];simp));rw [IC j (by omega) og] at h8;have:=QZ h8;omega
        have hts:∀σ1,tV (rs.take i) σ1=τ1:=λσ1=>YI hr1 hf1 i (by omega) (by omega) λj r' h1 h2 h3=>hfin j r' h3 (hfree j (hmid j h1 h2));refine C.last hcall hcl ho hr hi fH hla (η:=η) (w0:=wd) (η1:=η1) (by rw [hts];exact hst1) Lu λη' A' w' τ hf hst htr=>hK' η' A' w' (.inr ⟨i,hil,hla,OY hcl xY, ?_,r,τ,hr,hf,hst,htr⟩);intro j hj og;unfold gB;rw [IC j hj og];by_cases e:j=i
        ·subst e;simp
        ·rw [vY e,Cc]
         congr 1;apply propext;constructor
         ·omega
         ·intro h1
          apply Classical.byContradiction;intro h2;have:=hmid j (by omega) (by omega);rw [this] at og;cases og
    ·intro η1 A1 w1 hinv
     rcases hinv with ⟨hD,hinv⟩ | ⟨m,hm2,VI,hcl,IC,r1,τ1,hr1,hf1,hst1,Lu⟩
     ·have alH:∀i,i < ops.size->lM ops (jY ops.toList []) i=false:=by
       intro i hi;cases e:lM ops (jY ops.toList []) i with
       | false=>rfl
       | true=>have:=hD i hi e;simp at this;omega
      have hts:tV rs { h:=hh,next:=c,lock:=σ.lock } = { h:=hh,next:=c,lock:=σ.lock }:=by
       have:=YH (rs:=rs) (σ:={ h:=hh,next:=c,lock:=σ.lock }) rs.length (dH _) λj r' h1 h2=>hfin j r' h2 (alH j (by omega));rwa [yH] at this
      rw [hts] at hK;have alY:iO (fU rs) 0 (λj=>decide (j < ops.size)) σ.h=hh:=by
       rw [h4];exact PN _ _ _ _ (λj hj=>by simp [fU] at hj ⊢;omega)
      have hst:=hinv.st;have htr:=hinv.tr;rw [alY] at hst;rw [Qh] at htr;exact hK η1 A1 w1 ((St.drew h).trans hst) htr
     ·have hts:∀σ1,tV rs σ1=τ1:=by
       intro σ1;have:=YI (σ:=σ1) hr1 hf1 rs.length (by omega) (dH _) λj r' h1 h2 h3=>by
        refine hfin j r' h3 (hfree j ?_);cases og:lH ops j with
        | true=>rfl
        | false=>
          have h9:decide (j < ops.size)=decide (j<=m):=IC j (by omega) og;have h10:decide (j < ops.size)=true:=by simp;omega
          rw [h10] at h9;have:=QZ h9.symm;omega
       rwa [yH] at this
      rw [hts] at hK;rw [Qh] at Lu;exact hK η1 A1 w1 ((St.drew h).trans hst1) Lu
   ·cases hs
  ·cases hs
 ·cases hs
section
variable {call:Caller} {ops:Array Oper} {M:List Nat} {N0 gn n:Nat}
theorem amP {o:Oper} (hf:Wy o=true) {ev:Operand->Option AV} {σ1 σ2 τ:au} {v:Option AV} (hs:lG P call o ev σ1=some (v,τ)):lG P call o ev σ2=some (v,σ2):=by
 obtain ⟨dst,op,type,pos,after,guard⟩:=o;cases op with
 | move x=>
   simp only [sU,pO,dn,aX,kH] at hs ⊢;obtain ⟨u,h1,h2,_⟩:=hs;exact ⟨u,h1,h2,trivial⟩
 | assign x=>
   simp only [sU,pO,dn,aX,kH] at hs ⊢;obtain ⟨u,h1,h2,_⟩:=hs;exact ⟨u,h1,h2,trivial⟩
 | nilCheck x=>
   rw [show lG P call _ ev σ1=Pv P call ev σ1 x from rfl] at hs;rw [show lG P call _ ev σ2=Pv P call ev σ2 x from rfl];unfold Pv at hs ⊢;split at hs<;>simp only [dn,fK,aT,kH,reduceCtorEq] at hs ⊢<;>exact ⟨hs.1,trivial⟩
 | fieldAddr ty x f=>
   rw [show lG P call _ ev σ1=Po P call ev σ1 ty x f from rfl] at hs;rw [show lG P call _ ev σ2=Po P call ev σ2 ty x f from rfl];unfold Po at hs ⊢;split at hs
   ·simp only [dn,aX,kH] at hs ⊢
    obtain ⟨u,h1,h2,_⟩:=hs;exact ⟨u,h1,h2,trivial⟩
   ·cases hs
 | _=>simp [Wy] at hf
theorem amR {i:Nat} {t:Tr AV} {r:bP} {e:Option (List UInt8×AV)} (h:QD P call ops M N0 gn n i t=some (r,e)):∃o v,ops[i]? = some o/\o.guard=none/\r=LM (N0+1) (lF o v)/\
 ((i=0/\e=none/\v=some (.mp N0)/\∃ty,o.op=.makeMap ty none)\/
  (i≠0/\v=none/\∃ty m k x s u,o.op=.insert ty m k x/\aV.eval { t:=iy t (o.looksAt ops),n:=n,gn:=gn } m=some (.mp N0)/\aV.eval { t:=iy t (o.looksAt ops),n:=n,gn:=gn } k=some (.s s)/\aV.eval { t:=iy t (o.looksAt ops),n:=n,gn:=gn } x=some u/\QB P ty=true/\pX M 0 i=true/\e=some (s,u))\/
  (i≠0/\e=none/\∀σ2,lG P call o (aV.eval { t:=iy t (o.looksAt ops),n:=n,gn:=gn }) σ2=some (v,σ2))):=by
 unfold QD at h;split at h
 ·cases h
 ·next o ho=>
  split at h
  ·cases h
  ·next hg=>
   split at h
   ·next hi=>
    have hi:=bf hi;split at h
    ·next ty hop=>
     cases h;exact ⟨o,_,ho,hg,rfl,.inl ⟨hi,rfl,rfl,ty,hop⟩⟩
    ·cases h
   ·next hi=>
    have hi:i≠0:=λe=>by subst e;exact hi rfl
    split at h
    ·next ty m k x hop=>
     split at h
     ·next id s u e1 e2 e3=>
      split at h
      ·next hc=>
       cases h;simp only [aI] at hc;have:=bf hc.1.1;subst this;exact ⟨o,_,ho,hg,rfl,.inr (.inl ⟨hi,rfl,ty,m,k,x,s,u,hop,e1,e2,e3,hc.1.2,hc.2,rfl⟩)⟩
      ·cases h
     ·cases h
    ·split at h
     ·next hf=>
      split at h
      ·next v τ hv=>
       cases h;exact ⟨o,v,ho,hg,rfl,.inr (.inr ⟨hi,rfl,λσ2=>amP hf hv⟩)⟩
      ·cases h
     ·cases h
theorem ac2:∀ (m i:Nat) (t:Tr AV) (l:List (bP×Option (List UInt8×AV))) (t':Tr AV),QA P call ops M N0 gn n m i t=some (l,t')->
 l.length=m/\t'=gZ (iE (l.map (·.1))) t/\∀ (k:Nat) r,l[k]? = some r->QD P call ops M N0 gn n (i+k) (gZ ((iE (l.map (·.1))).take k) t)=some r
 | 0,i,t,l,t',h=>by
   cases h;exact ⟨rfl,rfl,λk r hr=>by simp at hr⟩
 | m+1,i,t,l,t',h=>by
   unfold QA at h;split at h
   ·cases h
   ·next r hr=>
    split at h
    ·cases h
    ·next l2 t2 hl=>
     cases h;obtain ⟨h1,h2,h3⟩:=ac2 m _ _ _ _ hl;refine ⟨by simp [h1],by rw [h2];rfl,λk r' hk=>?_⟩;cases k with
     | zero=>simp only [iQ,aT] at hk;subst hk;exact hr
     | succ k=>
       simp only [qp] at hk;have:=h3 k r' hk;rw [show i+1+k=i+(k+1) by omega] at this;exact this
theorem UY:∀ (es:List (Option (List UInt8×AV))) (k:Nat) (D:Nat->Bool),(∀ (j:Nat) e,es[j]? = some (some e)->D (k+j)=false)->jy es k D=[]
 | [],_,_,_=>rfl
 | none::l,k,D,h=>by
   rw [jy];exact UY l (k+1) D λj e hj=>by have:=h (j+1) e (by simpa using hj);rwa [show k+(j+1)=k+1+j by omega] at this
 | some x::l,k,D,h=>by
   have h0:=h 0 x (by simp);simp only [jR] at h0;rw [jy,h0];exact UY l (k+1) D λj e hj=>by have:=h (j+1) e (by simpa using hj);rwa [show k+(j+1)=k+1+j by omega] at this
theorem UW:∀ (es:List (Option (List UInt8×AV))) (k:Nat) (D:Nat->Bool),(∀j,j < es.length->D (k+j)=true)->jy es k D=es.filterMap id
 | [],_,_,_=>rfl
 | none::l,k,D,h=>by
   rw [jy,UW l (k+1) D λj hj=>by have:=h (j+1) (by simpa using hj);rwa [show k+(j+1)=k+1+j by omega] at this];rfl
 | some x::l,k,D,h=>by
   have h0:=h 0 (by simp);simp only [jR] at h0;rw [jy,h0,UW l (k+1) D λj hj=>by have:=h (j+1) (by simpa using hj);rwa [show k+(j+1)=k+1+j by omega] at this];rfl
theorem Pg:∀ (es:List (Option (List UInt8×AV))) (k:Nat) (D E:Nat->Bool),(∀ (j:Nat) e,es[j]? = some (some e)->D (k+j)=E (k+j))->jy es k D=jy es k E
 | [],_,_,_,_=>rfl
 | none::l,k,D,E,h=>by
   rw [jy,jy];exact Pg l (k+1) D E λj e hj=>by have:=h (j+1) e (by simpa using hj);rwa [show k+(j+1)=k+1+j by omega] at this
 | some x::l,k,D,E,h=>by
   have h0:=h 0 x (by simp);simp only [jR] at h0;rw [jy,jy,h0,Pg l (k+1) D E λj e hj=>by have:=h (j+1) e (by simpa using hj);rwa [show k+(j+1)=k+1+j by omega] at this]
theorem UU:∀ (es:List (Option (List UInt8×AV))) (k i:Nat) (D:Nat->Bool) (e:List UInt8×AV),es[i]? = some (some e)->D (k+i)=false->(jy es k (gB D (k+i))).Perm (e::jy es k D)
 | [],_,i,_,_,h,_=>by simp at h
 | x::l,k,0,D,e,h,hD=>by
   simp only [iQ,aT] at h;subst h;simp only [jR] at hD ⊢;have h1:gB D k k=true:=by unfold gB;simp
   rw [jy,jy,h1,hD,Pg l (k+1) (gB D k) D λj e' _=>by unfold gB;rw [vY (by omega),Cc]];exact Zj _
 | none::l,k,i+1,D,e,h,hD=>by
   rw [jy,jy,show k+(i+1)=k+1+i by omega] at *;exact UU l (k+1) i D e (by simpa using h) hD
 | some x::l,k,i+1,D,e,h,hD=>by
   have h1:gB D (k+(i+1)) k=D k:=by unfold gB;rw [vY (by omega),Cc]
   rw [jy,jy,h1];have ih:=UU l (k+1) i D e (by simpa using h) (by rwa [show k+1+i=k+(i+1) by omega]);rw [show k+1+i=k+(i+1) by omega] at ih;cases D k with
   | true=>exact (ih.cons x).trans (List.Perm.swap e x _)
   | false=>exact ih
theorem Ph:∀ (es:List (Option (List UInt8×AV))) (k:Nat) (D:Nat->Bool),∀e∈jy es k D,∃j,es[j]? = some (some e)/\D (k+j)=true
 | [],_,_,e,h=>by simp [jy] at h
 | none::l,k,D,e,h=>by
   rw [jy] at h;obtain ⟨j,h1,h2⟩:=Ph l (k+1) D e h;exact ⟨j+1,by simpa using h1,by rwa [show k+(j+1)=k+1+j by omega]⟩
 | some x::l,k,D,e,h=>by
   rw [jy] at h;split at h
   ·next hk=>
    rcases bC.1 h with rfl | h
    ·exact ⟨0,by simp,by simpa using hk⟩
    ·obtain ⟨j,h1,h2⟩:=Ph l (k+1) D e h
     exact ⟨j+1,by simpa using h1,by rwa [show k+(j+1)=k+1+j by omega]⟩
   ·obtain ⟨j,h1,h2⟩:=Ph l (k+1) D e h
    exact ⟨j+1,by simpa using h1,by rwa [show k+(j+1)=k+1+j by omega]⟩
theorem adU:∀ {l:List (List UInt8)},QW l=true->l.Nodup
 | [],_=>List.nodup_nil
 | s::l,h=>by
   simp only [QW,aI,wK] at h;refine ZA.2 ⟨λhm=>?_,adU h.2⟩;have:(l.any λx=>x==s)=true:=List.any_eq_true.2 ⟨s,hm,by simp⟩;rw [h.1] at this;cases this
theorem WW:∀ {es:List (Option (List UInt8×AV))},((es.filterMap id).map (·.1)).Nodup->∀ (i j:Nat) e f,es[i]? = some (some e)->es[j]? = some (some f)->i≠j->e.1≠f.1
 | [],_,i,j,e,f,h,_,_=>by simp at h
 | none::l,hn,i,j,e,f,h1,h2,hne=>by
   cases i with
   | zero=>simp at h1
   | succ i=>
     cases j with
     | zero=>simp at h2
     | succ j=>exact WW (es:=l) (by simpa using hn) i j e f (by simpa using h1) (by simpa using h2) (by omega)
 | some x::l,hn,i,j,e,f,h1,h2,hne=>by
   simp only [List.filterMap_cons_some (f:=id) (a:=some x) (b:=x) rfl,gV,ZA,nO,not_exists,not_and] at hn;have mem:∀ (k:Nat) g,l[k]? = some (some g)->g∈l.filterMap id:=λk g hk=>List.mem_filterMap.2 ⟨some g,oL hk,rfl⟩;cases i with
   | zero=>
     simp only [iQ,aT] at h1;subst h1;cases j with
     | zero=>exact absurd rfl hne
     | succ j=>exact λe'=>hn.1 f (mem j f (by simpa using h2)) e'.symm
   | succ i=>
     cases j with
     | zero=>
       simp only [iQ,aT] at h2;subst h2;exact λe'=>hn.1 e (mem i e (by simpa using h1)) e'
     | succ j=>exact WW hn.2 i j e f (by simpa using h1) (by simpa using h2) (by omega)
theorem abJ {s:List UInt8}:∀ (es:List (AV×AV)) (i:Nat),(∀e∈es,∃t,e.1=.s t/\t≠s)->y9 (.s s) es i=some none
 | [],_,_=>rfl
 | e::es,i,h=>by
   obtain ⟨t,h1,h2⟩:=h e (by simp);have hk:LH (.s s) e.1=some false:=by
    rw [h1];simp only [LH,aT,beq_eq_false_iff_ne,ne_eq];exact λe'=>h2 e'.symm
   unfold y9;rw [hk];exact abJ es (i+1) λe he=>h e (by simp [he])
theorem St.weak {η η1:Env} {σ τ:au} {w w1:World} (h:St P η σ w η1 τ w1) {id:Nat} {o o':aY} (hg:τ.get id=some o) (ho:o'.own=o.own) (hl:Live P η1 w1 id o'):St P η σ w η1 (τ.put id o') w1:=
 { h with
   rel:=h.rel.swap hg ho hl
   own:=λid2 o2 q a b c d=>by
    rw [au.get_put] at a;split at a
    ·next e=>cases a;subst e;exact h.own id2 o q hg (by rw [<- ho];exact b) c d
    ·exact h.own id2 o2 q a b c d }
theorem ao1 {η:Env} {q:Place} {w:World} {es:List (List UInt8×AV)} {es':List (AV×AV)} (hn:(es.map (·.1)).Nodup) (hp:es'.Perm (es.map λe=>(AV.s e.1,e.2))) (h:OR P η q w (.map es')):OR P η q w (.pmap es):=by
 obtain ⟨ms,clock,h1,h2,h3⟩:=h;refine ⟨hn,ms,clock, ?_⟩;have key:∀ (l l':List (AV×AV)),l.Perm l'->∀ms:List MapEntry,wO η l ms->∃ms',ms.Perm ms'/\wO η l' ms':=by
  intro l l' hp;induction hp with
  | nil=>exact λms h=>⟨ms,Zj _,h⟩
  | cons x hp ih=>
    intro ms h;obtain ⟨m,rest,rfl,a,b,c⟩:=h.tail;obtain ⟨ms',h1,h2⟩:=ih rest c;refine ⟨m::ms',h1.cons m,by simp [h2.1],λk e hk=>?_⟩;cases k with
    | zero=>simp only [iQ,aT] at hk;subst hk;exact ⟨m,by simp,a,b⟩
    | succ k=>simpa using h2.2 k e (by simpa using hk)
  | swap x y l=>
    intro ms h;obtain ⟨m,rest,rfl,a,b,c⟩:=h.tail;obtain ⟨m2,apW,rfl,a2,b2,c2⟩:=c.tail;refine ⟨m2::m::apW,List.Perm.swap _ _ _,by simp [c2.1],λk e hk=>?_⟩;match k with
    | 0=>simp only [iQ,aT] at hk;subst hk;exact ⟨m2,by simp,a2,b2⟩
    | 1=>simp only [qp,iQ,aT] at hk;subst hk;exact ⟨m,by simp,a,b⟩
    | k+2=>simpa using c2.2 k e (by simpa using hk)
  | trans _ _ ih1 ih2=>
    intro ms h;obtain ⟨ms1,a,b⟩:=ih1 ms h;obtain ⟨ms2,c,d⟩:=ih2 ms1 b;exact ⟨ms2,a.trans c,d⟩
 obtain ⟨ms',a,b⟩:=key _ _ hp ms.toList ⟨by simpa using h2,λk e hk=>by obtain ⟨m,hm,x,y⟩:=h3 k e hk;exact ⟨m,by simpa using hm,x,y⟩⟩;refine ⟨ms',h1,a,by simpa using b.1,λk e hk=>?_⟩;obtain ⟨m,hm,x,y⟩:=b.2 k (AV.s e.1,e.2) (by rw [iF,hk];rfl);exact ⟨m,hm,by simpa only [VR] using x,y⟩
theorem amQ {t:TypeId} (h:QB P t=true):∃kt et,P.underlying t=some (.map kt et)/\P.underlying kt=some .string:=by
 unfold QB at h;split at h
 ·next kt et hu=>
  split at h
  ·next hk=>exact ⟨kt,et,hu,hk⟩
  ·cases h
 ·cases h
end
theorem amT (hm:P.follows .mixedOrders=true):JG P (Wx P):=by
 intro call hcall ops a σ a' σ' hs η w A rid Q h ht hK;unfold Wx at hs;split at hs;rotate_left
 ·cases hs
 next hlit=>
 simp only at hs;split at hs;rotate_left
 ·cases hs
 next hok=>
 simp only [aI] at hok;split at hs;rotate_left
 ·cases hs
 next l t hgo=>
 split at hs;rotate_left
 ·cases hs
 next uO=>
 simp only [aI] at uO;obtain ⟨⟨IQ,hsl⟩,alF⟩:=uO;have hnd:=adU alF;obtain ⟨hlen,ht',hone⟩:=ac2 _ _ _ _ _ hgo;have acs:=qE hok.2;have hes:l.filterMap (·.2)=(l.map (·.2)).filterMap id:=by rw [List.filterMap_map];rfl
 rw [hes] at hs hnd;have ent:∀ (j:Nat) e,(l.map (·.2))[j]? = some (some e)->∃r,l[j]? = some (r,some e):=λj e hj=>by
  rw [iF] at hj;obtain ⟨x,h1,h2⟩:=aX.1 hj;exact ⟨x.1,by rw [h1,<- h2]⟩
 have aeV:∀ (i:Nat) r,(l.map (·.1))[i]? = some r->∃e,l[i]? = some (r,e):=λi r hr=>by
  rw [iF] at hr;obtain ⟨x,h1,h2⟩:=aX.1 hr;exact ⟨x.2,by rw [h1,<- h2]⟩
 have spec:∀ (i:Nat) r e,l[i]? = some (r,e)->_:=λi r e hr=>amR (hone i (r,e) hr);simp only [jk] at spec
 have C:oK ops (jY ops.toList []) (l.map (·.1)) a.n (σ.next+1):={
  hM:=rfl
  WQ:=hok.1
  len:=by simpa using hlen
  pairs:=by
   refine aea IQ ?_ λi r hr=>?_
   ·unfold O6
    rw [List.all_eq_true];intro p hp;obtain ⟨s,j⟩:=p;rw [Zz] at hp;obtain ⟨e,he⟩:=aeV j s (by simpa using hp);obtain ⟨o,v,_,_,h3,_⟩:=spec j s e he;subst h3;simp [LM]
   ·obtain ⟨e,he⟩:=aeV i r hr
    obtain ⟨o,v,h1,_,h3,_⟩:=spec i r e he;subst h3;exact ⟨o,v,h1,rfl⟩
  slot:=by
   intro i r hr;unfold RF at hsl;rw [List.all_eq_true] at hsl;have:=hsl r (oL hr);simp only [aI] at this;refine ⟨Nat.le_of_ble_eq_true this.1,λp hpm=>?_⟩;have h8:=this.2;rw [List.all_eq_true] at h8;have:=h8 p hpm;rwa [iK] at this }
 refine wp_region_any hm ?_;have hempty:inB (Array.replicate ops.size false)=λ_=>false:=by
  funext j;unfold inB;rw [wJ,agn];split<;>rfl
 have hno:∀ {α:Type} (us:List (List (Nat×Option α))) (k:Nat) (t:Tr α),iO us k (λ_=>false) t=t:=by
  intro α us;induction us with
  | nil=>intro k t;rfl
  | cons u us ih=>intro k t;rw [iO];simp only [fV,if_false];exact ih _ _
 have Qh:iO (iE (l.map (·.1))) 0 (λj=>decide (j < ops.size)) a.t=t:=by
  rw [ht'];exact PN _ _ _ _ (λj hj=>by simp [iE] at hj ⊢;omega)
 cases hs;let wd:World:={ w with drawn:=w.drawn+1 }
 have Vj:∀o,(σ.new o).get σ.next=some o:=λo=>by rw [au.oQ];simp
 have aeR:∀o o' id x,(σ.new o').get id=some x->((σ.new o).put σ.next o').get id=some x:=λo o' id x hx=>by
  rw [au.get_put];rw [au.oQ] at hx ⊢;by_cases e:id=σ.next
  ·rw [aj e] at hx ⊢;exact hx
  ·rw [ah e] at hx ⊢;rw [ah e];exact hx
 have hpos:0 < ops.size/\∃ty o,ops[0]? = some o/\o.op=.makeMap ty none:=by
  unfold isLit at hlit;split at hlit
  ·next o ho=>
   split at hlit
   ·next ty hop=>exact ⟨(nN.1 ho).1,ty,o,ho,hop⟩
   ·cases hlit
  ·cases hlit
 refine aae C (λD η1 w1 A1=>Closed ops D/\TR P η1 { t:=iO (iE (l.map (·.1))) 0 D a.t,n:=a.n,gn:=a.gn } A1/\(D 0=false->St P η σ wd η1 σ w1)/\
  (D 0=true->∃es',es'.Perm ((jy (l.map (·.2)) 0 D).map λe=>(AV.s e.1,e.2))/\St P η σ wd η1 (σ.new (.map es')) w1)) ?_ ?_ ops.size (Array.replicate ops.size false) η _ A (by simp) (by simp) ?_
 ·intro D η1 w1 A1 i K Q' hinv hil hi xY hK'
  obtain ⟨hcl,htr,IQ,hst1⟩:=hinv;obtain ⟨o,ho⟩:∃o,ops[i]? = some o:=⟨ops[i],by simp [hil]⟩
  obtain ⟨⟨r,e⟩,hl⟩:∃x,l[i]? = some x:=⟨_,bM (by rw [hlen];exact hil)⟩
  have hr:(l.map (·.1))[i]? = some r:=by rw [iF,hl];rfl
  have fH:=xY o ho;obtain ⟨o',v,ho',hg,hrec,hcase⟩:=spec i r e hl;rw [ho] at ho';cases ho';have hact:TR P η1 { t:=iy (gZ ((iE (l.map (·.1))).take i) a.t) (o.looksAt ops),n:=a.n,gn:=a.gn } A1:=by
   refine ⟨htr.gn,htr.size,htr.none,λd v hv=>?_⟩;rw [xU] at hv;split at hv
   ·next hd=>
    rw [C.Yl (a0:=a) hcl ho hr hi fH hd] at hv;exact htr.slot d v hv
   ·cases hv
  have hnext:=λd=>C.KY (a0:=a) hcl ho hr hi fH d;have acA:=(C.slot i r hr).2;have xX:=OY hcl xY;rw [hrec] at hnext acA;have hw:BZ o ops { t:=iy (gZ ((iE (l.map (·.1))).take i) a.t) (o.looksAt ops),n:=a.n,gn:=a.gn }=some true:=by
   unfold BZ;rw [hg]
  have step:∀ {τ τ':au},SR P η1 τ w1->pO P call o (aV.eval { t:=iy (gZ ((iE (l.map (·.1))).take i) a.t) (o.looksAt ops),n:=a.n,gn:=a.gn }) τ=some (v,τ')->
   (∀η' A' w',St P η1 τ w1 η' τ' w'->TR P η' { t:=iO (iE (l.map (·.1))) 0 (gB D i) a.t,n:=a.n,gn:=a.gn } A'->K A' w')->wpOp P ops Q' i K A1 w1:=by
   intro τ τ' hsr hop hk;unfold wpOp;rw [ho];simp only;rw [Cb hact hw];simp only [if_true];left;exact Oh hsr hcall hact hop λx η' w' hst2 hx=>hk η' _ w' hst2 (htr.add hst2.ext hnext acA hx)
  have other:e=none->i≠0->jy (l.map (·.2)) 0 (gB D i)=jy (l.map (·.2)) 0 D:=by
   intro he _;refine Pg _ _ _ _ λj f hj=>?_;simp only [jk];have:j≠i:=by
    rintro rfl
    obtain ⟨r2,h2⟩:=ent j f hj;rw [hl,he] at h2;cases h2
   unfold gB;rw [vY this,Cc]
  rcases hcase with ⟨hi0,he,hv,ty,hop⟩ | ⟨hi0,hv,ty,m,k,x,s,u,hop,e1,e2,e3,hlk,hord,he⟩ | ⟨hi0,he,hfr⟩
  ·
    subst hi0;have hst:=IQ hi;have alI:∀ (j:Nat) f,(l.map (·.2))[j]? = some (some f)->D j=false:=by
     intro j f hj;obtain ⟨r2,h2⟩:=ent j f hj;obtain ⟨o2,v2,ho2,_,_,hc2⟩:=spec j r2 _ h2;rcases hc2 with ⟨_,hx,_⟩ | ⟨_,_,_,_,_,_,_,_,_,_,_,_,_,alL,_⟩ | ⟨_,hx,_⟩
     ·cases hx
     ·cases xW:D j with
      | false=>rfl
      | true=>
        have:=C.nS hcl j o2 ho2 (λe' he' hb=>hcl j o2 xW ho2 e' he' hb) 0 alL;rw [hi] at this;cases this
     ·cases hx
    refine step hst.rel (τ':=σ.new (.map [])) ?_ λη' A' w' hst2 EO=>hK' η' A' w' ⟨xX,EO,λh0=>?_,λ_=>⟨[], ?_,hst.trans hst2⟩⟩
    ·have h14:∀ev,lG P call o ev σ=abG P call ev σ ty none:=λev=>by unfold lG;rw [hop];rfl
     rw [hv,<- sU,h14];rfl
    ·exfalso
     unfold gB at h0;simp at h0
    ·have hz:jy (l.map (·.2)) 0 (gB D 0)=[]:=by
      refine UY _ _ _ λj f hj=>?_;simp only [jk];have h1:=alI j f hj;have:j≠0:=by
       rintro rfl
       obtain ⟨r2,h2⟩:=ent 0 f hj;rw [hl,he] at h2;cases h2
      unfold gB;rw [vY this,h1];rfl
     rw [hz];exact Zj _
  ·
    have hD0:D 0=true:=C.nS hcl i o ho fH 0 hord;obtain ⟨es',hperm,hst⟩:=hst1 hD0;obtain ⟨kt,et,hu1,hu2⟩:=amQ hlk;have hel:(l.map (·.2))[i]? = some (some (s,u)):=by rw [iF,hl,he];rfl
    have hfind:y9 (.s s) es' 0=some none:=by
     refine abJ es' 0 λf hf=>?_;have hf2:=hperm.mem_iff.1 hf;obtain ⟨g,hg1,hg2⟩:=nO.1 hf2;obtain ⟨j,hj1,hj2⟩:=Ph _ _ _ g hg1;simp only [jk] at hj2;refine ⟨g.1,by rw [<- hg2], ?_⟩;exact WW hnd j i g (s,u) hj1 hel (by rintro rfl;rw [hi] at hj2;cases hj2)
    refine step hst.rel (τ':=(σ.new (.map es')).put σ.next (.map (es'++[(.s s,u)]))) ?_ λη' A' w' hst2 EO=>hK' η' A' w' ⟨xX,EO,λh0=>?_,λ_=>⟨es'++[(.s s,u)], ?_, ?_⟩⟩
    ·have hfit:Ip P kt (.s s)=true:=by unfold Ip;rw [hu2]
     have hup:Hl P ty (.mp σ.next) (.s s) u (σ.new (.map es'))=some ((σ.new (.map es')).put σ.next (.map (es'++[(.s s,u)]))):=by
      unfold Hl;rw [hu1];simp only [Vj];rw [aj ⟨acs,hfit⟩,hfind]
     have h22:∀ev,lG P call o ev (σ.new (.map es'))=Pq P call ev (σ.new (.map es')) ty m k x:=λev=>by unfold lG;rw [hop];rfl
     rw [hv,<- sU,h22];unfold Pq;rw [e1,e2,e3];simp only [hup,jC,F7,fK]
    ·exfalso
     unfold gB at h0;rw [hD0] at h0;simp at h0
    ·have hp2:=UU (l.map (·.2)) 0 i D (s,u) hel (by simpa using hi)
     simp only [jk] at hp2;refine List.Perm.trans ?_ (hp2.map λe=>(AV.s e.1,e.2)).symm;rw [gV];exact (List.perm_append_singleton _ _).trans (hperm.cons _)
    ·refine (hst.trans hst2).sub (λid' x' hx'=>aeR _ _ _ _ hx') ?_ rfl
     exact dH _
  ·
    cases hD0:D 0 with
    | false=>
      have hst:=IQ hD0;refine step hst.rel (τ':=σ) (by rw [<- sU];exact hfr σ) λη' A' w' hst2 EO=>hK' η' A' w' ⟨xX,EO,λ_=>hst.trans hst2,λh0=>?_⟩;exfalso;unfold gB at h0;rw [hD0,vY (λe'=>hi0 e'.symm)] at h0;cases h0
    | true=>
      obtain ⟨es',hperm,hst⟩:=hst1 hD0;refine step hst.rel (τ':=σ.new (.map es')) (by rw [<- sU];exact hfr _) λη' A' w' hst2 EO=>hK' η' A' w' ⟨xX,EO,λh0=>?_,λ_=>⟨es',by rw [other he hi0];exact hperm,hst.trans hst2⟩⟩;exfalso;unfold gB at h0;rw [hD0] at h0;simp at h0
 ·intro η1 A1 w1 hinv
  obtain ⟨hcl,htr,_,hst1⟩:=hinv;obtain ⟨es',hperm,hst⟩:=hst1 (by simpa using hpos.1);rw [UW _ _ _ (λj hj=>by simp at hj ⊢;omega)] at hperm;rw [Qh] at htr;refine hK η1 A1 w1 ((St.drew h).trans ?_) htr;obtain ⟨q,hq,hor⟩:=hst.rel.obj σ.next _ (Vj _) rfl;have:=hst.weak (o':=.pmap ((l.map (·.2)).filterMap id)) (Vj _) rfl (.inl ⟨q,hq,ao1 hnd hperm hor⟩);exact this.sub (λid' x' hx'=>aeR _ _ _ _ hx') (dH _) rfl
 ·rw [hempty]
  refine ⟨λi o hi=>by simp at hi, ?_,λ_=>St.refl h.drew,λh0=>by simp at h0⟩;rw [hno];exact ⟨ht.gn,ht.size,ht.none,ht.slot⟩
theorem abk (hm:P.follows .mixedOrders=true):JG P (N7 P):=by
 intro call hcall ops a σ a' σ' hs;unfold N7 at hs;split at hs
 ·next r hr=>cases hs;exact amT hm call hcall ops a σ a' σ' hr
 ·exact ajJ hm call hcall ops a σ a' σ' hs
end
end Go.aJ
