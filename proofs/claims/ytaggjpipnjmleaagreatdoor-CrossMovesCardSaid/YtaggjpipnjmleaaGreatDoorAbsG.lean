/- Regions whose order Go leaves open: one operation keeps the invariant. -/
import Derived.Test.YtaggjpipnjmleaaGreatDoorAbsF
namespace Go.aJ
set_option linter.unusedSimpArgs false
noncomputable section
variable [aH]
set_option linter.unusedSectionVars false
set_option linter.unusedVariables false
variable {P:Program}
structure zq (P:Program) (ops:Array Oper) (rs:List bZ) (a0:aY) (σ0:ay) (cf:Nat) (η0:Env) (w0:World) (D:Nat->Bool) (η:Env) (w:World) (A:Act):Prop where
 closed:Closed ops D
 st:St P η0 σ0 w0 η { h:=iK (gq rs) 0 D σ0.h,next:=cf,lock:=σ0.lock } w
 tr:TR P η { t:=iK (iH rs) 0 D a0.t,n:=a0.n,gn:=a0.gn } A
 dm:∀id,η.has id->id < σ0.next\/(∃k,k < ops.size/\D k=true/\id=σ0.next+k)\/(∃ (j:Nat) (r:bZ),rs[j]? = some r/\D j=true/\r.base<=id/\id < r.next)
theorem TR.add {η η':Env} {T T':Tr AV} {n gn:Nat} {A:Act} {o:Oper} {v:Option AV} {x:Value} (h:TR P η { t:=T,n:=n,gn:=gn } A) (hle:η.le η') (hg:∀d,T'.get d=(eX (lD o v) d).getD (T.get d))
 (hb:∀p∈lD o v,p.1 < n) (hv:∀u,v=some u->VR η' u x):TR P η' { t:=T',n:=n,gn:=gn } (A.put o.dst x):=by
 have h':=h.mono hle;unfold lD at hg hb;cases hd:o.dst with
 | none=>
   rw [hd] at hg;refine ⟨h.gn,h.size,h.none,λd u hu=>?_⟩;rw [hg] at hu;exact h'.slot d u hu
 | some d0=>
   rw [hd] at hg hb;have hd0:=hb (d0,v) (by simp);refine ⟨h.gn,by have:=h.size;simpa [Act.put] using this,h.none,λd u hu=>?_⟩;rw [hg] at hu;simp only [eX] at hu;show ∃y,(A.tmps.setIfInBounds d0 x)[d]? = some y/\_
   rw [zo];by_cases e:d=d0
   ·subst e
    rw [aj rfl,aj (by have:=h.size;simp only at this hd0;omega)];rw [aj rfl] at hu;exact ⟨x,rfl,hv u hu⟩
   ·rw [ah (λe'=>e e'.symm)]
    rw [ah e] at hu;exact h'.slot d u hu
section
variable {call:Caller} {ops:Array Oper} {M:List Nat} {rs:List bZ} {a0:aY} {σ0:ay} {cf:Nat} {η0 η:Env} {w0 w:World} {D:Nat->Bool} {A:Act} {i nn N0:Nat} {o:Oper} {r:bZ}
def gI (D:Nat->Bool) (i:Nat):Nat->Bool:=λj=>D j || Nat.beq j i
theorem asb {rs:List bZ} {i:Nat} {r:bZ} (h:rs[i]? = some r):(gq rs)[i]? = some r.upd:=by simp [gq,h]
theorem aq6 {rs:List bZ} {i:Nat} {r:bZ} (h:rs[i]? = some r):(iH rs)[i]? = some r.slot:=by simp [iH,h]
theorem Lu {rs:List bZ} {i:Nat} {u:List (Nat×Option bn)} (h:(gq rs)[i]? = some u):∃r,rs[i]? = some r/\r.upd=u:=by simpa [gq] using h
theorem aej {rs:List bZ} {i:Nat} {u:List (Nat×Option AV)} (h:(iH rs)[i]? = some u):∃r,rs[i]? = some r/\r.slot=u:=by simpa [iH] using h
theorem Ii {N0 i j:Nat} {r s:bZ} {o:Oper} (ho:ops[i]? = some o) (h:KQ ops N0 i j r s=true):nH (keysOf r.slot) (keysOf s.slot)=true/\nH (o.looksAt ops) (keysOf s.slot)=true/\nH (keysOf r.upd) (keysOf s.upd)=true/\
 (∀l,r.vis=some l->nH l (keysOf s.upd)=true)/\(r.vis=none->i < j->(∀k∈keysOf s.upd,N0<=k)/\nH r.loc (keysOf s.upd)=true/\s.base=s.next)/\(r.vis=none->i≠j->j < i\/i < j):=by
 unfold KQ at h;rw [ho] at h;simp only [aI] at h;obtain ⟨⟨⟨h1,h2⟩,h3⟩,h4⟩:=h;refine ⟨h1,h2,h3, ?_, ?_,λ_ hne=>by omega⟩
 ·intro l hl;rw [hl] at h4;exact h4
 ·intro hn hij
  rw [hn] at h4;simp only [lM,aI] at h4;rcases h4 with h4 | ⟨⟨h5,h6⟩,h7⟩
  ·rw [je] at h4;omega
  ·refine ⟨λk hk=>?_,h6,bF h7⟩
   rw [List.all_eq_true] at h5;exact pW (h5 k hk)
theorem og.aa2 (C:og ops M rs nn N0) (hD:Closed ops D) (ho:ops[i]? = some o) (hr:rs[i]? = some r) (hi:D i=false) (fK:∀e∈o.after.toList,Region.binds .any e=true->D e.on=true) (b:Nat) :
 (iK (gq rs) 0 (gI D i) σ0.h).get b=(eX r.upd b).getD ((iK (gq rs) 0 D σ0.h).get b):=by
 rw [zV,zV];have:=Vg (gq rs) 0 i D b r.upd (asb hr) (by simpa using hi) (λj v hj hij xE hne=>by
  obtain ⟨s,hs,rfl⟩:=Lu hj;have hjl:j < ops.size:=by have:=(dU.1 hs).1;rw [C.len] at this;exact this
  have hun:=C.open_ hD ho hi fK hjl (by simp at xE;rw [xE];simp;omega);have hp:=Ii ho (C.pairs i j r s hr hs hun);exact KA (JM hp.2.2.1 ((wz _ _).1 hne)))
 simp only [iV] at this;unfold gI;rw [this];cases eX r.upd b<;>rfl
theorem og.JX (C:og ops M rs nn N0) (hD:Closed ops D) (ho:ops[i]? = some o) (hr:rs[i]? = some r) (hi:D i=false) (fK:∀e∈o.after.toList,Region.binds .any e=true->D e.on=true) (b:Nat) :
 (iK (iH rs) 0 (gI D i) a0.t).get b=(eX r.slot b).getD ((iK (iH rs) 0 D a0.t).get b):=by
 rw [zV,zV];have:=Vg (iH rs) 0 i D b r.slot (aq6 hr) (by simpa using hi) (λj v hj hij xE hne=>by
  obtain ⟨s,hs,rfl⟩:=aej hj;have hjl:j < ops.size:=by have:=(dU.1 hs).1;rw [C.len] at this;exact this
  have hun:=C.open_ hD ho hi fK hjl (by simp at xE;rw [xE];simp;omega);have hp:=Ii ho (C.pairs i j r s hr hs hun);exact KA (JM hp.1 ((wz _ _).1 hne)))
 simp only [iV] at this;unfold gI;rw [this];cases eX r.slot b<;>rfl
theorem og.Xl (C:og ops M rs nn N0) (hD:Closed ops D) (ho:ops[i]? = some o) (hr:rs[i]? = some r) (hi:D i=false) (fK:∀e∈o.after.toList,Region.binds .any e=true->D e.on=true) {d:Nat} (hd:d∈o.looksAt ops) :
 (gY ((iH rs).take i) a0.t).get d=(iK (iH rs) 0 D a0.t).get d:=by
 rw [Gz (iH rs) i 0,zV];congr 1;refine G5 _ _ _ _ _ λj u hj hne=>?_;obtain ⟨s,hs,rfl⟩:=aej hj;have hjl:j < ops.size:=by have:=(dU.1 hs).1;rw [C.len] at this;exact this
 simp only [iV] at hne;have hun:=C.open_ hD ho hi fK hjl (λe=>hne e.symm);have hp:=Ii ho (C.pairs i j r s hr hs hun);exact KA (JM hp.2.1 hd)
theorem og.aqT (C:og ops M rs nn N0) (hD:Closed ops D) (ho:ops[i]? = some o) (hr:rs[i]? = some r) (hi:D i=false) (fK:∀e∈o.after.toList,Region.binds .any e=true->D e.on=true) {l:List Nat} (hv:r.vis=some l) {b:Nat} (hb:b∈l) :
 (gY ((gq rs).take i) σ0.h).get b=(iK (gq rs) 0 D σ0.h).get b:=by
 rw [Gz (gq rs) i 0,zV];congr 1;refine G5 _ _ _ _ _ λj u hj hne=>?_;obtain ⟨s,hs,rfl⟩:=Lu hj;have hjl:j < ops.size:=by have:=(dU.1 hs).1;rw [C.len] at this;exact this
 simp only [iV] at hne;have hun:=C.open_ hD ho hi fK hjl (λe=>hne e.symm);have hp:=Ii ho (C.pairs i j r s hr hs hun);exact KA (JM (hp.2.2.2.1 l hv) hb)
theorem Ctx.act (C:Ctx P call ops M rs a0 σ0 cf) (hinv:zq P ops rs a0 σ0 cf η0 w0 D η w A) (ho:ops[i]? = some o) (hr:rs[i]? = some r) (hi:D i=false) (fK:∀e∈o.after.toList,Region.binds .any e=true->D e.on=true) :
 TR P η { t:=iC (gY ((iH rs).take i) a0.t) (o.looksAt ops),n:=a0.n,gn:=a0.gn } A:=by
 refine ⟨hinv.tr.gn,hinv.tr.size,hinv.tr.none,λd v hv=>?_⟩;rw [xC] at hv;split at hv
 ·next hd=>
  rw [C.Xl (a0:=a0) hinv.closed ho hr hi fK hd] at hv;exact hinv.tr.slot d v hv
 ·cases hv
theorem Ctx.gen (C:Ctx P call ops M rs a0 σ0 cf) (hcall:pI P call) (hinv:zq P ops rs a0 σ0 cf η0 w0 D η w A) (ho:ops[i]? = some o) (hr:rs[i]? = some r) (hil:i < ops.size) (hi:D i=false)
 (fK:∀e∈o.after.toList,Region.binds .any e=true->D e.on=true) {ηi:Env} {τ τ':ay} {v:Option AV} {a:aY} {K:Act->World->Prop} {Q:Exit->Act->World->Prop}
 (OJ:SR P ηi τ w) (hTi:TR P ηi a A) (hle:ηi.le η) (hro:ηi.ro=η.ro) (hop:oN P call o a.eval τ=some (v,τ')) (J8:r.slot=lD o v)
 (sub:∀id ob,τ.get id=some ob->(iK (gq rs) 0 D σ0.h).get id=some ob) (free:∀id,η.has id->¬ (τ.next<=id/\id < τ'.next))
 (hu:∀b ob,eX r.upd b=some (some ob)->τ'.get b=some ob/\((∃o0,τ.get b=some o0/\o0.own=true)\/(ob.own=true/\τ.get b=none)))
 (IC:∀id ob,τ.get id=some ob->ob.own=true->τ.lock<=id->eX r.upd id≠none) (hlk:σ0.lock<=τ.lock) (GX:∀b,eX r.upd b≠none->τ.lock<=b)
 (hdm:∀id,τ.next<=id->id < τ'.next->σ0.next<=id/\id < cf/\(id=σ0.next+i\/(r.base<=id/\id < r.next)))
 (hK:∀η' A' w',zq P ops rs a0 σ0 cf η0 w0 (gI D i) η' w' A'->K A' w'):o.wp P A w K Q:=by
 refine MX OJ hcall hTi hop λx pG w' hst hx=>?_;let η':Env:=⟨λid=>if τ.next<=id/\id < τ'.next then pG id else η id,pG.ro,λid=>if τ.next<=id/\id < τ'.next then pG.gh id else η.gh id⟩
 have h1:η.le η':=⟨λid q hq=>by
  show (if τ.next<=id/\id < τ'.next then pG id else η id)=some q
  rw [ah (free id (.inl ⟨q,hq⟩))];exact hq,λb o hb=>hst.ext.ro b o (by rw [hro];exact hb),λid hg=>by
  show (if τ.next<=id/\id < τ'.next then pG.gh id else η.gh id)=true
  rw [ah (free id (.inr hg))];exact hg⟩
 have h2:pG.le η':=⟨λid q hq=>by
  show (if τ.next<=id/\id < τ'.next then pG id else η id)=some q
  split
  ·exact hq
  ·next hn=>
   rcases hst.amC hq with h3 | h3
   ·exact hle.pl _ _ h3
   ·exact absurd h3 hn,λ_ _ h=>h,λid hg=>by
  show (if τ.next<=id/\id < τ'.next then pG.gh id else η.gh id)=true
  split
  ·exact hg
  ·next hn=>
   rcases hst.new id (.inr hg) with (⟨q,h3⟩ | h3) | h3
   ·have:=hst.ext.pl _ _ h3
    rw [(hst.rel.jq id hg).1] at this;cases this
   ·exact hle.gh _ h3
   ·exact absurd h3 hn⟩
 have hnew:∀id,η'.has id->η.has id\/(τ.next<=id/\id < τ'.next):=λid hh=>by
  by_cases hn:τ.next<=id/\id < τ'.next
  ·exact .inr hn
  ·left
   rcases hh with ⟨q,hq⟩ | hg
   ·have hq':(if τ.next<=id/\id < τ'.next then pG id else η id)=some q:=hq
    rw [ah hn] at hq';exact .inl ⟨q,hq'⟩
   ·have hg':(if τ.next<=id/\id < τ'.next then pG.gh id else η.gh id)=true:=hg
    rw [ah hn] at hg';exact .inr hg'
 have UC:∀id,η'.gh id=true->η' id=none:=λid hg=>by
  have hg':(if τ.next<=id/\id < τ'.next then pG.gh id else η.gh id)=true:=hg;show (if τ.next<=id/\id < τ'.next then pG id else η id)=none
  split at hg'
  ·next hn=>rw [aj hn];exact (hst.rel.jq id hg').1
  ·next hn=>rw [ah hn];exact (hinv.st.rel.jq id hg').1
 have hg:=C.aa2 (σ0:=σ0) hinv.closed ho hr hi fK;have hdom:∀id,η'.has id->id < cf:=λid hq=>by
  rcases hnew id hq with h3 | ⟨h3,h4⟩
  ·exact hinv.st.rel.hasLt h3
  ·exact (hdm id h3 h4).2.1
 obtain ⟨rel,size,keep,own,oG⟩:=St.merge (σ':={ h:=iK (gq rs) 0 (gI D i) σ0.h,next:=cf,lock:=σ0.lock }) (upd:=r.upd) (η':=η') hinv.st.rel OJ hst sub hle hro rfl h1 h2 hg hu IC hlk GX (λid q hq=>hdom id (.inl ⟨q,hq⟩)) (λid hgi=>⟨UC id hgi,hdom id (.inr hgi)⟩);refine hK η' _ w' ⟨?_, ?_, ?_, ?_⟩
 ·intro k o' hk ho' e he hb
  unfold gI at hk ⊢;simp only [lM] at hk ⊢;rcases hk with hk | hk
  ·exact .inl (hinv.closed k o' hk ho' e he hb)
  ·have:=bF hk;subst this
   rw [ho] at ho';cases ho';exact .inl (fK e he hb)
 ·refine hinv.st.then h1 rel size keep own hst.os hst.tape hst.output rfl (dL _) ?_ oG
  intro id hq;rcases hnew id hq with h3 | ⟨h3,h4⟩
  ·exact .inl h3
  ·exact .inr ⟨(hdm id h3 h4).1,(hdm id h3 h4).2.1⟩
 ·have hg':=C.JX (a0:=a0) hinv.closed ho hr hi fK
  rw [J8] at hg';exact hinv.tr.add h1 hg' (by rw [<- J8];exact (C.slot i r hr).2) (λu hu'=>VR.mono h2 _ _ (hx u hu'))
 ·intro id hq
  have hD':∀k,D k=true->gI D i k=true:=λk hk=>by unfold gI;rw [hk];rfl
  have hii:gI D i i=true:=by unfold gI;simp
  rcases hnew id hq with h3 | ⟨h3,h4⟩
  ·rcases hinv.dm id h3 with h5 | ⟨k,h5,h6,h7⟩ | ⟨j,s,h5,h6,h7⟩
   ·exact .inl h5
   ·exact .inr (.inl ⟨k,h5,hD' k h6,h7⟩)
   ·exact .inr (.inr ⟨j,s,h5,hD' j h6,h7⟩)
  ·obtain ⟨_,_,h5 | h5⟩:=hdm id h3 h4
   ·exact .inr (.inl ⟨i,hil,hii,h5⟩)
   ·exact .inr (.inr ⟨i,r,hr,hii,h5⟩)
end
end
end Go.aJ
namespace Go.aJ
set_option linter.unusedSimpArgs false
noncomputable section
variable [aH]
set_option linter.unusedSectionVars false
set_option linter.unusedVariables false
variable {P:Program}
section
variable {call:Caller} {ops:Array Oper} {M:List Nat} {rs:List bZ} {a0:aY} {σ0:ay} {cf:Nat} {η0 η:Env} {w0 w:World} {D:Nat->Bool} {A:Act} {i:Nat} {o:Oper} {r:bZ}
theorem Vo {l:List Nat} {f:Nat->Option bn} {b:Nat} {x:Option bn} (h:eX (l.map λk=>(k,f k)) b=some x):b∈l/\x=f b:=by
 induction l with
 | nil=>simp [eX] at h
 | cons k l ih=>
   simp only [iU,eX] at h;split at h
   ·next y hy=>cases h;have:=ih hy;exact ⟨by simp [this.1],this.2⟩
   ·split at h
    ·next e=>cases h;subst e;exact ⟨by simp,rfl⟩
    ·cases h
theorem keys_map (l:List Nat) (f:Nat->Option bn):keysOf (l.map λk=>(k,f k))=l:=by
 simp [keysOf,List.map_map,Function.comp_def]
theorem Em {τ:ay}:∀ {n c b:Nat} {x:Option bn},eX (BR τ c n) b=some x->c<=b/\b < c+n/\∀o,x=some o->τ.get b=some o/\o.own=true
 | 0,c,b,x,h=>by simp [BR,eX] at h
 | n+1,c,b,x,h=>by
   simp only [BR,eX] at h;split at h
   ·next y hy=>
    cases h;obtain ⟨h1,h2,h3⟩:=Em hy;exact ⟨by omega,by omega,h3⟩
   ·split at h
    ·next e=>
     subst e;simp only [aV] at h;refine ⟨Nat.le_refl _,by omega,λo ho=>?_⟩;rw [ho] at h;split at h
     ·next o' ho'=>
      split at h
      ·next hown=>cases h;exact ⟨ho',hown⟩
      ·cases h
     ·cases h
    ·cases h
theorem Pn {l m:List (Nat×Option bn)} {b:Nat}:eX (l++m) b=match eX m b with | some x=>some x | none=>eX l b:=by
 induction l with
 | nil=>simp only [dK];cases eX m b<;>rfl
 | cons p l ih=>
   obtain ⟨k,v⟩:=p;simp only [gu,eX,ih];cases eX m b<;>rfl
theorem Ai {h:Tr bn} {lock:Nat} {l:List Nat} {k:Nat}:k∈Ez h lock l↔k∈l/\lock<=k/\∃ob,h.get k=some ob/\ob.own=true:=by
 unfold Ez;rw [Fj,aI];constructor
 ·rintro ⟨h1,h2,h3⟩
  refine ⟨h1,pW h2, ?_⟩;split at h3
  ·next ob hob=>exact ⟨ob,hob,h3⟩
  ·cases h3
 ·rintro ⟨h1,h2,ob,h3,h4⟩
  exact ⟨h1,YL h2,by rw [h3];exact h4⟩
theorem SR.cutAt {η:Env} {σ τ:ay} {w:World} {c:Nat} (h:SR P η σ w) (hg:P.globals.size < c) (hsub:∀id o,τ.get id=some o->σ.get id=some o) (hc:∀id o,τ.get id=some o->id < c/\yH c o=true) (hn:c<=τ.next):SR P (η.cut c) τ w:=by
 have hcut:∀id q,id < c->η id=some q->η.cut c id=some q:=λid q h1 h2=>by simp only [Env.cut];rw [aj h1];exact h2
 refine ⟨λg hgg=>?_,λid q hq=>?_,λid o ho=>?_,λid hg'=>?_,λid o id' o' q q' a1 a2 a3 a4 a5 a6=>?_,h.iM,λid o q a1 a2 a3=>h.kF id o q (hsub _ _ a1) a2 ((Env.Gg _ _).pl _ _ a3),h.tabs⟩
 ·obtain ⟨sz,es,h1⟩:=h.kX g hgg;exact ⟨sz,es,hcut _ _ (by omega) h1⟩
 ·simp only [Env.cut] at hq
  split at hq
  ·omega
  ·cases hq
 ·rcases h.live id o (hsub _ _ ho) with ⟨q,hq,hr⟩ | ⟨hgi,h2⟩
  ·exact .inl ⟨q,hcut _ _ (hc id o ho).1 hq,hr.cut (hc id o ho).2⟩
  ·exact .inr ⟨Env.Z9 (hc id o ho).1 hgi,h2⟩
 ·have hg2:(decide (id < c)&&η.gh id)=true:=hg'
  rw [aI,decide_eq_true_iff] at hg2;exact ⟨by simp only [Env.cut];rw [aj hg2.1];exact (h.jq id hg2.2).1,by omega⟩
 ·exact h.sep id o id' o' q q' (hsub _ _ a1) a2 (hsub _ _ a3) a4 ((Env.Gg _ _).pl _ _ a5) ((Env.Gg _ _).pl _ _ a6)
theorem SR.part {η:Env} {σ τ:ay} {w:World} (h:SR P η σ w) (hsub:∀id o,τ.get id=some o->σ.get id=some o) (hn:∀id,η.has id->id < τ.next):SR P η τ w:=
 ⟨h.kX,λid q hq=>hn id (.inl ⟨q,hq⟩),λid o ho=>h.live id o (hsub id o ho),λid hg=>⟨(h.jq id hg).1,hn id (.inr hg)⟩,λid o id' o' q q' a1 a2 a3 a4 a5 a6=>h.sep id o id' o' q q' (hsub _ _ a1) a2 (hsub _ _ a3) a4 a5 a6,h.iM,λid o q a1 a2 a3=>h.kF id o q (hsub _ _ a1) a2 a3,h.tabs⟩
theorem Js {c:Nat} {h:Tr bn}:∀ {l:List Nat},Jr c h l=true->∀k∈l,k < c/\∀o,h.get k=some o->yH c o=true
 | [],_,k,hk=>by simp at hk
 | x::l,hb,k,hk=>by
   simp only [Jr,aI] at hb;simp only [dO] at hk;rcases hk with rfl | hk
   ·refine ⟨by have:=hb.1.1;rwa [je] at this,λo ho=>?_⟩
    have:=hb.1.2;rw [ho] at this;exact this
   ·exact Js hb.2 k hk
theorem Zg {c:Nat} {t:Tr AV}:∀ {l:List Nat},FV c t l=true->∀k∈l,∀v,t.get k=some v->v.under c=true
 | [],_,k,hk=>by simp at hk
 | x::l,hb,k,hk=>by
   simp only [FV,aI] at hb;simp only [dO] at hk;rcases hk with rfl | hk
   ·intro v hv;have:=hb.1;rw [hv] at this;exact this
   ·exact Zg hb.2 k hk
theorem WM {M:List Nat} {i:Nat}:∀ {rs:List bZ} {k:Nat} {b:Nat},b∉Am M i rs k->∀ (j:Nat) r,rs[j]? = some r->vC M i (k+j)=true->b∉keysOf r.upd
 | [],k,b,_,j,r,hj,_=>by simp at hj
 | s::rs,k,b,hb,j,r,hj,hu=>by
   unfold Am at hb;cases j with
   | zero=>
     simp at hj;subst hj;rw [kV] at hu;rw [aj hu] at hb;simp only [oL,not_or] at hb;exact hb.1
   | succ j=>
     have hb':b∉Am M i rs (k+1):=by
      split at hb
      ·simp only [oL,not_or] at hb;exact hb.2
      ·exact hb
     exact WM hb' j r (by simpa using hj) (by rw [show k+1+j=k+(j+1) by omega];exact hu)
theorem abR {M:List Nat} {i:Nat}:∀ {rs:List bZ} {k:Nat} {b:Nat} (j:Nat) (r:bZ),rs[j]? = some r->vC M i (k+j)=false->b∈keysOf r.upd->b∈Kz M i rs k
 | [],k,b,j,r,hj,_,_=>by simp at hj
 | s::rs,k,b,j,r,hj,hu,hb=>by
   unfold Kz;cases j with
   | zero=>
     simp at hj;subst hj;rw [kV] at hu;rw [ah (by rw [hu];simp)];simp [hb]
   | succ j=>
     have:=abR (k:=k+1) j r (by simpa using hj) (by rw [show k+1+j=k+(j+1) by omega];exact hu) hb;split
     ·exact this
     ·simp [this]
theorem Ctx.bound (C:Ctx P call ops M rs a0 σ0 cf) (hinv:zq P ops rs a0 σ0 cf η0 w0 D η w A) (id:Nat) (h:η.has id):id < cf:=hinv.st.rel.hasLt h
theorem Ctx.apart (C:Ctx P call ops M rs a0 σ0 cf) (hinv:zq P ops rs a0 σ0 cf η0 w0 D η w A) (hr:rs[i]? = some r) (hi:D i=false) {id:Nat} (h:η.has id):¬ (r.base<=id/\id < r.next):=by
 rintro ⟨h1,h2⟩
 have hlo:=C.lo hr;rcases hinv.dm id h with h3 | ⟨k,h3,h4,h5⟩ | ⟨j,s,h3,h4,h5,h6⟩
 ·omega
 ·omega
 ·by_cases hij:i=j
  ·subst hij;rw [hi] at h4;cases h4
  ·rcases Nat.lt_or_gt_of_ne hij with hlt | hlt
   ·have:=C.lt hr h3 hlt;omega
   ·have:=C.lt h3 hr hlt;omega
theorem Ctx.step (C:Ctx P call ops M rs a0 σ0 cf) (hcall:pI P call) (hS0:SR P η0 σ0 w0) (hinv:zq P ops rs a0 σ0 cf η0 w0 D η w A) (hil:i < ops.size) (hi:D i=false)
 (xF:∀o,ops[i]? = some o->∀e∈o.after.toList,Region.binds .any e=true->D e.on=true) (hnl:lJ ops M i=false) {K:Act->World->Prop} {Q:Exit->Act->World->Prop}
 (hK:∀η' A' w',zq P ops rs a0 σ0 cf η0 w0 (gI D i) η' w' A'->K A' w'):wpOp P ops Q i K A w:=by
 obtain ⟨o,ho⟩:∃o,ops[i]? = some o:=⟨ops[i],by simp [hil]⟩
 obtain ⟨r,hr⟩:∃r,rs[i]? = some r:=⟨_,bV (by rw [C.len];exact hil)⟩
 have fK:=xF o ho;have hone:=C.one i r hr;have hact:=C.act hinv ho hr hi fK;have hbase:=C.base hr;have hlo:=C.lo hr;have hhi:=C.hi hr;have hN0:P.globals.size < σ0.next:=by
  obtain ⟨sz,es,h1⟩:=hS0.kX P.globals.size (dL _);exact hS0.dom _ _ h1
 have hbn:=(C.slot i r hr).1;have abj:=C.lock;have hbig:=C.big;have Uw:=C.bound hinv;unfold uP at hone;rw [hnl] at hone;simp only [fF,if_false] at hone;unfold yL at hone;rw [ho] at hone;simp only at hone;unfold wpOp;rw [ho];simp only;split at hone
 ·cases hone
 ·
   next hw=>
   rw [AU hact hw];simp only [fF,if_false];cases hone;refine hK η _ w ⟨?_, ?_, ?_, ?_⟩
   ·intro k o' hk ho' e he hb
    unfold gI at hk ⊢;simp only [lM] at hk ⊢;rcases hk with hk | hk
    ·exact .inl (hinv.closed k o' hk ho' e he hb)
    ·have:=bF hk;subst this
     rw [ho] at ho';cases ho';exact .inl (xF _ ho e he hb)
   ·have hg:=C.aa2 (σ0:=σ0) hinv.closed ho hr hi fK
    refine hinv.st.sub ?_ (dL _) rfl;intro id ob hob;have:(iK (gq rs) 0 (gI D i) σ0.h).get id=some ob:=hob;rw [hg] at this;exact this
   ·exact hinv.tr.add (Env.le.refl _) (C.JX (a0:=a0) hinv.closed ho hr hi fK) (C.slot i _ hr).2 (by rintro u hu;cases hu;exact ⟨[],rfl,rfl⟩)
   ·intro id hq
    have hD':∀k,D k=true->gI D i k=true:=λk hk=>by unfold gI;rw [hk];rfl
    rcases hinv.dm id hq with h5 | ⟨k,h5,h6,h7⟩ | ⟨j,s,h5,h6,h7⟩
    ·exact .inl h5
    ·exact .inr (.inl ⟨k,h5,hD' k h6,h7⟩)
    ·exact .inr (.inr ⟨j,s,h5,hD' j h6,h7⟩)
 ·
   next hw=>
   rw [AU hact hw];simp only [if_true];left;have rest:∀l:List Nat,r.vis=some l->∀id ob,(iC (gY ((gq rs).take i) σ0.h) l).get id=some ob->(iK (gq rs) 0 D σ0.h).get id=some ob/\id∈l/\(gY ((gq rs).take i) σ0.h).get id=some ob:=by
    intro l hl id ob hob;rw [xC] at hob;split at hob
    ·next hm=>rw [<- C.aqT (σ0:=σ0) hinv.closed ho hr hi fK hl hm];exact ⟨hob,hm,hob⟩
    ·cases hob
   have Z8:∀c,FV c (gY ((iH rs).take i) a0.t) (o.looksAt ops)=true->TR P (η.cut c) { t:=iC (gY ((iH rs).take i) a0.t) (o.looksAt ops),n:=a0.n,gn:=a0.gn } A:=by
    intro c hb;refine ⟨hact.gn,hact.size,hact.none,λd v hv=>?_⟩;obtain ⟨x,hx,jS⟩:=hact.slot d v hv;refine ⟨x,hx,VR.cut v x ?_ jS⟩;rw [xC] at hv;split at hv
    ·next hd=>exact Zg hb d hd v hv
    ·cases hv
   split at hone
   ·
     next ty hty=>
     split at hone
     ·next z hz=>
      cases hone;have hop:oN P call o (aY.eval { t:=.nil,n:=a0.n,gn:=a0.gn }) { h:=.nil,next:=σ0.next+i,lock:=σ0.lock }=some (some (.p (σ0.next+i) 0),({ h:=.nil,next:=σ0.next+i,lock:=σ0.lock }:ay).new (.cells z ty true false)):=by
       unfold oN;rw [hty];simp only [hz,gU]
      have hS':SR P (η.cut σ0.next) { h:=.nil,next:=σ0.next+i,lock:=σ0.lock } w:=hinv.st.rel.cutAt hN0 (λid ob h=>by simp [ay.get] at h) (λid ob h=>by simp [ay.get] at h) (by simp);refine C.gen hcall hinv ho hr hil hi fK hS' (a:={ t:=.nil,n:=a0.n,gn:=a0.gn }) ⟨hact.gn,hact.size,hact.none,λd v hv=>by simp at hv⟩ (Env.Gg _ _) rfl hop rfl (λid ob h=>by simp [ay.get] at h) ?_ ?_ ?_ (dL _) ?_ ?_ hK
      ·rintro id hq ⟨h1,h2⟩
       have h1':σ0.next+i<=id:=h1;have h2':id < σ0.next+i+1:=h2;rcases hinv.dm id hq with h3 | ⟨k,h3,h4,h5⟩ | ⟨j,s,h3,h4,h5,h6⟩
       ·omega
       ·have:k=i:=by omega
        subst this;rw [hi] at h4;cases h4
       ·have:=C.lo h3;omega
      ·intro b ob hb
       simp only [eX] at hb;split at hb
       ·next e=>
        cases hb;subst e;refine ⟨?_,.inr ⟨rfl,Tr.get_nil _⟩⟩;rw [ay.ou,aj rfl]
       ·cases hb
      ·intro id ob h;simp [ay.get] at h
      ·intro b hb
       have:=(wz _ _).1 hb;simp [keysOf] at this;subst this;show σ0.lock<=σ0.next+i
       omega
      ·intro id h1 h2
       have h1':σ0.next+i<=id:=h1;have h2':id < σ0.next+i+1:=h2;have:=C.SX;exact ⟨by omega,by omega,.inl (by omega)⟩
     ·cases hone
   ·split at hone
    ·
      next l hcls=>
      split at hone
      ·next v τ' hop=>
       rw [qX] at hop;split at hone
       ·next hnx=>
        cases hone;have akY:=bF hnx;have hS':SR P η { h:=iC (gY ((gq rs).take i) σ0.h) l,next:=qE,lock:=qE } w:=hinv.st.rel.part (λid ob h=>(rest l rfl id ob h).1) (λid hq=>uF (Uw id hq) hbig);refine C.gen hcall hinv ho hr hil hi fK hS' hact (Env.le.refl _) rfl hop rfl (λid ob h=>(rest l rfl id ob h).1) ?_ ?_ ?_ ?_ ?_ ?_ hK
        ·rintro id hq ⟨h1,h2⟩
         have h1':qE<=id:=h1;omega
        ·intro b ob hb;simp [eX] at hb
        ·intro id ob h1 h2 h3
         have h3':qE<=id:=h3;have:=Uw id (hS'.J5 h1);omega
        ·have:=C.SX;show σ0.lock<=qE;omega
        ·intro b hb;simp [eX] at hb
        ·intro id h1 h2
         have h1':qE<=id:=h1;omega
       ·cases hone
      ·cases hone
    ·
      next l hcls=>
      split at hone
      ·next v τ' hop=>
       rw [qX] at hop;split at hone
       ·next hnx=>
        cases hone;have akY:=bF hnx;have hS':SR P η { h:=iC (gY ((gq rs).take i) σ0.h) l,next:=qE,lock:=σ0.lock } w:=hinv.st.rel.part (λid ob h=>(rest l rfl id ob h).1) (λid hq=>uF (Uw id hq) hbig);refine C.gen hcall hinv ho hr hil hi fK hS' hact (Env.le.refl _) rfl hop rfl (λid ob h=>(rest l rfl id ob h).1) ?_ ?_ ?_ (dL _) ?_ ?_ hK
        ·rintro id hq ⟨h1,h2⟩
         have h1':qE<=id:=h1;omega
        ·intro b ob hb
         obtain ⟨h1,h2⟩:=Vo hb;obtain ⟨h3,h4,ob',h5,h6⟩:=Ai.1 h1;refine ⟨h2.symm,.inl ⟨ob', ?_,h6⟩⟩;show (iC _ l).get b=_
         rw [xC,aj h3];exact h5
        ·intro id ob h1 h2 h3
         obtain ⟨_,h4,h5⟩:=rest l rfl id ob h1;rw [wz,keys_map];exact Ai.2 ⟨h4,h3,ob,h5,h2⟩
        ·intro b hb
         rw [wz,keys_map] at hb;exact (Ai.1 hb).2.1
        ·intro id h1 h2
         have h1':qE<=id:=h1;omega
       ·cases hone
      ·cases hone
    ·
      next l hcls=>
      split at hone
      ·next hbel=>
       simp only [aI] at hbel;split at hone
       ·next v τ' hop=>
        rw [qX] at hop;cases hone;simp only at hlo hhi hbn
        have hS':SR P (η.cut (iW (σ0.next+ops.size) rs i)) { h:=iC (gY ((gq rs).take i) σ0.h) l,next:=iW (σ0.next+ops.size) rs i,lock:=σ0.lock } w:=
         hinv.st.rel.cutAt (by omega) (λid ob h=>(rest l rfl id ob h).1) (λid ob h=>by
          obtain ⟨_,h1,h2⟩:=rest l rfl id ob h;have:=Js hbel.2 id h1;exact ⟨this.1,this.2 ob h2⟩) (dL _)
        refine C.gen hcall hinv ho hr hil hi fK hS' (Z8 _ hbel.1) (Env.Gg _ _) rfl hop rfl (λid ob h=>(rest l rfl id ob h).1) ?_ ?_ ?_ (dL _) ?_ ?_ hK
        ·rintro id hq ⟨h1,h2⟩
         exact C.apart hinv hr hi hq ⟨h1,h2⟩
        ·intro b ob hb
         rw [Pn] at hb;split at hb
         ·next x hx=>
          cases hb;obtain ⟨h1,h2,h3⟩:=Em hx;obtain ⟨h4,h5⟩:=h3 ob rfl;refine ⟨h4,.inr ⟨h5, ?_⟩⟩;show (iC _ l).get b=none
          rw [xC];split
          ·next hm=>have:=(Js hbel.2 b hm).1;omega
          ·rfl
         ·obtain ⟨h1,h2⟩:=Vo hb
          obtain ⟨h3,h4,ob',h5,h6⟩:=Ai.1 h1;refine ⟨h2.symm,.inl ⟨ob', ?_,h6⟩⟩;show (iC _ l).get b=_
          rw [xC,aj h3];exact h5
        ·intro id ob h1 h2 h3
         obtain ⟨_,h4,h5⟩:=rest l rfl id ob h1;rw [wz];unfold keysOf;rw [pR,oL];left;have:=keys_map (Ez (gY ((gq rs).take i) σ0.h) σ0.lock l) (λk=>τ'.get k);unfold keysOf at this;rw [this];exact Ai.2 ⟨h4,h3,ob,h5,h2⟩
        ·intro b hb
         rw [Pn] at hb;split at hb
         ·next x hx=>
          obtain ⟨h1,_,_⟩:=Em hx;show σ0.lock<=b
          omega
         ·rw [wz,keys_map] at hb
          exact (Ai.1 hb).2.1
        ·intro id h1 h2
         have h1':iW (σ0.next+ops.size) rs i<=id:=h1;exact ⟨by omega,by omega,.inr ⟨h1,h2⟩⟩
       ·cases hone
      ·cases hone
    ·
      next hcls=>
      split at hone
      ·next v τ' hop0=>
       have hop:=ar8 hop0;rw [qX] at hop;cases hone;simp only at hlo hhi hbn;have hall:∀id,η.has id->id < iW (σ0.next+ops.size) rs i:=by
        intro id hq;rcases hinv.dm id hq with h3 | ⟨k,h3,h4,h5⟩ | ⟨j,s,h3,h4,h5,h6⟩
        ·omega
        ·omega
        ·have hij:i≠j:=by rintro rfl;rw [hi] at h4;cases h4
         rcases Nat.lt_or_gt_of_ne hij with hlt | hlt
         ·have hjl:j < ops.size:=by have:=(dU.1 h3).1;rw [C.len] at this;exact this
          have hun:=C.open_ hinv.closed ho hi fK hjl (by rw [h4];simp;omega);have hp:=Ii ho (C.pairs i j _ s hr h3 hun);have:=(hp.2.2.2.2.1 rfl hlt).2.2;omega
         ·have:=C.lt h3 hr hlt
          simp only at this;omega
       have hsub:∀id ob,(BK (gY ((gq rs).take i) σ0.h) (Am M i (rs.take i) 0)).get id=some ob->(iK (gq rs) 0 D σ0.h).get id=some ob:=by
        intro id ob hob;rw [aa1] at hob;split at hob
        ·cases hob
        ·next hnk=>
         rw [<- hob,Gz (gq rs) i 0,zV];congr 1;refine (G5 _ _ _ _ _ λj u hj hne=>?_).symm;obtain ⟨s,hs,rfl⟩:=Lu hj;have hjl:j < ops.size:=by have:=(dU.1 hs).1;rw [C.len] at this;exact this
         simp only [iV] at hne;have hun:=C.open_ hinv.closed ho hi fK hjl (λe=>hne e.symm);apply KA;by_cases hji:j < i
         ·exact WM hnk j s (by rw [kQ,aj hji];exact hs) (by rw [iV];exact hun)
         ·have hij:i < j:=by
           rcases vK i j with h | h
           ·exact h
           ·have:i=j:=by omega
            subst this;rw [hi] at hne;simp at hne
          have hp:=Ii ho (C.pairs i j _ s hr hs hun);obtain ⟨h1,h2,h3⟩:=hp.2.2.2.2.1 rfl hij;intro hmem;have hge:=h1 id hmem;rw [Gz (gq rs) i 0] at hob;cases hl:kC (gq rs) 0 (λj=>decide (j < 0+i)) id with
          | none=>
            rw [hl] at hob;have:=hS0.hasLt (hS0.J5 hob);omega
          | some x=>
            obtain ⟨j',u',h4,h5,h6⟩:=Vh _ _ _ _ _ hl;obtain ⟨s',hs',rfl⟩:=Lu h4;simp only [iV,decide_eq_true_eq] at h5;have hk:id∈keysOf s'.upd:=(wz _ _).1 (by rw [h6];simp);have htk:(rs.take i)[j']? = some s':=by rw [kQ,aj h5];exact hs'
            have hnu:vC M i (0+j')=false:=by
             cases hu:vC M i (0+j') with
             | false=>rfl
             | true=>exact absurd hk (WM hnk j' s' htk hu)
            have:=abR j' s' htk hnu hk;exact JM h2 this hmem
       have hS':SR P η { h:=BK (gY ((gq rs).take i) σ0.h) (Am M i (rs.take i) 0),next:=iW (σ0.next+ops.size) rs i,lock:=iW (σ0.next+ops.size) rs i } w:=hinv.st.rel.part hsub hall;refine C.gen hcall hinv ho hr hil hi fK hS' hact (Env.le.refl _) rfl hop rfl hsub ?_ ?_ ?_ ?_ ?_ ?_ hK
       ·rintro id hq ⟨h1,h2⟩
        exact C.apart hinv hr hi hq ⟨h1,h2⟩
       ·intro b ob hb
        obtain ⟨h1,h2,h3⟩:=Em hb;obtain ⟨h4,h5⟩:=h3 ob rfl;refine ⟨h4,.inr ⟨h5, ?_⟩⟩;cases hg:ay.get { h:=BK (gY ((gq rs).take i) σ0.h) (Am M i (rs.take i) 0),next:=iW (σ0.next+ops.size) rs i,lock:=iW (σ0.next+ops.size) rs i } b with
        | none=>rfl
        | some ob'=>
          have:=hall b (hS'.J5 hg);omega
       ·intro id ob h1 h2 h3
        have h3':iW (σ0.next+ops.size) rs i<=id:=h3;have:=hall id (hS'.J5 h1);omega
       ·show σ0.lock<=iW (σ0.next+ops.size) rs i
        omega
       ·intro b hb
        cases hx:eX (BR τ' (iW (σ0.next+ops.size) rs i) (τ'.next - iW (σ0.next+ops.size) rs i)) b with
        | none=>exact absurd hx hb
        | some x=>exact (Em hx).1
       ·intro id h1 h2
        have h1':iW (σ0.next+ops.size) rs i<=id:=h1;exact ⟨by omega,by omega,.inr ⟨h1,h2⟩⟩
      ·generalize KX o (aY.eval { t:=iC (gY ((iH rs).take i) a0.t) (o.looksAt ops),n:=a0.n,gn:=a0.gn }) (gY ((gq rs).take i) σ0.h)=l at hone
       split at hone
       ·next hbel=>
        simp only [aI] at hbel;split at hone
        ·next v τ' hop=>
         rw [qX] at hop;cases hone;simp only at hlo hhi hbn
         have hS':SR P (η.cut (iW (σ0.next+ops.size) rs i)) { h:=iC (gY ((gq rs).take i) σ0.h) l,next:=iW (σ0.next+ops.size) rs i,lock:=σ0.lock } w:=
          hinv.st.rel.cutAt (by omega) (λid ob h=>(rest l rfl id ob h).1) (λid ob h=>by
           obtain ⟨_,h1,h2⟩:=rest l rfl id ob h;have:=Js hbel.2 id h1;exact ⟨this.1,this.2 ob h2⟩) (dL _)
         refine C.gen hcall hinv ho hr hil hi fK hS' (Z8 _ hbel.1) (Env.Gg _ _) rfl hop rfl (λid ob h=>(rest l rfl id ob h).1) ?_ ?_ ?_ (dL _) ?_ ?_ hK
         ·rintro id hq ⟨h1,h2⟩
          exact C.apart hinv hr hi hq ⟨h1,h2⟩
         ·intro b ob hb
          rw [Pn] at hb;split at hb
          ·next x hx=>
           cases hb;obtain ⟨h1,h2,h3⟩:=Em hx;obtain ⟨h4,h5⟩:=h3 ob rfl;refine ⟨h4,.inr ⟨h5, ?_⟩⟩;show (iC _ l).get b=none
           rw [xC];split
           ·next hm=>have:=(Js hbel.2 b hm).1;omega
           ·rfl
          ·obtain ⟨h1,h2⟩:=Vo hb
           obtain ⟨h3,h4,ob',h5,h6⟩:=Ai.1 h1;refine ⟨h2.symm,.inl ⟨ob', ?_,h6⟩⟩;show (iC _ l).get b=_
           rw [xC,aj h3];exact h5
         ·intro id ob h1 h2 h3
          obtain ⟨_,h4,h5⟩:=rest l rfl id ob h1;rw [wz];unfold keysOf;rw [pR,oL];left;have:=keys_map (Ez (gY ((gq rs).take i) σ0.h) σ0.lock l) (λk=>τ'.get k);unfold keysOf at this;rw [this];exact Ai.2 ⟨h4,h3,ob,h5,h2⟩
         ·intro b hb
          rw [Pn] at hb;split at hb
          ·next x hx=>
           obtain ⟨h1,_,_⟩:=Em hx;show σ0.lock<=b
           omega
          ·rw [wz,keys_map] at hb
           exact (Ai.1 hb).2.1
         ·intro id h1 h2
          have h1':iW (σ0.next+ops.size) rs i<=id:=h1;exact ⟨by omega,by omega,.inr ⟨h1,h2⟩⟩
        ·cases hone
       ·cases hone
end
end
end Go.aJ
namespace Go.aJ
set_option linter.unusedSimpArgs false
noncomputable section
variable [aH]
set_option linter.unusedSectionVars false
set_option linter.unusedVariables false
variable {P:Program}
section
variable {call:Caller} {ops:Array Oper} {M:List Nat} {rs:List bZ} {a0:aY} {σ0:ay} {cf:Nat} {η0:Env} {w0:World}
def inB (listed:Array Bool):Nat->Bool:=λj=>listed.getD j false
theorem adF {listed:Array Bool} (hl:listed.size=ops.size) {i:Nat} (h:i∈Region.ready .any ops listed):i < ops.size/\inB listed i=false/\∀o,ops[i]? = some o->∀e∈o.after.toList,Region.binds .any e=true->inB listed e.on=true:=by
 unfold Region.ready at h;simp only [Fj,wR,aI,wP] at h;obtain ⟨h1,h2,h3⟩:=h;have hlt:i < listed.size:=by omega
 refine ⟨h1, ?_, ?_⟩
 ·unfold inB
  rw [vF,zl hlt] at h2 ⊢;exact h2
 ·intro o ho e he hb
  rw [ho] at h3;simp only [gU,oM] at h3;rw [Array.all_eq_true'] at h3;have:=h3 e (by simpa using he);rw [hb] at this;simpa [inB] using this
theorem count_set (listed:Array Bool) (i:Nat) (h:listed[i]? = some false):(listed.setIfInBounds i true).toList.count false+1=listed.toList.count false:=by
 have hlt:i < listed.size:=(nZ.1 h).1;have hv:listed[i]=false:=(nZ.1 h).2;have h1:listed.toList[i]'(by simpa using hlt)=false:=by simpa using hv
 have hpos:0 < listed.toList.count false:=List.count_pos_iff.2 (by rw [<- h1];exact fP _);rw [Array.toList_setIfInBounds,List.count_set (by simpa using hlt),h1];have e1:((false==false)=true):=rfl;have e2:¬ ((true==false)=true):=by decide
 rw [aj e1,ah e2];omega
theorem Oo {α:Type}:∀ (us:List (List (Nat×Option α))) (k:Nat) (D:Nat->Bool) (t:Tr α),(∀j,j < us.length->D (k+j)=true)->iK us k D t=gY us t
 | [],_,_,_,_=>rfl
 | u::us,k,D,t,h=>by
   have h0:=h 0 (by simp);simp only [kV] at h0;rw [iK,aj h0,gY,Oo us (k+1) D _ (λj hj=>by rw [show k+1+j=k+(j+1) by omega];exact h (j+1) (by simpa using hj))]
end
section
variable {ops:Array Oper} {M:List Nat} {rs:List bZ} {a0:aY} {σ:ay} {η0:Env} {w0:World} {n N0:Nat}
theorem Y7 (C:og ops M rs n N0) (Inv:(Nat->Bool)->Env->World->Act->Prop)
 (hstep:∀D η w A i (K:Act->World->Prop) (Q:Exit->Act->World->Prop),Inv D η w A->i < ops.size->D i=false->(∀o,ops[i]? = some o->∀e∈o.after.toList,Region.binds .any e=true->D e.on=true)->
  (∀η' A' w',Inv (gI D i) η' w' A'->K A' w')->wpOp P ops Q i K A w) {Q:Exit->Act->World->Prop}
 (hK:∀η' A' w',Inv (λj=>decide (j < ops.size)) η' w' A'->Q .normal A' w') :
 ∀ (fuel:Nat) (listed:Array Bool) (η:Env) (w:World) (A:Act),listed.size=ops.size->listed.toList.count false=fuel->Inv (inB listed) η w A->wpAny P .any ops Q fuel listed A w:=by
 intro fuel;induction fuel with
 | zero=>
   intro listed η w A hl hc hinv;have hall:∀j,j < ops.size->inB listed j=true:=by
    intro j hj;have hlt:j < listed.size:=by omega
    have hm:listed[j]∈listed.toList:=by simp
    have:false∉listed.toList:=List.count_eq_zero.1 hc;unfold inB;rw [vF,zl hlt];cases hv:listed[j] with
    | true=>rfl
    | false=>rw [hv] at hm;exact absurd hm this
   have hD:inB listed=λj=>decide (j < ops.size):=by
    funext j;by_cases hj:j < ops.size
    ·rw [hall j hj];simp [hj]
    ·unfold inB
     rw [vF,Array.getElem?_eq_none (by omega)];simp [hj]
   refine ⟨?_, ?_⟩
   ·apply List.eq_nil_iff_forall_not_mem.2
    intro i hi;obtain ⟨h1,h2,_⟩:=adF hl hi;rw [hall i h1] at h2;cases h2
   ·rw [hD] at hinv;exact hK η A w hinv
 | succ fuel ih=>
   intro listed η w A hl hc hinv;refine ⟨λhr=>?_,λi hi=>?_⟩
   ·exfalso
    have hex:∃i,i < ops.size/\inB listed i=false/\∀j,j < i->inB listed j=true:=by
     have hpos:0 < listed.toList.count false:=by omega
     have hm:=List.count_pos_iff.1 hpos;obtain ⟨k,hk⟩:=Rz.1 hm;have akP:k < ops.size:=by have:=(dU.1 hk).1;simp at this;omega
     have hkf:inB listed k=false:=by
      unfold inB;rw [vF];rw [rW] at hk;rw [hk];rfl
     clear hm hk;induction k using Nat.strongRecOn with
     | _ k ihk=>
       by_cases hb:∃j,j < k/\inB listed j=false
       ·obtain ⟨j,h1,h2⟩:=hb
        exact ihk j h1 (by omega) h2
       ·refine ⟨k,akP,hkf,λj hj=>?_⟩
        cases hv:inB listed j with
        | true=>rfl
        | false=>exact absurd ⟨j,hj,hv⟩ hb
    obtain ⟨i,h1,h2,h3⟩:=hex;have hmem:i∈Region.ready .any ops listed:=by
     unfold Region.ready;simp only [Fj,wR,aI,wP];have hlt:i < listed.size:=by omega
     refine ⟨h1, ?_, ?_⟩
     ·unfold inB at h2
      rw [vF,zl hlt] at h2 ⊢;exact h2
     ·have ho:ops[i]? = some ops[i]:=by simp [h1]
      rw [ho];simp only [gU,oM];rw [Array.all_eq_true'];intro e he;cases hb:Region.binds .any e with
      | false=>rfl
      | true=>
        simp only [Ro,wO];obtain ⟨hm,hlen⟩:=C.mask ho;have hbit:oZ M e.on i=true:=by
         unfold oZ;rw [yu,hm];simp only [oM];have:∀ (es:List Edge),e∈es->(xM (λj=>(M.take i).getD j 0) es).testBit e.on=true:=by
          intro es;induction es with
          | nil=>intro h;simp at h
          | cons x es abr=>
            intro h;rw [xM];simp only [dO] at h;rcases h with rfl | h
            ·rw [aj hb,Md,Md,Nat.testBit_two_pow];simp
            ·split
             ·rw [Md,abr h,Bool.or_true]
             ·exact abr h
         exact this _ (by simpa using he)
        exact h3 e.on (C.VT hbit)
    rw [hr] at hmem;simp at hmem
   ·obtain ⟨h1,h2,h3⟩:=adF hl hi
    refine hstep _ _ _ _ i _ Q hinv h1 h2 h3 λη' A' w' hinv'=>?_;have hf:listed[i]? = some false:=by
     have hlt:i < listed.size:=by omega
     unfold inB at h2;rw [vF,zl hlt] at h2;rw [zl hlt];simpa using h2
    have hD:gI (inB listed) i=inB (listed.setIfInBounds i true):=by
     funext j;unfold gI inB;have hlt:i < listed.size:=by omega
     rw [vF,vF,zo];by_cases e:i=j
     ·subst e;rw [aj rfl,aj hlt];simp
     ·rw [ah e,uU (λe'=>e e'.symm)];simp
    rw [hD] at hinv';exact ih _ η' w' A' (by simpa using hl) (by have:=count_set listed i hf;omega) hinv'
end
theorem aeC {ops:Array Oper} {M:List Nat}:∀ (k i j:Nat),QO ops M k<=i->i < k->lG ops i=false->j < i->lG ops j=true\/oZ M j i=true
 | 0,i,j,_,h,_,_=>by omega
 | k+1,i,j,h1,h2,h3,h4=>by
   unfold QO at h1;split at h1
   ·next ha=>
    by_cases e:i=k
    ·subst e
     rw [h3,wO,List.all_eq_true] at ha;have:=ha j (by simpa using h4);rwa [lM] at this
    ·exact aeC k i j h1 (by omega) h3 h4
   ·omega
theorem QS:∀ (rs:List bZ) (r:bZ) (σ:ay),rQ (rs++[r]) σ=match r.fin with | some τ=>τ | none=>rQ rs σ
 | [],_,_=>rfl
 | s::rs,r,σ=>by
   show rQ (rs++[r]) _=_
   rw [QS rs r];rfl
theorem XG {rs:List bZ} {σ:ay}:∀k,k<=rs.length->(∀ (i:Nat) r,i < k->rs[i]? = some r->r.fin=none)->rQ (rs.take k) σ=σ
 | 0,_,_=>by simp [rQ]
 | k+1,hk,h=>by
   obtain ⟨r,hr⟩:∃r,rs[k]? = some r:=⟨_,bV (by omega)⟩
   rw [L6,hr,YQ,QS,h k r (by omega) hr];exact XG k (by omega) (λi r' hi=>h i r' (by omega))
theorem XH {rs:List bZ} {σ:ay} {m:Nat} {r:bZ} {τ:ay} (hr:rs[m]? = some r) (hf:r.fin=some τ):∀k,m < k->k<=rs.length->(∀ (i:Nat) r',m < i->i < k->rs[i]? = some r'->r'.fin=none)->rQ (rs.take k) σ=τ
 | 0,h,_,_=>by omega
 | k+1,hm,hk,h=>by
   by_cases e:m=k
   ·subst e
    rw [L6,hr,YQ,QS,hf]
   ·obtain ⟨r',hr'⟩:∃r,rs[k]? = some r:=⟨_,bV (by omega)⟩
    rw [L6,hr',YQ,QS,h k r' (by omega) (by omega) hr'];exact XH hr hf k (by omega) (by omega) (λi r'' h1 h2=>h i r'' h1 (by omega))
theorem ajr {call:Caller} {o:Oper} (hf:zS o=true) {ev:Operand->Option AV} {σ1 σ2 τ:ay} {v:Option AV} (hs:lF P call o ev σ1=some (v,τ)):lF P call o ev σ2=some (v,σ2):=by
 rw [qX] at hs ⊢;obtain ⟨dst,op,type,pos,after,guard⟩:=o;cases op with
 | move x=>
   simp only [oN,dH,bf,jm] at hs ⊢;obtain ⟨u,h1,h2,_⟩:=hs;exact ⟨u,h1,h2,trivial⟩
 | assign x=>
   simp only [oN,dH,bf,jm] at hs ⊢;obtain ⟨u,h1,h2,_⟩:=hs;exact ⟨u,h1,h2,trivial⟩
 | extract x k=>
   simp only [oN] at hs ⊢;split at hs
   ·simp only [dH,bf,jm] at hs ⊢
    obtain ⟨u,h1,h2,_⟩:=hs;exact ⟨u,h1,h2,trivial⟩
   ·cases hs
 | binOp op t x y z=>
   simp only [oN] at hs ⊢;split at hs
   ·simp only [dH,bf,jm] at hs ⊢
    obtain ⟨u,h1,h2,_⟩:=hs;exact ⟨u,h1,h2,trivial⟩
   ·cases hs
 | _=>simp [zS] at hf
theorem agn {o:Oper} (hf:zS o=true) (ev:Operand->Option AV):ZQ o ev=.na []:=by
 obtain ⟨dst,op,type,pos,after,guard⟩:=o;cases op<;>first | rfl | (simp [zS] at hf)
theorem aiF {call:Caller} {ops:Array Oper} {lock gn n i c:Nat} {prev:List bZ} {t:Tr AV} {h:Tr bn} {r:bZ} (hs:Gh P call ops lock gn n prev i t h c=some r):r.next=c:=by
 unfold Gh at hs;split at hs
 ·cases hs
 ·split at hs
  ·cases hs
  ·cases hs;rfl
  ·split at hs
   ·cases hs;rfl
   ·cases hs
theorem Tt {call:Caller} {ops:Array Oper} {M:List Nat} {N0 lock gn n i c:Nat} {prev:List bZ} {t:Tr AV} {h:Tr bn} {r:bZ} {o:Oper} (ho:ops[i]? = some o) (hf:zS o=true) (hs:yL P call ops M N0 lock gn n prev i t h c=some r) :
 r.upd=[]/\r.next=c/\r.fin=none/\((AQ o ops { t:=iC t (o.looksAt ops),n:=n,gn:=gn }=some false/\r.slot=lD o (some (.dn [])))\/
  (AQ o ops { t:=iC t (o.looksAt ops),n:=n,gn:=gn }=some true/\∃v,(∀σ2,lF P call o (aY.eval { t:=iC t (o.looksAt ops),n:=n,gn:=gn }) σ2=some (v,σ2))/\r.slot=lD o v)):=by
 unfold yL at hs;rw [ho] at hs;simp only at hs;split at hs
 ·cases hs
 ·next hw=>cases hs;exact ⟨rfl,rfl,rfl,.inl ⟨hw,rfl⟩⟩
 ·next hw=>
  split at hs
  ·next ty e=>exfalso;obtain ⟨dst,op,type,pos,after,guard⟩:=o;cases e;simp [zS] at hf
  ·rw [agn hf] at hs
   simp only at hs;split at hs
   ·next v τ hv=>
    split at hs
    ·cases hs
     exact ⟨rfl,rfl,rfl,.inr ⟨hw,v,λσ2=>ajr hf hv,rfl⟩⟩
    ·cases hs
   ·cases hs
theorem NI {ops:Array Oper} {D:Nat->Bool} {i:Nat} (h:Closed ops D) (hd:∀o,ops[i]? = some o->∀e∈o.after.toList,Region.binds .any e=true->D e.on=true):Closed ops (gI D i):=by
 intro j o hj ho e he hb;unfold gI at hj ⊢;rw [lM] at hj ⊢;rcases hj with hj | hj
 ·exact .inl (h j o hj ho e he hb)
 ·have:=bF hj
  subst this;exact .inl (hd o ho e he hb)
section
variable {call:Caller} {ops:Array Oper} {M:List Nat} {rs:List bZ} {a:aY} {σ:ay} {c:Nat} {D:Nat->Bool}
theorem Ctx.act' (C:Ctx P call ops M rs a σ c) (hcl:Closed ops D) {i:Nat} {o:Oper} {r:bZ} (ho:ops[i]? = some o) (hr:rs[i]? = some r) (hi:D i=false) (fK:∀e∈o.after.toList,Region.binds .any e=true->D e.on=true)
 {η:Env} {A:Act} (htr:TR P η { t:=iK (iH rs) 0 D a.t,n:=a.n,gn:=a.gn } A):TR P η { t:=iC (gY ((iH rs).take i) a.t) (o.looksAt ops),n:=a.n,gn:=a.gn } A:=by
 refine ⟨htr.gn,htr.size,htr.none,λd v hv=>?_⟩;rw [xC] at hv;split at hv
 ·next hd=>
  rw [C.Xl (a0:=a) hcl ho hr hi fK hd] at hv;exact htr.slot d v hv
 ·cases hv
theorem Ctx.last (C:Ctx P call ops M rs a σ c) (hcall:pI P call) (hcl:Closed ops D) {i:Nat} {o:Oper} {r:bZ} (ho:ops[i]? = some o) (hr:rs[i]? = some r) (hi:D i=false) (fK:∀e∈o.after.toList,Region.binds .any e=true->D e.on=true) (hla:lJ ops M i=true)
 {η η1:Env} {w0 w1:World} {A:Act} (hst:St P η σ w0 η1 (rQ (rs.take i) { h:=gY ((gq rs).take i) σ.h,next:=iW (σ.next+ops.size) rs i,lock:=σ.lock }) w1)
 (htr:TR P η1 { t:=iK (iH rs) 0 D a.t,n:=a.n,gn:=a.gn } A) {K:Act->World->Prop} {Q:Exit->Act->World->Prop}
 (hK:∀η' A' w' τ,r.fin=some τ->St P η σ w0 η' τ w'->TR P η' { t:=iK (iH rs) 0 (gI D i) a.t,n:=a.n,gn:=a.gn } A'->K A' w'):wpOp P ops Q i K A w1:=by
 have hone:=C.one i r hr;unfold uP at hone;rw [aj hla] at hone;unfold Gh at hone;rw [ho] at hone;simp only at hone;have hact:=C.act' hcl ho hr hi fK htr;have hnext:=λd=>C.JX (a0:=a) hcl ho hr hi fK d;have hsl:=(C.slot i r hr).2;unfold wpOp;rw [ho];simp only;split at hone
 ·cases hone
 ·next hw=>
  cases hone;rw [AU hact hw];simp only [fF,if_false];exact hK η1 _ w1 _ rfl hst (htr.add (Env.le.refl _) hnext hsl (by rintro u hu;cases hu;exact ⟨[],rfl,rfl⟩))
 ·next hw=>
  rw [AU hact hw];simp only [if_true];left;split at hone
  ·next v τ hop=>
   rw [qX] at hop;cases hone;refine MX hst.rel hcall hact hop λx η' w' hst2 hx=>?_;exact hK η' _ w' _ rfl (hst.trans hst2) (htr.add hst2.ext hnext hsl hx)
  ·cases hone
theorem Ctx.free (C:Ctx P call ops M rs a σ c) (hcall:pI P call) (hcl:Closed ops D) {i:Nat} {o:Oper} {r:bZ} (ho:ops[i]? = some o) (hr:rs[i]? = some r) (hi:D i=false) (fK:∀e∈o.after.toList,Region.binds .any e=true->D e.on=true) (hf:zS o=true)
 {η η1:Env} {τ:ay} {w0 w1:World} {A:Act} (hst:St P η σ w0 η1 τ w1) (htr:TR P η1 { t:=iK (iH rs) 0 D a.t,n:=a.n,gn:=a.gn } A) {K:Act->World->Prop} {Q:Exit->Act->World->Prop}
 (hK:∀η' A' w',St P η σ w0 η' τ w'->TR P η' { t:=iK (iH rs) 0 (gI D i) a.t,n:=a.n,gn:=a.gn } A'->K A' w'):wpOp P ops Q i K A w1:=by
 have hone:=C.one i r hr;unfold uP at hone;have hnl:lJ ops M i=false:=by
  unfold lJ lG;rw [ho];simp only [hf,Ro,Bool.and_false]
 rw [hnl] at hone;simp only [fF,if_false] at hone;obtain ⟨_,_,_,hcase⟩:=Tt ho hf hone;have hact:=C.act' hcl ho hr hi fK htr;have hnext:=λd=>C.JX (a0:=a) hcl ho hr hi fK d;have hsl:=(C.slot i r hr).2;unfold wpOp;rw [ho];simp only;rcases hcase with ⟨hw,hs⟩ | ⟨hw,v,hv,hs⟩
 ·rw [hs] at hnext hsl
  rw [AU hact hw];simp only [fF,if_false];exact hK η1 _ w1 hst (htr.add (Env.le.refl _) hnext hsl (by rintro u hu;cases hu;exact ⟨[],rfl,rfl⟩))
 ·rw [hs] at hnext hsl
  rw [AU hact hw];simp only [if_true];left;have hop:=hv τ;rw [qX] at hop;refine MX hst.rel hcall hact hop λx η' w' hst2 hx=>?_;exact hK η' _ w' (hst.trans hst2) (htr.add hst2.ext hnext hsl hx)
theorem Ctx.aeD (C:Ctx P call ops M rs a σ c) {l:Nat} (hl:∀i,l<=i->i < ops.size->lJ ops M i=true\/lG ops i=true):∀k,l+k<=ops.size->iW (σ.next+ops.size) rs (l+k)=iW (σ.next+ops.size) rs l
 | 0,_=>rfl
 | k+1,h=>by
   have ih:=C.aeD hl k (by omega);obtain ⟨r,hr⟩:∃r,rs[l+k]? = some r:=⟨_,bV (by rw [C.len];omega)⟩
   obtain ⟨o,ho⟩:∃o,ops[l+k]? = some o:=⟨ops[l+k],by simp⟩
   have hone:=C.one _ _ hr;unfold uP at hone;rw [show l+(k+1)=(l+k)+1 by omega,Jz rs _ _ _ hr,<- ih];split at hone
   ·exact aiF hone
   ·next hn=>
    rcases hl (l+k) (by omega) (by omega) with h1 | h1
    ·exact absurd h1 hn
    ·unfold lG at h1
     rw [ho] at h1;exact (Tt ho h1 hone).2.1
end
theorem aiQ (hm:P.follows .mixedOrders=true):IX P (Si P):=by
 intro call hcall ops a σ a' σ' hs η w A id Q h ht hK;unfold Si at hs;simp only at hs;split at hs
 ·next hok=>
  simp only [aI] at hok;split at hs
  ·next rs t hh c hgo=>
   split at hs
   ·next tV=>
    simp only [aI] at tV;obtain ⟨⟨⟨GU,hdy0⟩,hsl⟩,hbig⟩:=tV;obtain ⟨new,h1,h2,h3,h4,h5,h6⟩:=aac _ _ _ _ _ _ _ _ _ _ hgo;simp only [dK] at h1;subst h1
    have C:Ctx P call ops (kD ops.toList []) rs a σ c:={
     hM:=rfl
     Vy:=hok.1
     len:=h2
     one:=λi r hr=>by have:=h6 i r hr;simpa using this
     pairs:=ac0 GU hdy0 (λi r hr=>by have:=h6 i r hr;exact aiK (by simpa using this))
     slot:=by
      intro i r hr;unfold Qu at hsl;rw [List.all_eq_true] at hsl;have:=hsl r (qA hr);simp only [aI] at this;refine ⟨Nat.le_of_ble_eq_true this.1,λp hpm=>?_⟩;have h8:=this.2;rw [List.all_eq_true] at h8;have:=h8 p hpm;rwa [je] at this
     fin:=h5
     big:=pW hbig
     lock:=pW hok.2 }
    refine wp_region_any hm ?_;have hcl:=C.SX;have hempty:inB (Array.replicate ops.size false)=λ_=>false:=by
     funext j;unfold inB;rw [vF,aff];split<;>rfl
    have hno:∀ {α:Type} (us:List (List (Nat×Option α))) (k:Nat) (t:Tr α),iK us k (λ_=>false) t=t:=by
     intro α us;induction us with
     | nil=>intro k t;rfl
     | cons u us ih=>intro k t;rw [iK];simp only [fF,if_false];exact ih _ _
    have start:zq P ops rs a σ c η { w with drawn:=w.drawn+1 } (λ_=>false) η { w with drawn:=w.drawn+1 } A:=by
     refine ⟨λi o hi=>by simp at hi, ?_, ?_,λid hq=>.inl (h.hasLt hq)⟩
     ·rw [hno]
      refine (St.refl h.drew).sub (λid o ho=>ho) (by show σ.next<=c;omega) rfl
     ·rw [hno];exact ⟨ht.gn,ht.size,ht.none,ht.slot⟩
    have OQ:iK (iH rs) 0 (λj=>decide (j < ops.size)) a.t=t:=by
     rw [h3];exact Oo _ _ _ _ (λj hj=>by simp [iH] at hj ⊢;omega)
    have hlast:∀i,i < ops.size->lJ ops (kD ops.toList []) i=true->lG ops i=false/\∀j,j < i->lG ops j=true\/oZ (kD ops.toList []) j i=true:=by
     intro i hi hla;unfold lJ at hla;rw [aI,wP] at hla;exact ⟨hla.2,λj hj=>aeC _ _ _ (pW hla.1) hi hla.2 hj⟩
    have hup:∀i j,i<=j->j < ops.size->lJ ops (kD ops.toList []) i=true->lJ ops (kD ops.toList []) j=true\/lG ops j=true:=by
     intro i j hij hj hla;unfold lJ at hla ⊢;rw [aI,wP] at hla;have:=pW hla.1;cases hf:lG ops j with
     | true=>exact .inr rfl
     | false=>left;rw [YL (jl this hij)];rfl
    have hfree:∀i,lG ops i=true->lJ ops (kD ops.toList []) i=false:=by
     intro i hf;unfold lJ;rw [hf];simp
    have hfin:∀ (i:Nat) r,rs[i]? = some r->lJ ops (kD ops.toList []) i=false->r.fin=none:=by
     intro i r hr hi;have hone:=C.one i r hr;unfold uP at hone;rw [hi] at hone;simp only [fF,if_false] at hone;exact aiJ hone
    have akL:∀ (i:Nat) r,rs[i]? = some r->lG ops i=true->r.upd=[]:=by
     intro i r hr hf;have hone:=C.one i r hr;unfold uP at hone;rw [hfree i hf] at hone;simp only [fF,if_false] at hone;unfold lG at hf;split at hf
     ·next o ho=>exact (Tt ho hf hone).1
     ·cases hf
    let wd:World:={ w with drawn:=w.drawn+1 }
    cases hs
    refine Y7 C.toog (λD η1 w1 A1=>((∀i,i < ops.size->lJ ops (kD ops.toList []) i=true->D i=false)/\zq P ops rs a σ c η wd D η1 w1 A1)\/
     ∃m,m < ops.size/\lJ ops (kD ops.toList []) m=true/\Closed ops D/\(∀j,j < ops.size->lG ops j=false->D j=decide (j<=m))/\∃r τ,rs[m]? = some r/\r.fin=some τ/\St P η σ wd η1 τ w1/\TR P η1 { t:=iK (iH rs) 0 D a.t,n:=a.n,gn:=a.gn } A1) ?_ ?_ ops.size (Array.replicate ops.size false) η _ A (by simp) (by simp) (.inl ⟨λi _ _=>by rw [hempty],by rw [hempty];exact start⟩)
    ·intro D η1 w1 A1 i K Q' hinv hil hi xF hK'
     obtain ⟨o,ho⟩:∃o,ops[i]? = some o:=⟨ops[i],by simp [hil]⟩
     obtain ⟨r,hr⟩:∃r,rs[i]? = some r:=⟨_,bV (by rw [h2];exact hil)⟩
     have fK:=xF o ho;rcases hinv with ⟨hD,hinv⟩ | ⟨m,hm2,UF,hcl,GK,r1,τ1,hr1,hf1,hst1,J9⟩
     ·by_cases hla:lJ ops (kD ops.toList []) i=true
      ·
        obtain ⟨hnf,hord⟩:=hlast i hil hla;have Ur:∀j,j < ops.size->lG ops j=false->D j=decide (j < i):=by
         intro j hj nK;by_cases h1:j < i
         ·have:D j=true:=C.nD hinv.closed i o ho fK j ((hord j h1).resolve_left (by rw [nK];simp))
          rw [this];simp [h1]
         ·have:D j=false:=hD j hj ((hup i j (by omega) hj hla).resolve_right (by rw [nK];simp))
          rw [this];simp [h1]
        have akD:∀j,j < i->lJ ops (kD ops.toList []) j=false:=by
         intro j hj;cases e:lJ ops (kD ops.toList []) j with
         | false=>rfl
         | true=>
           have h1:=hD j (by omega) e;rw [Ur j (by omega) (hlast j (by omega) e).1] at h1;exact absurd hj (of_decide_eq_false h1)
        have alb:∀b,(gY ((gq rs).take i) σ.h).get b=(iK (gq rs) 0 D σ.h).get b:=by
         intro b;rw [Gz (gq rs) i 0,zV];congr 1;refine G5 _ _ _ _ _ λj u hj hne=>?_;have hjl:j < ops.size:=by have:=(dU.1 hj).1;simp [gq] at this;omega
         simp only [iV] at hne;cases nK:lG ops j with
         | false=>exact absurd (Ur j hjl nK).symm hne
         | true=>
           obtain ⟨r',hr',hu⟩:=Lu hj;rw [akL j r' hr' nK] at hu;subst hu;rfl
        have GL:iW (σ.next+ops.size) rs i=c:=by
         have:=C.aeD (l:=i) (λk h1 h2=>hup i k h1 h2 hla) (ops.size - i) (by omega);rw [show i+(ops.size - i)=ops.size by omega] at this;rw [<- this];exact C.fin.symm
        have hts:∀σ1,rQ (rs.take i) σ1=σ1:=λσ1=>XG i (by omega) λj r' h1 h2=>hfin j r' h2 (akD j h1);refine C.last hcall hinv.closed ho hr hi fK hla (η:=η) (w0:=wd) (η1:=η1) ?_ hinv.tr λη' A' w' τ hf hst htr=>hK' η' A' w' (.inr ⟨i,hil,hla,NI hinv.closed xF, ?_,r,τ,hr,hf,hst,htr⟩)
        ·rw [hts]
         refine hinv.st.sub (λid' o' ho'=>?_) (Fz GL.symm) rfl;rw [show (ay.get { h:=iK (gq rs) 0 D σ.h,next:=c,lock:=σ.lock } id')=(iK (gq rs) 0 D σ.h).get id' from rfl,<- alb];exact ho'
        ·intro j hj nK
         unfold gI;rw [Ur j hj nK];by_cases e:j=i
         ·subst e;simp
         ·rw [uU e,AX];congr 1;apply propext;omega
      ·have hnl:lJ ops (kD ops.toList []) i=false:=by simpa using hla
       refine C.step hcall h.drew hinv hil hi xF hnl λη' A' w' hinv'=>hK' η' A' w' (.inl ⟨λj hj hjl=>?_,hinv'⟩);have hji:j≠i:=λe=>by subst e;rw [hnl] at hjl;cases hjl
       unfold gI;rw [hD j hj hjl,uU hji];rfl
     ·cases hif:lG ops i with
      | true=>
        have hof:zS o=true:=by unfold lG at hif;rw [ho] at hif;exact hif
        refine C.free hcall hcl ho hr hi fK hof hst1 J9 λη' A' w' hst htr=>hK' η' A' w' (.inr ⟨m,hm2,UF,NI hcl xF, ?_,r1,τ1,hr1,hf1,hst,htr⟩);intro j hj nK;have hji:j≠i:=λe=>by subst e;rw [hif] at nK;cases nK
        unfold gI;rw [GK j hj nK,uU hji,AX]
      | false=>
        have him:¬ i<=m:=by
         intro hle;rw [GK i hil hif] at hi;exact of_decide_eq_false hi hle
        have hla:lJ ops (kD ops.toList []) i=true:=(hup m i (by omega) hil UF).resolve_right (by rw [hif];simp);have hmid:∀j,m < j->j < i->lG ops j=true:=by
         intro j h1 h2;cases nK:lG ops j with
         | true=>rfl
         | false=>
           have h8:D j=true:=C.nD hcl i o ho fK j (((hlast i hil hla).2 j h2).resolve_left (by rw [nK];simp));rw [GK j (by omega) nK] at h8;have:=KJ h8;omega
        have hts:∀σ1,rQ (rs.take i) σ1=τ1:=λσ1=>XH hr1 hf1 i (by omega) (by omega) λj r' h1 h2 h3=>hfin j r' h3 (hfree j (hmid j h1 h2));refine C.last hcall hcl ho hr hi fK hla (η:=η) (w0:=wd) (η1:=η1) (by rw [hts];exact hst1) J9 λη' A' w' τ hf hst htr=>hK' η' A' w' (.inr ⟨i,hil,hla,NI hcl xF, ?_,r,τ,hr,hf,hst,htr⟩);intro j hj nK;unfold gI;rw [GK j hj nK];by_cases e:j=i
        ·subst e;simp
        ·rw [uU e,AX]
         congr 1;apply propext;constructor
         ·omega
         ·intro h1
          apply Classical.byContradiction;intro h2;have:=hmid j (by omega) (by omega);rw [this] at nK;cases nK
    ·intro η1 A1 w1 hinv
     rcases hinv with ⟨hD,hinv⟩ | ⟨m,hm2,UF,hcl,GK,r1,τ1,hr1,hf1,hst1,J9⟩
     ·have akV:∀i,i < ops.size->lJ ops (kD ops.toList []) i=false:=by
       intro i hi;cases e:lJ ops (kD ops.toList []) i with
       | false=>rfl
       | true=>have:=hD i hi e;simp at this;omega
      have hts:rQ rs { h:=hh,next:=c,lock:=σ.lock } = { h:=hh,next:=c,lock:=σ.lock }:=by
       have:=XG (rs:=rs) (σ:={ h:=hh,next:=c,lock:=σ.lock }) rs.length (dL _) λj r' h1 h2=>hfin j r' h2 (akV j (by omega));rwa [mZ] at this
      rw [hts] at hK;have alc:iK (gq rs) 0 (λj=>decide (j < ops.size)) σ.h=hh:=by
       rw [h4];exact Oo _ _ _ _ (λj hj=>by simp [gq] at hj ⊢;omega)
      have hst:=hinv.st;have htr:=hinv.tr;rw [alc] at hst;rw [OQ] at htr;exact hK η1 A1 w1 ((St.drew h).trans hst) htr
     ·have hts:∀σ1,rQ rs σ1=τ1:=by
       intro σ1;have:=XH (σ:=σ1) hr1 hf1 rs.length (by omega) (dL _) λj r' h1 h2 h3=>by
        refine hfin j r' h3 (hfree j ?_);cases nK:lG ops j with
        | true=>rfl
        | false=>
          have h9:decide (j < ops.size)=decide (j<=m):=GK j (by omega) nK;have h10:decide (j < ops.size)=true:=by simp;omega
          rw [h10] at h9;have:=KJ h9.symm;omega
       rwa [mZ] at this
      rw [hts] at hK;rw [OQ] at J9;exact hK η1 A1 w1 ((St.drew h).trans hst1) J9
   ·cases hs
  ·cases hs
 ·cases hs
section
variable {call:Caller} {ops:Array Oper} {M:List Nat} {N0 gn n:Nat}
theorem alU {o:Oper} (hf:Vm o=true) {ev:Operand->Option AV} {σ1 σ2 τ:ay} {v:Option AV} (hs:lF P call o ev σ1=some (v,τ)):lF P call o ev σ2=some (v,σ2):=by
 obtain ⟨dst,op,type,pos,after,guard⟩:=o;cases op with
 | move x=>
   simp only [qX,oN,dH,bf,jm] at hs ⊢;obtain ⟨u,h1,h2,_⟩:=hs;exact ⟨u,h1,h2,trivial⟩
 | assign x=>
   simp only [qX,oN,dH,bf,jm] at hs ⊢;obtain ⟨u,h1,h2,_⟩:=hs;exact ⟨u,h1,h2,trivial⟩
 | nilCheck x=>
   rw [show lF P call _ ev σ1=Oc P call ev σ1 x from rfl] at hs;rw [show lF P call _ ev σ2=Oc P call ev σ2 x from rfl];unfold Oc at hs ⊢;split at hs<;>simp only [dH,gU,aV,jm,reduceCtorEq] at hs ⊢<;>exact ⟨hs.1,trivial⟩
 | fieldAddr ty x f=>
   rw [show lF P call _ ev σ1=Oa P call ev σ1 ty x f from rfl] at hs;rw [show lF P call _ ev σ2=Oa P call ev σ2 ty x f from rfl];unfold Oa at hs ⊢;split at hs
   ·simp only [dH,bf,jm] at hs ⊢
    obtain ⟨u,h1,h2,_⟩:=hs;exact ⟨u,h1,h2,trivial⟩
   ·cases hs
 | _=>simp [Vm] at hf
theorem alW {i:Nat} {t:Tr AV} {r:bZ} {e:Option (List UInt8×AV)} (h:Pj P call ops M N0 gn n i t=some (r,e)):∃o v,ops[i]? = some o/\o.guard=none/\r=Ky (N0+1) (lD o v)/\
 ((i=0/\e=none/\v=some (.mp N0)/\∃ty,o.op=.makeMap ty none)\/
  (i≠0/\v=none/\∃ty m k x s u,o.op=.insert ty m k x/\aY.eval { t:=iC t (o.looksAt ops),n:=n,gn:=gn } m=some (.mp N0)/\aY.eval { t:=iC t (o.looksAt ops),n:=n,gn:=gn } k=some (.s s)/\aY.eval { t:=iC t (o.looksAt ops),n:=n,gn:=gn } x=some u/\Pg P ty=true/\oZ M 0 i=true/\e=some (s,u))\/
  (i≠0/\e=none/\∀σ2,lF P call o (aY.eval { t:=iC t (o.looksAt ops),n:=n,gn:=gn }) σ2=some (v,σ2))):=by
 unfold Pj at h;split at h
 ·cases h
 ·next o ho=>
  split at h
  ·cases h
  ·next hg=>
   split at h
   ·next hi=>
    have hi:=bF hi;split at h
    ·next ty hop=>
     cases h;exact ⟨o,_,ho,hg,rfl,.inl ⟨hi,rfl,rfl,ty,hop⟩⟩
    ·cases h
   ·next hi=>
    have hi:i≠0:=λe=>by subst e;exact hi rfl
    split at h
    ·next ty m k x hop=>
     split at h
     ·next id s u e1 e2 e3=>
      split at h
      ·next hc=>
       cases h;simp only [aI] at hc;have:=bF hc.1.1;subst this;exact ⟨o,_,ho,hg,rfl,.inr (.inl ⟨hi,rfl,ty,m,k,x,s,u,hop,e1,e2,e3,hc.1.2,hc.2,rfl⟩)⟩
      ·cases h
     ·cases h
    ·split at h
     ·next hf=>
      split at h
      ·next v τ hv=>
       cases h;exact ⟨o,v,ho,hg,rfl,.inr (.inr ⟨hi,rfl,λσ2=>alU hf hv⟩)⟩
      ·cases h
     ·cases h
theorem abO:∀ (m i:Nat) (t:Tr AV) (l:List (bZ×Option (List UInt8×AV))) (t':Tr AV),O9 P call ops M N0 gn n m i t=some (l,t')->
 l.length=m/\t'=gY (iH (l.map (·.1))) t/\∀ (k:Nat) r,l[k]? = some r->Pj P call ops M N0 gn n (i+k) (gY ((iH (l.map (·.1))).take k) t)=some r
 | 0,i,t,l,t',h=>by
   cases h;exact ⟨rfl,rfl,λk r hr=>by simp at hr⟩
 | m+1,i,t,l,t',h=>by
   unfold O9 at h;split at h
   ·cases h
   ·next r hr=>
    split at h
    ·cases h
    ·next l2 t2 hl=>
     cases h;obtain ⟨h1,h2,h3⟩:=abO m _ _ _ _ hl;refine ⟨by simp [h1],by rw [h2];rfl,λk r' hk=>?_⟩;cases k with
     | zero=>simp only [iP,aV] at hk;subst hk;exact hr
     | succ k=>
       simp only [pK] at hk;have:=h3 k r' hk;rw [show i+1+k=i+(k+1) by omega] at this;exact this
theorem TJ:∀ (es:List (Option (List UInt8×AV))) (k:Nat) (D:Nat->Bool),(∀ (j:Nat) e,es[j]? = some (some e)->D (k+j)=false)->jw es k D=[]
 | [],_,_,_=>rfl
 | none::l,k,D,h=>by
   rw [jw];exact TJ l (k+1) D λj e hj=>by have:=h (j+1) e (by simpa using hj);rwa [show k+(j+1)=k+1+j by omega] at this
 | some x::l,k,D,h=>by
   have h0:=h 0 x (by simp);simp only [kV] at h0;rw [jw,h0];exact TJ l (k+1) D λj e hj=>by have:=h (j+1) e (by simpa using hj);rwa [show k+(j+1)=k+1+j by omega] at this
theorem TI:∀ (es:List (Option (List UInt8×AV))) (k:Nat) (D:Nat->Bool),(∀j,j < es.length->D (k+j)=true)->jw es k D=es.filterMap id
 | [],_,_,_=>rfl
 | none::l,k,D,h=>by
   rw [jw,TI l (k+1) D λj hj=>by have:=h (j+1) (by simpa using hj);rwa [show k+(j+1)=k+1+j by omega] at this];rfl
 | some x::l,k,D,h=>by
   have h0:=h 0 (by simp);simp only [kV] at h0;rw [jw,h0,TI l (k+1) D λj hj=>by have:=h (j+1) (by simpa using hj);rwa [show k+(j+1)=k+1+j by omega] at this];rfl
theorem NY:∀ (es:List (Option (List UInt8×AV))) (k:Nat) (D E:Nat->Bool),(∀ (j:Nat) e,es[j]? = some (some e)->D (k+j)=E (k+j))->jw es k D=jw es k E
 | [],_,_,_,_=>rfl
 | none::l,k,D,E,h=>by
   rw [jw,jw];exact NY l (k+1) D E λj e hj=>by have:=h (j+1) e (by simpa using hj);rwa [show k+(j+1)=k+1+j by omega] at this
 | some x::l,k,D,E,h=>by
   have h0:=h 0 x (by simp);simp only [kV] at h0;rw [jw,jw,h0,NY l (k+1) D E λj e hj=>by have:=h (j+1) e (by simpa using hj);rwa [show k+(j+1)=k+1+j by omega] at this]
theorem TF:∀ (es:List (Option (List UInt8×AV))) (k i:Nat) (D:Nat->Bool) (e:List UInt8×AV),es[i]? = some (some e)->D (k+i)=false->(jw es k (gI D (k+i))).Perm (e::jw es k D)
 | [],_,i,_,_,h,_=>by simp at h
 | x::l,k,0,D,e,h,hD=>by
   simp only [iP,aV] at h;subst h;simp only [kV] at hD ⊢;have h1:gI D k k=true:=by unfold gI;simp
   rw [jw,jw,h1,hD,NY l (k+1) (gI D k) D λj e' _=>by unfold gI;rw [uU (by omega),AX]];exact Yo _
 | none::l,k,i+1,D,e,h,hD=>by
   rw [jw,jw,show k+(i+1)=k+1+i by omega] at *;exact TF l (k+1) i D e (by simpa using h) hD
 | some x::l,k,i+1,D,e,h,hD=>by
   have h1:gI D (k+(i+1)) k=D k:=by unfold gI;rw [uU (by omega),AX]
   rw [jw,jw,h1];have ih:=TF l (k+1) i D e (by simpa using h) (by rwa [show k+1+i=k+(i+1) by omega]);rw [show k+1+i=k+(i+1) by omega] at ih;cases D k with
   | true=>exact (ih.cons x).trans (List.Perm.swap e x _)
   | false=>exact ih
theorem NZ:∀ (es:List (Option (List UInt8×AV))) (k:Nat) (D:Nat->Bool),∀e∈jw es k D,∃j,es[j]? = some (some e)/\D (k+j)=true
 | [],_,_,e,h=>by simp [jw] at h
 | none::l,k,D,e,h=>by
   rw [jw] at h;obtain ⟨j,h1,h2⟩:=NZ l (k+1) D e h;exact ⟨j+1,by simpa using h1,by rwa [show k+(j+1)=k+1+j by omega]⟩
 | some x::l,k,D,e,h=>by
   rw [jw] at h;split at h
   ·next hk=>
    rcases dO.1 h with rfl | h
    ·exact ⟨0,by simp,by simpa using hk⟩
    ·obtain ⟨j,h1,h2⟩:=NZ l (k+1) D e h
     exact ⟨j+1,by simpa using h1,by rwa [show k+(j+1)=k+1+j by omega]⟩
   ·obtain ⟨j,h1,h2⟩:=NZ l (k+1) D e h
    exact ⟨j+1,by simpa using h1,by rwa [show k+(j+1)=k+1+j by omega]⟩
theorem acM:∀ {l:List (List UInt8)},PS l=true->l.Nodup
 | [],_=>List.nodup_nil
 | s::l,h=>by
   simp only [PS,aI,wP] at h;refine YI.2 ⟨λhm=>?_,acM h.2⟩;have:(l.any λx=>x==s)=true:=List.any_eq_true.2 ⟨s,hm,by simp⟩;rw [h.1] at this;cases this
theorem VH:∀ {es:List (Option (List UInt8×AV))},((es.filterMap id).map (·.1)).Nodup->∀ (i j:Nat) e f,es[i]? = some (some e)->es[j]? = some (some f)->i≠j->e.1≠f.1
 | [],_,i,j,e,f,h,_,_=>by simp at h
 | none::l,hn,i,j,e,f,h1,h2,hne=>by
   cases i with
   | zero=>simp at h1
   | succ i=>
     cases j with
     | zero=>simp at h2
     | succ j=>exact VH (es:=l) (by simpa using hn) i j e f (by simpa using h1) (by simpa using h2) (by omega)
 | some x::l,hn,i,j,e,f,h1,h2,hne=>by
   simp only [List.filterMap_cons_some (f:=id) (a:=some x) (b:=x) rfl,iU,YI,l7,not_exists,not_and] at hn;have mem:∀ (k:Nat) g,l[k]? = some (some g)->g∈l.filterMap id:=λk g hk=>List.mem_filterMap.2 ⟨some g,qA hk,rfl⟩;cases i with
   | zero=>
     simp only [iP,aV] at h1;subst h1;cases j with
     | zero=>exact absurd rfl hne
     | succ j=>exact λe'=>hn.1 f (mem j f (by simpa using h2)) e'.symm
   | succ i=>
     cases j with
     | zero=>
       simp only [iP,aV] at h2;subst h2;exact λe'=>hn.1 e (mem i e (by simpa using h1)) e'
     | succ j=>exact VH hn.2 i j e f (by simpa using h1) (by simpa using h2) (by omega)
theorem aaM {s:List UInt8}:∀ (es:List (AV×AV)) (i:Nat),(∀e∈es,∃t,e.1=.s t/\t≠s)->yQ (.s s) es i=some none
 | [],_,_=>rfl
 | e::es,i,h=>by
   obtain ⟨t,h1,h2⟩:=h e (by simp);have hk:Kt (.s s) e.1=some false:=by
    rw [h1];simp only [Kt,aV,beq_eq_false_iff_ne,ne_eq];exact λe'=>h2 e'.symm
   unfold yQ;rw [hk];exact aaM es (i+1) λe he=>h e (by simp [he])
theorem St.weak {η η1:Env} {σ τ:ay} {w w1:World} (h:St P η σ w η1 τ w1) {id:Nat} {o o':bn} (hg:τ.get id=some o) (ho:o'.own=o.own) (hl:Live P η1 w1 id o'):St P η σ w η1 (τ.put id o') w1:=
 { h with
   rel:=h.rel.swap hg ho hl
   own:=λid2 o2 q a b c d=>by
    rw [ay.get_put] at a;split at a
    ·next e=>cases a;subst e;exact h.own id2 o q hg (by rw [<- ho];exact b) c d
    ·exact h.own id2 o2 q a b c d }
theorem anX {η:Env} {q:Place} {w:World} {es:List (List UInt8×AV)} {es':List (AV×AV)} (hn:(es.map (·.1)).Nodup) (hp:es'.Perm (es.map λe=>(AV.s e.1,e.2))) (h:OR P η q w (.map es')):OR P η q w (.pmap es):=by
 obtain ⟨ms,clock,h1,h2,h3⟩:=h;refine ⟨hn,ms,clock, ?_⟩;have key:∀ (l l':List (AV×AV)),l.Perm l'->∀ms:List MapEntry,vJ η l ms->∃ms',ms.Perm ms'/\vJ η l' ms':=by
  intro l l' hp;induction hp with
  | nil=>exact λms h=>⟨ms,Yo _,h⟩
  | cons x hp ih=>
    intro ms h;obtain ⟨m,rest,rfl,a,b,c⟩:=h.tail;obtain ⟨ms',h1,h2⟩:=ih rest c;refine ⟨m::ms',h1.cons m,by simp [h2.1],λk e hk=>?_⟩;cases k with
    | zero=>simp only [iP,aV] at hk;subst hk;exact ⟨m,by simp,a,b⟩
    | succ k=>simpa using h2.2 k e (by simpa using hk)
  | swap x y l=>
    intro ms h;obtain ⟨m,rest,rfl,a,b,c⟩:=h.tail;obtain ⟨m2,aoV,rfl,a2,b2,c2⟩:=c.tail;refine ⟨m2::m::aoV,List.Perm.swap _ _ _,by simp [c2.1],λk e hk=>?_⟩;match k with
    | 0=>simp only [iP,aV] at hk;subst hk;exact ⟨m2,by simp,a2,b2⟩
    | 1=>simp only [pK,iP,aV] at hk;subst hk;exact ⟨m,by simp,a,b⟩
    | k+2=>simpa using c2.2 k e (by simpa using hk)
  | trans _ _ ih1 ih2=>
    intro ms h;obtain ⟨ms1,a,b⟩:=ih1 ms h;obtain ⟨ms2,c,d⟩:=ih2 ms1 b;exact ⟨ms2,a.trans c,d⟩
 obtain ⟨ms',a,b⟩:=key _ _ hp ms.toList ⟨by simpa using h2,λk e hk=>by obtain ⟨m,hm,x,y⟩:=h3 k e hk;exact ⟨m,by simpa using hm,x,y⟩⟩;refine ⟨ms',h1,a,by simpa using b.1,λk e hk=>?_⟩;obtain ⟨m,hm,x,y⟩:=b.2 k (AV.s e.1,e.2) (by rw [iF,hk];rfl);exact ⟨m,hm,by simpa only [VR] using x,y⟩
theorem alV {t:TypeId} (h:Pg P t=true):∃kt et,P.underlying t=some (.map kt et)/\P.underlying kt=some .string:=by
 unfold Pg at h;split at h
 ·next kt et hu=>
  split at h
  ·next hk=>exact ⟨kt,et,hu,hk⟩
  ·cases h
 ·cases h
end
theorem alY (hm:P.follows .mixedOrders=true):IX P (Vl P):=by
 intro call hcall ops a σ a' σ' hs η w A rid Q h ht hK;unfold Vl at hs;split at hs;rotate_left
 ·cases hs
 next hlit=>
 simp only at hs;split at hs;rotate_left
 ·cases hs
 next hok=>
 simp only [aI] at hok;split at hs;rotate_left
 ·cases hs
 next l t hgo=>
 split at hs;rotate_left
 ·cases hs
 next tV=>
 simp only [aI] at tV;obtain ⟨⟨GU,hsl⟩,akT⟩:=tV;have hnd:=acM akT;obtain ⟨hlen,ht',hone⟩:=abO _ _ _ _ _ hgo;have abj:=pW hok.2;have hes:l.filterMap (·.2)=(l.map (·.2)).filterMap id:=by rw [List.filterMap_map];rfl
 rw [hes] at hs hnd;have ent:∀ (j:Nat) e,(l.map (·.2))[j]? = some (some e)->∃r,l[j]? = some (r,some e):=λj e hj=>by
  rw [iF] at hj;obtain ⟨x,h1,h2⟩:=bf.1 hj;exact ⟨x.1,by rw [h1,<- h2]⟩
 have adG:∀ (i:Nat) r,(l.map (·.1))[i]? = some r->∃e,l[i]? = some (r,e):=λi r hr=>by
  rw [iF] at hr;obtain ⟨x,h1,h2⟩:=bf.1 hr;exact ⟨x.2,by rw [h1,<- h2]⟩
 have spec:∀ (i:Nat) r e,l[i]? = some (r,e)->_:=λi r e hr=>alW (hone i (r,e) hr);simp only [iV] at spec
 have C:og ops (kD ops.toList []) (l.map (·.1)) a.n (σ.next+1):={
  hM:=rfl
  Vy:=hok.1
  len:=by simpa using hlen
  pairs:=by
   refine ac0 GU ?_ λi r hr=>?_
   ·unfold NU
    rw [List.all_eq_true];intro p hp;obtain ⟨s,j⟩:=p;rw [YH] at hp;obtain ⟨e,he⟩:=adG j s (by simpa using hp);obtain ⟨o,v,_,_,h3,_⟩:=spec j s e he;subst h3;simp [Ky]
   ·obtain ⟨e,he⟩:=adG i r hr
    obtain ⟨o,v,h1,_,h3,_⟩:=spec i r e he;subst h3;exact ⟨o,v,h1,rfl⟩
  slot:=by
   intro i r hr;unfold Qu at hsl;rw [List.all_eq_true] at hsl;have:=hsl r (qA hr);simp only [aI] at this;refine ⟨Nat.le_of_ble_eq_true this.1,λp hpm=>?_⟩;have h8:=this.2;rw [List.all_eq_true] at h8;have:=h8 p hpm;rwa [je] at this }
 refine wp_region_any hm ?_;have hempty:inB (Array.replicate ops.size false)=λ_=>false:=by
  funext j;unfold inB;rw [vF,aff];split<;>rfl
 have hno:∀ {α:Type} (us:List (List (Nat×Option α))) (k:Nat) (t:Tr α),iK us k (λ_=>false) t=t:=by
  intro α us;induction us with
  | nil=>intro k t;rfl
  | cons u us ih=>intro k t;rw [iK];simp only [fF,if_false];exact ih _ _
 have OQ:iK (iH (l.map (·.1))) 0 (λj=>decide (j < ops.size)) a.t=t:=by
  rw [ht'];exact Oo _ _ _ _ (λj hj=>by simp [iH] at hj ⊢;omega)
 cases hs;let wd:World:={ w with drawn:=w.drawn+1 }
 have Uj:∀o,(σ.new o).get σ.next=some o:=λo=>by rw [ay.ou];simp
 have ado:∀o o' id x,(σ.new o').get id=some x->((σ.new o).put σ.next o').get id=some x:=λo o' id x hx=>by
  rw [ay.get_put];rw [ay.ou] at hx ⊢;by_cases e:id=σ.next
  ·rw [aj e] at hx ⊢;exact hx
  ·rw [ah e] at hx ⊢;rw [ah e];exact hx
 have hpos:0 < ops.size/\∃ty o,ops[0]? = some o/\o.op=.makeMap ty none:=by
  unfold isLit at hlit;split at hlit
  ·next o ho=>
   split at hlit
   ·next ty hop=>exact ⟨(nZ.1 ho).1,ty,o,ho,hop⟩
   ·cases hlit
  ·cases hlit
 refine Y7 C (λD η1 w1 A1=>Closed ops D/\TR P η1 { t:=iK (iH (l.map (·.1))) 0 D a.t,n:=a.n,gn:=a.gn } A1/\(D 0=false->St P η σ wd η1 σ w1)/\
  (D 0=true->∃es',es'.Perm ((jw (l.map (·.2)) 0 D).map λe=>(AV.s e.1,e.2))/\St P η σ wd η1 (σ.new (.map es')) w1)) ?_ ?_ ops.size (Array.replicate ops.size false) η _ A (by simp) (by simp) ?_
 ·intro D η1 w1 A1 i K Q' hinv hil hi xF hK'
  obtain ⟨hcl,htr,GU,hst1⟩:=hinv;obtain ⟨o,ho⟩:∃o,ops[i]? = some o:=⟨ops[i],by simp [hil]⟩
  obtain ⟨⟨r,e⟩,hl⟩:∃x,l[i]? = some x:=⟨_,bV (by rw [hlen];exact hil)⟩
  have hr:(l.map (·.1))[i]? = some r:=by rw [iF,hl];rfl
  have fK:=xF o ho;obtain ⟨o',v,ho',hg,hrec,hcase⟩:=spec i r e hl;rw [ho] at ho';cases ho';have hact:TR P η1 { t:=iC (gY ((iH (l.map (·.1))).take i) a.t) (o.looksAt ops),n:=a.n,gn:=a.gn } A1:=by
   refine ⟨htr.gn,htr.size,htr.none,λd v hv=>?_⟩;rw [xC] at hv;split at hv
   ·next hd=>
    rw [C.Xl (a0:=a) hcl ho hr hi fK hd] at hv;exact htr.slot d v hv
   ·cases hv
  have hnext:=λd=>C.JX (a0:=a) hcl ho hr hi fK d;have abn:=(C.slot i r hr).2;have GL:=NI hcl xF;rw [hrec] at hnext abn;have hw:AQ o ops { t:=iC (gY ((iH (l.map (·.1))).take i) a.t) (o.looksAt ops),n:=a.n,gn:=a.gn }=some true:=by
   unfold AQ;rw [hg]
  have step:∀ {τ τ':ay},SR P η1 τ w1->oN P call o (aY.eval { t:=iC (gY ((iH (l.map (·.1))).take i) a.t) (o.looksAt ops),n:=a.n,gn:=a.gn }) τ=some (v,τ')->
   (∀η' A' w',St P η1 τ w1 η' τ' w'->TR P η' { t:=iK (iH (l.map (·.1))) 0 (gI D i) a.t,n:=a.n,gn:=a.gn } A'->K A' w')->wpOp P ops Q' i K A1 w1:=by
   intro τ τ' hsr hop hk;unfold wpOp;rw [ho];simp only;rw [AU hact hw];simp only [if_true];left;exact MX hsr hcall hact hop λx η' w' hst2 hx=>hk η' _ w' hst2 (htr.add hst2.ext hnext abn hx)
  have other:e=none->i≠0->jw (l.map (·.2)) 0 (gI D i)=jw (l.map (·.2)) 0 D:=by
   intro he _;refine NY _ _ _ _ λj f hj=>?_;simp only [iV];have:j≠i:=by
    rintro rfl
    obtain ⟨r2,h2⟩:=ent j f hj;rw [hl,he] at h2;cases h2
   unfold gI;rw [uU this,AX]
  rcases hcase with ⟨hi0,he,hv,ty,hop⟩ | ⟨hi0,hv,ty,m,k,x,s,u,hop,e1,e2,e3,hlk,hord,he⟩ | ⟨hi0,he,hfr⟩
  ·
    subst hi0;have hst:=GU hi;have akW:∀ (j:Nat) f,(l.map (·.2))[j]? = some (some f)->D j=false:=by
     intro j f hj;obtain ⟨r2,h2⟩:=ent j f hj;obtain ⟨o2,v2,ho2,_,_,hc2⟩:=spec j r2 _ h2;rcases hc2 with ⟨_,hx,_⟩ | ⟨_,_,_,_,_,_,_,_,_,_,_,_,_,akZ,_⟩ | ⟨_,hx,_⟩
     ·cases hx
     ·cases xE:D j with
      | false=>rfl
      | true=>
        have:=C.nD hcl j o2 ho2 (λe' he' hb=>hcl j o2 xE ho2 e' he' hb) 0 akZ;rw [hi] at this;cases this
     ·cases hx
    refine step hst.rel (τ':=σ.new (.map [])) ?_ λη' A' w' hst2 Eb=>hK' η' A' w' ⟨GL,Eb,λh0=>?_,λ_=>⟨[], ?_,hst.trans hst2⟩⟩
    ·have h14:∀ev,lF P call o ev σ=aaH P call ev σ ty none:=λev=>by unfold lF;rw [hop];rfl
     rw [hv,<- qX,h14];rfl
    ·exfalso
     unfold gI at h0;simp at h0
    ·have hz:jw (l.map (·.2)) 0 (gI D 0)=[]:=by
      refine TJ _ _ _ λj f hj=>?_;simp only [iV];have h1:=akW j f hj;have:j≠0:=by
       rintro rfl
       obtain ⟨r2,h2⟩:=ent 0 f hj;rw [hl,he] at h2;cases h2
      unfold gI;rw [uU this,h1];rfl
     rw [hz];exact Yo _
  ·
    have hD0:D 0=true:=C.nD hcl i o ho fK 0 hord;obtain ⟨es',hperm,hst⟩:=hst1 hD0;obtain ⟨kt,et,hu1,hu2⟩:=alV hlk;have hel:(l.map (·.2))[i]? = some (some (s,u)):=by rw [iF,hl,he];rfl
    have hfind:yQ (.s s) es' 0=some none:=by
     refine aaM es' 0 λf hf=>?_;have hf2:=hperm.mem_iff.1 hf;obtain ⟨g,hg1,hg2⟩:=l7.1 hf2;obtain ⟨j,hj1,hj2⟩:=NZ _ _ _ g hg1;simp only [iV] at hj2;refine ⟨g.1,by rw [<- hg2], ?_⟩;exact VH hnd j i g (s,u) hj1 hel (by rintro rfl;rw [hi] at hj2;cases hj2)
    refine step hst.rel (τ':=(σ.new (.map es')).put σ.next (.map (es'++[(.s s,u)]))) ?_ λη' A' w' hst2 Eb=>hK' η' A' w' ⟨GL,Eb,λh0=>?_,λ_=>⟨es'++[(.s s,u)], ?_, ?_⟩⟩
    ·have hfit:Gu P kt (.s s)=true:=by unfold Gu;rw [hu2]
     have hup:FN P ty (.mp σ.next) (.s s) u (σ.new (.map es'))=some ((σ.new (.map es')).put σ.next (.map (es'++[(.s s,u)]))):=by
      unfold FN;rw [hu1];simp only [Uj];rw [aj ⟨abj,hfit⟩,hfind]
     have h22:∀ev,lF P call o ev (σ.new (.map es'))=Ob P call ev (σ.new (.map es')) ty m k x:=λev=>by unfold lF;rw [hop];rfl
     rw [hv,<- qX,h22];unfold Ob;rw [e1,e2,e3];simp only [hup,jB,EL,gU]
    ·exfalso
     unfold gI at h0;rw [hD0] at h0;simp at h0
    ·have hp2:=TF (l.map (·.2)) 0 i D (s,u) hel (by simpa using hi)
     simp only [iV] at hp2;refine List.Perm.trans ?_ (hp2.map λe=>(AV.s e.1,e.2)).symm;rw [iU];exact (List.perm_append_singleton _ _).trans (hperm.cons _)
    ·refine (hst.trans hst2).sub (λid' x' hx'=>ado _ _ _ _ hx') ?_ rfl
     exact dL _
  ·
    cases hD0:D 0 with
    | false=>
      have hst:=GU hD0;refine step hst.rel (τ':=σ) (by rw [<- qX];exact hfr σ) λη' A' w' hst2 Eb=>hK' η' A' w' ⟨GL,Eb,λ_=>hst.trans hst2,λh0=>?_⟩;exfalso;unfold gI at h0;rw [hD0,uU (λe'=>hi0 e'.symm)] at h0;cases h0
    | true=>
      obtain ⟨es',hperm,hst⟩:=hst1 hD0;refine step hst.rel (τ':=σ.new (.map es')) (by rw [<- qX];exact hfr _) λη' A' w' hst2 Eb=>hK' η' A' w' ⟨GL,Eb,λh0=>?_,λ_=>⟨es',by rw [other he hi0];exact hperm,hst.trans hst2⟩⟩;exfalso;unfold gI at h0;rw [hD0] at h0;simp at h0
 ·intro η1 A1 w1 hinv
  obtain ⟨hcl,htr,_,hst1⟩:=hinv;obtain ⟨es',hperm,hst⟩:=hst1 (by simpa using hpos.1);rw [TI _ _ _ (λj hj=>by simp at hj ⊢;omega)] at hperm;rw [OQ] at htr;refine hK η1 A1 w1 ((St.drew h).trans ?_) htr;obtain ⟨q,hq,hor⟩:=hst.rel.obj σ.next _ (Uj _) rfl;have:=hst.weak (o':=.pmap ((l.map (·.2)).filterMap id)) (Uj _) rfl (.inl ⟨q,hq,anX hnd hperm hor⟩);exact this.sub (λid' x' hx'=>ado _ _ _ _ hx') (dL _) rfl
 ·rw [hempty]
  refine ⟨λi o hi=>by simp at hi, ?_,λ_=>St.refl h.drew,λh0=>by simp at h0⟩;rw [hno];exact ⟨ht.gn,ht.size,ht.none,ht.slot⟩
theorem aao (hm:P.follows .mixedOrders=true):IX P (ML P):=by
 intro call hcall ops a σ a' σ' hs;unfold ML at hs;split at hs
 ·next r hr=>cases hs;exact alY hm call hcall ops a σ a' σ' hr
 ·exact aiQ hm call hcall ops a σ a' σ' hs
end
end Go.aJ
