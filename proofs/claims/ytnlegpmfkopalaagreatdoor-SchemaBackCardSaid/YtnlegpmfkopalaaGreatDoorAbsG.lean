/- Regions whose order Go leaves open: one operation keeps the invariant. -/
import Derived.Test.YtnlegpmfkopalaaGreatDoorAbsF
namespace Go.aN
set_option linter.unusedSimpArgs false
noncomputable section
variable [aF]
set_option linter.unusedSectionVars false
set_option linter.unusedVariables false
variable {P:Program}
structure y9 (P:Program) (ops:Array Oper) (rs:List bY) (a0:aU) (σ0:au) (cf:Nat) (η0:Env) (w0:World) (D:Nat->Bool) (η:Env) (w:World) (A:Act):Prop where
 closed:Closed ops D
 st:St P η0 σ0 w0 η { h:=iD (fU rs) 0 D σ0.h,next:=cf,lock:=σ0.lock } w
 tr:TR P η { t:=iD (iq rs) 0 D a0.t,n:=a0.n,gn:=a0.gn } A
 dm:∀id,η.has id->id < σ0.next\/(∃k,k < ops.size/\D k=true/\id=σ0.next+k)\/(∃ (j:Nat) (r:bY),rs[j]? = some r/\D j=true/\r.base<=id/\id < r.next)
theorem TR.add {η η':Env} {T T':Tr AV} {n gn:Nat} {A:Act} {o:Oper} {v:Option AV} {x:Value} (h:TR P η { t:=T,n:=n,gn:=gn } A) (hle:η.le η') (hg:∀d,T'.get d=(eU (lI o v) d).getD (T.get d))
 (hb:∀p∈lI o v,p.1 < n) (hv:∀u,v=some u->VR η' u x):TR P η' { t:=T',n:=n,gn:=gn } (A.put o.dst x):=by
 have h':=h.mono hle;unfold lI at hg hb;cases hd:o.dst with
 | none=>
   rw [hd] at hg;refine ⟨h.gn,h.size,h.none,λd u hu=>?_⟩;rw [hg] at hu;exact h'.slot d u hu
 | some d0=>
   rw [hd] at hg hb;have hd0:=hb (d0,v) (by simp);refine ⟨h.gn,by have:=h.size;simpa [Act.put] using this,h.none,λd u hu=>?_⟩;rw [hg] at hu;simp only [eU] at hu;show ∃y,(A.tmps.setIfInBounds d0 x)[d]? = some y/\_
   rw [y7];by_cases e:d=d0
   ·subst e
    rw [aj rfl,aj (by have:=h.size;simp only at this hd0;omega)];rw [aj rfl] at hu;exact ⟨x,rfl,hv u hu⟩
   ·rw [ah (λe'=>e e'.symm)]
    rw [ah e] at hu;exact h'.slot d u hu
section
variable {call:Caller} {ops:Array Oper} {M:List Nat} {rs:List bY} {a0:aU} {σ0:au} {cf:Nat} {η0 η:Env} {w0 w:World} {D:Nat->Bool} {A:Act} {i nn N0:Nat} {o:Oper} {r:bY}
def gq (D:Nat->Bool) (i:Nat):Nat->Bool:=λj=>D j || Nat.beq j i
theorem aqB {rs:List bY} {i:Nat} {r:bY} (h:rs[i]? = some r):(fU rs)[i]? = some r.upd:=by simp [fU,h]
theorem apk {rs:List bY} {i:Nat} {r:bY} (h:rs[i]? = some r):(iq rs)[i]? = some r.slot:=by simp [iq,h]
theorem LM {rs:List bY} {i:Nat} {u:List (Nat×Option aZ)} (h:(fU rs)[i]? = some u):∃r,rs[i]? = some r/\r.upd=u:=by simpa [fU] using h
theorem ad3 {rs:List bY} {i:Nat} {u:List (Nat×Option AV)} (h:(iq rs)[i]? = some u):∃r,rs[i]? = some r/\r.slot=u:=by simpa [iq] using h
theorem Iy {N0 i j:Nat} {r s:bY} {o:Oper} (ho:ops[i]? = some o) (h:La ops N0 i j r s=true):nI (keysOf r.slot) (keysOf s.slot)=true/\nI (o.looksAt ops) (keysOf s.slot)=true/\nI (keysOf r.upd) (keysOf s.upd)=true/\
 (∀l,r.vis=some l->nI l (keysOf s.upd)=true)/\(r.vis=none->i < j->(∀k∈keysOf s.upd,N0<=k)/\nI r.loc (keysOf s.upd)=true/\s.base=s.next)/\(r.vis=none->i≠j->j < i\/i < j):=by
 unfold La at h;rw [ho] at h;simp only [aI] at h;obtain ⟨⟨⟨h1,h2⟩,h3⟩,h4⟩:=h;refine ⟨h1,h2,h3, ?_, ?_,λ_ hne=>by omega⟩
 ·intro l hl;rw [hl] at h4;exact h4
 ·intro hn hij
  rw [hn] at h4;simp only [lS,aI] at h4;rcases h4 with h4 | ⟨⟨h5,h6⟩,h7⟩
  ·rw [iU] at h4;omega
  ·refine ⟨λk hk=>?_,h6,bG h7⟩
   rw [List.all_eq_true] at h5;exact pX (h5 k hk)
theorem og.aaS (C:og ops M rs nn N0) (hD:Closed ops D) (ho:ops[i]? = some o) (hr:rs[i]? = some r) (hi:D i=false) (fG:∀e∈o.after.toList,Region.binds .any e=true->D e.on=true) (b:Nat) :
 (iD (fU rs) 0 (gq D i) σ0.h).get b=(eU r.upd b).getD ((iD (fU rs) 0 D σ0.h).get b):=by
 rw [zM,zM];have:=U5 (fU rs) 0 i D b r.upd (aqB hr) (by simpa using hi) (λj v hj hij xu hne=>by
  obtain ⟨s,hs,rfl⟩:=LM hj;have hjl:j < ops.size:=by have:=(dY.1 hs).1;rw [C.len] at this;exact this
  have hun:=C.open_ hD ho hi fG hjl (by simp at xu;rw [xu];simp;omega);have hp:=Iy ho (C.pairs i j r s hr hs hun);exact KP (J4 hp.2.2.1 ((wB _ _).1 hne)))
 simp only [jr] at this;unfold gq;rw [this];cases eU r.upd b<;>rfl
theorem og.J9 (C:og ops M rs nn N0) (hD:Closed ops D) (ho:ops[i]? = some o) (hr:rs[i]? = some r) (hi:D i=false) (fG:∀e∈o.after.toList,Region.binds .any e=true->D e.on=true) (b:Nat) :
 (iD (iq rs) 0 (gq D i) a0.t).get b=(eU r.slot b).getD ((iD (iq rs) 0 D a0.t).get b):=by
 rw [zM,zM];have:=U5 (iq rs) 0 i D b r.slot (apk hr) (by simpa using hi) (λj v hj hij xu hne=>by
  obtain ⟨s,hs,rfl⟩:=ad3 hj;have hjl:j < ops.size:=by have:=(dY.1 hs).1;rw [C.len] at this;exact this
  have hun:=C.open_ hD ho hi fG hjl (by simp at xu;rw [xu];simp;omega);have hp:=Iy ho (C.pairs i j r s hr hs hun);exact KP (J4 hp.1 ((wB _ _).1 hne)))
 simp only [jr] at this;unfold gq;rw [this];cases eU r.slot b<;>rfl
theorem og.Xf (C:og ops M rs nn N0) (hD:Closed ops D) (ho:ops[i]? = some o) (hr:rs[i]? = some r) (hi:D i=false) (fG:∀e∈o.after.toList,Region.binds .any e=true->D e.on=true) {d:Nat} (hd:d∈o.looksAt ops) :
 (gV ((iq rs).take i) a0.t).get d=(iD (iq rs) 0 D a0.t).get d:=by
 rw [Hr (iq rs) i 0,zM];congr 1;refine Ie _ _ _ _ _ λj u hj hne=>?_;obtain ⟨s,hs,rfl⟩:=ad3 hj;have hjl:j < ops.size:=by have:=(dY.1 hs).1;rw [C.len] at this;exact this
 simp only [jr] at hne;have hun:=C.open_ hD ho hi fG hjl (λe=>hne e.symm);have hp:=Iy ho (C.pairs i j r s hr hs hun);exact KP (J4 hp.2.1 hd)
theorem og.ao0 (C:og ops M rs nn N0) (hD:Closed ops D) (ho:ops[i]? = some o) (hr:rs[i]? = some r) (hi:D i=false) (fG:∀e∈o.after.toList,Region.binds .any e=true->D e.on=true) {l:List Nat} (hv:r.vis=some l) {b:Nat} (hb:b∈l) :
 (gV ((fU rs).take i) σ0.h).get b=(iD (fU rs) 0 D σ0.h).get b:=by
 rw [Hr (fU rs) i 0,zM];congr 1;refine Ie _ _ _ _ _ λj u hj hne=>?_;obtain ⟨s,hs,rfl⟩:=LM hj;have hjl:j < ops.size:=by have:=(dY.1 hs).1;rw [C.len] at this;exact this
 simp only [jr] at hne;have hun:=C.open_ hD ho hi fG hjl (λe=>hne e.symm);have hp:=Iy ho (C.pairs i j r s hr hs hun);exact KP (J4 (hp.2.2.2.1 l hv) hb)
theorem Ctx.act (C:Ctx P call ops M rs a0 σ0 cf) (hinv:y9 P ops rs a0 σ0 cf η0 w0 D η w A) (ho:ops[i]? = some o) (hr:rs[i]? = some r) (hi:D i=false) (fG:∀e∈o.after.toList,Region.binds .any e=true->D e.on=true) :
 TR P η { t:=gZ (gV ((iq rs).take i) a0.t) (o.looksAt ops),n:=a0.n,gn:=a0.gn } A:=by
 refine ⟨hinv.tr.gn,hinv.tr.size,hinv.tr.none,λd v hv=>?_⟩;rw [xk] at hv;split at hv
 ·next hd=>
  rw [C.Xf (a0:=a0) hinv.closed ho hr hi fG hd] at hv;exact hinv.tr.slot d v hv
 ·cases hv
theorem Ctx.gen (C:Ctx P call ops M rs a0 σ0 cf) (hcall:oL P call) (hinv:y9 P ops rs a0 σ0 cf η0 w0 D η w A) (ho:ops[i]? = some o) (hr:rs[i]? = some r) (hil:i < ops.size) (hi:D i=false)
 (fG:∀e∈o.after.toList,Region.binds .any e=true->D e.on=true) {ηi:Env} {τ τ':au} {v:Option AV} {a:aU} {K:Act->World->Prop} {Q:Exit->Act->World->Prop}
 (OQ:SR P ηi τ w) (hTi:TR P ηi a A) (hle:ηi.le η) (hro:ηi.ro=η.ro) (hop:oP P call o a.eval τ=some (v,τ')) (KA:r.slot=lI o v)
 (sub:∀id ob,τ.get id=some ob->(iD (fU rs) 0 D σ0.h).get id=some ob) (free:∀id,η.has id->¬ (τ.next<=id/\id < τ'.next))
 (hu:∀b ob,eU r.upd b=some (some ob)->τ'.get b=some ob/\((∃o0,τ.get b=some o0/\o0.own=true)\/(ob.own=true/\τ.get b=none)))
 (I9:∀id ob,τ.get id=some ob->ob.own=true->τ.lock<=id->eU r.upd id≠none) (hlk:σ0.lock<=τ.lock) (H7:∀b,eU r.upd b≠none->τ.lock<=b)
 (hdm:∀id,τ.next<=id->id < τ'.next->σ0.next<=id/\id < cf/\(id=σ0.next+i\/(r.base<=id/\id < r.next)))
 (hK:∀η' A' w',y9 P ops rs a0 σ0 cf η0 w0 (gq D i) η' w' A'->K A' w'):o.wp P A w K Q:=by
 refine Na OQ hcall hTi hop λx pI w' hst hx=>?_;let η':Env:=⟨λid=>if τ.next<=id/\id < τ'.next then pI id else η id,pI.ro,λid=>if τ.next<=id/\id < τ'.next then pI.gh id else η.gh id⟩
 have h1:η.le η':=⟨λid q hq=>by
  show (if τ.next<=id/\id < τ'.next then pI id else η id)=some q
  rw [ah (free id (.inl ⟨q,hq⟩))];exact hq,λb o hb=>hst.ext.ro b o (by rw [hro];exact hb),λid hg=>by
  show (if τ.next<=id/\id < τ'.next then pI.gh id else η.gh id)=true
  rw [ah (free id (.inr hg))];exact hg⟩
 have h2:pI.le η':=⟨λid q hq=>by
  show (if τ.next<=id/\id < τ'.next then pI id else η id)=some q
  split
  ·exact hq
  ·next hn=>
   rcases hst.alX hq with h3 | h3
   ·exact hle.pl _ _ h3
   ·exact absurd h3 hn,λ_ _ h=>h,λid hg=>by
  show (if τ.next<=id/\id < τ'.next then pI.gh id else η.gh id)=true
  split
  ·exact hg
  ·next hn=>
   rcases hst.new id (.inr hg) with (⟨q,h3⟩ | h3) | h3
   ·have:=hst.ext.pl _ _ h3
    rw [(hst.rel.je id hg).1] at this;cases this
   ·exact hle.gh _ h3
   ·exact absurd h3 hn⟩
 have hnew:∀id,η'.has id->η.has id\/(τ.next<=id/\id < τ'.next):=λid hh=>by
  by_cases hn:τ.next<=id/\id < τ'.next
  ·exact .inr hn
  ·left
   rcases hh with ⟨q,hq⟩ | hg
   ·have hq':(if τ.next<=id/\id < τ'.next then pI id else η id)=some q:=hq
    rw [ah hn] at hq';exact .inl ⟨q,hq'⟩
   ·have hg':(if τ.next<=id/\id < τ'.next then pI.gh id else η.gh id)=true:=hg
    rw [ah hn] at hg';exact .inr hg'
 have Ux:∀id,η'.gh id=true->η' id=none:=λid hg=>by
  have hg':(if τ.next<=id/\id < τ'.next then pI.gh id else η.gh id)=true:=hg;show (if τ.next<=id/\id < τ'.next then pI id else η id)=none
  split at hg'
  ·next hn=>rw [aj hn];exact (hst.rel.je id hg').1
  ·next hn=>rw [ah hn];exact (hinv.st.rel.je id hg').1
 have hg:=C.aaS (σ0:=σ0) hinv.closed ho hr hi fG;have hdom:∀id,η'.has id->id < cf:=λid hq=>by
  rcases hnew id hq with h3 | ⟨h3,h4⟩
  ·exact hinv.st.rel.hasLt h3
  ·exact (hdm id h3 h4).2.1
 obtain ⟨rel,size,keep,own,nV⟩:=St.merge (σ':={ h:=iD (fU rs) 0 (gq D i) σ0.h,next:=cf,lock:=σ0.lock }) (upd:=r.upd) (η':=η') hinv.st.rel OQ hst sub hle hro rfl h1 h2 hg hu I9 hlk H7 (λid q hq=>hdom id (.inl ⟨q,hq⟩)) (λid hgi=>⟨Ux id hgi,hdom id (.inr hgi)⟩);refine hK η' _ w' ⟨?_, ?_, ?_, ?_⟩
 ·intro k o' hk ho' e he hb
  unfold gq at hk ⊢;simp only [lS] at hk ⊢;rcases hk with hk | hk
  ·exact .inl (hinv.closed k o' hk ho' e he hb)
  ·have:=bG hk;subst this
   rw [ho] at ho';cases ho';exact .inl (fG e he hb)
 ·refine hinv.st.then h1 rel size keep own hst.os hst.tape hst.output rfl (dN _) ?_ nV
  intro id hq;rcases hnew id hq with h3 | ⟨h3,h4⟩
  ·exact .inl h3
  ·exact .inr ⟨(hdm id h3 h4).1,(hdm id h3 h4).2.1⟩
 ·have hg':=C.J9 (a0:=a0) hinv.closed ho hr hi fG
  rw [KA] at hg';exact hinv.tr.add h1 hg' (by rw [<- KA];exact (C.slot i r hr).2) (λu hu'=>VR.mono h2 _ _ (hx u hu'))
 ·intro id hq
  have hD':∀k,D k=true->gq D i k=true:=λk hk=>by unfold gq;rw [hk];rfl
  have hii:gq D i i=true:=by unfold gq;simp
  rcases hnew id hq with h3 | ⟨h3,h4⟩
  ·rcases hinv.dm id h3 with h5 | ⟨k,h5,h6,h7⟩ | ⟨j,s,h5,h6,h7⟩
   ·exact .inl h5
   ·exact .inr (.inl ⟨k,h5,hD' k h6,h7⟩)
   ·exact .inr (.inr ⟨j,s,h5,hD' j h6,h7⟩)
  ·obtain ⟨_,_,h5 | h5⟩:=hdm id h3 h4
   ·exact .inr (.inl ⟨i,hil,hii,h5⟩)
   ·exact .inr (.inr ⟨i,r,hr,hii,h5⟩)
end
end
end Go.aN
namespace Go.aN
set_option linter.unusedSimpArgs false
noncomputable section
variable [aF]
set_option linter.unusedSectionVars false
set_option linter.unusedVariables false
variable {P:Program}
section
variable {call:Caller} {ops:Array Oper} {M:List Nat} {rs:List bY} {a0:aU} {σ0:au} {cf:Nat} {η0 η:Env} {w0 w:World} {D:Nat->Bool} {A:Act} {i:Nat} {o:Oper} {r:bY}
theorem Ve {l:List Nat} {f:Nat->Option aZ} {b:Nat} {x:Option aZ} (h:eU (l.map λk=>(k,f k)) b=some x):b∈l/\x=f b:=by
 induction l with
 | nil=>simp [eU] at h
 | cons k l ih=>
   simp only [jq,eU] at h;split at h
   ·next y hy=>cases h;have:=ih hy;exact ⟨by simp [this.1],this.2⟩
   ·split at h
    ·next e=>cases h;subst e;exact ⟨by simp,rfl⟩
    ·cases h
theorem keys_map (l:List Nat) (f:Nat->Option aZ):keysOf (l.map λk=>(k,f k))=l:=by
 simp [keysOf,List.map_map,Function.comp_def]
theorem Em {τ:au}:∀ {n c b:Nat} {x:Option aZ},eU (BK τ c n) b=some x->c<=b/\b < c+n/\∀o,x=some o->τ.get b=some o/\o.own=true
 | 0,c,b,x,h=>by simp [BK,eU] at h
 | n+1,c,b,x,h=>by
   simp only [BK,eU] at h;split at h
   ·next y hy=>
    cases h;obtain ⟨h1,h2,h3⟩:=Em hy;exact ⟨by omega,by omega,h3⟩
   ·split at h
    ·next e=>
     subst e;simp only [aT] at h;refine ⟨Nat.le_refl _,by omega,λo ho=>?_⟩;rw [ho] at h;split at h
     ·next o' ho'=>
      split at h
      ·next hown=>cases h;exact ⟨ho',hown⟩
      ·cases h
     ·cases h
    ·cases h
theorem Pv {l m:List (Nat×Option aZ)} {b:Nat}:eU (l++m) b=match eU m b with | some x=>some x | none=>eU l b:=by
 induction l with
 | nil=>simp only [dA];cases eU m b<;>rfl
 | cons p l ih=>
   obtain ⟨k,v⟩:=p;simp only [eG,eU,ih];cases eU m b<;>rfl
theorem Aa {h:Tr aZ} {lock:Nat} {l:List Nat} {k:Nat}:k∈ET h lock l↔k∈l/\lock<=k/\∃ob,h.get k=some ob/\ob.own=true:=by
 unfold ET;rw [qJ,aI];constructor
 ·rintro ⟨h1,h2,h3⟩
  refine ⟨h1,pX h2, ?_⟩;split at h3
  ·next ob hob=>exact ⟨ob,hob,h3⟩
  ·cases h3
 ·rintro ⟨h1,h2,ob,h3,h4⟩
  exact ⟨h1,Yz h2,by rw [h3];exact h4⟩
theorem SR.cutAt {η:Env} {σ τ:au} {w:World} {c:Nat} (h:SR P η σ w) (hg:P.globals.size < c) (hsub:∀id o,τ.get id=some o->σ.get id=some o) (hc:∀id o,τ.get id=some o->id < c/\yh c o=true) (hn:c<=τ.next):SR P (η.cut c) τ w:=by
 have hcut:∀id q,id < c->η id=some q->η.cut c id=some q:=λid q h1 h2=>by simp only [Env.cut];rw [aj h1];exact h2
 refine ⟨λg hgg=>?_,λid q hq=>?_,λid o ho=>?_,λid hg'=>?_,λid o id' o' q q' a1 a2 a3 a4 a5 a6=>?_,h.iy,λid o q a1 a2 a3=>h.kE id o q (hsub _ _ a1) a2 ((Env.GL _ _).pl _ _ a3),h.tabs⟩
 ·obtain ⟨sz,es,h1⟩:=h.kZ g hgg;exact ⟨sz,es,hcut _ _ (by omega) h1⟩
 ·simp only [Env.cut] at hq
  split at hq
  ·omega
  ·cases hq
 ·rcases h.live id o (hsub _ _ ho) with ⟨q,hq,hr⟩ | ⟨hgi,h2⟩
  ·exact .inl ⟨q,hcut _ _ (hc id o ho).1 hq,hr.cut (hc id o ho).2⟩
  ·exact .inr ⟨Env.ZO (hc id o ho).1 hgi,h2⟩
 ·have hg2:(decide (id < c)&&η.gh id)=true:=hg'
  rw [aI,decide_eq_true_iff] at hg2;exact ⟨by simp only [Env.cut];rw [aj hg2.1];exact (h.je id hg2.2).1,by omega⟩
 ·exact h.sep id o id' o' q q' (hsub _ _ a1) a2 (hsub _ _ a3) a4 ((Env.GL _ _).pl _ _ a5) ((Env.GL _ _).pl _ _ a6)
theorem SR.part {η:Env} {σ τ:au} {w:World} (h:SR P η σ w) (hsub:∀id o,τ.get id=some o->σ.get id=some o) (hn:∀id,η.has id->id < τ.next):SR P η τ w:=
 ⟨h.kZ,λid q hq=>hn id (.inl ⟨q,hq⟩),λid o ho=>h.live id o (hsub id o ho),λid hg=>⟨(h.je id hg).1,hn id (.inr hg)⟩,λid o id' o' q q' a1 a2 a3 a4 a5 a6=>h.sep id o id' o' q q' (hsub _ _ a1) a2 (hsub _ _ a3) a4 a5 a6,h.iy,λid o q a1 a2 a3=>h.kE id o q (hsub _ _ a1) a2 a3,h.tabs⟩
theorem JF {c:Nat} {h:Tr aZ}:∀ {l:List Nat},JE c h l=true->∀k∈l,k < c/\∀o,h.get k=some o->yh c o=true
 | [],_,k,hk=>by simp at hk
 | x::l,hb,k,hk=>by
   simp only [JE,aI] at hb;simp only [dh] at hk;rcases hk with rfl | hk
   ·refine ⟨by have:=hb.1.1;rwa [iU] at this,λo ho=>?_⟩
    have:=hb.1.2;rw [ho] at this;exact this
   ·exact JF hb.2 k hk
theorem Y1 {c:Nat} {t:Tr AV}:∀ {l:List Nat},Gt c t l=true->∀k∈l,∀v,t.get k=some v->v.under c=true
 | [],_,k,hk=>by simp at hk
 | x::l,hb,k,hk=>by
   simp only [Gt,aI] at hb;simp only [dh] at hk;rcases hk with rfl | hk
   ·intro v hv;have:=hb.1;rw [hv] at this;exact this
   ·exact Y1 hb.2 k hk
theorem WG {M:List Nat} {i:Nat}:∀ {rs:List bY} {k:Nat} {b:Nat},b∉Ad M i rs k->∀ (j:Nat) r,rs[j]? = some r->vG M i (k+j)=true->b∉keysOf r.upd
 | [],k,b,_,j,r,hj,_=>by simp at hj
 | s::rs,k,b,hb,j,r,hj,hu=>by
   unfold Ad at hb;cases j with
   | zero=>
     simp at hj;subst hj;rw [lG] at hu;rw [aj hu] at hb;simp only [lF,not_or] at hb;exact hb.1
   | succ j=>
     have hb':b∉Ad M i rs (k+1):=by
      split at hb
      ·simp only [lF,not_or] at hb;exact hb.2
      ·exact hb
     exact WG hb' j r (by simpa using hj) (by rw [show k+1+j=k+(j+1) by omega];exact hu)
theorem abJ {M:List Nat} {i:Nat}:∀ {rs:List bY} {k:Nat} {b:Nat} (j:Nat) (r:bY),rs[j]? = some r->vG M i (k+j)=false->b∈keysOf r.upd->b∈KO M i rs k
 | [],k,b,j,r,hj,_,_=>by simp at hj
 | s::rs,k,b,j,r,hj,hu,hb=>by
   unfold KO;cases j with
   | zero=>
     simp at hj;subst hj;rw [lG] at hu;rw [ah (by rw [hu];simp)];simp [hb]
   | succ j=>
     have:=abJ (k:=k+1) j r (by simpa using hj) (by rw [show k+1+j=k+(j+1) by omega];exact hu) hb;split
     ·exact this
     ·simp [this]
theorem Ctx.bound (C:Ctx P call ops M rs a0 σ0 cf) (hinv:y9 P ops rs a0 σ0 cf η0 w0 D η w A) (id:Nat) (h:η.has id):id < cf:=hinv.st.rel.hasLt h
theorem Ctx.apart (C:Ctx P call ops M rs a0 σ0 cf) (hinv:y9 P ops rs a0 σ0 cf η0 w0 D η w A) (hr:rs[i]? = some r) (hi:D i=false) {id:Nat} (h:η.has id):¬ (r.base<=id/\id < r.next):=by
 rintro ⟨h1,h2⟩
 have hlo:=C.lo hr;rcases hinv.dm id h with h3 | ⟨k,h3,h4,h5⟩ | ⟨j,s,h3,h4,h5,h6⟩
 ·omega
 ·omega
 ·by_cases hij:i=j
  ·subst hij;rw [hi] at h4;cases h4
  ·rcases Nat.lt_or_gt_of_ne hij with hlt | hlt
   ·have:=C.lt hr h3 hlt;omega
   ·have:=C.lt h3 hr hlt;omega
theorem Ctx.step (C:Ctx P call ops M rs a0 σ0 cf) (hcall:oL P call) (hS0:SR P η0 σ0 w0) (hinv:y9 P ops rs a0 σ0 cf η0 w0 D η w A) (hil:i < ops.size) (hi:D i=false)
 (xw:∀o,ops[i]? = some o->∀e∈o.after.toList,Region.binds .any e=true->D e.on=true) (hnl:lQ ops M i=false) {K:Act->World->Prop} {Q:Exit->Act->World->Prop}
 (hK:∀η' A' w',y9 P ops rs a0 σ0 cf η0 w0 (gq D i) η' w' A'->K A' w'):wpOp P ops Q i K A w:=by
 obtain ⟨o,ho⟩:∃o,ops[i]? = some o:=⟨ops[i],by simp [hil]⟩
 obtain ⟨r,hr⟩:∃r,rs[i]? = some r:=⟨_,cO (by rw [C.len];exact hil)⟩
 have fG:=xw o ho;have hone:=C.one i r hr;have hact:=C.act hinv ho hr hi fG;have hbase:=C.base hr;have hlo:=C.lo hr;have hhi:=C.hi hr;have hN0:P.globals.size < σ0.next:=by
  obtain ⟨sz,es,h1⟩:=hS0.kZ P.globals.size (dN _);exact hS0.dom _ _ h1
 have hbn:=(C.slot i r hr).1;have aa4:=C.lock;have hbig:=C.big;have Ur:=C.bound hinv;unfold uT at hone;rw [hnl] at hone;simp only [gU,if_false] at hone;unfold yu at hone;rw [ho] at hone;simp only at hone;unfold wpOp;rw [ho];simp only;split at hone
 ·cases hone
 ·
   next hw=>
   rw [Az hact hw];simp only [gU,if_false];cases hone;refine hK η _ w ⟨?_, ?_, ?_, ?_⟩
   ·intro k o' hk ho' e he hb
    unfold gq at hk ⊢;simp only [lS] at hk ⊢;rcases hk with hk | hk
    ·exact .inl (hinv.closed k o' hk ho' e he hb)
    ·have:=bG hk;subst this
     rw [ho] at ho';cases ho';exact .inl (xw _ ho e he hb)
   ·have hg:=C.aaS (σ0:=σ0) hinv.closed ho hr hi fG
    refine hinv.st.sub ?_ (dN _) rfl;intro id ob hob;have:(iD (fU rs) 0 (gq D i) σ0.h).get id=some ob:=hob;rw [hg] at this;exact this
   ·exact hinv.tr.add (Env.le.refl _) (C.J9 (a0:=a0) hinv.closed ho hr hi fG) (C.slot i _ hr).2 (by rintro u hu;cases hu;exact ⟨[],rfl,rfl⟩)
   ·intro id hq
    have hD':∀k,D k=true->gq D i k=true:=λk hk=>by unfold gq;rw [hk];rfl
    rcases hinv.dm id hq with h5 | ⟨k,h5,h6,h7⟩ | ⟨j,s,h5,h6,h7⟩
    ·exact .inl h5
    ·exact .inr (.inl ⟨k,h5,hD' k h6,h7⟩)
    ·exact .inr (.inr ⟨j,s,h5,hD' j h6,h7⟩)
 ·
   next hw=>
   rw [Az hact hw];simp only [if_true];left;have rest:∀l:List Nat,r.vis=some l->∀id ob,(gZ (gV ((fU rs).take i) σ0.h) l).get id=some ob->(iD (fU rs) 0 D σ0.h).get id=some ob/\id∈l/\(gV ((fU rs).take i) σ0.h).get id=some ob:=by
    intro l hl id ob hob;rw [xk] at hob;split at hob
    ·next hm=>rw [<- C.ao0 (σ0:=σ0) hinv.closed ho hr hi fG hl hm];exact ⟨hob,hm,hob⟩
    ·cases hob
   have ZN:∀c,Gt c (gV ((iq rs).take i) a0.t) (o.looksAt ops)=true->TR P (η.cut c) { t:=gZ (gV ((iq rs).take i) a0.t) (o.looksAt ops),n:=a0.n,gn:=a0.gn } A:=by
    intro c hb;refine ⟨hact.gn,hact.size,hact.none,λd v hv=>?_⟩;obtain ⟨x,hx,jQ⟩:=hact.slot d v hv;refine ⟨x,hx,VR.cut v x ?_ jQ⟩;rw [xk] at hv;split at hv
    ·next hd=>exact Y1 hb d hd v hv
    ·cases hv
   split at hone
   ·
     next ty hty=>
     split at hone
     ·next z hz=>
      cases hone;have hop:oP P call o (aU.eval { t:=.nil,n:=a0.n,gn:=a0.gn }) { h:=.nil,next:=σ0.next+i,lock:=σ0.lock }=some (some (.p (σ0.next+i) 0),({ h:=.nil,next:=σ0.next+i,lock:=σ0.lock }:au).new (.cells z ty true false)):=by
       unfold oP;rw [hty];simp only [hz,gI]
      have hS':SR P (η.cut σ0.next) { h:=.nil,next:=σ0.next+i,lock:=σ0.lock } w:=hinv.st.rel.cutAt hN0 (λid ob h=>by simp [au.get] at h) (λid ob h=>by simp [au.get] at h) (by simp);refine C.gen hcall hinv ho hr hil hi fG hS' (a:={ t:=.nil,n:=a0.n,gn:=a0.gn }) ⟨hact.gn,hact.size,hact.none,λd v hv=>by simp at hv⟩ (Env.GL _ _) rfl hop rfl (λid ob h=>by simp [au.get] at h) ?_ ?_ ?_ (dN _) ?_ ?_ hK
      ·rintro id hq ⟨h1,h2⟩
       have h1':σ0.next+i<=id:=h1;have h2':id < σ0.next+i+1:=h2;rcases hinv.dm id hq with h3 | ⟨k,h3,h4,h5⟩ | ⟨j,s,h3,h4,h5,h6⟩
       ·omega
       ·have:k=i:=by omega
        subst this;rw [hi] at h4;cases h4
       ·have:=C.lo h3;omega
      ·intro b ob hb
       simp only [eU] at hb;split at hb
       ·next e=>
        cases hb;subst e;refine ⟨?_,.inr ⟨rfl,Tr.get_nil _⟩⟩;rw [au.oG,aj rfl]
       ·cases hb
      ·intro id ob h;simp [au.get] at h
      ·intro b hb
       have:=(wB _ _).1 hb;simp [keysOf] at this;subst this;show σ0.lock<=σ0.next+i
       omega
      ·intro id h1 h2
       have h1':σ0.next+i<=id:=h1;have h2':id < σ0.next+i+1:=h2;have:=C.SS;exact ⟨by omega,by omega,.inl (by omega)⟩
     ·cases hone
   ·split at hone
    ·
      next l hcls=>
      split at hone
      ·next v τ' hop=>
       rw [rV] at hop;split at hone
       ·next hnx=>
        cases hone;have ajP:=bG hnx;have hS':SR P η { h:=gZ (gV ((fU rs).take i) σ0.h) l,next:=qO,lock:=qO } w:=hinv.st.rel.part (λid ob h=>(rest l rfl id ob h).1) (λid hq=>uM (Ur id hq) hbig);refine C.gen hcall hinv ho hr hil hi fG hS' hact (Env.le.refl _) rfl hop rfl (λid ob h=>(rest l rfl id ob h).1) ?_ ?_ ?_ ?_ ?_ ?_ hK
        ·rintro id hq ⟨h1,h2⟩
         have h1':qO<=id:=h1;omega
        ·intro b ob hb;simp [eU] at hb
        ·intro id ob h1 h2 h3
         have h3':qO<=id:=h3;have:=Ur id (hS'.Kv h1);omega
        ·have:=C.SS;show σ0.lock<=qO;omega
        ·intro b hb;simp [eU] at hb
        ·intro id h1 h2
         have h1':qO<=id:=h1;omega
       ·cases hone
      ·cases hone
    ·
      next l hcls=>
      split at hone
      ·next v τ' hop=>
       rw [rV] at hop;split at hone
       ·next hnx=>
        cases hone;have ajP:=bG hnx;have hS':SR P η { h:=gZ (gV ((fU rs).take i) σ0.h) l,next:=qO,lock:=σ0.lock } w:=hinv.st.rel.part (λid ob h=>(rest l rfl id ob h).1) (λid hq=>uM (Ur id hq) hbig);refine C.gen hcall hinv ho hr hil hi fG hS' hact (Env.le.refl _) rfl hop rfl (λid ob h=>(rest l rfl id ob h).1) ?_ ?_ ?_ (dN _) ?_ ?_ hK
        ·rintro id hq ⟨h1,h2⟩
         have h1':qO<=id:=h1;omega
        ·intro b ob hb
         obtain ⟨h1,h2⟩:=Ve hb;obtain ⟨h3,h4,ob',h5,h6⟩:=Aa.1 h1;refine ⟨h2.symm,.inl ⟨ob', ?_,h6⟩⟩;show (gZ _ l).get b=_
         rw [xk,aj h3];exact h5
        ·intro id ob h1 h2 h3
         obtain ⟨_,h4,h5⟩:=rest l rfl id ob h1;rw [wB,keys_map];exact Aa.2 ⟨h4,h3,ob,h5,h2⟩
        ·intro b hb
         rw [wB,keys_map] at hb;exact (Aa.1 hb).2.1
        ·intro id h1 h2
         have h1':qO<=id:=h1;omega
       ·cases hone
      ·cases hone
    ·
      next l hcls=>
      split at hone
      ·next hbel=>
       simp only [aI] at hbel;split at hone
       ·next v τ' hop=>
        rw [rV] at hop;cases hone;simp only at hlo hhi hbn
        have hS':SR P (η.cut (iP (σ0.next+ops.size) rs i)) { h:=gZ (gV ((fU rs).take i) σ0.h) l,next:=iP (σ0.next+ops.size) rs i,lock:=σ0.lock } w:=
         hinv.st.rel.cutAt (by omega) (λid ob h=>(rest l rfl id ob h).1) (λid ob h=>by
          obtain ⟨_,h1,h2⟩:=rest l rfl id ob h;have:=JF hbel.2 id h1;exact ⟨this.1,this.2 ob h2⟩) (dN _)
        refine C.gen hcall hinv ho hr hil hi fG hS' (ZN _ hbel.1) (Env.GL _ _) rfl hop rfl (λid ob h=>(rest l rfl id ob h).1) ?_ ?_ ?_ (dN _) ?_ ?_ hK
        ·rintro id hq ⟨h1,h2⟩
         exact C.apart hinv hr hi hq ⟨h1,h2⟩
        ·intro b ob hb
         rw [Pv] at hb;split at hb
         ·next x hx=>
          cases hb;obtain ⟨h1,h2,h3⟩:=Em hx;obtain ⟨h4,h5⟩:=h3 ob rfl;refine ⟨h4,.inr ⟨h5, ?_⟩⟩;show (gZ _ l).get b=none
          rw [xk];split
          ·next hm=>have:=(JF hbel.2 b hm).1;omega
          ·rfl
         ·obtain ⟨h1,h2⟩:=Ve hb
          obtain ⟨h3,h4,ob',h5,h6⟩:=Aa.1 h1;refine ⟨h2.symm,.inl ⟨ob', ?_,h6⟩⟩;show (gZ _ l).get b=_
          rw [xk,aj h3];exact h5
        ·intro id ob h1 h2 h3
         obtain ⟨_,h4,h5⟩:=rest l rfl id ob h1;rw [wB];unfold keysOf;rw [xP,lF];left;have:=keys_map (ET (gV ((fU rs).take i) σ0.h) σ0.lock l) (λk=>τ'.get k);unfold keysOf at this;rw [this];exact Aa.2 ⟨h4,h3,ob,h5,h2⟩
        ·intro b hb
         rw [Pv] at hb;split at hb
         ·next x hx=>
          obtain ⟨h1,_,_⟩:=Em hx;show σ0.lock<=b
          omega
         ·rw [wB,keys_map] at hb
          exact (Aa.1 hb).2.1
        ·intro id h1 h2
         have h1':iP (σ0.next+ops.size) rs i<=id:=h1;exact ⟨by omega,by omega,.inr ⟨h1,h2⟩⟩
       ·cases hone
      ·cases hone
    ·
      next hcls=>
      split at hone
      ·next v τ' hop0=>
       have hop:=aqy hop0;rw [rV] at hop;cases hone;simp only at hlo hhi hbn;have hall:∀id,η.has id->id < iP (σ0.next+ops.size) rs i:=by
        intro id hq;rcases hinv.dm id hq with h3 | ⟨k,h3,h4,h5⟩ | ⟨j,s,h3,h4,h5,h6⟩
        ·omega
        ·omega
        ·have hij:i≠j:=by rintro rfl;rw [hi] at h4;cases h4
         rcases Nat.lt_or_gt_of_ne hij with hlt | hlt
         ·have hjl:j < ops.size:=by have:=(dY.1 h3).1;rw [C.len] at this;exact this
          have hun:=C.open_ hinv.closed ho hi fG hjl (by rw [h4];simp;omega);have hp:=Iy ho (C.pairs i j _ s hr h3 hun);have:=(hp.2.2.2.2.1 rfl hlt).2.2;omega
         ·have:=C.lt h3 hr hlt
          simp only at this;omega
       have hsub:∀id ob,(BA (gV ((fU rs).take i) σ0.h) (Ad M i (rs.take i) 0)).get id=some ob->(iD (fU rs) 0 D σ0.h).get id=some ob:=by
        intro id ob hob;rw [aaR] at hob;split at hob
        ·cases hob
        ·next hnk=>
         rw [<- hob,Hr (fU rs) i 0,zM];congr 1;refine (Ie _ _ _ _ _ λj u hj hne=>?_).symm;obtain ⟨s,hs,rfl⟩:=LM hj;have hjl:j < ops.size:=by have:=(dY.1 hs).1;rw [C.len] at this;exact this
         simp only [jr] at hne;have hun:=C.open_ hinv.closed ho hi fG hjl (λe=>hne e.symm);apply KP;by_cases hji:j < i
         ·exact WG hnk j s (by rw [kM,aj hji];exact hs) (by rw [jr];exact hun)
         ·have hij:i < j:=by
           rcases wQ i j with h | h
           ·exact h
           ·have:i=j:=by omega
            subst this;rw [hi] at hne;simp at hne
          have hp:=Iy ho (C.pairs i j _ s hr hs hun);obtain ⟨h1,h2,h3⟩:=hp.2.2.2.2.1 rfl hij;intro hmem;have hge:=h1 id hmem;rw [Hr (fU rs) i 0] at hob;cases hl:ku (fU rs) 0 (λj=>decide (j < 0+i)) id with
          | none=>
            rw [hl] at hob;have:=hS0.hasLt (hS0.Kv hob);omega
          | some x=>
            obtain ⟨j',u',h4,h5,h6⟩:=U6 _ _ _ _ _ hl;obtain ⟨s',hs',rfl⟩:=LM h4;simp only [jr,decide_eq_true_eq] at h5;have hk:id∈keysOf s'.upd:=(wB _ _).1 (by rw [h6];simp);have htk:(rs.take i)[j']? = some s':=by rw [kM,aj h5];exact hs'
            have hnu:vG M i (0+j')=false:=by
             cases hu:vG M i (0+j') with
             | false=>rfl
             | true=>exact absurd hk (WG hnk j' s' htk hu)
            have:=abJ j' s' htk hnu hk;exact J4 h2 this hmem
       have hS':SR P η { h:=BA (gV ((fU rs).take i) σ0.h) (Ad M i (rs.take i) 0),next:=iP (σ0.next+ops.size) rs i,lock:=iP (σ0.next+ops.size) rs i } w:=hinv.st.rel.part hsub hall;refine C.gen hcall hinv ho hr hil hi fG hS' hact (Env.le.refl _) rfl hop rfl hsub ?_ ?_ ?_ ?_ ?_ ?_ hK
       ·rintro id hq ⟨h1,h2⟩
        exact C.apart hinv hr hi hq ⟨h1,h2⟩
       ·intro b ob hb
        obtain ⟨h1,h2,h3⟩:=Em hb;obtain ⟨h4,h5⟩:=h3 ob rfl;refine ⟨h4,.inr ⟨h5, ?_⟩⟩;cases hg:au.get { h:=BA (gV ((fU rs).take i) σ0.h) (Ad M i (rs.take i) 0),next:=iP (σ0.next+ops.size) rs i,lock:=iP (σ0.next+ops.size) rs i } b with
        | none=>rfl
        | some ob'=>
          have:=hall b (hS'.Kv hg);omega
       ·intro id ob h1 h2 h3
        have h3':iP (σ0.next+ops.size) rs i<=id:=h3;have:=hall id (hS'.Kv h1);omega
       ·show σ0.lock<=iP (σ0.next+ops.size) rs i
        omega
       ·intro b hb
        cases hx:eU (BK τ' (iP (σ0.next+ops.size) rs i) (τ'.next - iP (σ0.next+ops.size) rs i)) b with
        | none=>exact absurd hx hb
        | some x=>exact (Em hx).1
       ·intro id h1 h2
        have h1':iP (σ0.next+ops.size) rs i<=id:=h1;exact ⟨by omega,by omega,.inr ⟨h1,h2⟩⟩
      ·generalize Le o (aU.eval { t:=gZ (gV ((iq rs).take i) a0.t) (o.looksAt ops),n:=a0.n,gn:=a0.gn }) (gV ((fU rs).take i) σ0.h)=l at hone
       split at hone
       ·next hbel=>
        simp only [aI] at hbel;split at hone
        ·next v τ' hop=>
         rw [rV] at hop;cases hone;simp only at hlo hhi hbn
         have hS':SR P (η.cut (iP (σ0.next+ops.size) rs i)) { h:=gZ (gV ((fU rs).take i) σ0.h) l,next:=iP (σ0.next+ops.size) rs i,lock:=σ0.lock } w:=
          hinv.st.rel.cutAt (by omega) (λid ob h=>(rest l rfl id ob h).1) (λid ob h=>by
           obtain ⟨_,h1,h2⟩:=rest l rfl id ob h;have:=JF hbel.2 id h1;exact ⟨this.1,this.2 ob h2⟩) (dN _)
         refine C.gen hcall hinv ho hr hil hi fG hS' (ZN _ hbel.1) (Env.GL _ _) rfl hop rfl (λid ob h=>(rest l rfl id ob h).1) ?_ ?_ ?_ (dN _) ?_ ?_ hK
         ·rintro id hq ⟨h1,h2⟩
          exact C.apart hinv hr hi hq ⟨h1,h2⟩
         ·intro b ob hb
          rw [Pv] at hb;split at hb
          ·next x hx=>
           cases hb;obtain ⟨h1,h2,h3⟩:=Em hx;obtain ⟨h4,h5⟩:=h3 ob rfl;refine ⟨h4,.inr ⟨h5, ?_⟩⟩;show (gZ _ l).get b=none
           rw [xk];split
           ·next hm=>have:=(JF hbel.2 b hm).1;omega
           ·rfl
          ·obtain ⟨h1,h2⟩:=Ve hb
           obtain ⟨h3,h4,ob',h5,h6⟩:=Aa.1 h1;refine ⟨h2.symm,.inl ⟨ob', ?_,h6⟩⟩;show (gZ _ l).get b=_
           rw [xk,aj h3];exact h5
         ·intro id ob h1 h2 h3
          obtain ⟨_,h4,h5⟩:=rest l rfl id ob h1;rw [wB];unfold keysOf;rw [xP,lF];left;have:=keys_map (ET (gV ((fU rs).take i) σ0.h) σ0.lock l) (λk=>τ'.get k);unfold keysOf at this;rw [this];exact Aa.2 ⟨h4,h3,ob,h5,h2⟩
         ·intro b hb
          rw [Pv] at hb;split at hb
          ·next x hx=>
           obtain ⟨h1,_,_⟩:=Em hx;show σ0.lock<=b
           omega
          ·rw [wB,keys_map] at hb
           exact (Aa.1 hb).2.1
         ·intro id h1 h2
          have h1':iP (σ0.next+ops.size) rs i<=id:=h1;exact ⟨by omega,by omega,.inr ⟨h1,h2⟩⟩
        ·cases hone
       ·cases hone
end
end
end Go.aN
namespace Go.aN
set_option linter.unusedSimpArgs false
noncomputable section
variable [aF]
set_option linter.unusedSectionVars false
set_option linter.unusedVariables false
variable {P:Program}
section
variable {call:Caller} {ops:Array Oper} {M:List Nat} {rs:List bY} {a0:aU} {σ0:au} {cf:Nat} {η0:Env} {w0:World}
def inB (listed:Array Bool):Nat->Bool:=λj=>listed.getD j false
theorem adD {listed:Array Bool} (hl:listed.size=ops.size) {i:Nat} (h:i∈Region.ready .any ops listed):i < ops.size/\inB listed i=false/\∀o,ops[i]? = some o->∀e∈o.after.toList,Region.binds .any e=true->inB listed e.on=true:=by
 unfold Region.ready at h;simp only [qJ,wO,aI,uJ] at h;obtain ⟨h1,h2,h3⟩:=h;have hlt:i < listed.size:=by omega
 refine ⟨h1, ?_, ?_⟩
 ·unfold inB
  rw [vI,yZ hlt] at h2 ⊢;exact h2
 ·intro o ho e he hb
  rw [ho] at h3;simp only [gI,oO] at h3;rw [Array.all_eq_true'] at h3;have:=h3 e (by simpa using he);rw [hb] at this;simpa [inB] using this
theorem count_set (listed:Array Bool) (i:Nat) (h:listed[i]? = some false):(listed.setIfInBounds i true).toList.count false+1=listed.toList.count false:=by
 have hlt:i < listed.size:=(nZ.1 h).1;have hv:listed[i]=false:=(nZ.1 h).2;have h1:listed.toList[i]'(by simpa using hlt)=false:=by simpa using hv
 have hpos:0 < listed.toList.count false:=List.count_pos_iff.2 (by rw [<- h1];exact jo _);rw [Array.toList_setIfInBounds,List.count_set (by simpa using hlt),h1];have e1:((false==false)=true):=rfl;have e2:¬ ((true==false)=true):=by decide
 rw [aj e1,ah e2];omega
theorem Ov {α:Type}:∀ (us:List (List (Nat×Option α))) (k:Nat) (D:Nat->Bool) (t:Tr α),(∀j,j < us.length->D (k+j)=true)->iD us k D t=gV us t
 | [],_,_,_,_=>rfl
 | u::us,k,D,t,h=>by
   have h0:=h 0 (by simp);simp only [lG] at h0;rw [iD,aj h0,gV,Ov us (k+1) D _ (λj hj=>by rw [show k+1+j=k+(j+1) by omega];exact h (j+1) (by simpa using hj))]
end
section
variable {ops:Array Oper} {M:List Nat} {rs:List bY} {a0:aU} {σ:au} {η0:Env} {w0:World} {n N0:Nat}
theorem YT (C:og ops M rs n N0) (Inv:(Nat->Bool)->Env->World->Act->Prop)
 (hstep:∀D η w A i (K:Act->World->Prop) (Q:Exit->Act->World->Prop),Inv D η w A->i < ops.size->D i=false->(∀o,ops[i]? = some o->∀e∈o.after.toList,Region.binds .any e=true->D e.on=true)->
  (∀η' A' w',Inv (gq D i) η' w' A'->K A' w')->wpOp P ops Q i K A w) {Q:Exit->Act->World->Prop}
 (hK:∀η' A' w',Inv (λj=>decide (j < ops.size)) η' w' A'->Q .normal A' w') :
 ∀ (fuel:Nat) (listed:Array Bool) (η:Env) (w:World) (A:Act),listed.size=ops.size->listed.toList.count false=fuel->Inv (inB listed) η w A->wpAny P .any ops Q fuel listed A w:=by
 intro fuel;induction fuel with
 | zero=>
   intro listed η w A hl hc hinv;have hall:∀j,j < ops.size->inB listed j=true:=by
    intro j hj;have hlt:j < listed.size:=by omega
    have hm:listed[j]∈listed.toList:=by simp
    have:false∉listed.toList:=List.count_eq_zero.1 hc;unfold inB;rw [vI,yZ hlt];cases hv:listed[j] with
    | true=>rfl
    | false=>rw [hv] at hm;exact absurd hm this
   have hD:inB listed=λj=>decide (j < ops.size):=by
    funext j;by_cases hj:j < ops.size
    ·rw [hall j hj];simp [hj]
    ·unfold inB
     rw [vI,Array.getElem?_eq_none (by omega)];simp [hj]
   refine ⟨?_, ?_⟩
   ·apply List.eq_nil_iff_forall_not_mem.2
    intro i hi;obtain ⟨h1,h2,_⟩:=adD hl hi;rw [hall i h1] at h2;cases h2
   ·rw [hD] at hinv;exact hK η A w hinv
 | succ fuel ih=>
   intro listed η w A hl hc hinv;refine ⟨λhr=>?_,λi hi=>?_⟩
   ·exfalso
    have hex:∃i,i < ops.size/\inB listed i=false/\∀j,j < i->inB listed j=true:=by
     have hpos:0 < listed.toList.count false:=by omega
     have hm:=List.count_pos_iff.1 hpos;obtain ⟨k,hk⟩:=RN.1 hm;have ajG:k < ops.size:=by have:=(dY.1 hk).1;simp at this;omega
     have hkf:inB listed k=false:=by
      unfold inB;rw [vI];rw [sN] at hk;rw [hk];rfl
     clear hm hk;induction k using Nat.strongRecOn with
     | _ k ihk=>
       by_cases hb:∃j,j < k/\inB listed j=false
       ·obtain ⟨j,h1,h2⟩:=hb
        exact ihk j h1 (by omega) h2
       ·refine ⟨k,ajG,hkf,λj hj=>?_⟩
        cases hv:inB listed j with
        | true=>rfl
        | false=>exact absurd ⟨j,hj,hv⟩ hb
    obtain ⟨i,h1,h2,h3⟩:=hex;have hmem:i∈Region.ready .any ops listed:=by
     unfold Region.ready;simp only [qJ,wO,aI,uJ];have hlt:i < listed.size:=by omega
     refine ⟨h1, ?_, ?_⟩
     ·unfold inB at h2
      rw [vI,yZ hlt] at h2 ⊢;exact h2
     ·have ho:ops[i]? = some ops[i]:=by simp [h1]
      rw [ho];simp only [gI,oO];rw [Array.all_eq_true'];intro e he;cases hb:Region.binds .any e with
      | false=>rfl
      | true=>
        simp only [Rz,vK];obtain ⟨hm,hlen⟩:=C.mask ho;have hbit:pq M e.on i=true:=by
         unfold pq;rw [vM,hm];simp only [oO];have:∀ (es:List Edge),e∈es->(xF (λj=>(M.take i).getD j 0) es).testBit e.on=true:=by
          intro es;induction es with
          | nil=>intro h;simp at h
          | cons x es abd=>
            intro h;rw [xF];simp only [dh] at h;rcases h with rfl | h
            ·rw [aj hb,MH,MH,Nat.testBit_two_pow];simp
            ·split
             ·rw [MH,abd h,Bool.or_true]
             ·exact abd h
         exact this _ (by simpa using he)
        exact h3 e.on (C.VK hbit)
    rw [hr] at hmem;simp at hmem
   ·obtain ⟨h1,h2,h3⟩:=adD hl hi
    refine hstep _ _ _ _ i _ Q hinv h1 h2 h3 λη' A' w' hinv'=>?_;have hf:listed[i]? = some false:=by
     have hlt:i < listed.size:=by omega
     unfold inB at h2;rw [vI,yZ hlt] at h2;rw [yZ hlt];simpa using h2
    have hD:gq (inB listed) i=inB (listed.setIfInBounds i true):=by
     funext j;unfold gq inB;have hlt:i < listed.size:=by omega
     rw [vI,vI,y7];by_cases e:i=j
     ·subst e;rw [aj rfl,aj hlt];simp
     ·rw [ah e,uZ (λe'=>e e'.symm)];simp
    rw [hD] at hinv';exact ih _ η' w' A' (by simpa using hl) (by have:=count_set listed i hf;omega) hinv'
end
theorem ael {ops:Array Oper} {M:List Nat}:∀ (k i j:Nat),QW ops M k<=i->i < k->lK ops i=false->j < i->lK ops j=true\/pq M j i=true
 | 0,i,j,_,h,_,_=>by omega
 | k+1,i,j,h1,h2,h3,h4=>by
   unfold QW at h1;split at h1
   ·next ha=>
    by_cases e:i=k
    ·subst e
     rw [h3,vK,List.all_eq_true] at ha;have:=ha j (by simpa using h4);rwa [lS] at this
    ·exact ael k i j h1 (by omega) h3 h4
   ·omega
theorem QX:∀ (rs:List bY) (r:bY) (σ:au),sK (rs++[r]) σ=match r.fin with | some τ=>τ | none=>sK rs σ
 | [],_,_=>rfl
 | s::rs,r,σ=>by
   show sK (rs++[r]) _=_
   rw [QX rs r];rfl
theorem XA {rs:List bY} {σ:au}:∀k,k<=rs.length->(∀ (i:Nat) r,i < k->rs[i]? = some r->r.fin=none)->sK (rs.take k) σ=σ
 | 0,_,_=>by simp [sK]
 | k+1,hk,h=>by
   obtain ⟨r,hr⟩:∃r,rs[k]? = some r:=⟨_,cO (by omega)⟩
   rw [RP,hr,YE,QX,h k r (by omega) hr];exact XA k (by omega) (λi r' hi=>h i r' (by omega))
theorem XB {rs:List bY} {σ:au} {m:Nat} {r:bY} {τ:au} (hr:rs[m]? = some r) (hf:r.fin=some τ):∀k,m < k->k<=rs.length->(∀ (i:Nat) r',m < i->i < k->rs[i]? = some r'->r'.fin=none)->sK (rs.take k) σ=τ
 | 0,h,_,_=>by omega
 | k+1,hm,hk,h=>by
   by_cases e:m=k
   ·subst e
    rw [RP,hr,YE,QX,hf]
   ·obtain ⟨r',hr'⟩:∃r,rs[k]? = some r:=⟨_,cO (by omega)⟩
    rw [RP,hr',YE,QX,h k r' (by omega) (by omega) hr'];exact XB hr hf k (by omega) (by omega) (λi r'' h1 h2=>h i r'' h1 (by omega))
theorem aix {call:Caller} {o:Oper} (hf:zJ o=true) {ev:Operand->Option AV} {σ1 σ2 τ:au} {v:Option AV} (hs:lJ P call o ev σ1=some (v,τ)):lJ P call o ev σ2=some (v,σ2):=by
 rw [rV] at hs ⊢;obtain ⟨dst,op,type,pos,after,guard⟩:=o;cases op with
 | move x=>
   simp only [oP,dL,aW,kH] at hs ⊢;obtain ⟨u,h1,h2,_⟩:=hs;exact ⟨u,h1,h2,trivial⟩
 | assign x=>
   simp only [oP,dL,aW,kH] at hs ⊢;obtain ⟨u,h1,h2,_⟩:=hs;exact ⟨u,h1,h2,trivial⟩
 | extract x k=>
   simp only [oP] at hs ⊢;split at hs
   ·simp only [dL,aW,kH] at hs ⊢
    obtain ⟨u,h1,h2,_⟩:=hs;exact ⟨u,h1,h2,trivial⟩
   ·cases hs
 | binOp op t x y z=>
   simp only [oP] at hs ⊢;split at hs
   ·simp only [dL,aW,kH] at hs ⊢
    obtain ⟨u,h1,h2,_⟩:=hs;exact ⟨u,h1,h2,trivial⟩
   ·cases hs
 | _=>simp [zJ] at hf
theorem agk {o:Oper} (hf:zJ o=true) (ev:Operand->Option AV):Zy o ev=.na []:=by
 obtain ⟨dst,op,type,pos,after,guard⟩:=o;cases op<;>first | rfl | (simp [zJ] at hf)
theorem ahy {call:Caller} {ops:Array Oper} {lock gn n i c:Nat} {prev:List bY} {t:Tr AV} {h:Tr aZ} {r:bY} (hs:GN P call ops lock gn n prev i t h c=some r):r.next=c:=by
 unfold GN at hs;split at hs
 ·cases hs
 ·split at hs
  ·cases hs
  ·cases hs;rfl
  ·split at hs
   ·cases hs;rfl
   ·cases hs
theorem Tf {call:Caller} {ops:Array Oper} {M:List Nat} {N0 lock gn n i c:Nat} {prev:List bY} {t:Tr AV} {h:Tr aZ} {r:bY} {o:Oper} (ho:ops[i]? = some o) (hf:zJ o=true) (hs:yu P call ops M N0 lock gn n prev i t h c=some r) :
 r.upd=[]/\r.next=c/\r.fin=none/\((Aw o ops { t:=gZ t (o.looksAt ops),n:=n,gn:=gn }=some false/\r.slot=lI o (some (.dQ [])))\/
  (Aw o ops { t:=gZ t (o.looksAt ops),n:=n,gn:=gn }=some true/\∃v,(∀σ2,lJ P call o (aU.eval { t:=gZ t (o.looksAt ops),n:=n,gn:=gn }) σ2=some (v,σ2))/\r.slot=lI o v)):=by
 unfold yu at hs;rw [ho] at hs;simp only at hs;split at hs
 ·cases hs
 ·next hw=>cases hs;exact ⟨rfl,rfl,rfl,.inl ⟨hw,rfl⟩⟩
 ·next hw=>
  split at hs
  ·next ty e=>exfalso;obtain ⟨dst,op,type,pos,after,guard⟩:=o;cases e;simp [zJ] at hf
  ·rw [agk hf] at hs
   simp only at hs;split at hs
   ·next v τ hv=>
    split at hs
    ·cases hs
     exact ⟨rfl,rfl,rfl,.inr ⟨hw,v,λσ2=>aix hf hv,rfl⟩⟩
    ·cases hs
   ·cases hs
theorem NQ {ops:Array Oper} {D:Nat->Bool} {i:Nat} (h:Closed ops D) (hd:∀o,ops[i]? = some o->∀e∈o.after.toList,Region.binds .any e=true->D e.on=true):Closed ops (gq D i):=by
 intro j o hj ho e he hb;unfold gq at hj ⊢;rw [lS] at hj ⊢;rcases hj with hj | hj
 ·exact .inl (h j o hj ho e he hb)
 ·have:=bG hj
  subst this;exact .inl (hd o ho e he hb)
section
variable {call:Caller} {ops:Array Oper} {M:List Nat} {rs:List bY} {a:aU} {σ:au} {c:Nat} {D:Nat->Bool}
theorem Ctx.act' (C:Ctx P call ops M rs a σ c) (hcl:Closed ops D) {i:Nat} {o:Oper} {r:bY} (ho:ops[i]? = some o) (hr:rs[i]? = some r) (hi:D i=false) (fG:∀e∈o.after.toList,Region.binds .any e=true->D e.on=true)
 {η:Env} {A:Act} (htr:TR P η { t:=iD (iq rs) 0 D a.t,n:=a.n,gn:=a.gn } A):TR P η { t:=gZ (gV ((iq rs).take i) a.t) (o.looksAt ops),n:=a.n,gn:=a.gn } A:=by
 refine ⟨htr.gn,htr.size,htr.none,λd v hv=>?_⟩;rw [xk] at hv;split at hv
 ·next hd=>
  rw [C.Xf (a0:=a) hcl ho hr hi fG hd] at hv;exact htr.slot d v hv
 ·cases hv
theorem Ctx.last (C:Ctx P call ops M rs a σ c) (hcall:oL P call) (hcl:Closed ops D) {i:Nat} {o:Oper} {r:bY} (ho:ops[i]? = some o) (hr:rs[i]? = some r) (hi:D i=false) (fG:∀e∈o.after.toList,Region.binds .any e=true->D e.on=true) (hla:lQ ops M i=true)
 {η η1:Env} {w0 w1:World} {A:Act} (hst:St P η σ w0 η1 (sK (rs.take i) { h:=gV ((fU rs).take i) σ.h,next:=iP (σ.next+ops.size) rs i,lock:=σ.lock }) w1)
 (htr:TR P η1 { t:=iD (iq rs) 0 D a.t,n:=a.n,gn:=a.gn } A) {K:Act->World->Prop} {Q:Exit->Act->World->Prop}
 (hK:∀η' A' w' τ,r.fin=some τ->St P η σ w0 η' τ w'->TR P η' { t:=iD (iq rs) 0 (gq D i) a.t,n:=a.n,gn:=a.gn } A'->K A' w'):wpOp P ops Q i K A w1:=by
 have hone:=C.one i r hr;unfold uT at hone;rw [aj hla] at hone;unfold GN at hone;rw [ho] at hone;simp only at hone;have hact:=C.act' hcl ho hr hi fG htr;have hnext:=λd=>C.J9 (a0:=a) hcl ho hr hi fG d;have hsl:=(C.slot i r hr).2;unfold wpOp;rw [ho];simp only;split at hone
 ·cases hone
 ·next hw=>
  cases hone;rw [Az hact hw];simp only [gU,if_false];exact hK η1 _ w1 _ rfl hst (htr.add (Env.le.refl _) hnext hsl (by rintro u hu;cases hu;exact ⟨[],rfl,rfl⟩))
 ·next hw=>
  rw [Az hact hw];simp only [if_true];left;split at hone
  ·next v τ hop=>
   rw [rV] at hop;cases hone;refine Na hst.rel hcall hact hop λx η' w' hst2 hx=>?_;exact hK η' _ w' _ rfl (hst.trans hst2) (htr.add hst2.ext hnext hsl hx)
  ·cases hone
theorem Ctx.free (C:Ctx P call ops M rs a σ c) (hcall:oL P call) (hcl:Closed ops D) {i:Nat} {o:Oper} {r:bY} (ho:ops[i]? = some o) (hr:rs[i]? = some r) (hi:D i=false) (fG:∀e∈o.after.toList,Region.binds .any e=true->D e.on=true) (hf:zJ o=true)
 {η η1:Env} {τ:au} {w0 w1:World} {A:Act} (hst:St P η σ w0 η1 τ w1) (htr:TR P η1 { t:=iD (iq rs) 0 D a.t,n:=a.n,gn:=a.gn } A) {K:Act->World->Prop} {Q:Exit->Act->World->Prop}
 (hK:∀η' A' w',St P η σ w0 η' τ w'->TR P η' { t:=iD (iq rs) 0 (gq D i) a.t,n:=a.n,gn:=a.gn } A'->K A' w'):wpOp P ops Q i K A w1:=by
 have hone:=C.one i r hr;unfold uT at hone;have hnl:lQ ops M i=false:=by
  unfold lQ lK;rw [ho];simp only [hf,Rz,Bool.and_false]
 rw [hnl] at hone;simp only [gU,if_false] at hone;obtain ⟨_,_,_,hcase⟩:=Tf ho hf hone;have hact:=C.act' hcl ho hr hi fG htr;have hnext:=λd=>C.J9 (a0:=a) hcl ho hr hi fG d;have hsl:=(C.slot i r hr).2;unfold wpOp;rw [ho];simp only;rcases hcase with ⟨hw,hs⟩ | ⟨hw,v,hv,hs⟩
 ·rw [hs] at hnext hsl
  rw [Az hact hw];simp only [gU,if_false];exact hK η1 _ w1 hst (htr.add (Env.le.refl _) hnext hsl (by rintro u hu;cases hu;exact ⟨[],rfl,rfl⟩))
 ·rw [hs] at hnext hsl
  rw [Az hact hw];simp only [if_true];left;have hop:=hv τ;rw [rV] at hop;refine Na hst.rel hcall hact hop λx η' w' hst2 hx=>?_;exact hK η' _ w' (hst.trans hst2) (htr.add hst2.ext hnext hsl hx)
theorem Ctx.aem (C:Ctx P call ops M rs a σ c) {l:Nat} (hl:∀i,l<=i->i < ops.size->lQ ops M i=true\/lK ops i=true):∀k,l+k<=ops.size->iP (σ.next+ops.size) rs (l+k)=iP (σ.next+ops.size) rs l
 | 0,_=>rfl
 | k+1,h=>by
   have ih:=C.aem hl k (by omega);obtain ⟨r,hr⟩:∃r,rs[l+k]? = some r:=⟨_,cO (by rw [C.len];omega)⟩
   obtain ⟨o,ho⟩:∃o,ops[l+k]? = some o:=⟨ops[l+k],by simp⟩
   have hone:=C.one _ _ hr;unfold uT at hone;rw [show l+(k+1)=(l+k)+1 by omega,JM rs _ _ _ hr,<- ih];split at hone
   ·exact ahy hone
   ·next hn=>
    rcases hl (l+k) (by omega) (by omega) with h1 | h1
    ·exact absurd h1 hn
    ·unfold lK at h1
     rw [ho] at h1;exact (Tf ho h1 hone).2.1
end
theorem ahP (hm:P.follows .mixedOrders=true):Jj P (Sm P):=by
 intro call hcall ops a σ a' σ' hs η w A id Q h ht hK;unfold Sm at hs;simp only at hs;split at hs
 ·next hok=>
  simp only [aI] at hok;split at hs
  ·next rs t hh c hgo=>
   split at hs
   ·next uh=>
    simp only [aI] at uh;obtain ⟨⟨⟨H6,hdy0⟩,hsl⟩,hbig⟩:=uh;obtain ⟨new,h1,h2,h3,h4,h5,h6⟩:=ZP _ _ _ _ _ _ _ _ _ _ hgo;simp only [dA] at h1;subst h1
    have C:Ctx P call ops (kC ops.toList []) rs a σ c:={
     hM:=rfl
     Vq:=hok.1
     len:=h2
     one:=λi r hr=>by have:=h6 i r hr;simpa using this
     pairs:=acP H6 hdy0 (λi r hr=>by have:=h6 i r hr;exact ahD (by simpa using this))
     slot:=by
      intro i r hr;unfold Qw at hsl;rw [List.all_eq_true] at hsl;have:=hsl r (qK hr);simp only [aI] at this;refine ⟨Nat.le_of_ble_eq_true this.1,λp hpm=>?_⟩;have h8:=this.2;rw [List.all_eq_true] at h8;have:=h8 p hpm;rwa [iU] at this
     fin:=h5
     big:=pX hbig
     lock:=pX hok.2 }
    refine wp_region_any hm ?_;have hcl:=C.SS;have hempty:inB (Array.replicate ops.size false)=λ_=>false:=by
     funext j;unfold inB;rw [vI,ae2];split<;>rfl
    have hno:∀ {α:Type} (us:List (List (Nat×Option α))) (k:Nat) (t:Tr α),iD us k (λ_=>false) t=t:=by
     intro α us;induction us with
     | nil=>intro k t;rfl
     | cons u us ih=>intro k t;rw [iD];simp only [gU,if_false];exact ih _ _
    have start:y9 P ops rs a σ c η { w with drawn:=w.drawn+1 } (λ_=>false) η { w with drawn:=w.drawn+1 } A:=by
     refine ⟨λi o hi=>by simp at hi, ?_, ?_,λid hq=>.inl (h.hasLt hq)⟩
     ·rw [hno]
      refine (St.refl h.drew).sub (λid o ho=>ho) (by show σ.next<=c;omega) rfl
     ·rw [hno];exact ⟨ht.gn,ht.size,ht.none,ht.slot⟩
    have OW:iD (iq rs) 0 (λj=>decide (j < ops.size)) a.t=t:=by
     rw [h3];exact Ov _ _ _ _ (λj hj=>by simp [iq] at hj ⊢;omega)
    have hlast:∀i,i < ops.size->lQ ops (kC ops.toList []) i=true->lK ops i=false/\∀j,j < i->lK ops j=true\/pq (kC ops.toList []) j i=true:=by
     intro i hi hla;unfold lQ at hla;rw [aI,uJ] at hla;exact ⟨hla.2,λj hj=>ael _ _ _ (pX hla.1) hi hla.2 hj⟩
    have hup:∀i j,i<=j->j < ops.size->lQ ops (kC ops.toList []) i=true->lQ ops (kC ops.toList []) j=true\/lK ops j=true:=by
     intro i j hij hj hla;unfold lQ at hla ⊢;rw [aI,uJ] at hla;have:=pX hla.1;cases hf:lK ops j with
     | true=>exact .inr rfl
     | false=>left;rw [Yz (iV this hij)];rfl
    have hfree:∀i,lK ops i=true->lQ ops (kC ops.toList []) i=false:=by
     intro i hf;unfold lQ;rw [hf];simp
    have hfin:∀ (i:Nat) r,rs[i]? = some r->lQ ops (kC ops.toList []) i=false->r.fin=none:=by
     intro i r hr hi;have hone:=C.one i r hr;unfold uT at hone;rw [hi] at hone;simp only [gU,if_false] at hone;exact ahC hone
    have ajC:∀ (i:Nat) r,rs[i]? = some r->lK ops i=true->r.upd=[]:=by
     intro i r hr hf;have hone:=C.one i r hr;unfold uT at hone;rw [hfree i hf] at hone;simp only [gU,if_false] at hone;unfold lK at hf;split at hf
     ·next o ho=>exact (Tf ho hf hone).1
     ·cases hf
    let wd:World:={ w with drawn:=w.drawn+1 }
    cases hs
    refine YT C.toog (λD η1 w1 A1=>((∀i,i < ops.size->lQ ops (kC ops.toList []) i=true->D i=false)/\y9 P ops rs a σ c η wd D η1 w1 A1)\/
     ∃m,m < ops.size/\lQ ops (kC ops.toList []) m=true/\Closed ops D/\(∀j,j < ops.size->lK ops j=false->D j=decide (j<=m))/\∃r τ,rs[m]? = some r/\r.fin=some τ/\St P η σ wd η1 τ w1/\TR P η1 { t:=iD (iq rs) 0 D a.t,n:=a.n,gn:=a.gn } A1) ?_ ?_ ops.size (Array.replicate ops.size false) η _ A (by simp) (by simp) (.inl ⟨λi _ _=>by rw [hempty],by rw [hempty];exact start⟩)
    ·intro D η1 w1 A1 i K Q' hinv hil hi xw hK'
     obtain ⟨o,ho⟩:∃o,ops[i]? = some o:=⟨ops[i],by simp [hil]⟩
     obtain ⟨r,hr⟩:∃r,rs[i]? = some r:=⟨_,cO (by rw [h2];exact hil)⟩
     have fG:=xw o ho;rcases hinv with ⟨hD,hinv⟩ | ⟨m,hm2,Uz,hcl,Hy,r1,τ1,hr1,hf1,hst1,KC⟩
     ·by_cases hla:lQ ops (kC ops.toList []) i=true
      ·
        obtain ⟨hnf,hord⟩:=hlast i hil hla;have Uk:∀j,j < ops.size->lK ops j=false->D j=decide (j < i):=by
         intro j hj nO;by_cases h1:j < i
         ·have:D j=true:=C.nH hinv.closed i o ho fG j ((hord j h1).resolve_left (by rw [nO];simp))
          rw [this];simp [h1]
         ·have:D j=false:=hD j hj ((hup i j (by omega) hj hla).resolve_right (by rw [nO];simp))
          rw [this];simp [h1]
        have ajt:∀j,j < i->lQ ops (kC ops.toList []) j=false:=by
         intro j hj;cases e:lQ ops (kC ops.toList []) j with
         | false=>rfl
         | true=>
           have h1:=hD j (by omega) e;rw [Uk j (by omega) (hlast j (by omega) e).1] at h1;exact absurd hj (of_decide_eq_false h1)
        have aj3:∀b,(gV ((fU rs).take i) σ.h).get b=(iD (fU rs) 0 D σ.h).get b:=by
         intro b;rw [Hr (fU rs) i 0,zM];congr 1;refine Ie _ _ _ _ _ λj u hj hne=>?_;have hjl:j < ops.size:=by have:=(dY.1 hj).1;simp [fU] at this;omega
         simp only [jr] at hne;cases nO:lK ops j with
         | false=>exact absurd (Uk j hjl nO).symm hne
         | true=>
           obtain ⟨r',hr',hu⟩:=LM hj;rw [ajC j r' hr' nO] at hu;subst hu;rfl
        have Hz:iP (σ.next+ops.size) rs i=c:=by
         have:=C.aem (l:=i) (λk h1 h2=>hup i k h1 h2 hla) (ops.size - i) (by omega);rw [show i+(ops.size - i)=ops.size by omega] at this;rw [<- this];exact C.fin.symm
        have hts:∀σ1,sK (rs.take i) σ1=σ1:=λσ1=>XA i (by omega) λj r' h1 h2=>hfin j r' h2 (ajt j h1);refine C.last hcall hinv.closed ho hr hi fG hla (η:=η) (w0:=wd) (η1:=η1) ?_ hinv.tr λη' A' w' τ hf hst htr=>hK' η' A' w' (.inr ⟨i,hil,hla,NQ hinv.closed xw, ?_,r,τ,hr,hf,hst,htr⟩)
        ·rw [hts]
         refine hinv.st.sub (λid' o' ho'=>?_) (F7 Hz.symm) rfl;rw [show (au.get { h:=iD (fU rs) 0 D σ.h,next:=c,lock:=σ.lock } id')=(iD (fU rs) 0 D σ.h).get id' from rfl,<- aj3];exact ho'
        ·intro j hj nO
         unfold gq;rw [Uk j hj nO];by_cases e:j=i
         ·subst e;simp
         ·rw [uZ e,y8];congr 1;apply propext;omega
      ·have hnl:lQ ops (kC ops.toList []) i=false:=by simpa using hla
       refine C.step hcall h.drew hinv hil hi xw hnl λη' A' w' hinv'=>hK' η' A' w' (.inl ⟨λj hj hjl=>?_,hinv'⟩);have hji:j≠i:=λe=>by subst e;rw [hnl] at hjl;cases hjl
       unfold gq;rw [hD j hj hjl,uZ hji];rfl
     ·cases hif:lK ops i with
      | true=>
        have hof:zJ o=true:=by unfold lK at hif;rw [ho] at hif;exact hif
        refine C.free hcall hcl ho hr hi fG hof hst1 KC λη' A' w' hst htr=>hK' η' A' w' (.inr ⟨m,hm2,Uz,NQ hcl xw, ?_,r1,τ1,hr1,hf1,hst,htr⟩);intro j hj nO;have hji:j≠i:=λe=>by subst e;rw [hif] at nO;cases nO
        unfold gq;rw [Hy j hj nO,uZ hji,y8]
      | false=>
        have him:¬ i<=m:=by
         intro hle;rw [Hy i hil hif] at hi;exact of_decide_eq_false hi hle
        have hla:lQ ops (kC ops.toList []) i=true:=(hup m i (by omega) hil Uz).resolve_right (by rw [hif];simp);have hmid:∀j,m < j->j < i->lK ops j=true:=by
         intro j h1 h2;cases nO:lK ops j with
         | true=>rfl
         | false=>
           have h8:D j=true:=C.nH hcl i o ho fG j (((hlast i hil hla).2 j h2).resolve_left (by rw [nO];simp));rw [Hy j (by omega) nO] at h8;have:=zZ h8;omega
        have hts:∀σ1,sK (rs.take i) σ1=τ1:=λσ1=>XB hr1 hf1 i (by omega) (by omega) λj r' h1 h2 h3=>hfin j r' h3 (hfree j (hmid j h1 h2));refine C.last hcall hcl ho hr hi fG hla (η:=η) (w0:=wd) (η1:=η1) (by rw [hts];exact hst1) KC λη' A' w' τ hf hst htr=>hK' η' A' w' (.inr ⟨i,hil,hla,NQ hcl xw, ?_,r,τ,hr,hf,hst,htr⟩);intro j hj nO;unfold gq;rw [Hy j hj nO];by_cases e:j=i
        ·subst e;simp
        ·rw [uZ e,y8]
         congr 1;apply propext;constructor
         ·omega
         ·intro h1
          apply Classical.byContradiction;intro h2;have:=hmid j (by omega) (by omega);rw [this] at nO;cases nO
    ·intro η1 A1 w1 hinv
     rcases hinv with ⟨hD,hinv⟩ | ⟨m,hm2,Uz,hcl,Hy,r1,τ1,hr1,hf1,hst1,KC⟩
     ·have ajM:∀i,i < ops.size->lQ ops (kC ops.toList []) i=false:=by
       intro i hi;cases e:lQ ops (kC ops.toList []) i with
       | false=>rfl
       | true=>have:=hD i hi e;simp at this;omega
      have hts:sK rs { h:=hh,next:=c,lock:=σ.lock } = { h:=hh,next:=c,lock:=σ.lock }:=by
       have:=XA (rs:=rs) (σ:={ h:=hh,next:=c,lock:=σ.lock }) rs.length (dN _) λj r' h1 h2=>hfin j r' h2 (ajM j (by omega));rwa [xU] at this
      rw [hts] at hK;have aj6:iD (fU rs) 0 (λj=>decide (j < ops.size)) σ.h=hh:=by
       rw [h4];exact Ov _ _ _ _ (λj hj=>by simp [fU] at hj ⊢;omega)
      have hst:=hinv.st;have htr:=hinv.tr;rw [aj6] at hst;rw [OW] at htr;exact hK η1 A1 w1 ((St.drew h).trans hst) htr
     ·have hts:∀σ1,sK rs σ1=τ1:=by
       intro σ1;have:=XB (σ:=σ1) hr1 hf1 rs.length (by omega) (dN _) λj r' h1 h2 h3=>by
        refine hfin j r' h3 (hfree j ?_);cases nO:lK ops j with
        | true=>rfl
        | false=>
          have h9:decide (j < ops.size)=decide (j<=m):=Hy j (by omega) nO;have h10:decide (j < ops.size)=true:=by simp;omega
          rw [h10] at h9;have:=zZ h9.symm;omega
       rwa [xU] at this
      rw [hts] at hK;rw [OW] at KC;exact hK η1 A1 w1 ((St.drew h).trans hst1) KC
   ·cases hs
  ·cases hs
 ·cases hs
section
variable {call:Caller} {ops:Array Oper} {M:List Nat} {N0 gn n:Nat}
theorem akS {o:Oper} (hf:Vd o=true) {ev:Operand->Option AV} {σ1 σ2 τ:au} {v:Option AV} (hs:lJ P call o ev σ1=some (v,τ)):lJ P call o ev σ2=some (v,σ2):=by
 obtain ⟨dst,op,type,pos,after,guard⟩:=o;cases op with
 | move x=>
   simp only [rV,oP,dL,aW,kH] at hs ⊢;obtain ⟨u,h1,h2,_⟩:=hs;exact ⟨u,h1,h2,trivial⟩
 | assign x=>
   simp only [rV,oP,dL,aW,kH] at hs ⊢;obtain ⟨u,h1,h2,_⟩:=hs;exact ⟨u,h1,h2,trivial⟩
 | nilCheck x=>
   rw [show lJ P call _ ev σ1=Oj P call ev σ1 x from rfl] at hs;rw [show lJ P call _ ev σ2=Oj P call ev σ2 x from rfl];unfold Oj at hs ⊢;split at hs<;>simp only [dL,gI,aT,kH,reduceCtorEq] at hs ⊢<;>exact ⟨hs.1,trivial⟩
 | fieldAddr ty x f=>
   rw [show lJ P call _ ev σ1=Oh P call ev σ1 ty x f from rfl] at hs;rw [show lJ P call _ ev σ2=Oh P call ev σ2 ty x f from rfl];unfold Oh at hs ⊢;split at hs
   ·simp only [dL,aW,kH] at hs ⊢
    obtain ⟨u,h1,h2,_⟩:=hs;exact ⟨u,h1,h2,trivial⟩
   ·cases hs
 | _=>simp [Vd] at hf
theorem akU {i:Nat} {t:Tr AV} {r:bY} {e:Option (List UInt8×AV)} (h:Po P call ops M N0 gn n i t=some (r,e)):∃o v,ops[i]? = some o/\o.guard=none/\r=KN (N0+1) (lI o v)/\
 ((i=0/\e=none/\v=some (.mp N0)/\∃ty,o.op=.makeMap ty none)\/
  (i≠0/\v=none/\∃ty m k x s u,o.op=.insert ty m k x/\aU.eval { t:=gZ t (o.looksAt ops),n:=n,gn:=gn } m=some (.mp N0)/\aU.eval { t:=gZ t (o.looksAt ops),n:=n,gn:=gn } k=some (.s s)/\aU.eval { t:=gZ t (o.looksAt ops),n:=n,gn:=gn } x=some u/\Pm P ty=true/\pq M 0 i=true/\e=some (s,u))\/
  (i≠0/\e=none/\∀σ2,lJ P call o (aU.eval { t:=gZ t (o.looksAt ops),n:=n,gn:=gn }) σ2=some (v,σ2))):=by
 unfold Po at h;split at h
 ·cases h
 ·next o ho=>
  split at h
  ·cases h
  ·next hg=>
   split at h
   ·next hi=>
    have hi:=bG hi;split at h
    ·next ty hop=>
     cases h;exact ⟨o,_,ho,hg,rfl,.inl ⟨hi,rfl,rfl,ty,hop⟩⟩
    ·cases h
   ·next hi=>
    have hi:i≠0:=λe=>by subst e;exact hi rfl
    split at h
    ·next ty m k x hop=>
     split at h
     ·next id s u e1 e2 e3=>
      split at h
      ·next hc=>
       cases h;simp only [aI] at hc;have:=bG hc.1.1;subst this;exact ⟨o,_,ho,hg,rfl,.inr (.inl ⟨hi,rfl,ty,m,k,x,s,u,hop,e1,e2,e3,hc.1.2,hc.2,rfl⟩)⟩
      ·cases h
     ·cases h
    ·split at h
     ·next hf=>
      split at h
      ·next v τ hv=>
       cases h;exact ⟨o,v,ho,hg,rfl,.inr (.inr ⟨hi,rfl,λσ2=>akS hf hv⟩)⟩
      ·cases h
     ·cases h
theorem abG:∀ (m i:Nat) (t:Tr AV) (l:List (bY×Option (List UInt8×AV))) (t':Tr AV),Ph P call ops M N0 gn n m i t=some (l,t')->
 l.length=m/\t'=gV (iq (l.map (·.1))) t/\∀ (k:Nat) r,l[k]? = some r->Po P call ops M N0 gn n (i+k) (gV ((iq (l.map (·.1))).take k) t)=some r
 | 0,i,t,l,t',h=>by
   cases h;exact ⟨rfl,rfl,λk r hr=>by simp at hr⟩
 | m+1,i,t,l,t',h=>by
   unfold Ph at h;split at h
   ·cases h
   ·next r hr=>
    split at h
    ·cases h
    ·next l2 t2 hl=>
     cases h;obtain ⟨h1,h2,h3⟩:=abG m _ _ _ _ hl;refine ⟨by simp [h1],by rw [h2];rfl,λk r' hk=>?_⟩;cases k with
     | zero=>simp only [iG,aT] at hk;subst hk;exact hr
     | succ k=>
       simp only [pR] at hk;have:=h3 k r' hk;rw [show i+1+k=i+(k+1) by omega] at this;exact this
theorem TB:∀ (es:List (Option (List UInt8×AV))) (k:Nat) (D:Nat->Bool),(∀ (j:Nat) e,es[j]? = some (some e)->D (k+j)=false)->jv es k D=[]
 | [],_,_,_=>rfl
 | none::l,k,D,h=>by
   rw [jv];exact TB l (k+1) D λj e hj=>by have:=h (j+1) e (by simpa using hj);rwa [show k+(j+1)=k+1+j by omega] at this
 | some x::l,k,D,h=>by
   have h0:=h 0 x (by simp);simp only [lG] at h0;rw [jv,h0];exact TB l (k+1) D λj e hj=>by have:=h (j+1) e (by simpa using hj);rwa [show k+(j+1)=k+1+j by omega] at this
theorem TA:∀ (es:List (Option (List UInt8×AV))) (k:Nat) (D:Nat->Bool),(∀j,j < es.length->D (k+j)=true)->jv es k D=es.filterMap id
 | [],_,_,_=>rfl
 | none::l,k,D,h=>by
   rw [jv,TA l (k+1) D λj hj=>by have:=h (j+1) (by simpa using hj);rwa [show k+(j+1)=k+1+j by omega] at this];rfl
 | some x::l,k,D,h=>by
   have h0:=h 0 (by simp);simp only [lG] at h0;rw [jv,h0,TA l (k+1) D λj hj=>by have:=h (j+1) (by simpa using hj);rwa [show k+(j+1)=k+1+j by omega] at this];rfl
theorem Oa:∀ (es:List (Option (List UInt8×AV))) (k:Nat) (D E:Nat->Bool),(∀ (j:Nat) e,es[j]? = some (some e)->D (k+j)=E (k+j))->jv es k D=jv es k E
 | [],_,_,_,_=>rfl
 | none::l,k,D,E,h=>by
   rw [jv,jv];exact Oa l (k+1) D E λj e hj=>by have:=h (j+1) e (by simpa using hj);rwa [show k+(j+1)=k+1+j by omega] at this
 | some x::l,k,D,E,h=>by
   have h0:=h 0 x (by simp);simp only [lG] at h0;rw [jv,jv,h0,Oa l (k+1) D E λj e hj=>by have:=h (j+1) e (by simpa using hj);rwa [show k+(j+1)=k+1+j by omega] at this]
theorem Tz:∀ (es:List (Option (List UInt8×AV))) (k i:Nat) (D:Nat->Bool) (e:List UInt8×AV),es[i]? = some (some e)->D (k+i)=false->(jv es k (gq D (k+i))).Perm (e::jv es k D)
 | [],_,i,_,_,h,_=>by simp at h
 | x::l,k,0,D,e,h,hD=>by
   simp only [iG,aT] at h;subst h;simp only [lG] at hD ⊢;have h1:gq D k k=true:=by unfold gq;simp
   rw [jv,jv,h1,hD,Oa l (k+1) (gq D k) D λj e' _=>by unfold gq;rw [uZ (by omega),y8]];exact Mc _
 | none::l,k,i+1,D,e,h,hD=>by
   rw [jv,jv,show k+(i+1)=k+1+i by omega] at *;exact Tz l (k+1) i D e (by simpa using h) hD
 | some x::l,k,i+1,D,e,h,hD=>by
   have h1:gq D (k+(i+1)) k=D k:=by unfold gq;rw [uZ (by omega),y8]
   rw [jv,jv,h1];have ih:=Tz l (k+1) i D e (by simpa using h) (by rwa [show k+1+i=k+(i+1) by omega]);rw [show k+1+i=k+(i+1) by omega] at ih;cases D k with
   | true=>exact (ih.cons x).trans (List.Perm.swap e x _)
   | false=>exact ih
theorem Ob:∀ (es:List (Option (List UInt8×AV))) (k:Nat) (D:Nat->Bool),∀e∈jv es k D,∃j,es[j]? = some (some e)/\D (k+j)=true
 | [],_,_,e,h=>by simp [jv] at h
 | none::l,k,D,e,h=>by
   rw [jv] at h;obtain ⟨j,h1,h2⟩:=Ob l (k+1) D e h;exact ⟨j+1,by simpa using h1,by rwa [show k+(j+1)=k+1+j by omega]⟩
 | some x::l,k,D,e,h=>by
   rw [jv] at h;split at h
   ·next hk=>
    rcases dh.1 h with rfl | h
    ·exact ⟨0,by simp,by simpa using hk⟩
    ·obtain ⟨j,h1,h2⟩:=Ob l (k+1) D e h
     exact ⟨j+1,by simpa using h1,by rwa [show k+(j+1)=k+1+j by omega]⟩
   ·obtain ⟨j,h1,h2⟩:=Ob l (k+1) D e h
    exact ⟨j+1,by simpa using h1,by rwa [show k+(j+1)=k+1+j by omega]⟩
theorem acz:∀ {l:List (List UInt8)},PX l=true->l.Nodup
 | [],_=>List.nodup_nil
 | s::l,h=>by
   simp only [PX,aI,uJ] at h;refine Yu.2 ⟨λhm=>?_,acz h.2⟩;have:(l.any λx=>x==s)=true:=List.any_eq_true.2 ⟨s,hm,by simp⟩;rw [h.1] at this;cases this
theorem Vx:∀ {es:List (Option (List UInt8×AV))},((es.filterMap id).map (·.1)).Nodup->∀ (i j:Nat) e f,es[i]? = some (some e)->es[j]? = some (some f)->i≠j->e.1≠f.1
 | [],_,i,j,e,f,h,_,_=>by simp at h
 | none::l,hn,i,j,e,f,h1,h2,hne=>by
   cases i with
   | zero=>simp at h1
   | succ i=>
     cases j with
     | zero=>simp at h2
     | succ j=>exact Vx (es:=l) (by simpa using hn) i j e f (by simpa using h1) (by simpa using h2) (by omega)
 | some x::l,hn,i,j,e,f,h1,h2,hne=>by
   simp only [List.filterMap_cons_some (f:=id) (a:=some x) (b:=x) rfl,jq,Yu,mF,not_exists,not_and] at hn;have mem:∀ (k:Nat) g,l[k]? = some (some g)->g∈l.filterMap id:=λk g hk=>Yo.2 ⟨some g,qK hk,rfl⟩;cases i with
   | zero=>
     simp only [iG,aT] at h1;subst h1;cases j with
     | zero=>exact absurd rfl hne
     | succ j=>exact λe'=>hn.1 f (mem j f (by simpa using h2)) e'.symm
   | succ i=>
     cases j with
     | zero=>
       simp only [iG,aT] at h2;subst h2;exact λe'=>hn.1 e (mem i e (by simpa using h1)) e'
     | succ j=>exact Vx hn.2 i j e f (by simpa using h1) (by simpa using h2) (by omega)
theorem aaz {s:List UInt8}:∀ (es:List (AV×AV)) (i:Nat),(∀e∈es,∃t,e.1=.s t/\t≠s)->yC (.s s) es i=some none
 | [],_,_=>rfl
 | e::es,i,h=>by
   obtain ⟨t,h1,h2⟩:=h e (by simp);have hk:KF (.s s) e.1=some false:=by
    rw [h1];simp only [KF,aT,beq_eq_false_iff_ne,ne_eq];exact λe'=>h2 e'.symm
   unfold yC;rw [hk];exact aaz es (i+1) λe he=>h e (by simp [he])
theorem St.weak {η η1:Env} {σ τ:au} {w w1:World} (h:St P η σ w η1 τ w1) {id:Nat} {o o':aZ} (hg:τ.get id=some o) (ho:o'.own=o.own) (hl:Live P η1 w1 id o'):St P η σ w η1 (τ.put id o') w1:=
 { h with
   rel:=h.rel.swap hg ho hl
   own:=λid2 o2 q a b c d=>by
    rw [au.get_put] at a;split at a
    ·next e=>cases a;subst e;exact h.own id2 o q hg (by rw [<- ho];exact b) c d
    ·exact h.own id2 o2 q a b c d }
theorem amW {η:Env} {q:Place} {w:World} {es:List (List UInt8×AV)} {es':List (AV×AV)} (hn:(es.map (·.1)).Nodup) (hp:es'.Perm (es.map λe=>(AV.s e.1,e.2))) (h:OR P η q w (.map es')):OR P η q w (.pmap es):=by
 obtain ⟨ms,clock,h1,h2,h3⟩:=h;refine ⟨hn,ms,clock, ?_⟩;have key:∀ (l l':List (AV×AV)),l.Perm l'->∀ms:List MapEntry,vP η l ms->∃ms',ms.Perm ms'/\vP η l' ms':=by
  intro l l' hp;induction hp with
  | nil=>exact λms h=>⟨ms,Mc _,h⟩
  | cons x hp ih=>
    intro ms h;obtain ⟨m,rest,rfl,a,b,c⟩:=h.tail;obtain ⟨ms',h1,h2⟩:=ih rest c;refine ⟨m::ms',h1.cons m,by simp [h2.1],λk e hk=>?_⟩;cases k with
    | zero=>simp only [iG,aT] at hk;subst hk;exact ⟨m,by simp,a,b⟩
    | succ k=>simpa using h2.2 k e (by simpa using hk)
  | swap x y l=>
    intro ms h;obtain ⟨m,rest,rfl,a,b,c⟩:=h.tail;obtain ⟨m2,anZ,rfl,a2,b2,c2⟩:=c.tail;refine ⟨m2::m::anZ,List.Perm.swap _ _ _,by simp [c2.1],λk e hk=>?_⟩;match k with
    | 0=>simp only [iG,aT] at hk;subst hk;exact ⟨m2,by simp,a2,b2⟩
    | 1=>simp only [pR,iG,aT] at hk;subst hk;exact ⟨m,by simp,a,b⟩
    | k+2=>simpa using c2.2 k e (by simpa using hk)
  | trans _ _ ih1 ih2=>
    intro ms h;obtain ⟨ms1,a,b⟩:=ih1 ms h;obtain ⟨ms2,c,d⟩:=ih2 ms1 b;exact ⟨ms2,a.trans c,d⟩
 obtain ⟨ms',a,b⟩:=key _ _ hp ms.toList ⟨by simpa using h2,λk e hk=>by obtain ⟨m,hm,x,y⟩:=h3 k e hk;exact ⟨m,by simpa using hm,x,y⟩⟩;refine ⟨ms',h1,a,by simpa using b.1,λk e hk=>?_⟩;obtain ⟨m,hm,x,y⟩:=b.2 k (AV.s e.1,e.2) (by rw [jm,hk];rfl);exact ⟨m,hm,by simpa only [VR] using x,y⟩
theorem akT {t:TypeId} (h:Pm P t=true):∃kt et,P.underlying t=some (.map kt et)/\P.underlying kt=some .string:=by
 unfold Pm at h;split at h
 ·next kt et hu=>
  split at h
  ·next hk=>exact ⟨kt,et,hu,hk⟩
  ·cases h
 ·cases h
end
theorem akW (hm:P.follows .mixedOrders=true):Jj P (Vb P):=by
 intro call hcall ops a σ a' σ' hs η w A rid Q h ht hK;unfold Vb at hs;split at hs;rotate_left
 ·cases hs
 next hlit=>
 simp only at hs;split at hs;rotate_left
 ·cases hs
 next hok=>
 simp only [aI] at hok;split at hs;rotate_left
 ·cases hs
 next l t hgo=>
 split at hs;rotate_left
 ·cases hs
 next uh=>
 simp only [aI] at uh;obtain ⟨⟨H6,hsl⟩,ajK⟩:=uh;have hnd:=acz ajK;obtain ⟨hlen,ht',hone⟩:=abG _ _ _ _ _ hgo;have aa4:=pX hok.2;have hes:l.filterMap (·.2)=(l.map (·.2)).filterMap id:=by rw [List.filterMap_map];rfl
 rw [hes] at hs hnd;have ent:∀ (j:Nat) e,(l.map (·.2))[j]? = some (some e)->∃r,l[j]? = some (r,some e):=λj e hj=>by
  rw [jm] at hj;obtain ⟨x,h1,h2⟩:=aW.1 hj;exact ⟨x.1,by rw [h1,<- h2]⟩
 have adE:∀ (i:Nat) r,(l.map (·.1))[i]? = some r->∃e,l[i]? = some (r,e):=λi r hr=>by
  rw [jm] at hr;obtain ⟨x,h1,h2⟩:=aW.1 hr;exact ⟨x.2,by rw [h1,<- h2]⟩
 have spec:∀ (i:Nat) r e,l[i]? = some (r,e)->_:=λi r e hr=>akU (hone i (r,e) hr);simp only [jr] at spec
 have C:og ops (kC ops.toList []) (l.map (·.1)) a.n (σ.next+1):={
  hM:=rfl
  Vq:=hok.1
  len:=by simpa using hlen
  pairs:=by
   refine acP H6 ?_ λi r hr=>?_
   ·unfold NZ
    rw [List.all_eq_true];intro p hp;obtain ⟨s,j⟩:=p;rw [Yt] at hp;obtain ⟨e,he⟩:=adE j s (by simpa using hp);obtain ⟨o,v,_,_,h3,_⟩:=spec j s e he;subst h3;simp [KN]
   ·obtain ⟨e,he⟩:=adE i r hr
    obtain ⟨o,v,h1,_,h3,_⟩:=spec i r e he;subst h3;exact ⟨o,v,h1,rfl⟩
  slot:=by
   intro i r hr;unfold Qw at hsl;rw [List.all_eq_true] at hsl;have:=hsl r (qK hr);simp only [aI] at this;refine ⟨Nat.le_of_ble_eq_true this.1,λp hpm=>?_⟩;have h8:=this.2;rw [List.all_eq_true] at h8;have:=h8 p hpm;rwa [iU] at this }
 refine wp_region_any hm ?_;have hempty:inB (Array.replicate ops.size false)=λ_=>false:=by
  funext j;unfold inB;rw [vI,ae2];split<;>rfl
 have hno:∀ {α:Type} (us:List (List (Nat×Option α))) (k:Nat) (t:Tr α),iD us k (λ_=>false) t=t:=by
  intro α us;induction us with
  | nil=>intro k t;rfl
  | cons u us ih=>intro k t;rw [iD];simp only [gU,if_false];exact ih _ _
 have OW:iD (iq (l.map (·.1))) 0 (λj=>decide (j < ops.size)) a.t=t:=by
  rw [ht'];exact Ov _ _ _ _ (λj hj=>by simp [iq] at hj ⊢;omega)
 cases hs;let wd:World:={ w with drawn:=w.drawn+1 }
 have Uf:∀o,(σ.new o).get σ.next=some o:=λo=>by rw [au.oG];simp
 have adz:∀o o' id x,(σ.new o').get id=some x->((σ.new o).put σ.next o').get id=some x:=λo o' id x hx=>by
  rw [au.get_put];rw [au.oG] at hx ⊢;by_cases e:id=σ.next
  ·rw [aj e] at hx ⊢;exact hx
  ·rw [ah e] at hx ⊢;rw [ah e];exact hx
 have hpos:0 < ops.size/\∃ty o,ops[0]? = some o/\o.op=.makeMap ty none:=by
  unfold isLit at hlit;split at hlit
  ·next o ho=>
   split at hlit
   ·next ty hop=>exact ⟨(nZ.1 ho).1,ty,o,ho,hop⟩
   ·cases hlit
  ·cases hlit
 refine YT C (λD η1 w1 A1=>Closed ops D/\TR P η1 { t:=iD (iq (l.map (·.1))) 0 D a.t,n:=a.n,gn:=a.gn } A1/\(D 0=false->St P η σ wd η1 σ w1)/\
  (D 0=true->∃es',es'.Perm ((jv (l.map (·.2)) 0 D).map λe=>(AV.s e.1,e.2))/\St P η σ wd η1 (σ.new (.map es')) w1)) ?_ ?_ ops.size (Array.replicate ops.size false) η _ A (by simp) (by simp) ?_
 ·intro D η1 w1 A1 i K Q' hinv hil hi xw hK'
  obtain ⟨hcl,htr,H6,hst1⟩:=hinv;obtain ⟨o,ho⟩:∃o,ops[i]? = some o:=⟨ops[i],by simp [hil]⟩
  obtain ⟨⟨r,e⟩,hl⟩:∃x,l[i]? = some x:=⟨_,cO (by rw [hlen];exact hil)⟩
  have hr:(l.map (·.1))[i]? = some r:=by rw [jm,hl];rfl
  have fG:=xw o ho;obtain ⟨o',v,ho',hg,hrec,hcase⟩:=spec i r e hl;rw [ho] at ho';cases ho';have hact:TR P η1 { t:=gZ (gV ((iq (l.map (·.1))).take i) a.t) (o.looksAt ops),n:=a.n,gn:=a.gn } A1:=by
   refine ⟨htr.gn,htr.size,htr.none,λd v hv=>?_⟩;rw [xk] at hv;split at hv
   ·next hd=>
    rw [C.Xf (a0:=a) hcl ho hr hi fG hd] at hv;exact htr.slot d v hv
   ·cases hv
  have hnext:=λd=>C.J9 (a0:=a) hcl ho hr hi fG d;have aa8:=(C.slot i r hr).2;have Hz:=NQ hcl xw;rw [hrec] at hnext aa8;have hw:Aw o ops { t:=gZ (gV ((iq (l.map (·.1))).take i) a.t) (o.looksAt ops),n:=a.n,gn:=a.gn }=some true:=by
   unfold Aw;rw [hg]
  have step:∀ {τ τ':au},SR P η1 τ w1->oP P call o (aU.eval { t:=gZ (gV ((iq (l.map (·.1))).take i) a.t) (o.looksAt ops),n:=a.n,gn:=a.gn }) τ=some (v,τ')->
   (∀η' A' w',St P η1 τ w1 η' τ' w'->TR P η' { t:=iD (iq (l.map (·.1))) 0 (gq D i) a.t,n:=a.n,gn:=a.gn } A'->K A' w')->wpOp P ops Q' i K A1 w1:=by
   intro τ τ' hsr hop hk;unfold wpOp;rw [ho];simp only;rw [Az hact hw];simp only [if_true];left;exact Na hsr hcall hact hop λx η' w' hst2 hx=>hk η' _ w' hst2 (htr.add hst2.ext hnext aa8 hx)
  have other:e=none->i≠0->jv (l.map (·.2)) 0 (gq D i)=jv (l.map (·.2)) 0 D:=by
   intro he _;refine Oa _ _ _ _ λj f hj=>?_;simp only [jr];have:j≠i:=by
    rintro rfl
    obtain ⟨r2,h2⟩:=ent j f hj;rw [hl,he] at h2;cases h2
   unfold gq;rw [uZ this,y8]
  rcases hcase with ⟨hi0,he,hv,ty,hop⟩ | ⟨hi0,hv,ty,m,k,x,s,u,hop,e1,e2,e3,hlk,hord,he⟩ | ⟨hi0,he,hfr⟩
  ·
    subst hi0;have hst:=H6 hi;have ajN:∀ (j:Nat) f,(l.map (·.2))[j]? = some (some f)->D j=false:=by
     intro j f hj;obtain ⟨r2,h2⟩:=ent j f hj;obtain ⟨o2,v2,ho2,_,_,hc2⟩:=spec j r2 _ h2;rcases hc2 with ⟨_,hx,_⟩ | ⟨_,_,_,_,_,_,_,_,_,_,_,_,_,ajQ,_⟩ | ⟨_,hx,_⟩
     ·cases hx
     ·cases xu:D j with
      | false=>rfl
      | true=>
        have:=C.nH hcl j o2 ho2 (λe' he' hb=>hcl j o2 xu ho2 e' he' hb) 0 ajQ;rw [hi] at this;cases this
     ·cases hx
    refine step hst.rel (τ':=σ.new (.map [])) ?_ λη' A' w' hst2 Ee=>hK' η' A' w' ⟨Hz,Ee,λh0=>?_,λ_=>⟨[], ?_,hst.trans hst2⟩⟩
    ·have h14:∀ev,lJ P call o ev σ=aau P call ev σ ty none:=λev=>by unfold lJ;rw [hop];rfl
     rw [hv,<- rV,h14];rfl
    ·exfalso
     unfold gq at h0;simp at h0
    ·have hz:jv (l.map (·.2)) 0 (gq D 0)=[]:=by
      refine TB _ _ _ λj f hj=>?_;simp only [jr];have h1:=ajN j f hj;have:j≠0:=by
       rintro rfl
       obtain ⟨r2,h2⟩:=ent 0 f hj;rw [hl,he] at h2;cases h2
      unfold gq;rw [uZ this,h1];rfl
     rw [hz];exact Mc _
  ·
    have hD0:D 0=true:=C.nH hcl i o ho fG 0 hord;obtain ⟨es',hperm,hst⟩:=hst1 hD0;obtain ⟨kt,et,hu1,hu2⟩:=akT hlk;have hel:(l.map (·.2))[i]? = some (some (s,u)):=by rw [jm,hl,he];rfl
    have hfind:yC (.s s) es' 0=some none:=by
     refine aaz es' 0 λf hf=>?_;have hf2:=hperm.mem_iff.1 hf;obtain ⟨g,hg1,hg2⟩:=mF.1 hf2;obtain ⟨j,hj1,hj2⟩:=Ob _ _ _ g hg1;simp only [jr] at hj2;refine ⟨g.1,by rw [<- hg2], ?_⟩;exact Vx hnd j i g (s,u) hj1 hel (by rintro rfl;rw [hi] at hj2;cases hj2)
    refine step hst.rel (τ':=(σ.new (.map es')).put σ.next (.map (es'++[(.s s,u)]))) ?_ λη' A' w' hst2 Ee=>hK' η' A' w' ⟨Hz,Ee,λh0=>?_,λ_=>⟨es'++[(.s s,u)], ?_, ?_⟩⟩
    ·have hfit:Hf P kt (.s s)=true:=by unfold Hf;rw [hu2]
     have hup:Gl P ty (.mp σ.next) (.s s) u (σ.new (.map es'))=some ((σ.new (.map es')).put σ.next (.map (es'++[(.s s,u)]))):=by
      unfold Gl;rw [hu1];simp only [Uf];rw [aj ⟨aa4,hfit⟩,hfind]
     have h22:∀ev,lJ P call o ev (σ.new (.map es'))=Oi P call ev (σ.new (.map es')) ty m k x:=λev=>by unfold lJ;rw [hop];rfl
     rw [hv,<- rV,h22];unfold Oi;rw [e1,e2,e3];simp only [hup,jB,Fb,gI]
    ·exfalso
     unfold gq at h0;rw [hD0] at h0;simp at h0
    ·have hp2:=Tz (l.map (·.2)) 0 i D (s,u) hel (by simpa using hi)
     simp only [jr] at hp2;refine List.Perm.trans ?_ (hp2.map λe=>(AV.s e.1,e.2)).symm;rw [jq];exact (List.perm_append_singleton _ _).trans (hperm.cons _)
    ·refine (hst.trans hst2).sub (λid' x' hx'=>adz _ _ _ _ hx') ?_ rfl
     exact dN _
  ·
    cases hD0:D 0 with
    | false=>
      have hst:=H6 hD0;refine step hst.rel (τ':=σ) (by rw [<- rV];exact hfr σ) λη' A' w' hst2 Ee=>hK' η' A' w' ⟨Hz,Ee,λ_=>hst.trans hst2,λh0=>?_⟩;exfalso;unfold gq at h0;rw [hD0,uZ (λe'=>hi0 e'.symm)] at h0;cases h0
    | true=>
      obtain ⟨es',hperm,hst⟩:=hst1 hD0;refine step hst.rel (τ':=σ.new (.map es')) (by rw [<- rV];exact hfr _) λη' A' w' hst2 Ee=>hK' η' A' w' ⟨Hz,Ee,λh0=>?_,λ_=>⟨es',by rw [other he hi0];exact hperm,hst.trans hst2⟩⟩;exfalso;unfold gq at h0;rw [hD0] at h0;simp at h0
 ·intro η1 A1 w1 hinv
  obtain ⟨hcl,htr,_,hst1⟩:=hinv;obtain ⟨es',hperm,hst⟩:=hst1 (by simpa using hpos.1);rw [TA _ _ _ (λj hj=>by simp at hj ⊢;omega)] at hperm;rw [OW] at htr;refine hK η1 A1 w1 ((St.drew h).trans ?_) htr;obtain ⟨q,hq,hor⟩:=hst.rel.obj σ.next _ (Uf _) rfl;have:=hst.weak (o':=.pmap ((l.map (·.2)).filterMap id)) (Uf _) rfl (.inl ⟨q,hq,amW hnd hperm hor⟩);exact this.sub (λid' x' hx'=>adz _ _ _ _ hx') (dN _) rfl
 ·rw [hempty]
  refine ⟨λi o hi=>by simp at hi, ?_,λ_=>St.refl h.drew,λh0=>by simp at h0⟩;rw [hno];exact ⟨ht.gn,ht.size,ht.none,ht.slot⟩
theorem aac (hm:P.follows .mixedOrders=true):Jj P (MO P):=by
 intro call hcall ops a σ a' σ' hs;unfold MO at hs;split at hs
 ·next r hr=>cases hs;exact akW hm call hcall ops a σ a' σ' hr
 ·exact ahP hm call hcall ops a σ a' σ' hs
end
end Go.aN
