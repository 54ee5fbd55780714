/- Regions whose order Go leaves open: one operation keeps the invariant. -/
import Derived.Test.YtcpfjpcdcafjmaaGreatDoorAbsF
namespace Go.aO
set_option linter.unusedSimpArgs false
noncomputable section
variable [aH]
set_option linter.unusedSectionVars false
set_option linter.unusedVariables false
variable {P:Program}
structure zX (P:Program) (ops:Array Oper) (rs:List bV) (a0:aX) (σ0:ak) (cf:Nat) (η0:Env) (w0:World) (D:Nat->Bool) (η:Env) (w:World) (A:Act):Prop where
 closed:Closed ops D
 st:St P η0 σ0 w0 η { h:=iM (fZ rs) 0 D σ0.h,next:=cf,lock:=σ0.lock } w
 tr:TR P η { t:=iM (iG rs) 0 D a0.t,n:=a0.n,gn:=a0.gn } A
 dm:∀id,η.has id->id < σ0.next\/(∃k,k < ops.size/\D k=true/\id=σ0.next+k)\/(∃ (j:Nat) (r:bV),rs[j]? = some r/\D j=true/\r.base<=id/\id < r.next)
theorem TR.add {η η':Env} {T T':Tr AV} {n gn:Nat} {A:Act} {o:Oper} {v:Option AV} {x:Value} (h:TR P η { t:=T,n:=n,gn:=gn } A) (hle:η.le η') (hg:∀d,T'.get d=(eH (mP o v) d).getD (T.get d))
 (hb:∀p∈mP o v,p.1 < n) (hv:∀u,v=some u->VR η' u x):TR P η' { t:=T',n:=n,gn:=gn } (A.put o.dst x):=by
 have h':=h.mono hle;unfold mP at hg hb;cases hd:o.dst with
 | none=>
   rw [hd] at hg;refine ⟨h.gn,h.size,h.none,λd u hu=>?_⟩;rw [hg] at hu;exact h'.slot d u hu
 | some d0=>
   rw [hd] at hg hb;have hd0:=hb (d0,v) (by simp);refine ⟨h.gn,by have:=h.size;simpa [Act.put] using this,h.none,λd u hu=>?_⟩;rw [hg] at hu;simp only [eH] at hu;show ∃y,(A.tmps.setIfInBounds d0 x)[d]? = some y/\_
   rw [zV];by_cases e:d=d0
   ·subst e
    rw [aj rfl,aj (by have:=h.size;simp only at this hd0;omega)];rw [aj rfl] at hu;exact ⟨x,rfl,hv u hu⟩
   ·rw [ah (λe'=>e e'.symm)]
    rw [ah e] at hu;exact h'.slot d u hu
section
variable {call:Caller} {ops:Array Oper} {M:List Nat} {rs:List bV} {a0:aX} {σ0:ak} {cf:Nat} {η0 η:Env} {w0 w:World} {D:Nat->Bool} {A:Act} {i nn N0:Nat} {o:Oper} {r:bV}
def gJ (D:Nat->Bool) (i:Nat):Nat->Bool:=λj=>D j || Nat.beq j i
theorem ar9 {rs:List bV} {i:Nat} {r:bV} (h:rs[i]? = some r):(fZ rs)[i]? = some r.upd:=by simp [fZ,h]
theorem ap1 {rs:List bV} {i:Nat} {r:bV} (h:rs[i]? = some r):(iG rs)[i]? = some r.slot:=by simp [iG,h]
theorem MO {rs:List bV} {i:Nat} {u:List (Nat×Option bn)} (h:(fZ rs)[i]? = some u):∃r,rs[i]? = some r/\r.upd=u:=by simpa [fZ] using h
theorem aeC {rs:List bV} {i:Nat} {u:List (Nat×Option AV)} (h:(iG rs)[i]? = some u):∃r,rs[i]? = some r/\r.slot=u:=by simpa [iG] using h
theorem I7 {N0 i j:Nat} {r s:bV} {o:Oper} (ho:ops[i]? = some o) (h:LQ ops N0 i j r s=true):oM (keysOf r.slot) (keysOf s.slot)=true/\oM (o.looksAt ops) (keysOf s.slot)=true/\oM (keysOf r.upd) (keysOf s.upd)=true/\
 (∀l,r.vis=some l->oM l (keysOf s.upd)=true)/\(r.vis=none->i < j->(∀k∈keysOf s.upd,N0<=k)/\oM r.loc (keysOf s.upd)=true/\s.base=s.next)/\(r.vis=none->i≠j->j < i\/i < j):=by
 unfold LQ at h;rw [ho] at h;simp only [aJ] at h;obtain ⟨⟨⟨h1,h2⟩,h3⟩,h4⟩:=h;refine ⟨h1,h2,h3, ?_, ?_,λ_ hne=>by omega⟩
 ·intro l hl;rw [hl] at h4;exact h4
 ·intro hn hij
  rw [hn] at h4;simp only [ny,aJ] at h4;rcases h4 with h4 | ⟨⟨h5,h6⟩,h7⟩
  ·rw [jh] at h4;omega
  ·refine ⟨λk hk=>?_,h6,bG h7⟩
   rw [List.all_eq_true] at h5;exact qR (h5 k hk)
theorem pJ.abL (C:pJ ops M rs nn N0) (hD:Closed ops D) (ho:ops[i]? = some o) (hr:rs[i]? = some r) (hi:D i=false) (fD:∀e∈o.after.toList,Region.binds .any e=true->D e.on=true) (b:Nat) :
 (iM (fZ rs) 0 (gJ D i) σ0.h).get b=(eH r.upd b).getD ((iM (fZ rs) 0 D σ0.h).get b):=by
 rw [AB,AB];have:=VE (fZ rs) 0 i D b r.upd (ar9 hr) (by simpa using hi) (λj v hj hij yw hne=>by
  obtain ⟨s,hs,rfl⟩:=MO hj;have hjl:j < ops.size:=by have:=(dW.1 hs).1;rw [C.len] at this;exact this
  have hun:=C.open_ hD ho hi fD hjl (by simp at yw;rw [yw];simp;omega);have hp:=I7 ho (C.pairs i j r s hr hs hun);exact Ls (Kz hp.2.2.1 ((xC _ _).1 hne)))
 simp only [jw] at this;unfold gJ;rw [this];cases eH r.upd b<;>rfl
theorem pJ.KI (C:pJ ops M rs nn N0) (hD:Closed ops D) (ho:ops[i]? = some o) (hr:rs[i]? = some r) (hi:D i=false) (fD:∀e∈o.after.toList,Region.binds .any e=true->D e.on=true) (b:Nat) :
 (iM (iG rs) 0 (gJ D i) a0.t).get b=(eH r.slot b).getD ((iM (iG rs) 0 D a0.t).get b):=by
 rw [AB,AB];have:=VE (iG rs) 0 i D b r.slot (ap1 hr) (by simpa using hi) (λj v hj hij yw hne=>by
  obtain ⟨s,hs,rfl⟩:=aeC hj;have hjl:j < ops.size:=by have:=(dW.1 hs).1;rw [C.len] at this;exact this
  have hun:=C.open_ hD ho hi fD hjl (by simp at yw;rw [yw];simp;omega);have hp:=I7 ho (C.pairs i j r s hr hs hun);exact Ls (Kz hp.1 ((xC _ _).1 hne)))
 simp only [jw] at this;unfold gJ;rw [this];cases eH r.slot b<;>rfl
theorem pJ.XK (C:pJ ops M rs nn N0) (hD:Closed ops D) (ho:ops[i]? = some o) (hr:rs[i]? = some r) (hi:D i=false) (fD:∀e∈o.after.toList,Region.binds .any e=true->D e.on=true) {d:Nat} (hd:d∈o.looksAt ops) :
 (ig ((iG rs).take i) a0.t).get d=(iM (iG rs) 0 D a0.t).get d:=by
 rw [Ij (iG rs) i 0,AB];congr 1;refine IG _ _ _ _ _ λj u hj hne=>?_;obtain ⟨s,hs,rfl⟩:=aeC hj;have hjl:j < ops.size:=by have:=(dW.1 hs).1;rw [C.len] at this;exact this
 simp only [jw] at hne;have hun:=C.open_ hD ho hi fD hjl (λe=>hne e.symm);have hp:=I7 ho (C.pairs i j r s hr hs hun);exact Ls (Kz hp.2.1 hd)
theorem pJ.apr (C:pJ ops M rs nn N0) (hD:Closed ops D) (ho:ops[i]? = some o) (hr:rs[i]? = some r) (hi:D i=false) (fD:∀e∈o.after.toList,Region.binds .any e=true->D e.on=true) {l:List Nat} (hv:r.vis=some l) {b:Nat} (hb:b∈l) :
 (ig ((fZ rs).take i) σ0.h).get b=(iM (fZ rs) 0 D σ0.h).get b:=by
 rw [Ij (fZ rs) i 0,AB];congr 1;refine IG _ _ _ _ _ λj u hj hne=>?_;obtain ⟨s,hs,rfl⟩:=MO hj;have hjl:j < ops.size:=by have:=(dW.1 hs).1;rw [C.len] at this;exact this
 simp only [jw] at hne;have hun:=C.open_ hD ho hi fD hjl (λe=>hne e.symm);have hp:=I7 ho (C.pairs i j r s hr hs hun);exact Ls (Kz (hp.2.2.2.1 l hv) hb)
theorem Ctx.act (C:Ctx P call ops M rs a0 σ0 cf) (hinv:zX P ops rs a0 σ0 cf η0 w0 D η w A) (ho:ops[i]? = some o) (hr:rs[i]? = some r) (hi:D i=false) (fD:∀e∈o.after.toList,Region.binds .any e=true->D e.on=true) :
 TR P η { t:=iC (ig ((iG rs).take i) a0.t) (o.looksAt ops),n:=a0.n,gn:=a0.gn } A:=by
 refine ⟨hinv.tr.gn,hinv.tr.size,hinv.tr.none,λd v hv=>?_⟩;rw [yu] at hv;split at hv
 ·next hd=>
  rw [C.XK (a0:=a0) hinv.closed ho hr hi fD hd] at hv;exact hinv.tr.slot d v hv
 ·cases hv
theorem Ctx.gen (C:Ctx P call ops M rs a0 σ0 cf) (hcall:qL P call) (hinv:zX P ops rs a0 σ0 cf η0 w0 D η w A) (ho:ops[i]? = some o) (hr:rs[i]? = some r) (hil:i < ops.size) (hi:D i=false)
 (fD:∀e∈o.after.toList,Region.binds .any e=true->D e.on=true) {ηi:Env} {τ τ':ak} {v:Option AV} {a:aX} {K:Act->World->Prop} {Q:Exit->Act->World->Prop}
 (Pz:SR P ηi τ w) (hTi:TR P ηi a A) (hle:ηi.le η) (hro:ηi.ro=η.ro) (hop:qw P call o a.eval τ=some (v,τ')) (KZ:r.slot=mP o v)
 (sub:∀id ob,τ.get id=some ob->(iM (fZ rs) 0 D σ0.h).get id=some ob) (free:∀id,η.has id->¬ (τ.next<=id/\id < τ'.next))
 (hu:∀b ob,eH r.upd b=some (some ob)->τ'.get b=some ob/\((∃o0,τ.get b=some o0/\o0.own=true)\/(ob.own=true/\τ.get b=none)))
 (Jm:∀id ob,τ.get id=some ob->ob.own=true->τ.lock<=id->eH r.upd id≠none) (hlk:σ0.lock<=τ.lock) (Iy:∀b,eH r.upd b≠none->τ.lock<=b)
 (hdm:∀id,τ.next<=id->id < τ'.next->σ0.next<=id/\id < cf/\(id=σ0.next+i\/(r.base<=id/\id < r.next)))
 (hK:∀η' A' w',zX P ops rs a0 σ0 cf η0 w0 (gJ D i) η' w' A'->K A' w'):o.wp P A w K Q:=by
 refine NU Pz hcall hTi hop λx qK w' hst hx=>?_;let η':Env:=⟨λid=>if τ.next<=id/\id < τ'.next then qK id else η id,qK.ro,λid=>if τ.next<=id/\id < τ'.next then qK.gh id else η.gh id⟩
 have h1:η.le η':=⟨λid q hq=>by
  show (if τ.next<=id/\id < τ'.next then qK id else η id)=some q
  rw [ah (free id (.inl ⟨q,hq⟩))];exact hq,λb o hb=>hst.ext.ro b o (by rw [hro];exact hb),λid hg=>by
  show (if τ.next<=id/\id < τ'.next then qK.gh id else η.gh id)=true
  rw [ah (free id (.inr hg))];exact hg⟩
 have h2:qK.le η':=⟨λid q hq=>by
  show (if τ.next<=id/\id < τ'.next then qK id else η id)=some q
  split
  ·exact hq
  ·next hn=>
   rcases hst.amo hq with h3 | h3
   ·exact hle.pl _ _ h3
   ·exact absurd h3 hn,λ_ _ h=>h,λid hg=>by
  show (if τ.next<=id/\id < τ'.next then qK.gh id else η.gh id)=true
  split
  ·exact hg
  ·next hn=>
   rcases hst.new id (.inr hg) with (⟨q,h3⟩ | h3) | h3
   ·have:=hst.ext.pl _ _ h3
    rw [(hst.rel.jo id hg).1] at this;cases this
   ·exact hle.gh _ h3
   ·exact absurd h3 hn⟩
 have hnew:∀id,η'.has id->η.has id\/(τ.next<=id/\id < τ'.next):=λid hh=>by
  by_cases hn:τ.next<=id/\id < τ'.next
  ·exact .inr hn
  ·left
   rcases hh with ⟨q,hq⟩ | hg
   ·have hq':(if τ.next<=id/\id < τ'.next then qK id else η id)=some q:=hq
    rw [ah hn] at hq';exact .inl ⟨q,hq'⟩
   ·have hg':(if τ.next<=id/\id < τ'.next then qK.gh id else η.gh id)=true:=hg
    rw [ah hn] at hg';exact .inr hg'
 have U2:∀id,η'.gh id=true->η' id=none:=λid hg=>by
  have hg':(if τ.next<=id/\id < τ'.next then qK.gh id else η.gh id)=true:=hg;show (if τ.next<=id/\id < τ'.next then qK id else η id)=none
  split at hg'
  ·next hn=>rw [aj hn];exact (hst.rel.jo id hg').1
  ·next hn=>rw [ah hn];exact (hinv.st.rel.jo id hg').1
 have hg:=C.abL (σ0:=σ0) hinv.closed ho hr hi fD;have hdom:∀id,η'.has id->id < cf:=λid hq=>by
  rcases hnew id hq with h3 | ⟨h3,h4⟩
  ·exact hinv.st.rel.hasLt h3
  ·exact (hdm id h3 h4).2.1
 obtain ⟨rel,size,keep,own,qh⟩:=St.merge (σ':={ h:=iM (fZ rs) 0 (gJ D i) σ0.h,next:=cf,lock:=σ0.lock }) (upd:=r.upd) (η':=η') hinv.st.rel Pz hst sub hle hro rfl h1 h2 hg hu Jm hlk Iy (λid q hq=>hdom id (.inl ⟨q,hq⟩)) (λid hgi=>⟨U2 id hgi,hdom id (.inr hgi)⟩);refine hK η' _ w' ⟨?_, ?_, ?_, ?_⟩
 ·intro k o' hk ho' e he hb
  unfold gJ at hk ⊢;simp only [ny] at hk ⊢;rcases hk with hk | hk
  ·exact .inl (hinv.closed k o' hk ho' e he hb)
  ·have:=bG hk;subst this
   rw [ho] at ho';cases ho';exact .inl (fD e he hb)
 ·refine hinv.st.then h1 rel size keep own hst.os hst.tape hst.output rfl (dJ _) ?_ qh
  intro id hq;rcases hnew id hq with h3 | ⟨h3,h4⟩
  ·exact .inl h3
  ·exact .inr ⟨(hdm id h3 h4).1,(hdm id h3 h4).2.1⟩
 ·have hg':=C.KI (a0:=a0) hinv.closed ho hr hi fD
  rw [KZ] at hg';exact hinv.tr.add h1 hg' (by rw [<- KZ];exact (C.slot i r hr).2) (λu hu'=>VR.mono h2 _ _ (hx u hu'))
 ·intro id hq
  have hD':∀k,D k=true->gJ D i k=true:=λk hk=>by unfold gJ;rw [hk];rfl
  have hii:gJ D i i=true:=by unfold gJ;simp
  rcases hnew id hq with h3 | ⟨h3,h4⟩
  ·rcases hinv.dm id h3 with h5 | ⟨k,h5,h6,h7⟩ | ⟨j,s,h5,h6,h7⟩
   ·exact .inl h5
   ·exact .inr (.inl ⟨k,h5,hD' k h6,h7⟩)
   ·exact .inr (.inr ⟨j,s,h5,hD' j h6,h7⟩)
  ·obtain ⟨_,_,h5 | h5⟩:=hdm id h3 h4
   ·exact .inr (.inl ⟨i,hil,hii,h5⟩)
   ·exact .inr (.inr ⟨i,r,hr,hii,h5⟩)
end
end
end Go.aO
namespace Go.aO
set_option linter.unusedSimpArgs false
noncomputable section
variable [aH]
set_option linter.unusedSectionVars false
set_option linter.unusedVariables false
variable {P:Program}
section
variable {call:Caller} {ops:Array Oper} {M:List Nat} {rs:List bV} {a0:aX} {σ0:ak} {cf:Nat} {η0 η:Env} {w0 w:World} {D:Nat->Bool} {A:Act} {i:Nat} {o:Oper} {r:bV}
theorem VL {l:List Nat} {f:Nat->Option bn} {b:Nat} {x:Option bn} (h:eH (l.map λk=>(k,f k)) b=some x):b∈l/\x=f b:=by
 induction l with
 | nil=>simp [eH] at h
 | cons k l ih=>
   simp only [iY,eH] at h;split at h
   ·next y hy=>cases h;have:=ih hy;exact ⟨by simp [this.1],this.2⟩
   ·split at h
    ·next e=>cases h;subst e;exact ⟨by simp,rfl⟩
    ·cases h
theorem keys_map (l:List Nat) (f:Nat->Option bn):keysOf (l.map λk=>(k,f k))=l:=by
 simp [keysOf,List.map_map,Function.comp_def]
theorem FB {τ:ak}:∀ {n c b:Nat} {x:Option bn},eH (Dk τ c n) b=some x->c<=b/\b < c+n/\∀o,x=some o->τ.get b=some o/\o.own=true
 | 0,c,b,x,h=>by simp [Dk,eH] at h
 | n+1,c,b,x,h=>by
   simp only [Dk,eH] at h;split at h
   ·next y hy=>
    cases h;obtain ⟨h1,h2,h3⟩:=FB hy;exact ⟨by omega,by omega,h3⟩
   ·split at h
    ·next e=>
     subst e;simp only [aU] at h;refine ⟨Nat.le_refl _,by omega,λo ho=>?_⟩;rw [ho] at h;split at h
     ·next o' ho'=>
      split at h
      ·next hown=>cases h;exact ⟨ho',hown⟩
      ·cases h
     ·cases h
    ·cases h
theorem Qe {l m:List (Nat×Option bn)} {b:Nat}:eH (l++m) b=match eH m b with | some x=>some x | none=>eH l b:=by
 induction l with
 | nil=>simp only [bK];cases eH m b<;>rfl
 | cons p l ih=>
   obtain ⟨k,v⟩:=p;simp only [cu,eH,ih];cases eH m b<;>rfl
theorem Bg {h:Tr bn} {lock:Nat} {l:List Nat} {k:Nat}:k∈FN h lock l↔k∈l/\lock<=k/\∃ob,h.get k=some ob/\ob.own=true:=by
 unfold FN;rw [pO,aJ];constructor
 ·rintro ⟨h1,h2,h3⟩
  refine ⟨h1,qR h2, ?_⟩;split at h3
  ·next ob hob=>exact ⟨ob,hob,h3⟩
  ·cases h3
 ·rintro ⟨h1,h2,ob,h3,h4⟩
  exact ⟨h1,YZ h2,by rw [h3];exact h4⟩
theorem SR.cutAt {η:Env} {σ τ:ak} {w:World} {c:Nat} (h:SR P η σ w) (hg:P.globals.size < c) (hsub:∀id o,τ.get id=some o->σ.get id=some o) (hc:∀id o,τ.get id=some o->id < c/\yY c o=true) (hn:c<=τ.next):SR P (η.cut c) τ w:=by
 have hcut:∀id q,id < c->η id=some q->η.cut c id=some q:=λid q h1 h2=>by simp only [Env.cut];rw [aj h1];exact h2
 refine ⟨λg hgg=>?_,λid q hq=>?_,λid o ho=>?_,λid hg'=>?_,λid o id' o' q q' a1 a2 a3 a4 a5 a6=>?_,h.iP,λid o q a1 a2 a3=>h.jY id o q (hsub _ _ a1) a2 ((Env.Hw _ _).pl _ _ a3),h.tabs⟩
 ·obtain ⟨sz,es,h1⟩:=h.lu g hgg;exact ⟨sz,es,hcut _ _ (by omega) h1⟩
 ·simp only [Env.cut] at hq
  split at hq
  ·omega
  ·cases hq
 ·rcases h.live id o (hsub _ _ ho) with ⟨q,hq,hr⟩ | ⟨hgi,h2⟩
  ·exact .inl ⟨q,hcut _ _ (hc id o ho).1 hq,hr.cut (hc id o ho).2⟩
  ·exact .inr ⟨Env.aap (hc id o ho).1 hgi,h2⟩
 ·have hg2:(decide (id < c)&&η.gh id)=true:=hg'
  rw [aJ,decide_eq_true_iff] at hg2;exact ⟨by simp only [Env.cut];rw [aj hg2.1];exact (h.jo id hg2.2).1,by omega⟩
 ·exact h.sep id o id' o' q q' (hsub _ _ a1) a2 (hsub _ _ a3) a4 ((Env.Hw _ _).pl _ _ a5) ((Env.Hw _ _).pl _ _ a6)
theorem SR.part {η:Env} {σ τ:ak} {w:World} (h:SR P η σ w) (hsub:∀id o,τ.get id=some o->σ.get id=some o) (hn:∀id,η.has id->id < τ.next):SR P η τ w:=
 ⟨h.lu,λid q hq=>hn id (.inl ⟨q,hq⟩),λid o ho=>h.live id o (hsub id o ho),λid hg=>⟨(h.jo id hg).1,hn id (.inr hg)⟩,λid o id' o' q q' a1 a2 a3 a4 a5 a6=>h.sep id o id' o' q q' (hsub _ _ a1) a2 (hsub _ _ a3) a4 a5 a6,h.iP,λid o q a1 a2 a3=>h.jY id o q (hsub _ _ a1) a2 a3,h.tabs⟩
theorem JW {c:Nat} {h:Tr bn}:∀ {l:List Nat},JV c h l=true->∀k∈l,k < c/\∀o,h.get k=some o->yY c o=true
 | [],_,k,hk=>by simp at hk
 | x::l,hb,k,hk=>by
   simp only [JV,aJ] at hb;simp only [cO] at hk;rcases hk with rfl | hk
   ·refine ⟨by have:=hb.1.1;rwa [jh] at this,λo ho=>?_⟩
    have:=hb.1.2;rw [ho] at this;exact this
   ·exact JW hb.2 k hk
theorem Zr {c:Nat} {t:Tr AV}:∀ {l:List Nat},Hg c t l=true->∀k∈l,∀v,t.get k=some v->v.under c=true
 | [],_,k,hk=>by simp at hk
 | x::l,hb,k,hk=>by
   simp only [Hg,aJ] at hb;simp only [cO] at hk;rcases hk with rfl | hk
   ·intro v hv;have:=hb.1;rw [hv] at this;exact this
   ·exact Zr hb.2 k hk
theorem Xm {M:List Nat} {i:Nat}:∀ {rs:List bV} {k:Nat} {b:Nat},b∉Bq M i rs k->∀ (j:Nat) r,rs[j]? = some r->wO M i (k+j)=true->b∉keysOf r.upd
 | [],k,b,_,j,r,hj,_=>by simp at hj
 | s::rs,k,b,hb,j,r,hj,hu=>by
   unfold Bq at hb;cases j with
   | zero=>
     simp at hj;subst hj;rw [mJ] at hu;rw [aj hu] at hb;simp only [nX,not_or] at hb;exact hb.1
   | succ j=>
     have hb':b∉Bq M i rs (k+1):=by
      split at hb
      ·simp only [nX,not_or] at hb;exact hb.2
      ·exact hb
     exact Xm hb' j r (by simpa using hj) (by rw [show k+1+j=k+(j+1) by omega];exact hu)
theorem acH {M:List Nat} {i:Nat}:∀ {rs:List bV} {k:Nat} {b:Nat} (j:Nat) (r:bV),rs[j]? = some r->wO M i (k+j)=false->b∈keysOf r.upd->b∈Lr M i rs k
 | [],k,b,j,r,hj,_,_=>by simp at hj
 | s::rs,k,b,j,r,hj,hu,hb=>by
   unfold Lr;cases j with
   | zero=>
     simp at hj;subst hj;rw [mJ] at hu;rw [ah (by rw [hu];simp)];simp [hb]
   | succ j=>
     have:=acH (k:=k+1) j r (by simpa using hj) (by rw [show k+1+j=k+(j+1) by omega];exact hu) hb;split
     ·exact this
     ·simp [this]
theorem Ctx.bound (C:Ctx P call ops M rs a0 σ0 cf) (hinv:zX P ops rs a0 σ0 cf η0 w0 D η w A) (id:Nat) (h:η.has id):id < cf:=hinv.st.rel.hasLt h
theorem Ctx.apart (C:Ctx P call ops M rs a0 σ0 cf) (hinv:zX P ops rs a0 σ0 cf η0 w0 D η w A) (hr:rs[i]? = some r) (hi:D i=false) {id:Nat} (h:η.has id):¬ (r.base<=id/\id < r.next):=by
 rintro ⟨h1,h2⟩
 have hlo:=C.lo hr;rcases hinv.dm id h with h3 | ⟨k,h3,h4,h5⟩ | ⟨j,s,h3,h4,h5,h6⟩
 ·omega
 ·omega
 ·by_cases hij:i=j
  ·subst hij;rw [hi] at h4;cases h4
  ·rcases Nat.lt_or_gt_of_ne hij with hlt | hlt
   ·have:=C.lt hr h3 hlt;omega
   ·have:=C.lt h3 hr hlt;omega
theorem Ctx.step (C:Ctx P call ops M rs a0 σ0 cf) (hcall:qL P call) (hS0:SR P η0 σ0 w0) (hinv:zX P ops rs a0 σ0 cf η0 w0 D η w A) (hil:i < ops.size) (hi:D i=false)
 (yx:∀o,ops[i]? = some o->∀e∈o.after.toList,Region.binds .any e=true->D e.on=true) (hnl:mY ops M i=false) {K:Act->World->Prop} {Q:Exit->Act->World->Prop}
 (hK:∀η' A' w',zX P ops rs a0 σ0 cf η0 w0 (gJ D i) η' w' A'->K A' w'):wpOp P ops Q i K A w:=by
 obtain ⟨o,ho⟩:∃o,ops[i]? = some o:=⟨ops[i],by simp [hil]⟩
 obtain ⟨r,hr⟩:∃r,rs[i]? = some r:=⟨_,bT (by rw [C.len];exact hil)⟩
 have fD:=yx o ho;have hone:=C.one i r hr;have hact:=C.act hinv ho hr hi fD;have hbase:=C.base hr;have hlo:=C.lo hr;have hhi:=C.hi hr;have hN0:P.globals.size < σ0.next:=by
  obtain ⟨sz,es,h1⟩:=hS0.lu P.globals.size (dJ _);exact hS0.dom _ _ h1
 have hbn:=(C.slot i r hr).1;have ab4:=C.lock;have hbig:=C.big;have UW:=C.bound hinv;unfold wz at hone;rw [hnl] at hone;simp only [gZ,if_false] at hone;unfold y8 at hone;rw [ho] at hone;simp only at hone;unfold wpOp;rw [ho];simp only;split at hone
 ·cases hone
 ·
   next hw=>
   rw [BO hact hw];simp only [gZ,if_false];cases hone;refine hK η _ w ⟨?_, ?_, ?_, ?_⟩
   ·intro k o' hk ho' e he hb
    unfold gJ at hk ⊢;simp only [ny] at hk ⊢;rcases hk with hk | hk
    ·exact .inl (hinv.closed k o' hk ho' e he hb)
    ·have:=bG hk;subst this
     rw [ho] at ho';cases ho';exact .inl (yx _ ho e he hb)
   ·have hg:=C.abL (σ0:=σ0) hinv.closed ho hr hi fD
    refine hinv.st.sub ?_ (dJ _) rfl;intro id ob hob;have:(iM (fZ rs) 0 (gJ D i) σ0.h).get id=some ob:=hob;rw [hg] at this;exact this
   ·exact hinv.tr.add (Env.le.refl _) (C.KI (a0:=a0) hinv.closed ho hr hi fD) (C.slot i _ hr).2 (by rintro u hu;cases hu;exact ⟨[],rfl,rfl⟩)
   ·intro id hq
    have hD':∀k,D k=true->gJ D i k=true:=λk hk=>by unfold gJ;rw [hk];rfl
    rcases hinv.dm id hq with h5 | ⟨k,h5,h6,h7⟩ | ⟨j,s,h5,h6,h7⟩
    ·exact .inl h5
    ·exact .inr (.inl ⟨k,h5,hD' k h6,h7⟩)
    ·exact .inr (.inr ⟨j,s,h5,hD' j h6,h7⟩)
 ·
   next hw=>
   rw [BO hact hw];simp only [if_true];left;have rest:∀l:List Nat,r.vis=some l->∀id ob,(iC (ig ((fZ rs).take i) σ0.h) l).get id=some ob->(iM (fZ rs) 0 D σ0.h).get id=some ob/\id∈l/\(ig ((fZ rs).take i) σ0.h).get id=some ob:=by
    intro l hl id ob hob;rw [yu] at hob;split at hob
    ·next hm=>rw [<- C.apr (σ0:=σ0) hinv.closed ho hr hi fD hl hm];exact ⟨hob,hm,hob⟩
    ·cases hob
   have aao:∀c,Hg c (ig ((iG rs).take i) a0.t) (o.looksAt ops)=true->TR P (η.cut c) { t:=iC (ig ((iG rs).take i) a0.t) (o.looksAt ops),n:=a0.n,gn:=a0.gn } A:=by
    intro c hb;refine ⟨hact.gn,hact.size,hact.none,λd v hv=>?_⟩;obtain ⟨x,hx,jO⟩:=hact.slot d v hv;refine ⟨x,hx,VR.cut v x ?_ jO⟩;rw [yu] at hv;split at hv
    ·next hd=>exact Zr hb d hd v hv
    ·cases hv
   split at hone
   ·
     next ty hty=>
     split at hone
     ·next z hz=>
      cases hone;have hop:qw P call o (aX.eval { t:=.nil,n:=a0.n,gn:=a0.gn }) { h:=.nil,next:=σ0.next+i,lock:=σ0.lock }=some (some (.p (σ0.next+i) 0),({ h:=.nil,next:=σ0.next+i,lock:=σ0.lock }:ak).new (.cells z ty true false)):=by
       unfold qw;rw [hty];simp only [hz,gI]
      have hS':SR P (η.cut σ0.next) { h:=.nil,next:=σ0.next+i,lock:=σ0.lock } w:=hinv.st.rel.cutAt hN0 (λid ob h=>by simp [ak.get] at h) (λid ob h=>by simp [ak.get] at h) (by simp);refine C.gen hcall hinv ho hr hil hi fD hS' (a:={ t:=.nil,n:=a0.n,gn:=a0.gn }) ⟨hact.gn,hact.size,hact.none,λd v hv=>by simp at hv⟩ (Env.Hw _ _) rfl hop rfl (λid ob h=>by simp [ak.get] at h) ?_ ?_ ?_ (dJ _) ?_ ?_ hK
      ·rintro id hq ⟨h1,h2⟩
       have h1':σ0.next+i<=id:=h1;have h2':id < σ0.next+i+1:=h2;rcases hinv.dm id hq with h3 | ⟨k,h3,h4,h5⟩ | ⟨j,s,h3,h4,h5,h6⟩
       ·omega
       ·have:k=i:=by omega
        subst this;rw [hi] at h4;cases h4
       ·have:=C.lo h3;omega
      ·intro b ob hb
       simp only [eH] at hb;split at hb
       ·next e=>
        cases hb;subst e;refine ⟨?_,.inr ⟨rfl,Tr.get_nil _⟩⟩;rw [ak.pX,aj rfl]
       ·cases hb
      ·intro id ob h;simp [ak.get] at h
      ·intro b hb
       have:=(xC _ _).1 hb;simp [keysOf] at this;subst this;show σ0.lock<=σ0.next+i
       omega
      ·intro id h1 h2
       have h1':σ0.next+i<=id:=h1;have h2':id < σ0.next+i+1:=h2;have:=C.TM;exact ⟨by omega,by omega,.inl (by omega)⟩
     ·cases hone
   ·split at hone
    ·
      next l hcls=>
      split at hone
      ·next v τ' hop=>
       rw [tK] at hop;split at hone
       ·next hnx=>
        cases hone;have aj7:=bG hnx;have hS':SR P η { h:=iC (ig ((fZ rs).take i) σ0.h) l,next:=rV,lock:=rV } w:=hinv.st.rel.part (λid ob h=>(rest l rfl id ob h).1) (λid hq=>vS (UW id hq) hbig);refine C.gen hcall hinv ho hr hil hi fD hS' hact (Env.le.refl _) rfl hop rfl (λid ob h=>(rest l rfl id ob h).1) ?_ ?_ ?_ ?_ ?_ ?_ hK
        ·rintro id hq ⟨h1,h2⟩
         have h1':rV<=id:=h1;omega
        ·intro b ob hb;simp [eH] at hb
        ·intro id ob h1 h2 h3
         have h3':rV<=id:=h3;have:=UW id (hS'.KT h1);omega
        ·have:=C.TM;show σ0.lock<=rV;omega
        ·intro b hb;simp [eH] at hb
        ·intro id h1 h2
         have h1':rV<=id:=h1;omega
       ·cases hone
      ·cases hone
    ·
      next l hcls=>
      split at hone
      ·next v τ' hop=>
       rw [tK] at hop;split at hone
       ·next hnx=>
        cases hone;have aj7:=bG hnx;have hS':SR P η { h:=iC (ig ((fZ rs).take i) σ0.h) l,next:=rV,lock:=σ0.lock } w:=hinv.st.rel.part (λid ob h=>(rest l rfl id ob h).1) (λid hq=>vS (UW id hq) hbig);refine C.gen hcall hinv ho hr hil hi fD hS' hact (Env.le.refl _) rfl hop rfl (λid ob h=>(rest l rfl id ob h).1) ?_ ?_ ?_ (dJ _) ?_ ?_ hK
        ·rintro id hq ⟨h1,h2⟩
         have h1':rV<=id:=h1;omega
        ·intro b ob hb
         obtain ⟨h1,h2⟩:=VL hb;obtain ⟨h3,h4,ob',h5,h6⟩:=Bg.1 h1;refine ⟨h2.symm,.inl ⟨ob', ?_,h6⟩⟩;show (iC _ l).get b=_
         rw [yu,aj h3];exact h5
        ·intro id ob h1 h2 h3
         obtain ⟨_,h4,h5⟩:=rest l rfl id ob h1;rw [xC,keys_map];exact Bg.2 ⟨h4,h3,ob,h5,h2⟩
        ·intro b hb
         rw [xC,keys_map] at hb;exact (Bg.1 hb).2.1
        ·intro id h1 h2
         have h1':rV<=id:=h1;omega
       ·cases hone
      ·cases hone
    ·
      next l hcls=>
      split at hone
      ·next hbel=>
       simp only [aJ] at hbel;split at hone
       ·next v τ' hop=>
        rw [tK] at hop;cases hone;simp only at hlo hhi hbn
        have hS':SR P (η.cut (jd (σ0.next+ops.size) rs i)) { h:=iC (ig ((fZ rs).take i) σ0.h) l,next:=jd (σ0.next+ops.size) rs i,lock:=σ0.lock } w:=
         hinv.st.rel.cutAt (by omega) (λid ob h=>(rest l rfl id ob h).1) (λid ob h=>by
          obtain ⟨_,h1,h2⟩:=rest l rfl id ob h;have:=JW hbel.2 id h1;exact ⟨this.1,this.2 ob h2⟩) (dJ _)
        refine C.gen hcall hinv ho hr hil hi fD hS' (aao _ hbel.1) (Env.Hw _ _) rfl hop rfl (λid ob h=>(rest l rfl id ob h).1) ?_ ?_ ?_ (dJ _) ?_ ?_ hK
        ·rintro id hq ⟨h1,h2⟩
         exact C.apart hinv hr hi hq ⟨h1,h2⟩
        ·intro b ob hb
         rw [Qe] at hb;split at hb
         ·next x hx=>
          cases hb;obtain ⟨h1,h2,h3⟩:=FB hx;obtain ⟨h4,h5⟩:=h3 ob rfl;refine ⟨h4,.inr ⟨h5, ?_⟩⟩;show (iC _ l).get b=none
          rw [yu];split
          ·next hm=>have:=(JW hbel.2 b hm).1;omega
          ·rfl
         ·obtain ⟨h1,h2⟩:=VL hb
          obtain ⟨h3,h4,ob',h5,h6⟩:=Bg.1 h1;refine ⟨h2.symm,.inl ⟨ob', ?_,h6⟩⟩;show (iC _ l).get b=_
          rw [yu,aj h3];exact h5
        ·intro id ob h1 h2 h3
         obtain ⟨_,h4,h5⟩:=rest l rfl id ob h1;rw [xC];unfold keysOf;rw [wS,nX];left;have:=keys_map (FN (ig ((fZ rs).take i) σ0.h) σ0.lock l) (λk=>τ'.get k);unfold keysOf at this;rw [this];exact Bg.2 ⟨h4,h3,ob,h5,h2⟩
        ·intro b hb
         rw [Qe] at hb;split at hb
         ·next x hx=>
          obtain ⟨h1,_,_⟩:=FB hx;show σ0.lock<=b
          omega
         ·rw [xC,keys_map] at hb
          exact (Bg.1 hb).2.1
        ·intro id h1 h2
         have h1':jd (σ0.next+ops.size) rs i<=id:=h1;exact ⟨by omega,by omega,.inr ⟨h1,h2⟩⟩
       ·cases hone
      ·cases hone
    ·
      next hcls=>
      split at hone
      ·next v τ' hop0=>
       have hop:=ar6 hop0;rw [tK] at hop;cases hone;simp only at hlo hhi hbn;have hall:∀id,η.has id->id < jd (σ0.next+ops.size) rs i:=by
        intro id hq;rcases hinv.dm id hq with h3 | ⟨k,h3,h4,h5⟩ | ⟨j,s,h3,h4,h5,h6⟩
        ·omega
        ·omega
        ·have hij:i≠j:=by rintro rfl;rw [hi] at h4;cases h4
         rcases Nat.lt_or_gt_of_ne hij with hlt | hlt
         ·have hjl:j < ops.size:=by have:=(dW.1 h3).1;rw [C.len] at this;exact this
          have hun:=C.open_ hinv.closed ho hi fD hjl (by rw [h4];simp;omega);have hp:=I7 ho (C.pairs i j _ s hr h3 hun);have:=(hp.2.2.2.2.1 rfl hlt).2.2;omega
         ·have:=C.lt h3 hr hlt
          simp only at this;omega
       have hsub:∀id ob,(C9 (ig ((fZ rs).take i) σ0.h) (Bq M i (rs.take i) 0)).get id=some ob->(iM (fZ rs) 0 D σ0.h).get id=some ob:=by
        intro id ob hob;rw [abK] at hob;split at hob
        ·cases hob
        ·next hnk=>
         rw [<- hob,Ij (fZ rs) i 0,AB];congr 1;refine (IG _ _ _ _ _ λj u hj hne=>?_).symm;obtain ⟨s,hs,rfl⟩:=MO hj;have hjl:j < ops.size:=by have:=(dW.1 hs).1;rw [C.len] at this;exact this
         simp only [jw] at hne;have hun:=C.open_ hinv.closed ho hi fD hjl (λe=>hne e.symm);apply Ls;by_cases hji:j < i
         ·exact Xm hnk j s (by rw [kM,aj hji];exact hs) (by rw [jw];exact hun)
         ·have hij:i < j:=by
           rcases yP i j with h | h
           ·exact h
           ·have:i=j:=by omega
            subst this;rw [hi] at hne;simp at hne
          have hp:=I7 ho (C.pairs i j _ s hr hs hun);obtain ⟨h1,h2,h3⟩:=hp.2.2.2.2.1 rfl hij;intro hmem;have hge:=h1 id hmem;rw [Ij (fZ rs) i 0] at hob;cases hl:jW (fZ rs) 0 (λj=>decide (j < 0+i)) id with
          | none=>
            rw [hl] at hob;have:=hS0.hasLt (hS0.KT hob);omega
          | some x=>
            obtain ⟨j',u',h4,h5,h6⟩:=VF _ _ _ _ _ hl;obtain ⟨s',hs',rfl⟩:=MO h4;simp only [jw,decide_eq_true_eq] at h5;have hk:id∈keysOf s'.upd:=(xC _ _).1 (by rw [h6];simp);have htk:(rs.take i)[j']? = some s':=by rw [kM,aj h5];exact hs'
            have hnu:wO M i (0+j')=false:=by
             cases hu:wO M i (0+j') with
             | false=>rfl
             | true=>exact absurd hk (Xm hnk j' s' htk hu)
            have:=acH j' s' htk hnu hk;exact Kz h2 this hmem
       have hS':SR P η { h:=C9 (ig ((fZ rs).take i) σ0.h) (Bq M i (rs.take i) 0),next:=jd (σ0.next+ops.size) rs i,lock:=jd (σ0.next+ops.size) rs i } w:=hinv.st.rel.part hsub hall;refine C.gen hcall hinv ho hr hil hi fD hS' hact (Env.le.refl _) rfl hop rfl hsub ?_ ?_ ?_ ?_ ?_ ?_ hK
       ·rintro id hq ⟨h1,h2⟩
        exact C.apart hinv hr hi hq ⟨h1,h2⟩
       ·intro b ob hb
        obtain ⟨h1,h2,h3⟩:=FB hb;obtain ⟨h4,h5⟩:=h3 ob rfl;refine ⟨h4,.inr ⟨h5, ?_⟩⟩;cases hg:ak.get { h:=C9 (ig ((fZ rs).take i) σ0.h) (Bq M i (rs.take i) 0),next:=jd (σ0.next+ops.size) rs i,lock:=jd (σ0.next+ops.size) rs i } b with
        | none=>rfl
        | some ob'=>
          have:=hall b (hS'.KT hg);omega
       ·intro id ob h1 h2 h3
        have h3':jd (σ0.next+ops.size) rs i<=id:=h3;have:=hall id (hS'.KT h1);omega
       ·show σ0.lock<=jd (σ0.next+ops.size) rs i
        omega
       ·intro b hb
        cases hx:eH (Dk τ' (jd (σ0.next+ops.size) rs i) (τ'.next - jd (σ0.next+ops.size) rs i)) b with
        | none=>exact absurd hx hb
        | some x=>exact (FB hx).1
       ·intro id h1 h2
        have h1':jd (σ0.next+ops.size) rs i<=id:=h1;exact ⟨by omega,by omega,.inr ⟨h1,h2⟩⟩
      ·generalize LY o (aX.eval { t:=iC (ig ((iG rs).take i) a0.t) (o.looksAt ops),n:=a0.n,gn:=a0.gn }) (ig ((fZ rs).take i) σ0.h)=l at hone
       split at hone
       ·next hbel=>
        simp only [aJ] at hbel;split at hone
        ·next v τ' hop=>
         rw [tK] at hop;cases hone;simp only at hlo hhi hbn
         have hS':SR P (η.cut (jd (σ0.next+ops.size) rs i)) { h:=iC (ig ((fZ rs).take i) σ0.h) l,next:=jd (σ0.next+ops.size) rs i,lock:=σ0.lock } w:=
          hinv.st.rel.cutAt (by omega) (λid ob h=>(rest l rfl id ob h).1) (λid ob h=>by
           obtain ⟨_,h1,h2⟩:=rest l rfl id ob h;have:=JW hbel.2 id h1;exact ⟨this.1,this.2 ob h2⟩) (dJ _)
         refine C.gen hcall hinv ho hr hil hi fD hS' (aao _ hbel.1) (Env.Hw _ _) rfl hop rfl (λid ob h=>(rest l rfl id ob h).1) ?_ ?_ ?_ (dJ _) ?_ ?_ hK
         ·rintro id hq ⟨h1,h2⟩
          exact C.apart hinv hr hi hq ⟨h1,h2⟩
         ·intro b ob hb
          rw [Qe] at hb;split at hb
          ·next x hx=>
           cases hb;obtain ⟨h1,h2,h3⟩:=FB hx;obtain ⟨h4,h5⟩:=h3 ob rfl;refine ⟨h4,.inr ⟨h5, ?_⟩⟩;show (iC _ l).get b=none
           rw [yu];split
           ·next hm=>have:=(JW hbel.2 b hm).1;omega
           ·rfl
          ·obtain ⟨h1,h2⟩:=VL hb
           obtain ⟨h3,h4,ob',h5,h6⟩:=Bg.1 h1;refine ⟨h2.symm,.inl ⟨ob', ?_,h6⟩⟩;show (iC _ l).get b=_
           rw [yu,aj h3];exact h5
         ·intro id ob h1 h2 h3
          obtain ⟨_,h4,h5⟩:=rest l rfl id ob h1;rw [xC];unfold keysOf;rw [wS,nX];left;have:=keys_map (FN (ig ((fZ rs).take i) σ0.h) σ0.lock l) (λk=>τ'.get k);unfold keysOf at this;rw [this];exact Bg.2 ⟨h4,h3,ob,h5,h2⟩
         ·intro b hb
          rw [Qe] at hb;split at hb
          ·next x hx=>
           obtain ⟨h1,_,_⟩:=FB hx;show σ0.lock<=b
           omega
          ·rw [xC,keys_map] at hb
           exact (Bg.1 hb).2.1
         ·intro id h1 h2
          have h1':jd (σ0.next+ops.size) rs i<=id:=h1;exact ⟨by omega,by omega,.inr ⟨h1,h2⟩⟩
        ·cases hone
       ·cases hone
end
end
end Go.aO
namespace Go.aO
set_option linter.unusedSimpArgs false
noncomputable section
variable [aH]
set_option linter.unusedSectionVars false
set_option linter.unusedVariables false
variable {P:Program}
section
variable {call:Caller} {ops:Array Oper} {M:List Nat} {rs:List bV} {a0:aX} {σ0:ak} {cf:Nat} {η0:Env} {w0:World}
def inB (listed:Array Bool):Nat->Bool:=λj=>listed.getD j false
theorem aeb {listed:Array Bool} (hl:listed.size=ops.size) {i:Nat} (h:i∈Region.ready .any ops listed):i < ops.size/\inB listed i=false/\∀o,ops[i]? = some o->∀e∈o.after.toList,Region.binds .any e=true->inB listed e.on=true:=by
 unfold Region.ready at h;simp only [pO,xP,aJ,wQ] at h;obtain ⟨h1,h2,h3⟩:=h;have hlt:i < listed.size:=by omega
 refine ⟨h1, ?_, ?_⟩
 ·unfold inB
  rw [wP,zU hlt] at h2 ⊢;exact h2
 ·intro o ho e he hb
  rw [ho] at h3;simp only [gI,qp] at h3;rw [Array.all_eq_true'] at h3;have:=h3 e (by simpa using he);rw [hb] at this;simpa [inB] using this
theorem count_set (listed:Array Bool) (i:Nat) (h:listed[i]? = some false):(listed.setIfInBounds i true).toList.count false+1=listed.toList.count false:=by
 have hlt:i < listed.size:=(pG.1 h).1;have hv:listed[i]=false:=(pG.1 h).2;have h1:listed.toList[i]'(by simpa using hlt)=false:=by simpa using hv
 have hpos:0 < listed.toList.count false:=List.count_pos_iff.2 (by rw [<- h1];exact jf _);rw [Array.toList_setIfInBounds,List.count_set (by simpa using hlt),h1];have e1:((false==false)=true):=rfl;have e2:¬ ((true==false)=true):=by decide
 rw [aj e1,ah e2];omega
theorem O7 {α:Type}:∀ (us:List (List (Nat×Option α))) (k:Nat) (D:Nat->Bool) (t:Tr α),(∀j,j < us.length->D (k+j)=true)->iM us k D t=ig us t
 | [],_,_,_,_=>rfl
 | u::us,k,D,t,h=>by
   have h0:=h 0 (by simp);simp only [mJ] at h0;rw [iM,aj h0,ig,O7 us (k+1) D _ (λj hj=>by rw [show k+1+j=k+(j+1) by omega];exact h (j+1) (by simpa using hj))]
end
section
variable {ops:Array Oper} {M:List Nat} {rs:List bV} {a0:aX} {σ:ak} {η0:Env} {w0:World} {n N0:Nat}
theorem Zk (C:pJ ops M rs n N0) (Inv:(Nat->Bool)->Env->World->Act->Prop)
 (hstep:∀D η w A i (K:Act->World->Prop) (Q:Exit->Act->World->Prop),Inv D η w A->i < ops.size->D i=false->(∀o,ops[i]? = some o->∀e∈o.after.toList,Region.binds .any e=true->D e.on=true)->
  (∀η' A' w',Inv (gJ D i) η' w' A'->K A' w')->wpOp P ops Q i K A w) {Q:Exit->Act->World->Prop}
 (hK:∀η' A' w',Inv (λj=>decide (j < ops.size)) η' w' A'->Q .normal A' w') :
 ∀ (fuel:Nat) (listed:Array Bool) (η:Env) (w:World) (A:Act),listed.size=ops.size->listed.toList.count false=fuel->Inv (inB listed) η w A->wpAny P .any ops Q fuel listed A w:=by
 intro fuel;induction fuel with
 | zero=>
   intro listed η w A hl hc hinv;have hall:∀j,j < ops.size->inB listed j=true:=by
    intro j hj;have hlt:j < listed.size:=by omega
    have hm:listed[j]∈listed.toList:=by simp
    have:false∉listed.toList:=List.count_eq_zero.1 hc;unfold inB;rw [wP,zU hlt];cases hv:listed[j] with
    | true=>rfl
    | false=>rw [hv] at hm;exact absurd hm this
   have hD:inB listed=λj=>decide (j < ops.size):=by
    funext j;by_cases hj:j < ops.size
    ·rw [hall j hj];simp [hj]
    ·unfold inB
     rw [wP,Array.getElem?_eq_none (by omega)];simp [hj]
   refine ⟨?_, ?_⟩
   ·apply List.eq_nil_iff_forall_not_mem.2
    intro i hi;obtain ⟨h1,h2,_⟩:=aeb hl hi;rw [hall i h1] at h2;cases h2
   ·rw [hD] at hinv;exact hK η A w hinv
 | succ fuel ih=>
   intro listed η w A hl hc hinv;refine ⟨λhr=>?_,λi hi=>?_⟩
   ·exfalso
    have hex:∃i,i < ops.size/\inB listed i=false/\∀j,j < i->inB listed j=true:=by
     have hpos:0 < listed.toList.count false:=by omega
     have hm:=List.count_pos_iff.1 hpos;obtain ⟨k,hk⟩:=SC.1 hm;have ajW:k < ops.size:=by have:=(dW.1 hk).1;simp at this;omega
     have hkf:inB listed k=false:=by
      unfold inB;rw [wP];rw [uy] at hk;rw [hk];rfl
     clear hm hk;induction k using Nat.strongRecOn with
     | _ k ihk=>
       by_cases hb:∃j,j < k/\inB listed j=false
       ·obtain ⟨j,h1,h2⟩:=hb
        exact ihk j h1 (by omega) h2
       ·refine ⟨k,ajW,hkf,λj hj=>?_⟩
        cases hv:inB listed j with
        | true=>rfl
        | false=>exact absurd ⟨j,hj,hv⟩ hb
    obtain ⟨i,h1,h2,h3⟩:=hex;have hmem:i∈Region.ready .any ops listed:=by
     unfold Region.ready;simp only [pO,xP,aJ,wQ];have hlt:i < listed.size:=by omega
     refine ⟨h1, ?_, ?_⟩
     ·unfold inB at h2
      rw [wP,zU hlt] at h2 ⊢;exact h2
     ·have ho:ops[i]? = some ops[i]:=by simp [h1]
      rw [ho];simp only [gI,qp];rw [Array.all_eq_true'];intro e he;cases hb:Region.binds .any e with
      | false=>rfl
      | true=>
        simp only [Sj,vO];obtain ⟨hm,hlen⟩:=C.mask ho;have hbit:qH M e.on i=true:=by
         unfold qH;rw [yL,hm];simp only [qp];have:∀ (es:List Edge),e∈es->(yE (λj=>(M.take i).getD j 0) es).testBit e.on=true:=by
          intro es;induction es with
          | nil=>intro h;simp at h
          | cons x es acf=>
            intro h;rw [yE];simp only [cO] at h;rcases h with rfl | h
            ·rw [aj hb,Nz,Nz,Nat.testBit_two_pow];simp
            ·split
             ·rw [Nz,acf h,Bool.or_true]
             ·exact acf h
         exact this _ (by simpa using he)
        exact h3 e.on (C.Wu hbit)
    rw [hr] at hmem;simp at hmem
   ·obtain ⟨h1,h2,h3⟩:=aeb hl hi
    refine hstep _ _ _ _ i _ Q hinv h1 h2 h3 λη' A' w' hinv'=>?_;have hf:listed[i]? = some false:=by
     have hlt:i < listed.size:=by omega
     unfold inB at h2;rw [wP,zU hlt] at h2;rw [zU hlt];simpa using h2
    have hD:gJ (inB listed) i=inB (listed.setIfInBounds i true):=by
     funext j;unfold gJ inB;have hlt:i < listed.size:=by omega
     rw [wP,wP,zV];by_cases e:i=j
     ·subst e;rw [aj rfl,aj hlt];simp
     ·rw [ah e,wH (λe'=>e e'.symm)];simp
    rw [hD] at hinv';exact ih _ η' w' A' (by simpa using hl) (by have:=count_set listed i hf;omega) hinv'
end
theorem aeR {ops:Array Oper} {M:List Nat}:∀ (k i j:Nat),Ry ops M k<=i->i < k->mW ops i=false->j < i->mW ops j=true\/qH M j i=true
 | 0,i,j,_,h,_,_=>by omega
 | k+1,i,j,h1,h2,h3,h4=>by
   unfold Ry at h1;split at h1
   ·next ha=>
    by_cases e:i=k
    ·subst e
     rw [h3,vO,List.all_eq_true] at ha;have:=ha j (by simpa using h4);rwa [ny] at this
    ·exact aeR k i j h1 (by omega) h3 h4
   ·omega
theorem Rz:∀ (rs:List bV) (r:bV) (σ:ak),uo (rs++[r]) σ=match r.fin with | some τ=>τ | none=>uo rs σ
 | [],_,_=>rfl
 | s::rs,r,σ=>by
   show uo (rs++[r]) _=_
   rw [Rz rs r];rfl
theorem X9 {rs:List bV} {σ:ak}:∀k,k<=rs.length->(∀ (i:Nat) r,i < k->rs[i]? = some r->r.fin=none)->uo (rs.take k) σ=σ
 | 0,_,_=>by simp [uo]
 | k+1,hk,h=>by
   obtain ⟨r,hr⟩:∃r,rs[k]? = some r:=⟨_,bT (by omega)⟩
   rw [SG,hr,Y5,Rz,h k r (by omega) hr];exact X9 k (by omega) (λi r' hi=>h i r' (by omega))
theorem Ya {rs:List bV} {σ:ak} {m:Nat} {r:bV} {τ:ak} (hr:rs[m]? = some r) (hf:r.fin=some τ):∀k,m < k->k<=rs.length->(∀ (i:Nat) r',m < i->i < k->rs[i]? = some r'->r'.fin=none)->uo (rs.take k) σ=τ
 | 0,h,_,_=>by omega
 | k+1,hm,hk,h=>by
   by_cases e:m=k
   ·subst e
    rw [SG,hr,Y5,Rz,hf]
   ·obtain ⟨r',hr'⟩:∃r,rs[k]? = some r:=⟨_,bT (by omega)⟩
    rw [SG,hr',Y5,Rz,h k r' (by omega) (by omega) hr'];exact Ya hr hf k (by omega) (by omega) (λi r'' h1 h2=>h i r'' h1 (by omega))
theorem aiA {call:Caller} {o:Oper} (hf:Aw o=true) {ev:Operand->Option AV} {σ1 σ2 τ:ak} {v:Option AV} (hs:mQ P call o ev σ1=some (v,τ)):mQ P call o ev σ2=some (v,σ2):=by
 rw [tK] at hs ⊢;obtain ⟨dst,op,type,pos,after,guard⟩:=o;cases op with
 | move x=>
   simp only [qw,dF,bf,kE] at hs ⊢;obtain ⟨u,h1,h2,_⟩:=hs;exact ⟨u,h1,h2,trivial⟩
 | assign x=>
   simp only [qw,dF,bf,kE] at hs ⊢;obtain ⟨u,h1,h2,_⟩:=hs;exact ⟨u,h1,h2,trivial⟩
 | extract x k=>
   simp only [qw] at hs ⊢;split at hs
   ·simp only [dF,bf,kE] at hs ⊢
    obtain ⟨u,h1,h2,_⟩:=hs;exact ⟨u,h1,h2,trivial⟩
   ·cases hs
 | binOp op t x y z=>
   simp only [qw] at hs ⊢;split at hs
   ·simp only [dF,bf,kE] at hs ⊢
    obtain ⟨u,h1,h2,_⟩:=hs;exact ⟨u,h1,h2,trivial⟩
   ·cases hs
 | _=>simp [Aw] at hf
theorem agJ {o:Oper} (hf:Aw o=true) (ev:Operand->Option AV):Z9 o ev=.na []:=by
 obtain ⟨dst,op,type,pos,after,guard⟩:=o;cases op<;>first | rfl | (simp [Aw] at hf)
theorem ahK {call:Caller} {ops:Array Oper} {lock gn n i c:Nat} {prev:List bV} {t:Tr AV} {h:Tr bn} {r:bV} (hs:Hy P call ops lock gn n prev i t h c=some r):r.next=c:=by
 unfold Hy at hs;split at hs
 ·cases hs
 ·split at hs
  ·cases hs
  ·cases hs;rfl
  ·split at hs
   ·cases hs;rfl
   ·cases hs
theorem TY {call:Caller} {ops:Array Oper} {M:List Nat} {N0 lock gn n i c:Nat} {prev:List bV} {t:Tr AV} {h:Tr bn} {r:bV} {o:Oper} (ho:ops[i]? = some o) (hf:Aw o=true) (hs:y8 P call ops M N0 lock gn n prev i t h c=some r) :
 r.upd=[]/\r.next=c/\r.fin=none/\((BN o ops { t:=iC t (o.looksAt ops),n:=n,gn:=gn }=some false/\r.slot=mP o (some (.dO [])))\/
  (BN o ops { t:=iC t (o.looksAt ops),n:=n,gn:=gn }=some true/\∃v,(∀σ2,mQ P call o (aX.eval { t:=iC t (o.looksAt ops),n:=n,gn:=gn }) σ2=some (v,σ2))/\r.slot=mP o v)):=by
 unfold y8 at hs;rw [ho] at hs;simp only at hs;split at hs
 ·cases hs
 ·next hw=>cases hs;exact ⟨rfl,rfl,rfl,.inl ⟨hw,rfl⟩⟩
 ·next hw=>
  split at hs
  ·next ty e=>exfalso;obtain ⟨dst,op,type,pos,after,guard⟩:=o;cases e;simp [Aw] at hf
  ·rw [agJ hf] at hs
   simp only at hs;split at hs
   ·next v τ hv=>
    split at hs
    ·cases hs
     exact ⟨rfl,rfl,rfl,.inr ⟨hw,v,λσ2=>aiA hf hv,rfl⟩⟩
    ·cases hs
   ·cases hs
theorem Ov {ops:Array Oper} {D:Nat->Bool} {i:Nat} (h:Closed ops D) (hd:∀o,ops[i]? = some o->∀e∈o.after.toList,Region.binds .any e=true->D e.on=true):Closed ops (gJ D i):=by
 intro j o hj ho e he hb;unfold gJ at hj ⊢;rw [ny] at hj ⊢;rcases hj with hj | hj
 ·exact .inl (h j o hj ho e he hb)
 ·have:=bG hj
  subst this;exact .inl (hd o ho e he hb)
section
variable {call:Caller} {ops:Array Oper} {M:List Nat} {rs:List bV} {a:aX} {σ:ak} {c:Nat} {D:Nat->Bool}
theorem Ctx.act' (C:Ctx P call ops M rs a σ c) (hcl:Closed ops D) {i:Nat} {o:Oper} {r:bV} (ho:ops[i]? = some o) (hr:rs[i]? = some r) (hi:D i=false) (fD:∀e∈o.after.toList,Region.binds .any e=true->D e.on=true)
 {η:Env} {A:Act} (htr:TR P η { t:=iM (iG rs) 0 D a.t,n:=a.n,gn:=a.gn } A):TR P η { t:=iC (ig ((iG rs).take i) a.t) (o.looksAt ops),n:=a.n,gn:=a.gn } A:=by
 refine ⟨htr.gn,htr.size,htr.none,λd v hv=>?_⟩;rw [yu] at hv;split at hv
 ·next hd=>
  rw [C.XK (a0:=a) hcl ho hr hi fD hd] at hv;exact htr.slot d v hv
 ·cases hv
theorem Ctx.last (C:Ctx P call ops M rs a σ c) (hcall:qL P call) (hcl:Closed ops D) {i:Nat} {o:Oper} {r:bV} (ho:ops[i]? = some o) (hr:rs[i]? = some r) (hi:D i=false) (fD:∀e∈o.after.toList,Region.binds .any e=true->D e.on=true) (hla:mY ops M i=true)
 {η η1:Env} {w0 w1:World} {A:Act} (hst:St P η σ w0 η1 (uo (rs.take i) { h:=ig ((fZ rs).take i) σ.h,next:=jd (σ.next+ops.size) rs i,lock:=σ.lock }) w1)
 (htr:TR P η1 { t:=iM (iG rs) 0 D a.t,n:=a.n,gn:=a.gn } A) {K:Act->World->Prop} {Q:Exit->Act->World->Prop}
 (hK:∀η' A' w' τ,r.fin=some τ->St P η σ w0 η' τ w'->TR P η' { t:=iM (iG rs) 0 (gJ D i) a.t,n:=a.n,gn:=a.gn } A'->K A' w'):wpOp P ops Q i K A w1:=by
 have hone:=C.one i r hr;unfold wz at hone;rw [aj hla] at hone;unfold Hy at hone;rw [ho] at hone;simp only at hone;have hact:=C.act' hcl ho hr hi fD htr;have hnext:=λd=>C.KI (a0:=a) hcl ho hr hi fD d;have hsl:=(C.slot i r hr).2;unfold wpOp;rw [ho];simp only;split at hone
 ·cases hone
 ·next hw=>
  cases hone;rw [BO hact hw];simp only [gZ,if_false];exact hK η1 _ w1 _ rfl hst (htr.add (Env.le.refl _) hnext hsl (by rintro u hu;cases hu;exact ⟨[],rfl,rfl⟩))
 ·next hw=>
  rw [BO hact hw];simp only [if_true];left;split at hone
  ·next v τ hop=>
   rw [tK] at hop;cases hone;refine NU hst.rel hcall hact hop λx η' w' hst2 hx=>?_;exact hK η' _ w' _ rfl (hst.trans hst2) (htr.add hst2.ext hnext hsl hx)
  ·cases hone
theorem Ctx.free (C:Ctx P call ops M rs a σ c) (hcall:qL P call) (hcl:Closed ops D) {i:Nat} {o:Oper} {r:bV} (ho:ops[i]? = some o) (hr:rs[i]? = some r) (hi:D i=false) (fD:∀e∈o.after.toList,Region.binds .any e=true->D e.on=true) (hf:Aw o=true)
 {η η1:Env} {τ:ak} {w0 w1:World} {A:Act} (hst:St P η σ w0 η1 τ w1) (htr:TR P η1 { t:=iM (iG rs) 0 D a.t,n:=a.n,gn:=a.gn } A) {K:Act->World->Prop} {Q:Exit->Act->World->Prop}
 (hK:∀η' A' w',St P η σ w0 η' τ w'->TR P η' { t:=iM (iG rs) 0 (gJ D i) a.t,n:=a.n,gn:=a.gn } A'->K A' w'):wpOp P ops Q i K A w1:=by
 have hone:=C.one i r hr;unfold wz at hone;have hnl:mY ops M i=false:=by
  unfold mY mW;rw [ho];simp only [hf,Sj,Bool.and_false]
 rw [hnl] at hone;simp only [gZ,if_false] at hone;obtain ⟨_,_,_,hcase⟩:=TY ho hf hone;have hact:=C.act' hcl ho hr hi fD htr;have hnext:=λd=>C.KI (a0:=a) hcl ho hr hi fD d;have hsl:=(C.slot i r hr).2;unfold wpOp;rw [ho];simp only;rcases hcase with ⟨hw,hs⟩ | ⟨hw,v,hv,hs⟩
 ·rw [hs] at hnext hsl
  rw [BO hact hw];simp only [gZ,if_false];exact hK η1 _ w1 hst (htr.add (Env.le.refl _) hnext hsl (by rintro u hu;cases hu;exact ⟨[],rfl,rfl⟩))
 ·rw [hs] at hnext hsl
  rw [BO hact hw];simp only [if_true];left;have hop:=hv τ;rw [tK] at hop;refine NU hst.rel hcall hact hop λx η' w' hst2 hx=>?_;exact hK η' _ w' (hst.trans hst2) (htr.add hst2.ext hnext hsl hx)
theorem Ctx.aeS (C:Ctx P call ops M rs a σ c) {l:Nat} (hl:∀i,l<=i->i < ops.size->mY ops M i=true\/mW ops i=true):∀k,l+k<=ops.size->jd (σ.next+ops.size) rs (l+k)=jd (σ.next+ops.size) rs l
 | 0,_=>rfl
 | k+1,h=>by
   have ih:=C.aeS hl k (by omega);obtain ⟨r,hr⟩:∃r,rs[l+k]? = some r:=⟨_,bT (by rw [C.len];omega)⟩
   obtain ⟨o,ho⟩:∃o,ops[l+k]? = some o:=⟨ops[l+k],by simp⟩
   have hone:=C.one _ _ hr;unfold wz at hone;rw [show l+(k+1)=(l+k)+1 by omega,J6 rs _ _ _ hr,<- ih];split at hone
   ·exact ahK hone
   ·next hn=>
    rcases hl (l+k) (by omega) (by omega) with h1 | h1
    ·exact absurd h1 hn
    ·unfold mW at h1
     rw [ho] at h1;exact (TY ho h1 hone).2.1
end
theorem ahV (hm:P.follows .mixedOrders=true):Jz P (SX P):=by
 intro call hcall ops a σ a' σ' hs η w A id Q h ht hK;unfold SX at hs;simp only at hs;split at hs
 ·next hok=>
  simp only [aJ] at hok;split at hs
  ·next rs t hh c hgo=>
   split at hs
   ·next vk=>
    simp only [aJ] at vk;obtain ⟨⟨⟨Iw,hdy0⟩,hsl⟩,hbig⟩:=vk;obtain ⟨new,h1,h2,h3,h4,h5,h6⟩:=aaq _ _ _ _ _ _ _ _ _ _ hgo;simp only [bK] at h1;subst h1
    have C:Ctx P call ops (jX ops.toList []) rs a σ c:={
     hM:=rfl
     VY:=hok.1
     len:=h2
     one:=λi r hr=>by have:=h6 i r hr;simpa using this
     pairs:=adI Iw hdy0 (λi r hr=>by have:=h6 i r hr;exact ahP (by simpa using this))
     slot:=by
      intro i r hr;unfold QW at hsl;rw [List.all_eq_true] at hsl;have:=hsl r (rQ hr);simp only [aJ] at this;refine ⟨Nat.le_of_ble_eq_true this.1,λp hpm=>?_⟩;have h8:=this.2;rw [List.all_eq_true] at h8;have:=h8 p hpm;rwa [jh] at this
     fin:=h5
     big:=qR hbig
     lock:=qR hok.2 }
    refine wp_region_any hm ?_;have hcl:=C.TM;have hempty:inB (Array.replicate ops.size false)=λ_=>false:=by
     funext j;unfold inB;rw [wP,afx];split<;>rfl
    have hno:∀ {α:Type} (us:List (List (Nat×Option α))) (k:Nat) (t:Tr α),iM us k (λ_=>false) t=t:=by
     intro α us;induction us with
     | nil=>intro k t;rfl
     | cons u us ih=>intro k t;rw [iM];simp only [gZ,if_false];exact ih _ _
    have start:zX P ops rs a σ c η { w with drawn:=w.drawn+1 } (λ_=>false) η { w with drawn:=w.drawn+1 } A:=by
     refine ⟨λi o hi=>by simp at hi, ?_, ?_,λid hq=>.inl (h.hasLt hq)⟩
     ·rw [hno]
      refine (St.refl h.drew).sub (λid o ho=>ho) (by show σ.next<=c;omega) rfl
     ·rw [hno];exact ⟨ht.gn,ht.size,ht.none,ht.slot⟩
    have PI:iM (iG rs) 0 (λj=>decide (j < ops.size)) a.t=t:=by
     rw [h3];exact O7 _ _ _ _ (λj hj=>by simp [iG] at hj ⊢;omega)
    have hlast:∀i,i < ops.size->mY ops (jX ops.toList []) i=true->mW ops i=false/\∀j,j < i->mW ops j=true\/qH (jX ops.toList []) j i=true:=by
     intro i hi hla;unfold mY at hla;rw [aJ,wQ] at hla;exact ⟨hla.2,λj hj=>aeR _ _ _ (qR hla.1) hi hla.2 hj⟩
    have hup:∀i j,i<=j->j < ops.size->mY ops (jX ops.toList []) i=true->mY ops (jX ops.toList []) j=true\/mW ops j=true:=by
     intro i j hij hj hla;unfold mY at hla ⊢;rw [aJ,wQ] at hla;have:=qR hla.1;cases hf:mW ops j with
     | true=>exact .inr rfl
     | false=>left;rw [YZ (iD this hij)];rfl
    have hfree:∀i,mW ops i=true->mY ops (jX ops.toList []) i=false:=by
     intro i hf;unfold mY;rw [hf];simp
    have hfin:∀ (i:Nat) r,rs[i]? = some r->mY ops (jX ops.toList []) i=false->r.fin=none:=by
     intro i r hr hi;have hone:=C.one i r hr;unfold wz at hone;rw [hi] at hone;simp only [gZ,if_false] at hone;exact ahO hone
    have ajS:∀ (i:Nat) r,rs[i]? = some r->mW ops i=true->r.upd=[]:=by
     intro i r hr hf;have hone:=C.one i r hr;unfold wz at hone;rw [hfree i hf] at hone;simp only [gZ,if_false] at hone;unfold mW at hf;split at hf
     ·next o ho=>exact (TY ho hf hone).1
     ·cases hf
    let wd:World:={ w with drawn:=w.drawn+1 }
    cases hs
    refine Zk C.topJ (λD η1 w1 A1=>((∀i,i < ops.size->mY ops (jX ops.toList []) i=true->D i=false)/\zX P ops rs a σ c η wd D η1 w1 A1)\/
     ∃m,m < ops.size/\mY ops (jX ops.toList []) m=true/\Closed ops D/\(∀j,j < ops.size->mW ops j=false->D j=decide (j<=m))/\∃r τ,rs[m]? = some r/\r.fin=some τ/\St P η σ wd η1 τ w1/\TR P η1 { t:=iM (iG rs) 0 D a.t,n:=a.n,gn:=a.gn } A1) ?_ ?_ ops.size (Array.replicate ops.size false) η _ A (by simp) (by simp) (.inl ⟨λi _ _=>by rw [hempty],by rw [hempty];exact start⟩)
    ·intro D η1 w1 A1 i K Q' hinv hil hi yx hK'
     obtain ⟨o,ho⟩:∃o,ops[i]? = some o:=⟨ops[i],by simp [hil]⟩
     obtain ⟨r,hr⟩:∃r,rs[i]? = some r:=⟨_,bT (by rw [h2];exact hil)⟩
     have fD:=yx o ho;rcases hinv with ⟨hD,hinv⟩ | ⟨m,hm2,U4,hcl,Ip,r1,τ1,hr1,hf1,hst1,La⟩
     ·by_cases hla:mY ops (jX ops.toList []) i=true
      ·
        obtain ⟨hnf,hord⟩:=hlast i hil hla;have UN:∀j,j < ops.size->mW ops j=false->D j=decide (j < i):=by
         intro j hj oP;by_cases h1:j < i
         ·have:D j=true:=C.oJ hinv.closed i o ho fD j ((hord j h1).resolve_left (by rw [oP];simp))
          rw [this];simp [h1]
         ·have:D j=false:=hD j hj ((hup i j (by omega) hj hla).resolve_right (by rw [oP];simp))
          rw [this];simp [h1]
        have ajK:∀j,j < i->mY ops (jX ops.toList []) j=false:=by
         intro j hj;cases e:mY ops (jX ops.toList []) j with
         | false=>rfl
         | true=>
           have h1:=hD j (by omega) e;rw [UN j (by omega) (hlast j (by omega) e).1] at h1;exact absurd hj (of_decide_eq_false h1)
        have akm:∀b,(ig ((fZ rs).take i) σ.h).get b=(iM (fZ rs) 0 D σ.h).get b:=by
         intro b;rw [Ij (fZ rs) i 0,AB];congr 1;refine IG _ _ _ _ _ λj u hj hne=>?_;have hjl:j < ops.size:=by have:=(dW.1 hj).1;simp [fZ] at this;omega
         simp only [jw] at hne;cases oP:mW ops j with
         | false=>exact absurd (UN j hjl oP).symm hne
         | true=>
           obtain ⟨r',hr',hu⟩:=MO hj;rw [ajS j r' hr' oP] at hu;subst hu;rfl
        have Ir:jd (σ.next+ops.size) rs i=c:=by
         have:=C.aeS (l:=i) (λk h1 h2=>hup i k h1 h2 hla) (ops.size - i) (by omega);rw [show i+(ops.size - i)=ops.size by omega] at this;rw [<- this];exact C.fin.symm
        have hts:∀σ1,uo (rs.take i) σ1=σ1:=λσ1=>X9 i (by omega) λj r' h1 h2=>hfin j r' h2 (ajK j h1);refine C.last hcall hinv.closed ho hr hi fD hla (η:=η) (w0:=wd) (η1:=η1) ?_ hinv.tr λη' A' w' τ hf hst htr=>hK' η' A' w' (.inr ⟨i,hil,hla,Ov hinv.closed yx, ?_,r,τ,hr,hf,hst,htr⟩)
        ·rw [hts]
         refine hinv.st.sub (λid' o' ho'=>?_) (GN Ir.symm) rfl;rw [show (ak.get { h:=iM (fZ rs) 0 D σ.h,next:=c,lock:=σ.lock } id')=(iM (fZ rs) 0 D σ.h).get id' from rfl,<- akm];exact ho'
        ·intro j hj oP
         unfold gJ;rw [UN j hj oP];by_cases e:j=i
         ·subst e;simp
         ·rw [wH e,zW];congr 1;apply propext;omega
      ·have hnl:mY ops (jX ops.toList []) i=false:=by simpa using hla
       refine C.step hcall h.drew hinv hil hi yx hnl λη' A' w' hinv'=>hK' η' A' w' (.inl ⟨λj hj hjl=>?_,hinv'⟩);have hji:j≠i:=λe=>by subst e;rw [hnl] at hjl;cases hjl
       unfold gJ;rw [hD j hj hjl,wH hji];rfl
     ·cases hif:mW ops i with
      | true=>
        have hof:Aw o=true:=by unfold mW at hif;rw [ho] at hif;exact hif
        refine C.free hcall hcl ho hr hi fD hof hst1 La λη' A' w' hst htr=>hK' η' A' w' (.inr ⟨m,hm2,U4,Ov hcl yx, ?_,r1,τ1,hr1,hf1,hst,htr⟩);intro j hj oP;have hji:j≠i:=λe=>by subst e;rw [hif] at oP;cases oP
        unfold gJ;rw [Ip j hj oP,wH hji,zW]
      | false=>
        have him:¬ i<=m:=by
         intro hle;rw [Ip i hil hif] at hi;exact of_decide_eq_false hi hle
        have hla:mY ops (jX ops.toList []) i=true:=(hup m i (by omega) hil U4).resolve_right (by rw [hif];simp);have hmid:∀j,m < j->j < i->mW ops j=true:=by
         intro j h1 h2;cases oP:mW ops j with
         | true=>rfl
         | false=>
           have h8:D j=true:=C.oJ hcl i o ho fD j (((hlast i hil hla).2 j h2).resolve_left (by rw [oP];simp));rw [Ip j (by omega) oP] at h8;have:=Bf h8;omega
        have hts:∀σ1,uo (rs.take i) σ1=τ1:=λσ1=>Ya hr1 hf1 i (by omega) (by omega) λj r' h1 h2 h3=>hfin j r' h3 (hfree j (hmid j h1 h2));refine C.last hcall hcl ho hr hi fD hla (η:=η) (w0:=wd) (η1:=η1) (by rw [hts];exact hst1) La λη' A' w' τ hf hst htr=>hK' η' A' w' (.inr ⟨i,hil,hla,Ov hcl yx, ?_,r,τ,hr,hf,hst,htr⟩);intro j hj oP;unfold gJ;rw [Ip j hj oP];by_cases e:j=i
        ·subst e;simp
        ·rw [wH e,zW]
         congr 1;apply propext;constructor
         ·omega
         ·intro h1
          apply Classical.byContradiction;intro h2;have:=hmid j (by omega) (by omega);rw [this] at oP;cases oP
    ·intro η1 A1 w1 hinv
     rcases hinv with ⟨hD,hinv⟩ | ⟨m,hm2,U4,hcl,Ip,r1,τ1,hr1,hf1,hst1,La⟩
     ·have aj2:∀i,i < ops.size->mY ops (jX ops.toList []) i=false:=by
       intro i hi;cases e:mY ops (jX ops.toList []) i with
       | false=>rfl
       | true=>have:=hD i hi e;simp at this;omega
      have hts:uo rs { h:=hh,next:=c,lock:=σ.lock } = { h:=hh,next:=c,lock:=σ.lock }:=by
       have:=X9 (rs:=rs) (σ:={ h:=hh,next:=c,lock:=σ.lock }) rs.length (dJ _) λj r' h1 h2=>hfin j r' h2 (aj2 j (by omega));rwa [yO] at this
      rw [hts] at hK;have akn:iM (fZ rs) 0 (λj=>decide (j < ops.size)) σ.h=hh:=by
       rw [h4];exact O7 _ _ _ _ (λj hj=>by simp [fZ] at hj ⊢;omega)
      have hst:=hinv.st;have htr:=hinv.tr;rw [akn] at hst;rw [PI] at htr;exact hK η1 A1 w1 ((St.drew h).trans hst) htr
     ·have hts:∀σ1,uo rs σ1=τ1:=by
       intro σ1;have:=Ya (σ:=σ1) hr1 hf1 rs.length (by omega) (dJ _) λj r' h1 h2 h3=>by
        refine hfin j r' h3 (hfree j ?_);cases oP:mW ops j with
        | true=>rfl
        | false=>
          have h9:decide (j < ops.size)=decide (j<=m):=Ip j (by omega) oP;have h10:decide (j < ops.size)=true:=by simp;omega
          rw [h10] at h9;have:=Bf h9.symm;omega
       rwa [yO] at this
      rw [hts] at hK;rw [PI] at La;exact hK η1 A1 w1 ((St.drew h).trans hst1) La
   ·cases hs
  ·cases hs
 ·cases hs
section
variable {call:Caller} {ops:Array Oper} {M:List Nat} {N0 gn n:Nat}
theorem ak5 {o:Oper} (hf:VK o=true) {ev:Operand->Option AV} {σ1 σ2 τ:ak} {v:Option AV} (hs:mQ P call o ev σ1=some (v,τ)):mQ P call o ev σ2=some (v,σ2):=by
 obtain ⟨dst,op,type,pos,after,guard⟩:=o;cases op with
 | move x=>
   simp only [tK,qw,dF,bf,kE] at hs ⊢;obtain ⟨u,h1,h2,_⟩:=hs;exact ⟨u,h1,h2,trivial⟩
 | assign x=>
   simp only [tK,qw,dF,bf,kE] at hs ⊢;obtain ⟨u,h1,h2,_⟩:=hs;exact ⟨u,h1,h2,trivial⟩
 | nilCheck x=>
   rw [show mQ P call _ ev σ1=OY P call ev σ1 x from rfl] at hs;rw [show mQ P call _ ev σ2=OY P call ev σ2 x from rfl];unfold OY at hs ⊢;split at hs<;>simp only [dF,gI,aU,kE,reduceCtorEq] at hs ⊢<;>exact ⟨hs.1,trivial⟩
 | fieldAddr ty x f=>
   rw [show mQ P call _ ev σ1=OW P call ev σ1 ty x f from rfl] at hs;rw [show mQ P call _ ev σ2=OW P call ev σ2 ty x f from rfl];unfold OW at hs ⊢;split at hs
   ·simp only [dF,bf,kE] at hs ⊢
    obtain ⟨u,h1,h2,_⟩:=hs;exact ⟨u,h1,h2,trivial⟩
   ·cases hs
 | _=>simp [VK] at hf
theorem ak7 {i:Nat} {t:Tr AV} {r:bV} {e:Option (List UInt8×AV)} (h:Qc P call ops M N0 gn n i t=some (r,e)):∃o v,ops[i]? = some o/\o.guard=none/\r=Lp (N0+1) (mP o v)/\
 ((i=0/\e=none/\v=some (.mp N0)/\∃ty,o.op=.makeMap ty none)\/
  (i≠0/\v=none/\∃ty m k x s u,o.op=.insert ty m k x/\aX.eval { t:=iC t (o.looksAt ops),n:=n,gn:=gn } m=some (.mp N0)/\aX.eval { t:=iC t (o.looksAt ops),n:=n,gn:=gn } k=some (.s s)/\aX.eval { t:=iC t (o.looksAt ops),n:=n,gn:=gn } x=some u/\Qa P ty=true/\qH M 0 i=true/\e=some (s,u))\/
  (i≠0/\e=none/\∀σ2,mQ P call o (aX.eval { t:=iC t (o.looksAt ops),n:=n,gn:=gn }) σ2=some (v,σ2))):=by
 unfold Qc at h;split at h
 ·cases h
 ·next o ho=>
  split at h
  ·cases h
  ·next hg=>
   split at h
   ·next hi=>
    have hi:=bG hi;split at h
    ·next ty hop=>
     cases h;exact ⟨o,_,ho,hg,rfl,.inl ⟨hi,rfl,rfl,ty,hop⟩⟩
    ·cases h
   ·next hi=>
    have hi:i≠0:=λe=>by subst e;exact hi rfl
    split at h
    ·next ty m k x hop=>
     split at h
     ·next id s u e1 e2 e3=>
      split at h
      ·next hc=>
       cases h;simp only [aJ] at hc;have:=bG hc.1.1;subst this;exact ⟨o,_,ho,hg,rfl,.inr (.inl ⟨hi,rfl,ty,m,k,x,s,u,hop,e1,e2,e3,hc.1.2,hc.2,rfl⟩)⟩
      ·cases h
     ·cases h
    ·split at h
     ·next hf=>
      split at h
      ·next v τ hv=>
       cases h;exact ⟨o,v,ho,hg,rfl,.inr (.inr ⟨hi,rfl,λσ2=>ak5 hf hv⟩)⟩
      ·cases h
     ·cases h
theorem acE:∀ (m i:Nat) (t:Tr AV) (l:List (bV×Option (List UInt8×AV))) (t':Tr AV),P8 P call ops M N0 gn n m i t=some (l,t')->
 l.length=m/\t'=ig (iG (l.map (·.1))) t/\∀ (k:Nat) r,l[k]? = some r->Qc P call ops M N0 gn n (i+k) (ig ((iG (l.map (·.1))).take k) t)=some r
 | 0,i,t,l,t',h=>by
   cases h;exact ⟨rfl,rfl,λk r hr=>by simp at hr⟩
 | m+1,i,t,l,t',h=>by
   unfold P8 at h;split at h
   ·cases h
   ·next r hr=>
    split at h
    ·cases h
    ·next l2 t2 hl=>
     cases h;obtain ⟨h1,h2,h3⟩:=acE m _ _ _ _ hl;refine ⟨by simp [h1],by rw [h2];rfl,λk r' hk=>?_⟩;cases k with
     | zero=>simp only [iR,aU] at hk;subst hk;exact hr
     | succ k=>
       simp only [qN] at hk;have:=h3 k r' hk;rw [show i+1+k=i+(k+1) by omega] at this;exact this
theorem Uj:∀ (es:List (Option (List UInt8×AV))) (k:Nat) (D:Nat->Bool),(∀ (j:Nat) e,es[j]? = some (some e)->D (k+j)=false)->jy es k D=[]
 | [],_,_,_=>rfl
 | none::l,k,D,h=>by
   rw [jy];exact Uj l (k+1) D λj e hj=>by have:=h (j+1) e (by simpa using hj);rwa [show k+(j+1)=k+1+j by omega] at this
 | some x::l,k,D,h=>by
   have h0:=h 0 x (by simp);simp only [mJ] at h0;rw [jy,h0];exact Uj l (k+1) D λj e hj=>by have:=h (j+1) e (by simpa using hj);rwa [show k+(j+1)=k+1+j by omega] at this
theorem Ui:∀ (es:List (Option (List UInt8×AV))) (k:Nat) (D:Nat->Bool),(∀j,j < es.length->D (k+j)=true)->jy es k D=es.filterMap id
 | [],_,_,_=>rfl
 | none::l,k,D,h=>by
   rw [jy,Ui l (k+1) D λj hj=>by have:=h (j+1) (by simpa using hj);rwa [show k+(j+1)=k+1+j by omega] at this];rfl
 | some x::l,k,D,h=>by
   have h0:=h 0 (by simp);simp only [mJ] at h0;rw [jy,h0,Ui l (k+1) D λj hj=>by have:=h (j+1) (by simpa using hj);rwa [show k+(j+1)=k+1+j by omega] at this];rfl
theorem OL:∀ (es:List (Option (List UInt8×AV))) (k:Nat) (D E:Nat->Bool),(∀ (j:Nat) e,es[j]? = some (some e)->D (k+j)=E (k+j))->jy es k D=jy es k E
 | [],_,_,_,_=>rfl
 | none::l,k,D,E,h=>by
   rw [jy,jy];exact OL l (k+1) D E λj e hj=>by have:=h (j+1) e (by simpa using hj);rwa [show k+(j+1)=k+1+j by omega] at this
 | some x::l,k,D,E,h=>by
   have h0:=h 0 x (by simp);simp only [mJ] at h0;rw [jy,jy,h0,OL l (k+1) D E λj e hj=>by have:=h (j+1) e (by simpa using hj);rwa [show k+(j+1)=k+1+j by omega] at this]
theorem Uh:∀ (es:List (Option (List UInt8×AV))) (k i:Nat) (D:Nat->Bool) (e:List UInt8×AV),es[i]? = some (some e)->D (k+i)=false->(jy es k (gJ D (k+i))).Perm (e::jy es k D)
 | [],_,i,_,_,h,_=>by simp at h
 | x::l,k,0,D,e,h,hD=>by
   simp only [iR,aU] at h;subst h;simp only [mJ] at hD ⊢;have h1:gJ D k k=true:=by unfold gJ;simp
   rw [jy,jy,h1,hD,OL l (k+1) (gJ D k) D λj e' _=>by unfold gJ;rw [wH (by omega),zW]];exact YH _
 | none::l,k,i+1,D,e,h,hD=>by
   rw [jy,jy,show k+(i+1)=k+1+i by omega] at *;exact Uh l (k+1) i D e (by simpa using h) hD
 | some x::l,k,i+1,D,e,h,hD=>by
   have h1:gJ D (k+(i+1)) k=D k:=by unfold gJ;rw [wH (by omega),zW]
   rw [jy,jy,h1];have ih:=Uh l (k+1) i D e (by simpa using h) (by rwa [show k+1+i=k+(i+1) by omega]);rw [show k+1+i=k+(i+1) by omega] at ih;cases D k with
   | true=>exact (ih.cons x).trans (List.Perm.swap e x _)
   | false=>exact ih
theorem OM:∀ (es:List (Option (List UInt8×AV))) (k:Nat) (D:Nat->Bool),∀e∈jy es k D,∃j,es[j]? = some (some e)/\D (k+j)=true
 | [],_,_,e,h=>by simp [jy] at h
 | none::l,k,D,e,h=>by
   rw [jy] at h;obtain ⟨j,h1,h2⟩:=OM l (k+1) D e h;exact ⟨j+1,by simpa using h1,by rwa [show k+(j+1)=k+1+j by omega]⟩
 | some x::l,k,D,e,h=>by
   rw [jy] at h;split at h
   ·next hk=>
    rcases cO.1 h with rfl | h
    ·exact ⟨0,by simp,by simpa using hk⟩
    ·obtain ⟨j,h1,h2⟩:=OM l (k+1) D e h
     exact ⟨j+1,by simpa using h1,by rwa [show k+(j+1)=k+1+j by omega]⟩
   ·obtain ⟨j,h1,h2⟩:=OM l (k+1) D e h
    exact ⟨j+1,by simpa using h1,by rwa [show k+(j+1)=k+1+j by omega]⟩
theorem ads:∀ {l:List (List UInt8)},Qs l=true->l.Nodup
 | [],_=>List.nodup_nil
 | s::l,h=>by
   simp only [Qs,aJ,wQ] at h;refine YV.2 ⟨λhm=>?_,ads h.2⟩;have:(l.any λx=>x==s)=true:=List.any_eq_true.2 ⟨s,hm,by simp⟩;rw [h.1] at this;cases this
theorem V9:∀ {es:List (Option (List UInt8×AV))},((es.filterMap id).map (·.1)).Nodup->∀ (i j:Nat) e f,es[i]? = some (some e)->es[j]? = some (some f)->i≠j->e.1≠f.1
 | [],_,i,j,e,f,h,_,_=>by simp at h
 | none::l,hn,i,j,e,f,h1,h2,hne=>by
   cases i with
   | zero=>simp at h1
   | succ i=>
     cases j with
     | zero=>simp at h2
     | succ j=>exact V9 (es:=l) (by simpa using hn) i j e f (by simpa using h1) (by simpa using h2) (by omega)
 | some x::l,hn,i,j,e,f,h1,h2,hne=>by
   simp only [List.filterMap_cons_some (f:=id) (a:=some x) (b:=x) rfl,iY,YV,nD,not_exists,not_and] at hn;have mem:∀ (k:Nat) g,l[k]? = some (some g)->g∈l.filterMap id:=λk g hk=>List.mem_filterMap.2 ⟨some g,rQ hk,rfl⟩;cases i with
   | zero=>
     simp only [iR,aU] at h1;subst h1;cases j with
     | zero=>exact absurd rfl hne
     | succ j=>exact λe'=>hn.1 f (mem j f (by simpa using h2)) e'.symm
   | succ i=>
     cases j with
     | zero=>
       simp only [iR,aU] at h2;subst h2;exact λe'=>hn.1 e (mem i e (by simpa using h1)) e'
     | succ j=>exact V9 hn.2 i j e f (by simpa using h1) (by simpa using h2) (by omega)
theorem abq {s:List UInt8}:∀ (es:List (AV×AV)) (i:Nat),(∀e∈es,∃t,e.1=.s t/\t≠s)->zk (.s s) es i=some none
 | [],_,_=>rfl
 | e::es,i,h=>by
   obtain ⟨t,h1,h2⟩:=h e (by simp);have hk:Le (.s s) e.1=some false:=by
    rw [h1];simp only [Le,aU,beq_eq_false_iff_ne,ne_eq];exact λe'=>h2 e'.symm
   unfold zk;rw [hk];exact abq es (i+1) λe he=>h e (by simp [he])
theorem St.weak {η η1:Env} {σ τ:ak} {w w1:World} (h:St P η σ w η1 τ w1) {id:Nat} {o o':bn} (hg:τ.get id=some o) (ho:o'.own=o.own) (hl:Live P η1 w1 id o'):St P η σ w η1 (τ.put id o') w1:=
 { h with
   rel:=h.rel.swap hg ho hl
   own:=λid2 o2 q a b c d=>by
    rw [ak.get_put] at a;split at a
    ·next e=>cases a;subst e;exact h.own id2 o q hg (by rw [<- ho];exact b) c d
    ·exact h.own id2 o2 q a b c d }
theorem anl {η:Env} {q:Place} {w:World} {es:List (List UInt8×AV)} {es':List (AV×AV)} (hn:(es.map (·.1)).Nodup) (hp:es'.Perm (es.map λe=>(AV.s e.1,e.2))) (h:OR P η q w (.map es')):OR P η q w (.pmap es):=by
 obtain ⟨ms,clock,h1,h2,h3⟩:=h;refine ⟨hn,ms,clock, ?_⟩;have key:∀ (l l':List (AV×AV)),l.Perm l'->∀ms:List MapEntry,wX η l ms->∃ms',ms.Perm ms'/\wX η l' ms':=by
  intro l l' hp;induction hp with
  | nil=>exact λms h=>⟨ms,YH _,h⟩
  | cons x hp ih=>
    intro ms h;obtain ⟨m,rest,rfl,a,b,c⟩:=h.tail;obtain ⟨ms',h1,h2⟩:=ih rest c;refine ⟨m::ms',h1.cons m,by simp [h2.1],λk e hk=>?_⟩;cases k with
    | zero=>simp only [iR,aU] at hk;subst hk;exact ⟨m,by simp,a,b⟩
    | succ k=>simpa using h2.2 k e (by simpa using hk)
  | swap x y l=>
    intro ms h;obtain ⟨m,rest,rfl,a,b,c⟩:=h.tail;obtain ⟨m2,aon,rfl,a2,b2,c2⟩:=c.tail;refine ⟨m2::m::aon,List.Perm.swap _ _ _,by simp [c2.1],λk e hk=>?_⟩;match k with
    | 0=>simp only [iR,aU] at hk;subst hk;exact ⟨m2,by simp,a2,b2⟩
    | 1=>simp only [qN,iR,aU] at hk;subst hk;exact ⟨m,by simp,a,b⟩
    | k+2=>simpa using c2.2 k e (by simpa using hk)
  | trans _ _ ih1 ih2=>
    intro ms h;obtain ⟨ms1,a,b⟩:=ih1 ms h;obtain ⟨ms2,c,d⟩:=ih2 ms1 b;exact ⟨ms2,a.trans c,d⟩
 obtain ⟨ms',a,b⟩:=key _ _ hp ms.toList ⟨by simpa using h2,λk e hk=>by obtain ⟨m,hm,x,y⟩:=h3 k e hk;exact ⟨m,by simpa using hm,x,y⟩⟩;refine ⟨ms',h1,a,by simpa using b.1,λk e hk=>?_⟩;obtain ⟨m,hm,x,y⟩:=b.2 k (AV.s e.1,e.2) (by rw [iL,hk];rfl);exact ⟨m,hm,by simpa only [VR] using x,y⟩
theorem ak6 {t:TypeId} (h:Qa P t=true):∃kt et,P.underlying t=some (.map kt et)/\P.underlying kt=some .string:=by
 unfold Qa at h;split at h
 ·next kt et hu=>
  split at h
  ·next hk=>exact ⟨kt,et,hu,hk⟩
  ·cases h
 ·cases h
end
theorem ak9 (hm:P.follows .mixedOrders=true):Jz P (VJ P):=by
 intro call hcall ops a σ a' σ' hs η w A rid Q h ht hK;unfold VJ at hs;split at hs;rotate_left
 ·cases hs
 next hlit=>
 simp only at hs;split at hs;rotate_left
 ·cases hs
 next hok=>
 simp only [aJ] at hok;split at hs;rotate_left
 ·cases hs
 next l t hgo=>
 split at hs;rotate_left
 ·cases hs
 next vk=>
 simp only [aJ] at vk;obtain ⟨⟨Iw,hsl⟩,aj0⟩:=vk;have hnd:=ads aj0;obtain ⟨hlen,ht',hone⟩:=acE _ _ _ _ _ hgo;have ab4:=qR hok.2;have hes:l.filterMap (·.2)=(l.map (·.2)).filterMap id:=by rw [List.filterMap_map];rfl
 rw [hes] at hs hnd;have ent:∀ (j:Nat) e,(l.map (·.2))[j]? = some (some e)->∃r,l[j]? = some (r,some e):=λj e hj=>by
  rw [iL] at hj;obtain ⟨x,h1,h2⟩:=bf.1 hj;exact ⟨x.1,by rw [h1,<- h2]⟩
 have aec:∀ (i:Nat) r,(l.map (·.1))[i]? = some r->∃e,l[i]? = some (r,e):=λi r hr=>by
  rw [iL] at hr;obtain ⟨x,h1,h2⟩:=bf.1 hr;exact ⟨x.2,by rw [h1,<- h2]⟩
 have spec:∀ (i:Nat) r e,l[i]? = some (r,e)->_:=λi r e hr=>ak7 (hone i (r,e) hr);simp only [jw] at spec
 have C:pJ ops (jX ops.toList []) (l.map (·.1)) a.n (σ.next+1):={
  hM:=rfl
  VY:=hok.1
  len:=by simpa using hlen
  pairs:=by
   refine adI Iw ?_ λi r hr=>?_
   ·unfold OE
    rw [List.all_eq_true];intro p hp;obtain ⟨s,j⟩:=p;rw [YU] at hp;obtain ⟨e,he⟩:=aec j s (by simpa using hp);obtain ⟨o,v,_,_,h3,_⟩:=spec j s e he;subst h3;simp [Lp]
   ·obtain ⟨e,he⟩:=aec i r hr
    obtain ⟨o,v,h1,_,h3,_⟩:=spec i r e he;subst h3;exact ⟨o,v,h1,rfl⟩
  slot:=by
   intro i r hr;unfold QW at hsl;rw [List.all_eq_true] at hsl;have:=hsl r (rQ hr);simp only [aJ] at this;refine ⟨Nat.le_of_ble_eq_true this.1,λp hpm=>?_⟩;have h8:=this.2;rw [List.all_eq_true] at h8;have:=h8 p hpm;rwa [jh] at this }
 refine wp_region_any hm ?_;have hempty:inB (Array.replicate ops.size false)=λ_=>false:=by
  funext j;unfold inB;rw [wP,afx];split<;>rfl
 have hno:∀ {α:Type} (us:List (List (Nat×Option α))) (k:Nat) (t:Tr α),iM us k (λ_=>false) t=t:=by
  intro α us;induction us with
  | nil=>intro k t;rfl
  | cons u us ih=>intro k t;rw [iM];simp only [gZ,if_false];exact ih _ _
 have PI:iM (iG (l.map (·.1))) 0 (λj=>decide (j < ops.size)) a.t=t:=by
  rw [ht'];exact O7 _ _ _ _ (λj hj=>by simp [iG] at hj ⊢;omega)
 cases hs;let wd:World:={ w with drawn:=w.drawn+1 }
 have UH:∀o,(σ.new o).get σ.next=some o:=λo=>by rw [ak.pX];simp
 have ad5:∀o o' id x,(σ.new o').get id=some x->((σ.new o).put σ.next o').get id=some x:=λo o' id x hx=>by
  rw [ak.get_put];rw [ak.pX] at hx ⊢;by_cases e:id=σ.next
  ·rw [aj e] at hx ⊢;exact hx
  ·rw [ah e] at hx ⊢;rw [ah e];exact hx
 have hpos:0 < ops.size/\∃ty o,ops[0]? = some o/\o.op=.makeMap ty none:=by
  unfold isLit at hlit;split at hlit
  ·next o ho=>
   split at hlit
   ·next ty hop=>exact ⟨(pG.1 ho).1,ty,o,ho,hop⟩
   ·cases hlit
  ·cases hlit
 refine Zk C (λD η1 w1 A1=>Closed ops D/\TR P η1 { t:=iM (iG (l.map (·.1))) 0 D a.t,n:=a.n,gn:=a.gn } A1/\(D 0=false->St P η σ wd η1 σ w1)/\
  (D 0=true->∃es',es'.Perm ((jy (l.map (·.2)) 0 D).map λe=>(AV.s e.1,e.2))/\St P η σ wd η1 (σ.new (.map es')) w1)) ?_ ?_ ops.size (Array.replicate ops.size false) η _ A (by simp) (by simp) ?_
 ·intro D η1 w1 A1 i K Q' hinv hil hi yx hK'
  obtain ⟨hcl,htr,Iw,hst1⟩:=hinv;obtain ⟨o,ho⟩:∃o,ops[i]? = some o:=⟨ops[i],by simp [hil]⟩
  obtain ⟨⟨r,e⟩,hl⟩:∃x,l[i]? = some x:=⟨_,bT (by rw [hlen];exact hil)⟩
  have hr:(l.map (·.1))[i]? = some r:=by rw [iL,hl];rfl
  have fD:=yx o ho;obtain ⟨o',v,ho',hg,hrec,hcase⟩:=spec i r e hl;rw [ho] at ho';cases ho';have hact:TR P η1 { t:=iC (ig ((iG (l.map (·.1))).take i) a.t) (o.looksAt ops),n:=a.n,gn:=a.gn } A1:=by
   refine ⟨htr.gn,htr.size,htr.none,λd v hv=>?_⟩;rw [yu] at hv;split at hv
   ·next hd=>
    rw [C.XK (a0:=a) hcl ho hr hi fD hd] at hv;exact htr.slot d v hv
   ·cases hv
  have hnext:=λd=>C.KI (a0:=a) hcl ho hr hi fD d;have ab8:=(C.slot i r hr).2;have Ir:=Ov hcl yx;rw [hrec] at hnext ab8;have hw:BN o ops { t:=iC (ig ((iG (l.map (·.1))).take i) a.t) (o.looksAt ops),n:=a.n,gn:=a.gn }=some true:=by
   unfold BN;rw [hg]
  have step:∀ {τ τ':ak},SR P η1 τ w1->qw P call o (aX.eval { t:=iC (ig ((iG (l.map (·.1))).take i) a.t) (o.looksAt ops),n:=a.n,gn:=a.gn }) τ=some (v,τ')->
   (∀η' A' w',St P η1 τ w1 η' τ' w'->TR P η' { t:=iM (iG (l.map (·.1))) 0 (gJ D i) a.t,n:=a.n,gn:=a.gn } A'->K A' w')->wpOp P ops Q' i K A1 w1:=by
   intro τ τ' hsr hop hk;unfold wpOp;rw [ho];simp only;rw [BO hact hw];simp only [if_true];left;exact NU hsr hcall hact hop λx η' w' hst2 hx=>hk η' _ w' hst2 (htr.add hst2.ext hnext ab8 hx)
  have other:e=none->i≠0->jy (l.map (·.2)) 0 (gJ D i)=jy (l.map (·.2)) 0 D:=by
   intro he _;refine OL _ _ _ _ λj f hj=>?_;simp only [jw];have:j≠i:=by
    rintro rfl
    obtain ⟨r2,h2⟩:=ent j f hj;rw [hl,he] at h2;cases h2
   unfold gJ;rw [wH this,zW]
  rcases hcase with ⟨hi0,he,hv,ty,hop⟩ | ⟨hi0,hv,ty,m,k,x,s,u,hop,e1,e2,e3,hlk,hord,he⟩ | ⟨hi0,he,hfr⟩
  ·
    subst hi0;have hst:=Iw hi;have aj3:∀ (j:Nat) f,(l.map (·.2))[j]? = some (some f)->D j=false:=by
     intro j f hj;obtain ⟨r2,h2⟩:=ent j f hj;obtain ⟨o2,v2,ho2,_,_,hc2⟩:=spec j r2 _ h2;rcases hc2 with ⟨_,hx,_⟩ | ⟨_,_,_,_,_,_,_,_,_,_,_,_,_,aj8,_⟩ | ⟨_,hx,_⟩
     ·cases hx
     ·cases yw:D j with
      | false=>rfl
      | true=>
        have:=C.oJ hcl j o2 ho2 (λe' he' hb=>hcl j o2 yw ho2 e' he' hb) 0 aj8;rw [hi] at this;cases this
     ·cases hx
    refine step hst.rel (τ':=σ.new (.map [])) ?_ λη' A' w' hst2 Fh=>hK' η' A' w' ⟨Ir,Fh,λh0=>?_,λ_=>⟨[], ?_,hst.trans hst2⟩⟩
    ·have h14:∀ev,mQ P call o ev σ=abk P call ev σ ty none:=λev=>by unfold mQ;rw [hop];rfl
     rw [hv,<- tK,h14];rfl
    ·exfalso
     unfold gJ at h0;simp at h0
    ·have hz:jy (l.map (·.2)) 0 (gJ D 0)=[]:=by
      refine Uj _ _ _ λj f hj=>?_;simp only [jw];have h1:=aj3 j f hj;have:j≠0:=by
       rintro rfl
       obtain ⟨r2,h2⟩:=ent 0 f hj;rw [hl,he] at h2;cases h2
      unfold gJ;rw [wH this,h1];rfl
     rw [hz];exact YH _
  ·
    have hD0:D 0=true:=C.oJ hcl i o ho fD 0 hord;obtain ⟨es',hperm,hst⟩:=hst1 hD0;obtain ⟨kt,et,hu1,hu2⟩:=ak6 hlk;have hel:(l.map (·.2))[i]? = some (some (s,u)):=by rw [iL,hl,he];rfl
    have hfind:zk (.s s) es' 0=some none:=by
     refine abq es' 0 λf hf=>?_;have hf2:=hperm.mem_iff.1 hf;obtain ⟨g,hg1,hg2⟩:=nD.1 hf2;obtain ⟨j,hj1,hj2⟩:=OM _ _ _ g hg1;simp only [jw] at hj2;refine ⟨g.1,by rw [<- hg2], ?_⟩;exact V9 hnd j i g (s,u) hj1 hel (by rintro rfl;rw [hi] at hj2;cases hj2)
    refine step hst.rel (τ':=(σ.new (.map es')).put σ.next (.map (es'++[(.s s,u)]))) ?_ λη' A' w' hst2 Fh=>hK' η' A' w' ⟨Ir,Fh,λh0=>?_,λ_=>⟨es'++[(.s s,u)], ?_, ?_⟩⟩
    ·have hfit:Ic P kt (.s s)=true:=by unfold Ic;rw [hu2]
     have hup:G7 P ty (.mp σ.next) (.s s) u (σ.new (.map es'))=some ((σ.new (.map es')).put σ.next (.map (es'++[(.s s,u)]))):=by
      unfold G7;rw [hu1];simp only [UH];rw [aj ⟨ab4,hfit⟩,hfind]
     have h22:∀ev,mQ P call o ev (σ.new (.map es'))=OX P call ev (σ.new (.map es')) ty m k x:=λev=>by unfold mQ;rw [hop];rfl
     rw [hv,<- tK,h22];unfold OX;rw [e1,e2,e3];simp only [hup,jC,F6,gI]
    ·exfalso
     unfold gJ at h0;rw [hD0] at h0;simp at h0
    ·have hp2:=Uh (l.map (·.2)) 0 i D (s,u) hel (by simpa using hi)
     simp only [jw] at hp2;refine List.Perm.trans ?_ (hp2.map λe=>(AV.s e.1,e.2)).symm;rw [iY];exact (List.perm_append_singleton _ _).trans (hperm.cons _)
    ·refine (hst.trans hst2).sub (λid' x' hx'=>ad5 _ _ _ _ hx') ?_ rfl
     exact dJ _
  ·
    cases hD0:D 0 with
    | false=>
      have hst:=Iw hD0;refine step hst.rel (τ':=σ) (by rw [<- tK];exact hfr σ) λη' A' w' hst2 Fh=>hK' η' A' w' ⟨Ir,Fh,λ_=>hst.trans hst2,λh0=>?_⟩;exfalso;unfold gJ at h0;rw [hD0,wH (λe'=>hi0 e'.symm)] at h0;cases h0
    | true=>
      obtain ⟨es',hperm,hst⟩:=hst1 hD0;refine step hst.rel (τ':=σ.new (.map es')) (by rw [<- tK];exact hfr _) λη' A' w' hst2 Fh=>hK' η' A' w' ⟨Ir,Fh,λh0=>?_,λ_=>⟨es',by rw [other he hi0];exact hperm,hst.trans hst2⟩⟩;exfalso;unfold gJ at h0;rw [hD0] at h0;simp at h0
 ·intro η1 A1 w1 hinv
  obtain ⟨hcl,htr,_,hst1⟩:=hinv;obtain ⟨es',hperm,hst⟩:=hst1 (by simpa using hpos.1);rw [Ui _ _ _ (λj hj=>by simp at hj ⊢;omega)] at hperm;rw [PI] at htr;refine hK η1 A1 w1 ((St.drew h).trans ?_) htr;obtain ⟨q,hq,hor⟩:=hst.rel.obj σ.next _ (UH _) rfl;have:=hst.weak (o':=.pmap ((l.map (·.2)).filterMap id)) (UH _) rfl (.inl ⟨q,hq,anl hnd hperm hor⟩);exact this.sub (λid' x' hx'=>ad5 _ _ _ _ hx') (dJ _) rfl
 ·rw [hempty]
  refine ⟨λi o hi=>by simp at hi, ?_,λ_=>St.refl h.drew,λh0=>by simp at h0⟩;rw [hno];exact ⟨ht.gn,ht.size,ht.none,ht.slot⟩
theorem aaC (hm:P.follows .mixedOrders=true):Jz P (NI P):=by
 intro call hcall ops a σ a' σ' hs;unfold NI at hs;split at hs
 ·next r hr=>cases hs;exact ak9 hm call hcall ops a σ a' σ' hr
 ·exact ahV hm call hcall ops a σ a' σ' hs
end
end Go.aO
