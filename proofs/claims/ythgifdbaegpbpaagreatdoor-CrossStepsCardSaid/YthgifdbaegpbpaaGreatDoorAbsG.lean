/- Regions whose order Go leaves open: one operation keeps the invariant. -/
import Derived.Test.YthgifdbaegpbpaaGreatDoorAbsF
namespace Go.aN
set_option linter.unusedSimpArgs false
noncomputable section
variable [aG]
set_option linter.unusedSectionVars false
set_option linter.unusedVariables false
variable {P:Program}
structure zD (P:Program) (ops:Array Oper) (rs:List bQ) (a0:aV) (σ0:ak) (cf:Nat) (η0:Env) (w0:World) (D:Nat->Bool) (η:Env) (w:World) (A:Act):Prop where
 closed:Closed ops D
 st:St P η0 σ0 w0 η { h:=iG (fJ rs) 0 D σ0.h,next:=cf,lock:=σ0.lock } w
 tr:TR P η { t:=iG (iy rs) 0 D a0.t,n:=a0.n,gn:=a0.gn } A
 dm:∀id,η.has id->id < σ0.next\/(∃k,k < ops.size/\D k=true/\id=σ0.next+k)\/(∃ (j:Nat) (r:bQ),rs[j]? = some r/\D j=true/\r.base<=id/\id < r.next)
theorem TR.add {η η':Env} {T T':Tr AV} {n gn:Nat} {A:Act} {o:Oper} {v:Option AV} {x:Value} (h:TR P η { t:=T,n:=n,gn:=gn } A) (hle:η.le η') (hg:∀d,T'.get d=(eF (l7 o v) d).getD (T.get d))
 (hb:∀p∈l7 o v,p.1 < n) (hv:∀u,v=some u->VR η' u x):TR P η' { t:=T',n:=n,gn:=gn } (A.put o.dst x):=by
 have h':=h.mono hle;unfold l7 at hg hb;cases hd:o.dst with
 | none=>
   rw [hd] at hg;refine ⟨h.gn,h.size,h.none,λd u hu=>?_⟩;rw [hg] at hu;exact h'.slot d u hu
 | some d0=>
   rw [hd] at hg hb;have hd0:=hb (d0,v) (by simp);refine ⟨h.gn,by have:=h.size;simpa [Act.put] using this,h.none,λd u hu=>?_⟩;rw [hg] at hu;simp only [eF] at hu;show ∃y,(A.tmps.setIfInBounds d0 x)[d]? = some y/\_
   rw [zB];by_cases e:d=d0
   ·subst e
    rw [aj rfl,aj (by have:=h.size;simp only at this hd0;omega)];rw [aj rfl] at hu;exact ⟨x,rfl,hv u hu⟩
   ·rw [ah (λe'=>e e'.symm)]
    rw [ah e] at hu;exact h'.slot d u hu
section
variable {call:Caller} {ops:Array Oper} {M:List Nat} {rs:List bQ} {a0:aV} {σ0:ak} {cf:Nat} {η0 η:Env} {w0 w:World} {D:Nat->Bool} {A:Act} {i nn N0:Nat} {o:Oper} {r:bQ}
def fV (D:Nat->Bool) (i:Nat):Nat->Bool:=λj=>D j || Nat.beq j i
theorem aqU {rs:List bQ} {i:Nat} {r:bQ} (h:rs[i]? = some r):(fJ rs)[i]? = some r.upd:=by simp [fJ,h]
theorem aoS {rs:List bQ} {i:Nat} {r:bQ} (h:rs[i]? = some r):(iy rs)[i]? = some r.slot:=by simp [iy,h]
theorem LM {rs:List bQ} {i:Nat} {u:List (Nat×Option bf)} (h:(fJ rs)[i]? = some u):∃r,rs[i]? = some r/\r.upd=u:=by simpa [fJ] using h
theorem adG {rs:List bQ} {i:Nat} {u:List (Nat×Option AV)} (h:(iy rs)[i]? = some u):∃r,rs[i]? = some r/\r.slot=u:=by simpa [iy] using h
theorem Iq {N0 i j:Nat} {r s:bQ} {o:Oper} (ho:ops[i]? = some o) (h:KU ops N0 i j r s=true):oD (keysOf r.slot) (keysOf s.slot)=true/\oD (o.looksAt ops) (keysOf s.slot)=true/\oD (keysOf r.upd) (keysOf s.upd)=true/\
 (∀l,r.vis=some l->oD l (keysOf s.upd)=true)/\(r.vis=none->i < j->(∀k∈keysOf s.upd,N0<=k)/\oD r.loc (keysOf s.upd)=true/\s.base=s.next)/\(r.vis=none->i≠j->j < i\/i < j):=by
 unfold KU at h;rw [ho] at h;simp only [aI] at h;obtain ⟨⟨⟨h1,h2⟩,h3⟩,h4⟩:=h;refine ⟨h1,h2,h3, ?_, ?_,λ_ hne=>by omega⟩
 ·intro l hl;rw [hl] at h4;exact h4
 ·intro hn hij
  rw [hn] at h4;simp only [mP,aI] at h4;rcases h4 with h4 | ⟨⟨h5,h6⟩,h7⟩
  ·rw [iW] at h4;omega
  ·refine ⟨λk hk=>?_,h6,bC h7⟩
   rw [List.all_eq_true] at h5;exact qM (h5 k hk)
theorem oU.aaZ (C:oU ops M rs nn N0) (hD:Closed ops D) (ho:ops[i]? = some o) (hr:rs[i]? = some r) (hi:D i=false) (fB:∀e∈o.after.toList,Region.binds .any e=true->D e.on=true) (b:Nat) :
 (iG (fJ rs) 0 (fV D i) σ0.h).get b=(eF r.upd b).getD ((iG (fJ rs) 0 D σ0.h).get b):=by
 rw [Aa,Aa];have:=U4 (fJ rs) 0 i D b r.upd (aqU hr) (by simpa using hi) (λj v hj hij xP hne=>by
  obtain ⟨s,hs,rfl⟩:=LM hj;have hjl:j < ops.size:=by have:=(dS.1 hs).1;rw [C.len] at this;exact this
  have hun:=C.open_ hD ho hi fB hjl (by simp at xP;rw [xP];simp;omega);have hp:=Iq ho (C.pairs i j r s hr hs hun);exact KI (JV hp.2.2.1 ((wU _ _).1 hne)))
 simp only [jk] at this;unfold fV;rw [this];cases eF r.upd b<;>rfl
theorem oU.J5 (C:oU ops M rs nn N0) (hD:Closed ops D) (ho:ops[i]? = some o) (hr:rs[i]? = some r) (hi:D i=false) (fB:∀e∈o.after.toList,Region.binds .any e=true->D e.on=true) (b:Nat) :
 (iG (iy rs) 0 (fV D i) a0.t).get b=(eF r.slot b).getD ((iG (iy rs) 0 D a0.t).get b):=by
 rw [Aa,Aa];have:=U4 (iy rs) 0 i D b r.slot (aoS hr) (by simpa using hi) (λj v hj hij xP hne=>by
  obtain ⟨s,hs,rfl⟩:=adG hj;have hjl:j < ops.size:=by have:=(dS.1 hs).1;rw [C.len] at this;exact this
  have hun:=C.open_ hD ho hi fB hjl (by simp at xP;rw [xP];simp;omega);have hp:=Iq ho (C.pairs i j r s hr hs hun);exact KI (JV hp.1 ((wU _ _).1 hne)))
 simp only [jk] at this;unfold fV;rw [this];cases eF r.slot b<;>rfl
theorem oU.Xa (C:oU ops M rs nn N0) (hD:Closed ops D) (ho:ops[i]? = some o) (hr:rs[i]? = some r) (hi:D i=false) (fB:∀e∈o.after.toList,Region.binds .any e=true->D e.on=true) {d:Nat} (hd:d∈o.looksAt ops) :
 (gU ((iy rs).take i) a0.t).get d=(iG (iy rs) 0 D a0.t).get d:=by
 rw [Ho (iy rs) i 0,Aa];congr 1;refine Ia _ _ _ _ _ λj u hj hne=>?_;obtain ⟨s,hs,rfl⟩:=adG hj;have hjl:j < ops.size:=by have:=(dS.1 hs).1;rw [C.len] at this;exact this
 simp only [jk] at hne;have hun:=C.open_ hD ho hi fB hjl (λe=>hne e.symm);have hp:=Iq ho (C.pairs i j r s hr hs hun);exact KI (JV hp.2.1 hd)
theorem oU.aoj (C:oU ops M rs nn N0) (hD:Closed ops D) (ho:ops[i]? = some o) (hr:rs[i]? = some r) (hi:D i=false) (fB:∀e∈o.after.toList,Region.binds .any e=true->D e.on=true) {l:List Nat} (hv:r.vis=some l) {b:Nat} (hb:b∈l) :
 (gU ((fJ rs).take i) σ0.h).get b=(iG (fJ rs) 0 D σ0.h).get b:=by
 rw [Ho (fJ rs) i 0,Aa];congr 1;refine Ia _ _ _ _ _ λj u hj hne=>?_;obtain ⟨s,hs,rfl⟩:=LM hj;have hjl:j < ops.size:=by have:=(dS.1 hs).1;rw [C.len] at this;exact this
 simp only [jk] at hne;have hun:=C.open_ hD ho hi fB hjl (λe=>hne e.symm);have hp:=Iq ho (C.pairs i j r s hr hs hun);exact KI (JV (hp.2.2.2.1 l hv) hb)
theorem Ctx.act (C:Ctx P call ops M rs a0 σ0 cf) (hinv:zD P ops rs a0 σ0 cf η0 w0 D η w A) (ho:ops[i]? = some o) (hr:rs[i]? = some r) (hi:D i=false) (fB:∀e∈o.after.toList,Region.binds .any e=true->D e.on=true) :
 TR P η { t:=gY (gU ((iy rs).take i) a0.t) (o.looksAt ops),n:=a0.n,gn:=a0.gn } A:=by
 refine ⟨hinv.tr.gn,hinv.tr.size,hinv.tr.none,λd v hv=>?_⟩;rw [xO] at hv;split at hv
 ·next hd=>
  rw [C.Xa (a0:=a0) hinv.closed ho hr hi fB hd] at hv;exact hinv.tr.slot d v hv
 ·cases hv
theorem Ctx.gen (C:Ctx P call ops M rs a0 σ0 cf) (hcall:qF P call) (hinv:zD P ops rs a0 σ0 cf η0 w0 D η w A) (ho:ops[i]? = some o) (hr:rs[i]? = some r) (hil:i < ops.size) (hi:D i=false)
 (fB:∀e∈o.after.toList,Region.binds .any e=true->D e.on=true) {ηi:Env} {τ τ':ak} {v:Option AV} {a:aV} {K:Act->World->Prop} {Q:Exit->Act->World->Prop}
 (OM:SR P ηi τ w) (hTi:TR P ηi a A) (hle:ηi.le η) (hro:ηi.ro=η.ro) (hop:pY P call o a.eval τ=some (v,τ')) (Kv:r.slot=l7 o v)
 (sub:∀id ob,τ.get id=some ob->(iG (fJ rs) 0 D σ0.h).get id=some ob) (free:∀id,η.has id->¬ (τ.next<=id/\id < τ'.next))
 (hu:∀b ob,eF r.upd b=some (some ob)->τ'.get b=some ob/\((∃o0,τ.get b=some o0/\o0.own=true)\/(ob.own=true/\τ.get b=none)))
 (IL:∀id ob,τ.get id=some ob->ob.own=true->τ.lock<=id->eF r.upd id≠none) (hlk:σ0.lock<=τ.lock) (HY:∀b,eF r.upd b≠none->τ.lock<=b)
 (hdm:∀id,τ.next<=id->id < τ'.next->σ0.next<=id/\id < cf/\(id=σ0.next+i\/(r.base<=id/\id < r.next)))
 (hK:∀η' A' w',zD P ops rs a0 σ0 cf η0 w0 (fV D i) η' w' A'->K A' w'):o.wp P A w K Q:=by
 refine MZ OM hcall hTi hop λx qC w' hst hx=>?_;let η':Env:=⟨λid=>if τ.next<=id/\id < τ'.next then qC id else η id,qC.ro,λid=>if τ.next<=id/\id < τ'.next then qC.gh id else η.gh id⟩
 have h1:η.le η':=⟨λid q hq=>by
  show (if τ.next<=id/\id < τ'.next then qC id else η id)=some q
  rw [ah (free id (.inl ⟨q,hq⟩))];exact hq,λb o hb=>hst.ext.ro b o (by rw [hro];exact hb),λid hg=>by
  show (if τ.next<=id/\id < τ'.next then qC.gh id else η.gh id)=true
  rw [ah (free id (.inr hg))];exact hg⟩
 have h2:qC.le η':=⟨λid q hq=>by
  show (if τ.next<=id/\id < τ'.next then qC id else η id)=some q
  split
  ·exact hq
  ·next hn=>
   rcases hst.alj hq with h3 | h3
   ·exact hle.pl _ _ h3
   ·exact absurd h3 hn,λ_ _ h=>h,λid hg=>by
  show (if τ.next<=id/\id < τ'.next then qC.gh id else η.gh id)=true
  split
  ·exact hg
  ·next hn=>
   rcases hst.new id (.inr hg) with (⟨q,h3⟩ | h3) | h3
   ·have:=hst.ext.pl _ _ h3
    rw [(hst.rel.jc id hg).1] at this;cases this
   ·exact hle.gh _ h3
   ·exact absurd h3 hn⟩
 have hnew:∀id,η'.has id->η.has id\/(τ.next<=id/\id < τ'.next):=λid hh=>by
  by_cases hn:τ.next<=id/\id < τ'.next
  ·exact .inr hn
  ·left
   rcases hh with ⟨q,hq⟩ | hg
   ·have hq':(if τ.next<=id/\id < τ'.next then qC id else η id)=some q:=hq
    rw [ah hn] at hq';exact .inl ⟨q,hq'⟩
   ·have hg':(if τ.next<=id/\id < τ'.next then qC.gh id else η.gh id)=true:=hg
    rw [ah hn] at hg';exact .inr hg'
 have Uo:∀id,η'.gh id=true->η' id=none:=λid hg=>by
  have hg':(if τ.next<=id/\id < τ'.next then qC.gh id else η.gh id)=true:=hg;show (if τ.next<=id/\id < τ'.next then qC id else η id)=none
  split at hg'
  ·next hn=>rw [aj hn];exact (hst.rel.jc id hg').1
  ·next hn=>rw [ah hn];exact (hinv.st.rel.jc id hg').1
 have hg:=C.aaZ (σ0:=σ0) hinv.closed ho hr hi fB;have hdom:∀id,η'.has id->id < cf:=λid hq=>by
  rcases hnew id hq with h3 | ⟨h3,h4⟩
  ·exact hinv.st.rel.hasLt h3
  ·exact (hdm id h3 h4).2.1
 obtain ⟨rel,size,keep,own,pR⟩:=St.merge (σ':={ h:=iG (fJ rs) 0 (fV D i) σ0.h,next:=cf,lock:=σ0.lock }) (upd:=r.upd) (η':=η') hinv.st.rel OM hst sub hle hro rfl h1 h2 hg hu IL hlk HY (λid q hq=>hdom id (.inl ⟨q,hq⟩)) (λid hgi=>⟨Uo id hgi,hdom id (.inr hgi)⟩);refine hK η' _ w' ⟨?_, ?_, ?_, ?_⟩
 ·intro k o' hk ho' e he hb
  unfold fV at hk ⊢;simp only [mP] at hk ⊢;rcases hk with hk | hk
  ·exact .inl (hinv.closed k o' hk ho' e he hb)
  ·have:=bC hk;subst this
   rw [ho] at ho';cases ho';exact .inl (fB e he hb)
 ·refine hinv.st.then h1 rel size keep own hst.os hst.tape hst.output rfl (dJ _) ?_ pR
  intro id hq;rcases hnew id hq with h3 | ⟨h3,h4⟩
  ·exact .inl h3
  ·exact .inr ⟨(hdm id h3 h4).1,(hdm id h3 h4).2.1⟩
 ·have hg':=C.J5 (a0:=a0) hinv.closed ho hr hi fB
  rw [Kv] at hg';exact hinv.tr.add h1 hg' (by rw [<- Kv];exact (C.slot i r hr).2) (λu hu'=>VR.mono h2 _ _ (hx u hu'))
 ·intro id hq
  have hD':∀k,D k=true->fV D i k=true:=λk hk=>by unfold fV;rw [hk];rfl
  have hii:fV D i i=true:=by unfold fV;simp
  rcases hnew id hq with h3 | ⟨h3,h4⟩
  ·rcases hinv.dm id h3 with h5 | ⟨k,h5,h6,h7⟩ | ⟨j,s,h5,h6,h7⟩
   ·exact .inl h5
   ·exact .inr (.inl ⟨k,h5,hD' k h6,h7⟩)
   ·exact .inr (.inr ⟨j,s,h5,hD' j h6,h7⟩)
  ·obtain ⟨_,_,h5 | h5⟩:=hdm id h3 h4
   ·exact .inr (.inl ⟨i,hil,hii,h5⟩)
   ·exact .inr (.inr ⟨i,r,hr,hii,h5⟩)
end
end
end Go.aN
namespace Go.aN
set_option linter.unusedSimpArgs false
noncomputable section
variable [aG]
set_option linter.unusedSectionVars false
set_option linter.unusedVariables false
variable {P:Program}
section
variable {call:Caller} {ops:Array Oper} {M:List Nat} {rs:List bQ} {a0:aV} {σ0:ak} {cf:Nat} {η0 η:Env} {w0 w:World} {D:Nat->Bool} {A:Act} {i:Nat} {o:Oper} {r:bQ}
theorem Vd {l:List Nat} {f:Nat->Option bf} {b:Nat} {x:Option bf} (h:eF (l.map λk=>(k,f k)) b=some x):b∈l/\x=f b:=by
 induction l with
 | nil=>simp [eF] at h
 | cons k l ih=>
   simp only [ji,eF] at h;split at h
   ·next y hy=>cases h;have:=ih hy;exact ⟨by simp [this.1],this.2⟩
   ·split at h
    ·next e=>cases h;subst e;exact ⟨by simp,rfl⟩
    ·cases h
theorem keys_map (l:List Nat) (f:Nat->Option bf):keysOf (l.map λk=>(k,f k))=l:=by
 simp [keysOf,List.map_map,Function.comp_def]
theorem Es {τ:ak}:∀ {n c b:Nat} {x:Option bf},eF (Cb τ c n) b=some x->c<=b/\b < c+n/\∀o,x=some o->τ.get b=some o/\o.own=true
 | 0,c,b,x,h=>by simp [Cb,eF] at h
 | n+1,c,b,x,h=>by
   simp only [Cb,eF] at h;split at h
   ·next y hy=>
    cases h;obtain ⟨h1,h2,h3⟩:=Es hy;exact ⟨by omega,by omega,h3⟩
   ·split at h
    ·next e=>
     subst e;simp only [aT] at h;refine ⟨Nat.le_refl _,by omega,λo ho=>?_⟩;rw [ho] at h;split at h
     ·next o' ho'=>
      split at h
      ·next hown=>cases h;exact ⟨ho',hown⟩
      ·cases h
     ·cases h
    ·cases h
theorem Pq {l m:List (Nat×Option bf)} {b:Nat}:eF (l++m) b=match eF m b with | some x=>some x | none=>eF l b:=by
 induction l with
 | nil=>simp only [cu];cases eF m b<;>rfl
 | cons p l ih=>
   obtain ⟨k,v⟩:=p;simp only [dW,eF,ih];cases eF m b<;>rfl
theorem Am {h:Tr bf} {lock:Nat} {l:List Nat} {k:Nat}:k∈ED h lock l↔k∈l/\lock<=k/\∃ob,h.get k=some ob/\ob.own=true:=by
 unfold ED;rw [vk,aI];constructor
 ·rintro ⟨h1,h2,h3⟩
  refine ⟨h1,qM h2, ?_⟩;split at h3
  ·next ob hob=>exact ⟨ob,hob,h3⟩
  ·cases h3
 ·rintro ⟨h1,h2,ob,h3,h4⟩
  exact ⟨h1,Yo h2,by rw [h3];exact h4⟩
theorem SR.cutAt {η:Env} {σ τ:ak} {w:World} {c:Nat} (h:SR P η σ w) (hg:P.globals.size < c) (hsub:∀id o,τ.get id=some o->σ.get id=some o) (hc:∀id o,τ.get id=some o->id < c/\yI c o=true) (hn:c<=τ.next):SR P (η.cut c) τ w:=by
 have hcut:∀id q,id < c->η id=some q->η.cut c id=some q:=λid q h1 h2=>by simp only [Env.cut];rw [aj h1];exact h2
 refine ⟨λg hgg=>?_,λid q hq=>?_,λid o ho=>?_,λid hg'=>?_,λid o id' o' q q' a1 a2 a3 a4 a5 a6=>?_,h.iH,λid o q a1 a2 a3=>h.jS id o q (hsub _ _ a1) a2 ((Env.GI _ _).pl _ _ a3),h.tabs⟩
 ·obtain ⟨sz,es,h1⟩:=h.kV g hgg;exact ⟨sz,es,hcut _ _ (by omega) h1⟩
 ·simp only [Env.cut] at hq
  split at hq
  ·omega
  ·cases hq
 ·rcases h.live id o (hsub _ _ ho) with ⟨q,hq,hr⟩ | ⟨hgi,h2⟩
  ·exact .inl ⟨q,hcut _ _ (hc id o ho).1 hq,hr.cut (hc id o ho).2⟩
  ·exact .inr ⟨Env.ZB (hc id o ho).1 hgi,h2⟩
 ·have hg2:(decide (id < c)&&η.gh id)=true:=hg'
  rw [aI,decide_eq_true_iff] at hg2;exact ⟨by simp only [Env.cut];rw [aj hg2.1];exact (h.jc id hg2.2).1,by omega⟩
 ·exact h.sep id o id' o' q q' (hsub _ _ a1) a2 (hsub _ _ a3) a4 ((Env.GI _ _).pl _ _ a5) ((Env.GI _ _).pl _ _ a6)
theorem SR.part {η:Env} {σ τ:ak} {w:World} (h:SR P η σ w) (hsub:∀id o,τ.get id=some o->σ.get id=some o) (hn:∀id,η.has id->id < τ.next):SR P η τ w:=
 ⟨h.kV,λid q hq=>hn id (.inl ⟨q,hq⟩),λid o ho=>h.live id o (hsub id o ho),λid hg=>⟨(h.jc id hg).1,hn id (.inr hg)⟩,λid o id' o' q q' a1 a2 a3 a4 a5 a6=>h.sep id o id' o' q q' (hsub _ _ a1) a2 (hsub _ _ a3) a4 a5 a6,h.iH,λid o q a1 a2 a3=>h.jS id o q (hsub _ _ a1) a2 a3,h.tabs⟩
theorem Jy {c:Nat} {h:Tr bf}:∀ {l:List Nat},Jw c h l=true->∀k∈l,k < c/\∀o,h.get k=some o->yI c o=true
 | [],_,k,hk=>by simp at hk
 | x::l,hb,k,hk=>by
   simp only [Jw,aI] at hb;simp only [bZ] at hk;rcases hk with rfl | hk
   ·refine ⟨by have:=hb.1.1;rwa [iW] at this,λo ho=>?_⟩
    have:=hb.1.2;rw [ho] at this;exact this
   ·exact Jy hb.2 k hk
theorem YQ {c:Nat} {t:Tr AV}:∀ {l:List Nat},Gu c t l=true->∀k∈l,∀v,t.get k=some v->v.under c=true
 | [],_,k,hk=>by simp at hk
 | x::l,hb,k,hk=>by
   simp only [Gu,aI] at hb;simp only [bZ] at hk;rcases hk with rfl | hk
   ·intro v hv;have:=hb.1;rw [hv] at this;exact this
   ·exact YQ hb.2 k hk
theorem WA {M:List Nat} {i:Nat}:∀ {rs:List bQ} {k:Nat} {b:Nat},b∉Aq M i rs k->∀ (j:Nat) r,rs[j]? = some r->vX M i (k+j)=true->b∉keysOf r.upd
 | [],k,b,_,j,r,hj,_=>by simp at hj
 | s::rs,k,b,hb,j,r,hj,hu=>by
   unfold Aq at hb;cases j with
   | zero=>
     simp at hj;subst hj;rw [lY] at hu;rw [aj hu] at hb;simp only [lX,not_or] at hb;exact hb.1
   | succ j=>
     have hb':b∉Aq M i rs (k+1):=by
      split at hb
      ·simp only [lX,not_or] at hb;exact hb.2
      ·exact hb
     exact WA hb' j r (by simpa using hj) (by rw [show k+1+j=k+(j+1) by omega];exact hu)
theorem abL {M:List Nat} {i:Nat}:∀ {rs:List bQ} {k:Nat} {b:Nat} (j:Nat) (r:bQ),rs[j]? = some r->vX M i (k+j)=false->b∈keysOf r.upd->b∈KH M i rs k
 | [],k,b,j,r,hj,_,_=>by simp at hj
 | s::rs,k,b,j,r,hj,hu,hb=>by
   unfold KH;cases j with
   | zero=>
     simp at hj;subst hj;rw [lY] at hu;rw [ah (by rw [hu];simp)];simp [hb]
   | succ j=>
     have:=abL (k:=k+1) j r (by simpa using hj) (by rw [show k+1+j=k+(j+1) by omega];exact hu) hb;split
     ·exact this
     ·simp [this]
theorem Ctx.bound (C:Ctx P call ops M rs a0 σ0 cf) (hinv:zD P ops rs a0 σ0 cf η0 w0 D η w A) (id:Nat) (h:η.has id):id < cf:=hinv.st.rel.hasLt h
theorem Ctx.apart (C:Ctx P call ops M rs a0 σ0 cf) (hinv:zD P ops rs a0 σ0 cf η0 w0 D η w A) (hr:rs[i]? = some r) (hi:D i=false) {id:Nat} (h:η.has id):¬ (r.base<=id/\id < r.next):=by
 rintro ⟨h1,h2⟩
 have hlo:=C.lo hr;rcases hinv.dm id h with h3 | ⟨k,h3,h4,h5⟩ | ⟨j,s,h3,h4,h5,h6⟩
 ·omega
 ·omega
 ·by_cases hij:i=j
  ·subst hij;rw [hi] at h4;cases h4
  ·rcases Nat.lt_or_gt_of_ne hij with hlt | hlt
   ·have:=C.lt hr h3 hlt;omega
   ·have:=C.lt h3 hr hlt;omega
theorem Ctx.step (C:Ctx P call ops M rs a0 σ0 cf) (hcall:qF P call) (hS0:SR P η0 σ0 w0) (hinv:zD P ops rs a0 σ0 cf η0 w0 D η w A) (hil:i < ops.size) (hi:D i=false)
 (xQ:∀o,ops[i]? = some o->∀e∈o.after.toList,Region.binds .any e=true->D e.on=true) (hnl:mF ops M i=false) {K:Act->World->Prop} {Q:Exit->Act->World->Prop}
 (hK:∀η' A' w',zD P ops rs a0 σ0 cf η0 w0 (fV D i) η' w' A'->K A' w'):wpOp P ops Q i K A w:=by
 obtain ⟨o,ho⟩:∃o,ops[i]? = some o:=⟨ops[i],by simp [hil]⟩
 obtain ⟨r,hr⟩:∃r,rs[i]? = some r:=⟨_,bU (by rw [C.len];exact hil)⟩
 have fB:=xQ o ho;have hone:=C.one i r hr;have hact:=C.act hinv ho hr hi fB;have hbase:=C.base hr;have hlo:=C.lo hr;have hhi:=C.hi hr;have hN0:P.globals.size < σ0.next:=by
  obtain ⟨sz,es,h1⟩:=hS0.kV P.globals.size (dJ _);exact hS0.dom _ _ h1
 have hbn:=(C.slot i r hr).1;have abd:=C.lock;have hbig:=C.big;have Uj:=C.bound hinv;unfold vM at hone;rw [hnl] at hone;simp only [gQ,if_false] at hone;unfold yM at hone;rw [ho] at hone;simp only at hone;unfold wpOp;rw [ho];simp only;split at hone
 ·cases hone
 ·
   next hw=>
   rw [Ba hact hw];simp only [gQ,if_false];cases hone;refine hK η _ w ⟨?_, ?_, ?_, ?_⟩
   ·intro k o' hk ho' e he hb
    unfold fV at hk ⊢;simp only [mP] at hk ⊢;rcases hk with hk | hk
    ·exact .inl (hinv.closed k o' hk ho' e he hb)
    ·have:=bC hk;subst this
     rw [ho] at ho';cases ho';exact .inl (xQ _ ho e he hb)
   ·have hg:=C.aaZ (σ0:=σ0) hinv.closed ho hr hi fB
    refine hinv.st.sub ?_ (dJ _) rfl;intro id ob hob;have:(iG (fJ rs) 0 (fV D i) σ0.h).get id=some ob:=hob;rw [hg] at this;exact this
   ·exact hinv.tr.add (Env.le.refl _) (C.J5 (a0:=a0) hinv.closed ho hr hi fB) (C.slot i _ hr).2 (by rintro u hu;cases hu;exact ⟨[],rfl,rfl⟩)
   ·intro id hq
    have hD':∀k,D k=true->fV D i k=true:=λk hk=>by unfold fV;rw [hk];rfl
    rcases hinv.dm id hq with h5 | ⟨k,h5,h6,h7⟩ | ⟨j,s,h5,h6,h7⟩
    ·exact .inl h5
    ·exact .inr (.inl ⟨k,h5,hD' k h6,h7⟩)
    ·exact .inr (.inr ⟨j,s,h5,hD' j h6,h7⟩)
 ·
   next hw=>
   rw [Ba hact hw];simp only [if_true];left;have rest:∀l:List Nat,r.vis=some l->∀id ob,(gY (gU ((fJ rs).take i) σ0.h) l).get id=some ob->(iG (fJ rs) 0 D σ0.h).get id=some ob/\id∈l/\(gU ((fJ rs).take i) σ0.h).get id=some ob:=by
    intro l hl id ob hob;rw [xO] at hob;split at hob
    ·next hm=>rw [<- C.aoj (σ0:=σ0) hinv.closed ho hr hi fB hl hm];exact ⟨hob,hm,hob⟩
    ·cases hob
   have ZA:∀c,Gu c (gU ((iy rs).take i) a0.t) (o.looksAt ops)=true->TR P (η.cut c) { t:=gY (gU ((iy rs).take i) a0.t) (o.looksAt ops),n:=a0.n,gn:=a0.gn } A:=by
    intro c hb;refine ⟨hact.gn,hact.size,hact.none,λd v hv=>?_⟩;obtain ⟨x,hx,jE⟩:=hact.slot d v hv;refine ⟨x,hx,VR.cut v x ?_ jE⟩;rw [xO] at hv;split at hv
    ·next hd=>exact YQ hb d hd v hv
    ·cases hv
   split at hone
   ·
     next ty hty=>
     split at hone
     ·next z hz=>
      cases hone;have hop:pY P call o (aV.eval { t:=.nil,n:=a0.n,gn:=a0.gn }) { h:=.nil,next:=σ0.next+i,lock:=σ0.lock }=some (some (.p (σ0.next+i) 0),({ h:=.nil,next:=σ0.next+i,lock:=σ0.lock }:ak).new (.cells z ty true false)):=by
       unfold pY;rw [hty];simp only [hz,gy]
      have hS':SR P (η.cut σ0.next) { h:=.nil,next:=σ0.next+i,lock:=σ0.lock } w:=hinv.st.rel.cutAt hN0 (λid ob h=>by simp [ak.get] at h) (λid ob h=>by simp [ak.get] at h) (by simp);refine C.gen hcall hinv ho hr hil hi fB hS' (a:={ t:=.nil,n:=a0.n,gn:=a0.gn }) ⟨hact.gn,hact.size,hact.none,λd v hv=>by simp at hv⟩ (Env.GI _ _) rfl hop rfl (λid ob h=>by simp [ak.get] at h) ?_ ?_ ?_ (dJ _) ?_ ?_ hK
      ·rintro id hq ⟨h1,h2⟩
       have h1':σ0.next+i<=id:=h1;have h2':id < σ0.next+i+1:=h2;rcases hinv.dm id hq with h3 | ⟨k,h3,h4,h5⟩ | ⟨j,s,h3,h4,h5,h6⟩
       ·omega
       ·have:k=i:=by omega
        subst this;rw [hi] at h4;cases h4
       ·have:=C.lo h3;omega
      ·intro b ob hb
       simp only [eF] at hb;split at hb
       ·next e=>
        cases hb;subst e;refine ⟨?_,.inr ⟨rfl,Tr.get_nil _⟩⟩;rw [ak.pJ,aj rfl]
       ·cases hb
      ·intro id ob h;simp [ak.get] at h
      ·intro b hb
       have:=(wU _ _).1 hb;simp [keysOf] at this;subst this;show σ0.lock<=σ0.next+i
       omega
      ·intro id h1 h2
       have h1':σ0.next+i<=id:=h1;have h2':id < σ0.next+i+1:=h2;have:=C.SI;exact ⟨by omega,by omega,.inl (by omega)⟩
     ·cases hone
   ·split at hone
    ·
      next l hcls=>
      split at hone
      ·next v τ' hop=>
       rw [sW] at hop;split at hone
       ·next hnx=>
        cases hone;have aiZ:=bC hnx;have hS':SR P η { h:=gY (gU ((fJ rs).take i) σ0.h) l,next:=rG,lock:=rG } w:=hinv.st.rel.part (λid ob h=>(rest l rfl id ob h).1) (λid hq=>vw (Uj id hq) hbig);refine C.gen hcall hinv ho hr hil hi fB hS' hact (Env.le.refl _) rfl hop rfl (λid ob h=>(rest l rfl id ob h).1) ?_ ?_ ?_ ?_ ?_ ?_ hK
        ·rintro id hq ⟨h1,h2⟩
         have h1':rG<=id:=h1;omega
        ·intro b ob hb;simp [eF] at hb
        ·intro id ob h1 h2 h3
         have h3':rG<=id:=h3;have:=Uj id (hS'.Kq h1);omega
        ·have:=C.SI;show σ0.lock<=rG;omega
        ·intro b hb;simp [eF] at hb
        ·intro id h1 h2
         have h1':rG<=id:=h1;omega
       ·cases hone
      ·cases hone
    ·
      next l hcls=>
      split at hone
      ·next v τ' hop=>
       rw [sW] at hop;split at hone
       ·next hnx=>
        cases hone;have aiZ:=bC hnx;have hS':SR P η { h:=gY (gU ((fJ rs).take i) σ0.h) l,next:=rG,lock:=σ0.lock } w:=hinv.st.rel.part (λid ob h=>(rest l rfl id ob h).1) (λid hq=>vw (Uj id hq) hbig);refine C.gen hcall hinv ho hr hil hi fB hS' hact (Env.le.refl _) rfl hop rfl (λid ob h=>(rest l rfl id ob h).1) ?_ ?_ ?_ (dJ _) ?_ ?_ hK
        ·rintro id hq ⟨h1,h2⟩
         have h1':rG<=id:=h1;omega
        ·intro b ob hb
         obtain ⟨h1,h2⟩:=Vd hb;obtain ⟨h3,h4,ob',h5,h6⟩:=Am.1 h1;refine ⟨h2.symm,.inl ⟨ob', ?_,h6⟩⟩;show (gY _ l).get b=_
         rw [xO,aj h3];exact h5
        ·intro id ob h1 h2 h3
         obtain ⟨_,h4,h5⟩:=rest l rfl id ob h1;rw [wU,keys_map];exact Am.2 ⟨h4,h3,ob,h5,h2⟩
        ·intro b hb
         rw [wU,keys_map] at hb;exact (Am.1 hb).2.1
        ·intro id h1 h2
         have h1':rG<=id:=h1;omega
       ·cases hone
      ·cases hone
    ·
      next l hcls=>
      split at hone
      ·next hbel=>
       simp only [aI] at hbel;split at hone
       ·next v τ' hop=>
        rw [sW] at hop;cases hone;simp only at hlo hhi hbn
        have hS':SR P (η.cut (iU (σ0.next+ops.size) rs i)) { h:=gY (gU ((fJ rs).take i) σ0.h) l,next:=iU (σ0.next+ops.size) rs i,lock:=σ0.lock } w:=
         hinv.st.rel.cutAt (by omega) (λid ob h=>(rest l rfl id ob h).1) (λid ob h=>by
          obtain ⟨_,h1,h2⟩:=rest l rfl id ob h;have:=Jy hbel.2 id h1;exact ⟨this.1,this.2 ob h2⟩) (dJ _)
        refine C.gen hcall hinv ho hr hil hi fB hS' (ZA _ hbel.1) (Env.GI _ _) rfl hop rfl (λid ob h=>(rest l rfl id ob h).1) ?_ ?_ ?_ (dJ _) ?_ ?_ hK
        ·rintro id hq ⟨h1,h2⟩
         exact C.apart hinv hr hi hq ⟨h1,h2⟩
        ·intro b ob hb
         rw [Pq] at hb;split at hb
         ·next x hx=>
          cases hb;obtain ⟨h1,h2,h3⟩:=Es hx;obtain ⟨h4,h5⟩:=h3 ob rfl;refine ⟨h4,.inr ⟨h5, ?_⟩⟩;show (gY _ l).get b=none
          rw [xO];split
          ·next hm=>have:=(Jy hbel.2 b hm).1;omega
          ·rfl
         ·obtain ⟨h1,h2⟩:=Vd hb
          obtain ⟨h3,h4,ob',h5,h6⟩:=Am.1 h1;refine ⟨h2.symm,.inl ⟨ob', ?_,h6⟩⟩;show (gY _ l).get b=_
          rw [xO,aj h3];exact h5
        ·intro id ob h1 h2 h3
         obtain ⟨_,h4,h5⟩:=rest l rfl id ob h1;rw [wU];unfold keysOf;rw [yu,lX];left;have:=keys_map (ED (gU ((fJ rs).take i) σ0.h) σ0.lock l) (λk=>τ'.get k);unfold keysOf at this;rw [this];exact Am.2 ⟨h4,h3,ob,h5,h2⟩
        ·intro b hb
         rw [Pq] at hb;split at hb
         ·next x hx=>
          obtain ⟨h1,_,_⟩:=Es hx;show σ0.lock<=b
          omega
         ·rw [wU,keys_map] at hb
          exact (Am.1 hb).2.1
        ·intro id h1 h2
         have h1':iU (σ0.next+ops.size) rs i<=id:=h1;exact ⟨by omega,by omega,.inr ⟨h1,h2⟩⟩
       ·cases hone
      ·cases hone
    ·
      next hcls=>
      split at hone
      ·next v τ' hop0=>
       have hop:=aqR hop0;rw [sW] at hop;cases hone;simp only at hlo hhi hbn;have hall:∀id,η.has id->id < iU (σ0.next+ops.size) rs i:=by
        intro id hq;rcases hinv.dm id hq with h3 | ⟨k,h3,h4,h5⟩ | ⟨j,s,h3,h4,h5,h6⟩
        ·omega
        ·omega
        ·have hij:i≠j:=by rintro rfl;rw [hi] at h4;cases h4
         rcases Nat.lt_or_gt_of_ne hij with hlt | hlt
         ·have hjl:j < ops.size:=by have:=(dS.1 h3).1;rw [C.len] at this;exact this
          have hun:=C.open_ hinv.closed ho hi fB hjl (by rw [h4];simp;omega);have hp:=Iq ho (C.pairs i j _ s hr h3 hun);have:=(hp.2.2.2.2.1 rfl hlt).2.2;omega
         ·have:=C.lt h3 hr hlt
          simp only at this;omega
       have hsub:∀id ob,(BQ (gU ((fJ rs).take i) σ0.h) (Aq M i (rs.take i) 0)).get id=some ob->(iG (fJ rs) 0 D σ0.h).get id=some ob:=by
        intro id ob hob;rw [aaY] at hob;split at hob
        ·cases hob
        ·next hnk=>
         rw [<- hob,Ho (fJ rs) i 0,Aa];congr 1;refine (Ia _ _ _ _ _ λj u hj hne=>?_).symm;obtain ⟨s,hs,rfl⟩:=LM hj;have hjl:j < ops.size:=by have:=(dS.1 hs).1;rw [C.len] at this;exact this
         simp only [jk] at hne;have hun:=C.open_ hinv.closed ho hi fB hjl (λe=>hne e.symm);apply KI;by_cases hji:j < i
         ·exact WA hnk j s (by rw [kD,aj hji];exact hs) (by rw [jk];exact hun)
         ·have hij:i < j:=by
           rcases yA i j with h | h
           ·exact h
           ·have:i=j:=by omega
            subst this;rw [hi] at hne;simp at hne
          have hp:=Iq ho (C.pairs i j _ s hr hs hun);obtain ⟨h1,h2,h3⟩:=hp.2.2.2.2.1 rfl hij;intro hmem;have hge:=h1 id hmem;rw [Ho (fJ rs) i 0] at hob;cases hl:jP (fJ rs) 0 (λj=>decide (j < 0+i)) id with
          | none=>
            rw [hl] at hob;have:=hS0.hasLt (hS0.Kq hob);omega
          | some x=>
            obtain ⟨j',u',h4,h5,h6⟩:=U5 _ _ _ _ _ hl;obtain ⟨s',hs',rfl⟩:=LM h4;simp only [jk,decide_eq_true_eq] at h5;have hk:id∈keysOf s'.upd:=(wU _ _).1 (by rw [h6];simp);have htk:(rs.take i)[j']? = some s':=by rw [kD,aj h5];exact hs'
            have hnu:vX M i (0+j')=false:=by
             cases hu:vX M i (0+j') with
             | false=>rfl
             | true=>exact absurd hk (WA hnk j' s' htk hu)
            have:=abL j' s' htk hnu hk;exact JV h2 this hmem
       have hS':SR P η { h:=BQ (gU ((fJ rs).take i) σ0.h) (Aq M i (rs.take i) 0),next:=iU (σ0.next+ops.size) rs i,lock:=iU (σ0.next+ops.size) rs i } w:=hinv.st.rel.part hsub hall;refine C.gen hcall hinv ho hr hil hi fB hS' hact (Env.le.refl _) rfl hop rfl hsub ?_ ?_ ?_ ?_ ?_ ?_ hK
       ·rintro id hq ⟨h1,h2⟩
        exact C.apart hinv hr hi hq ⟨h1,h2⟩
       ·intro b ob hb
        obtain ⟨h1,h2,h3⟩:=Es hb;obtain ⟨h4,h5⟩:=h3 ob rfl;refine ⟨h4,.inr ⟨h5, ?_⟩⟩;cases hg:ak.get { h:=BQ (gU ((fJ rs).take i) σ0.h) (Aq M i (rs.take i) 0),next:=iU (σ0.next+ops.size) rs i,lock:=iU (σ0.next+ops.size) rs i } b with
        | none=>rfl
        | some ob'=>
          have:=hall b (hS'.Kq hg);omega
       ·intro id ob h1 h2 h3
        have h3':iU (σ0.next+ops.size) rs i<=id:=h3;have:=hall id (hS'.Kq h1);omega
       ·show σ0.lock<=iU (σ0.next+ops.size) rs i
        omega
       ·intro b hb
        cases hx:eF (Cb τ' (iU (σ0.next+ops.size) rs i) (τ'.next - iU (σ0.next+ops.size) rs i)) b with
        | none=>exact absurd hx hb
        | some x=>exact (Es hx).1
       ·intro id h1 h2
        have h1':iU (σ0.next+ops.size) rs i<=id:=h1;exact ⟨by omega,by omega,.inr ⟨h1,h2⟩⟩
      ·generalize KZ o (aV.eval { t:=gY (gU ((iy rs).take i) a0.t) (o.looksAt ops),n:=a0.n,gn:=a0.gn }) (gU ((fJ rs).take i) σ0.h)=l at hone
       split at hone
       ·next hbel=>
        simp only [aI] at hbel;split at hone
        ·next v τ' hop=>
         rw [sW] at hop;cases hone;simp only at hlo hhi hbn
         have hS':SR P (η.cut (iU (σ0.next+ops.size) rs i)) { h:=gY (gU ((fJ rs).take i) σ0.h) l,next:=iU (σ0.next+ops.size) rs i,lock:=σ0.lock } w:=
          hinv.st.rel.cutAt (by omega) (λid ob h=>(rest l rfl id ob h).1) (λid ob h=>by
           obtain ⟨_,h1,h2⟩:=rest l rfl id ob h;have:=Jy hbel.2 id h1;exact ⟨this.1,this.2 ob h2⟩) (dJ _)
         refine C.gen hcall hinv ho hr hil hi fB hS' (ZA _ hbel.1) (Env.GI _ _) rfl hop rfl (λid ob h=>(rest l rfl id ob h).1) ?_ ?_ ?_ (dJ _) ?_ ?_ hK
         ·rintro id hq ⟨h1,h2⟩
          exact C.apart hinv hr hi hq ⟨h1,h2⟩
         ·intro b ob hb
          rw [Pq] at hb;split at hb
          ·next x hx=>
           cases hb;obtain ⟨h1,h2,h3⟩:=Es hx;obtain ⟨h4,h5⟩:=h3 ob rfl;refine ⟨h4,.inr ⟨h5, ?_⟩⟩;show (gY _ l).get b=none
           rw [xO];split
           ·next hm=>have:=(Jy hbel.2 b hm).1;omega
           ·rfl
          ·obtain ⟨h1,h2⟩:=Vd hb
           obtain ⟨h3,h4,ob',h5,h6⟩:=Am.1 h1;refine ⟨h2.symm,.inl ⟨ob', ?_,h6⟩⟩;show (gY _ l).get b=_
           rw [xO,aj h3];exact h5
         ·intro id ob h1 h2 h3
          obtain ⟨_,h4,h5⟩:=rest l rfl id ob h1;rw [wU];unfold keysOf;rw [yu,lX];left;have:=keys_map (ED (gU ((fJ rs).take i) σ0.h) σ0.lock l) (λk=>τ'.get k);unfold keysOf at this;rw [this];exact Am.2 ⟨h4,h3,ob,h5,h2⟩
         ·intro b hb
          rw [Pq] at hb;split at hb
          ·next x hx=>
           obtain ⟨h1,_,_⟩:=Es hx;show σ0.lock<=b
           omega
          ·rw [wU,keys_map] at hb
           exact (Am.1 hb).2.1
         ·intro id h1 h2
          have h1':iU (σ0.next+ops.size) rs i<=id:=h1;exact ⟨by omega,by omega,.inr ⟨h1,h2⟩⟩
        ·cases hone
       ·cases hone
end
end
end Go.aN
namespace Go.aN
set_option linter.unusedSimpArgs false
noncomputable section
variable [aG]
set_option linter.unusedSectionVars false
set_option linter.unusedVariables false
variable {P:Program}
section
variable {call:Caller} {ops:Array Oper} {M:List Nat} {rs:List bQ} {a0:aV} {σ0:ak} {cf:Nat} {η0:Env} {w0:World}
def inB (listed:Array Bool):Nat->Bool:=λj=>listed.getD j false
theorem adg {listed:Array Bool} (hl:listed.size=ops.size) {i:Nat} (h:i∈Region.ready .any ops listed):i < ops.size/\inB listed i=false/\∀o,ops[i]? = some o->∀e∈o.after.toList,Region.binds .any e=true->inB listed e.on=true:=by
 unfold Region.ready at h;simp only [vk,xB,aI,vZ] at h;obtain ⟨h1,h2,h3⟩:=h;have hlt:i < listed.size:=by omega
 refine ⟨h1, ?_, ?_⟩
 ·unfold inB
  rw [vY,zA hlt] at h2 ⊢;exact h2
 ·intro o ho e he hb
  rw [ho] at h3;simp only [gy,pX] at h3;rw [Array.all_eq_true'] at h3;have:=h3 e (by simpa using he);rw [hb] at this;simpa [inB] using this
theorem count_set (listed:Array Bool) (i:Nat) (h:listed[i]? = some false):(listed.setIfInBounds i true).toList.count false+1=listed.toList.count false:=by
 have hlt:i < listed.size:=(oQ.1 h).1;have hv:listed[i]=false:=(oQ.1 h).2;have h1:listed.toList[i]'(by simpa using hlt)=false:=by simpa using hv
 have hpos:0 < listed.toList.count false:=List.count_pos_iff.2 (by rw [<- h1];exact jh _);rw [Array.toList_setIfInBounds,List.count_set (by simpa using hlt),h1];have e1:((false==false)=true):=rfl;have e2:¬ ((true==false)=true):=by decide
 rw [aj e1,ah e2];omega
theorem Ou {α:Type}:∀ (us:List (List (Nat×Option α))) (k:Nat) (D:Nat->Bool) (t:Tr α),(∀j,j < us.length->D (k+j)=true)->iG us k D t=gU us t
 | [],_,_,_,_=>rfl
 | u::us,k,D,t,h=>by
   have h0:=h 0 (by simp);simp only [lY] at h0;rw [iG,aj h0,gU,Ou us (k+1) D _ (λj hj=>by rw [show k+1+j=k+(j+1) by omega];exact h (j+1) (by simpa using hj))]
end
section
variable {ops:Array Oper} {M:List Nat} {rs:List bQ} {a0:aV} {σ:ak} {η0:Env} {w0:World} {n N0:Nat}
theorem YJ (C:oU ops M rs n N0) (Inv:(Nat->Bool)->Env->World->Act->Prop)
 (hstep:∀D η w A i (K:Act->World->Prop) (Q:Exit->Act->World->Prop),Inv D η w A->i < ops.size->D i=false->(∀o,ops[i]? = some o->∀e∈o.after.toList,Region.binds .any e=true->D e.on=true)->
  (∀η' A' w',Inv (fV D i) η' w' A'->K A' w')->wpOp P ops Q i K A w) {Q:Exit->Act->World->Prop}
 (hK:∀η' A' w',Inv (λj=>decide (j < ops.size)) η' w' A'->Q .normal A' w') :
 ∀ (fuel:Nat) (listed:Array Bool) (η:Env) (w:World) (A:Act),listed.size=ops.size->listed.toList.count false=fuel->Inv (inB listed) η w A->wpAny P .any ops Q fuel listed A w:=by
 intro fuel;induction fuel with
 | zero=>
   intro listed η w A hl hc hinv;have hall:∀j,j < ops.size->inB listed j=true:=by
    intro j hj;have hlt:j < listed.size:=by omega
    have hm:listed[j]∈listed.toList:=by simp
    have:false∉listed.toList:=List.count_eq_zero.1 hc;unfold inB;rw [vY,zA hlt];cases hv:listed[j] with
    | true=>rfl
    | false=>rw [hv] at hm;exact absurd hm this
   have hD:inB listed=λj=>decide (j < ops.size):=by
    funext j;by_cases hj:j < ops.size
    ·rw [hall j hj];simp [hj]
    ·unfold inB
     rw [vY,Array.getElem?_eq_none (by omega)];simp [hj]
   refine ⟨?_, ?_⟩
   ·apply List.eq_nil_iff_forall_not_mem.2
    intro i hi;obtain ⟨h1,h2,_⟩:=adg hl hi;rw [hall i h1] at h2;cases h2
   ·rw [hD] at hinv;exact hK η A w hinv
 | succ fuel ih=>
   intro listed η w A hl hc hinv;refine ⟨λhr=>?_,λi hi=>?_⟩
   ·exfalso
    have hex:∃i,i < ops.size/\inB listed i=false/\∀j,j < i->inB listed j=true:=by
     have hpos:0 < listed.toList.count false:=by omega
     have hm:=List.count_pos_iff.1 hpos;obtain ⟨k,hk⟩:=Rz.1 hm;have aiQ:k < ops.size:=by have:=(dS.1 hk).1;simp at this;omega
     have hkf:inB listed k=false:=by
      unfold inB;rw [vY];rw [tY] at hk;rw [hk];rfl
     clear hm hk;induction k using Nat.strongRecOn with
     | _ k ihk=>
       by_cases hb:∃j,j < k/\inB listed j=false
       ·obtain ⟨j,h1,h2⟩:=hb
        exact ihk j h1 (by omega) h2
       ·refine ⟨k,aiQ,hkf,λj hj=>?_⟩
        cases hv:inB listed j with
        | true=>rfl
        | false=>exact absurd ⟨j,hj,hv⟩ hb
    obtain ⟨i,h1,h2,h3⟩:=hex;have hmem:i∈Region.ready .any ops listed:=by
     unfold Region.ready;simp only [vk,xB,aI,vZ];have hlt:i < listed.size:=by omega
     refine ⟨h1, ?_, ?_⟩
     ·unfold inB at h2
      rw [vY,zA hlt] at h2 ⊢;exact h2
     ·have ho:ops[i]? = some ops[i]:=by simp [h1]
      rw [ho];simp only [gy,pX];rw [Array.all_eq_true'];intro e he;cases hb:Region.binds .any e with
      | false=>rfl
      | true=>
        simp only [Rn,xw];obtain ⟨hm,hlen⟩:=C.mask ho;have hbit:qw M e.on i=true:=by
         unfold qw;rw [wz,hm];simp only [pX];have:∀ (es:List Edge),e∈es->(xY (λj=>(M.take i).getD j 0) es).testBit e.on=true:=by
          intro es;induction es with
          | nil=>intro h;simp at h
          | cons x es abl=>
            intro h;rw [xY];simp only [bZ] at h;rcases h with rfl | h
            ·rw [aj hb,MG,MG,Nat.testBit_two_pow];simp
            ·split
             ·rw [MG,abl h,Bool.or_true]
             ·exact abl h
         exact this _ (by simpa using he)
        exact h3 e.on (C.VH hbit)
    rw [hr] at hmem;simp at hmem
   ·obtain ⟨h1,h2,h3⟩:=adg hl hi
    refine hstep _ _ _ _ i _ Q hinv h1 h2 h3 λη' A' w' hinv'=>?_;have hf:listed[i]? = some false:=by
     have hlt:i < listed.size:=by omega
     unfold inB at h2;rw [vY,zA hlt] at h2;rw [zA hlt];simpa using h2
    have hD:fV (inB listed) i=inB (listed.setIfInBounds i true):=by
     funext j;unfold fV inB;have hlt:i < listed.size:=by omega
     rw [vY,vY,zB];by_cases e:i=j
     ·subst e;rw [aj rfl,aj hlt];simp
     ·rw [ah e,vS (λe'=>e e'.symm)];simp
    rw [hD] at hinv';exact ih _ η' w' A' (by simpa using hl) (by have:=count_set listed i hf;omega) hinv'
end
theorem adV {ops:Array Oper} {M:List Nat}:∀ (k i j:Nat),QN ops M k<=i->i < k->mg ops i=false->j < i->mg ops j=true\/qw M j i=true
 | 0,i,j,_,h,_,_=>by omega
 | k+1,i,j,h1,h2,h3,h4=>by
   unfold QN at h1;split at h1
   ·next ha=>
    by_cases e:i=k
    ·subst e
     rw [h3,xw,List.all_eq_true] at ha;have:=ha j (by simpa using h4);rwa [mP] at this
    ·exact adV k i j h1 (by omega) h3 h4
   ·omega
theorem QO:∀ (rs:List bQ) (r:bQ) (σ:ak),tX (rs++[r]) σ=match r.fin with | some τ=>τ | none=>tX rs σ
 | [],_,_=>rfl
 | s::rs,r,σ=>by
   show tX (rs++[r]) _=_
   rw [QO rs r];rfl
theorem Xv {rs:List bQ} {σ:ak}:∀k,k<=rs.length->(∀ (i:Nat) r,i < k->rs[i]? = some r->r.fin=none)->tX (rs.take k) σ=σ
 | 0,_,_=>by simp [tX]
 | k+1,hk,h=>by
   obtain ⟨r,hr⟩:∃r,rs[k]? = some r:=⟨_,bU (by omega)⟩
   rw [RD,hr,Yu,QO,h k r (by omega) hr];exact Xv k (by omega) (λi r' hi=>h i r' (by omega))
theorem Xw {rs:List bQ} {σ:ak} {m:Nat} {r:bQ} {τ:ak} (hr:rs[m]? = some r) (hf:r.fin=some τ):∀k,m < k->k<=rs.length->(∀ (i:Nat) r',m < i->i < k->rs[i]? = some r'->r'.fin=none)->tX (rs.take k) σ=τ
 | 0,h,_,_=>by omega
 | k+1,hm,hk,h=>by
   by_cases e:m=k
   ·subst e
    rw [RD,hr,Yu,QO,hf]
   ·obtain ⟨r',hr'⟩:∃r,rs[k]? = some r:=⟨_,bU (by omega)⟩
    rw [RD,hr',Yu,QO,h k r' (by omega) (by omega) hr'];exact Xw hr hf k (by omega) (by omega) (λi r'' h1 h2=>h i r'' h1 (by omega))
theorem ahq {call:Caller} {o:Oper} (hf:zX o=true) {ev:Operand->Option AV} {σ1 σ2 τ:ak} {v:Option AV} (hs:l9 P call o ev σ1=some (v,τ)):l9 P call o ev σ2=some (v,σ2):=by
 rw [sW] at hs ⊢;obtain ⟨dst,op,type,pos,after,guard⟩:=o;cases op with
 | move x=>
   simp only [pY,dA,aX,jX] at hs ⊢;obtain ⟨u,h1,h2,_⟩:=hs;exact ⟨u,h1,h2,trivial⟩
 | assign x=>
   simp only [pY,dA,aX,jX] at hs ⊢;obtain ⟨u,h1,h2,_⟩:=hs;exact ⟨u,h1,h2,trivial⟩
 | extract x k=>
   simp only [pY] at hs ⊢;split at hs
   ·simp only [dA,aX,jX] at hs ⊢
    obtain ⟨u,h1,h2,_⟩:=hs;exact ⟨u,h1,h2,trivial⟩
   ·cases hs
 | binOp op t x y z=>
   simp only [pY] at hs ⊢;split at hs
   ·simp only [dA,aX,jX] at hs ⊢
    obtain ⟨u,h1,h2,_⟩:=hs;exact ⟨u,h1,h2,trivial⟩
   ·cases hs
 | _=>simp [zX] at hf
theorem afK {o:Oper} (hf:zX o=true) (ev:Operand->Option AV):Zn o ev=.na []:=by
 obtain ⟨dst,op,type,pos,after,guard⟩:=o;cases op<;>first | rfl | (simp [zX] at hf)
theorem agC {call:Caller} {ops:Array Oper} {lock gn n i c:Nat} {prev:List bQ} {t:Tr AV} {h:Tr bf} {r:bQ} (hs:GK P call ops lock gn n prev i t h c=some r):r.next=c:=by
 unfold GK at hs;split at hs
 ·cases hs
 ·split at hs
  ·cases hs
  ·cases hs;rfl
  ·split at hs
   ·cases hs;rfl
   ·cases hs
theorem SX {call:Caller} {ops:Array Oper} {M:List Nat} {N0 lock gn n i c:Nat} {prev:List bQ} {t:Tr AV} {h:Tr bf} {r:bQ} {o:Oper} (ho:ops[i]? = some o) (hf:zX o=true) (hs:yM P call ops M N0 lock gn n prev i t h c=some r) :
 r.upd=[]/\r.next=c/\r.fin=none/\((A8 o ops { t:=gY t (o.looksAt ops),n:=n,gn:=gn }=some false/\r.slot=l7 o (some (.dM [])))\/
  (A8 o ops { t:=gY t (o.looksAt ops),n:=n,gn:=gn }=some true/\∃v,(∀σ2,l9 P call o (aV.eval { t:=gY t (o.looksAt ops),n:=n,gn:=gn }) σ2=some (v,σ2))/\r.slot=l7 o v)):=by
 unfold yM at hs;rw [ho] at hs;simp only at hs;split at hs
 ·cases hs
 ·next hw=>cases hs;exact ⟨rfl,rfl,rfl,.inl ⟨hw,rfl⟩⟩
 ·next hw=>
  split at hs
  ·next ty e=>exfalso;obtain ⟨dst,op,type,pos,after,guard⟩:=o;cases e;simp [zX] at hf
  ·rw [afK hf] at hs
   simp only at hs;split at hs
   ·next v τ hv=>
    split at hs
    ·cases hs
     exact ⟨rfl,rfl,rfl,.inr ⟨hw,v,λσ2=>ahq hf hv,rfl⟩⟩
    ·cases hs
   ·cases hs
theorem NM {ops:Array Oper} {D:Nat->Bool} {i:Nat} (h:Closed ops D) (hd:∀o,ops[i]? = some o->∀e∈o.after.toList,Region.binds .any e=true->D e.on=true):Closed ops (fV D i):=by
 intro j o hj ho e he hb;unfold fV at hj ⊢;rw [mP] at hj ⊢;rcases hj with hj | hj
 ·exact .inl (h j o hj ho e he hb)
 ·have:=bC hj
  subst this;exact .inl (hd o ho e he hb)
section
variable {call:Caller} {ops:Array Oper} {M:List Nat} {rs:List bQ} {a:aV} {σ:ak} {c:Nat} {D:Nat->Bool}
theorem Ctx.act' (C:Ctx P call ops M rs a σ c) (hcl:Closed ops D) {i:Nat} {o:Oper} {r:bQ} (ho:ops[i]? = some o) (hr:rs[i]? = some r) (hi:D i=false) (fB:∀e∈o.after.toList,Region.binds .any e=true->D e.on=true)
 {η:Env} {A:Act} (htr:TR P η { t:=iG (iy rs) 0 D a.t,n:=a.n,gn:=a.gn } A):TR P η { t:=gY (gU ((iy rs).take i) a.t) (o.looksAt ops),n:=a.n,gn:=a.gn } A:=by
 refine ⟨htr.gn,htr.size,htr.none,λd v hv=>?_⟩;rw [xO] at hv;split at hv
 ·next hd=>
  rw [C.Xa (a0:=a) hcl ho hr hi fB hd] at hv;exact htr.slot d v hv
 ·cases hv
theorem Ctx.last (C:Ctx P call ops M rs a σ c) (hcall:qF P call) (hcl:Closed ops D) {i:Nat} {o:Oper} {r:bQ} (ho:ops[i]? = some o) (hr:rs[i]? = some r) (hi:D i=false) (fB:∀e∈o.after.toList,Region.binds .any e=true->D e.on=true) (hla:mF ops M i=true)
 {η η1:Env} {w0 w1:World} {A:Act} (hst:St P η σ w0 η1 (tX (rs.take i) { h:=gU ((fJ rs).take i) σ.h,next:=iU (σ.next+ops.size) rs i,lock:=σ.lock }) w1)
 (htr:TR P η1 { t:=iG (iy rs) 0 D a.t,n:=a.n,gn:=a.gn } A) {K:Act->World->Prop} {Q:Exit->Act->World->Prop}
 (hK:∀η' A' w' τ,r.fin=some τ->St P η σ w0 η' τ w'->TR P η' { t:=iG (iy rs) 0 (fV D i) a.t,n:=a.n,gn:=a.gn } A'->K A' w'):wpOp P ops Q i K A w1:=by
 have hone:=C.one i r hr;unfold vM at hone;rw [aj hla] at hone;unfold GK at hone;rw [ho] at hone;simp only at hone;have hact:=C.act' hcl ho hr hi fB htr;have hnext:=λd=>C.J5 (a0:=a) hcl ho hr hi fB d;have hsl:=(C.slot i r hr).2;unfold wpOp;rw [ho];simp only;split at hone
 ·cases hone
 ·next hw=>
  cases hone;rw [Ba hact hw];simp only [gQ,if_false];exact hK η1 _ w1 _ rfl hst (htr.add (Env.le.refl _) hnext hsl (by rintro u hu;cases hu;exact ⟨[],rfl,rfl⟩))
 ·next hw=>
  rw [Ba hact hw];simp only [if_true];left;split at hone
  ·next v τ hop=>
   rw [sW] at hop;cases hone;refine MZ hst.rel hcall hact hop λx η' w' hst2 hx=>?_;exact hK η' _ w' _ rfl (hst.trans hst2) (htr.add hst2.ext hnext hsl hx)
  ·cases hone
theorem Ctx.free (C:Ctx P call ops M rs a σ c) (hcall:qF P call) (hcl:Closed ops D) {i:Nat} {o:Oper} {r:bQ} (ho:ops[i]? = some o) (hr:rs[i]? = some r) (hi:D i=false) (fB:∀e∈o.after.toList,Region.binds .any e=true->D e.on=true) (hf:zX o=true)
 {η η1:Env} {τ:ak} {w0 w1:World} {A:Act} (hst:St P η σ w0 η1 τ w1) (htr:TR P η1 { t:=iG (iy rs) 0 D a.t,n:=a.n,gn:=a.gn } A) {K:Act->World->Prop} {Q:Exit->Act->World->Prop}
 (hK:∀η' A' w',St P η σ w0 η' τ w'->TR P η' { t:=iG (iy rs) 0 (fV D i) a.t,n:=a.n,gn:=a.gn } A'->K A' w'):wpOp P ops Q i K A w1:=by
 have hone:=C.one i r hr;unfold vM at hone;have hnl:mF ops M i=false:=by
  unfold mF mg;rw [ho];simp only [hf,Rn,Bool.and_false]
 rw [hnl] at hone;simp only [gQ,if_false] at hone;obtain ⟨_,_,_,hcase⟩:=SX ho hf hone;have hact:=C.act' hcl ho hr hi fB htr;have hnext:=λd=>C.J5 (a0:=a) hcl ho hr hi fB d;have hsl:=(C.slot i r hr).2;unfold wpOp;rw [ho];simp only;rcases hcase with ⟨hw,hs⟩ | ⟨hw,v,hv,hs⟩
 ·rw [hs] at hnext hsl
  rw [Ba hact hw];simp only [gQ,if_false];exact hK η1 _ w1 hst (htr.add (Env.le.refl _) hnext hsl (by rintro u hu;cases hu;exact ⟨[],rfl,rfl⟩))
 ·rw [hs] at hnext hsl
  rw [Ba hact hw];simp only [if_true];left;have hop:=hv τ;rw [sW] at hop;refine MZ hst.rel hcall hact hop λx η' w' hst2 hx=>?_;exact hK η' _ w' (hst.trans hst2) (htr.add hst2.ext hnext hsl hx)
theorem Ctx.adW (C:Ctx P call ops M rs a σ c) {l:Nat} (hl:∀i,l<=i->i < ops.size->mF ops M i=true\/mg ops i=true):∀k,l+k<=ops.size->iU (σ.next+ops.size) rs (l+k)=iU (σ.next+ops.size) rs l
 | 0,_=>rfl
 | k+1,h=>by
   have ih:=C.adW hl k (by omega);obtain ⟨r,hr⟩:∃r,rs[l+k]? = some r:=⟨_,bU (by rw [C.len];omega)⟩
   obtain ⟨o,ho⟩:∃o,ops[l+k]? = some o:=⟨ops[l+k],by simp⟩
   have hone:=C.one _ _ hr;unfold vM at hone;rw [show l+(k+1)=(l+k)+1 by omega,JF rs _ _ _ hr,<- ih];split at hone
   ·exact agC hone
   ·next hn=>
    rcases hl (l+k) (by omega) (by omega) with h1 | h1
    ·exact absurd h1 hn
    ·unfold mg at h1
     rw [ho] at h1;exact (SX ho h1 hone).2.1
end
theorem agO (hm:P.follows .mixedOrders=true):I8 P (RU P):=by
 intro call hcall ops a σ a' σ' hs η w A id Q h ht hK;unfold RU at hs;simp only at hs;split at hs
 ·next hok=>
  simp only [aI] at hok;split at hs
  ·next rs t hh c hgo=>
   split at hs
   ·next uJ=>
    simp only [aI] at uJ;obtain ⟨⟨⟨Hz,hdy0⟩,hsl⟩,hbig⟩:=uJ;obtain ⟨new,h1,h2,h3,h4,h5,h6⟩:=ZC _ _ _ _ _ _ _ _ _ _ hgo;simp only [cu] at h1;subst h1
    have C:Ctx P call ops (jQ ops.toList []) rs a σ c:={
     hM:=rfl
     Vo:=hok.1
     len:=h2
     one:=λi r hr=>by have:=h6 i r hr;simpa using this
     pairs:=acO Hz hdy0 (λi r hr=>by have:=h6 i r hr;exact agH (by simpa using this))
     slot:=by
      intro i r hr;unfold Qr at hsl;rw [List.all_eq_true] at hsl;have:=hsl r (rE hr);simp only [aI] at this;refine ⟨Nat.le_of_ble_eq_true this.1,λp hpm=>?_⟩;have h8:=this.2;rw [List.all_eq_true] at h8;have:=h8 p hpm;rwa [iW] at this
     fin:=h5
     big:=qM hbig
     lock:=qM hok.2 }
    refine wp_region_any hm ?_;have hcl:=C.SI;have hempty:inB (Array.replicate ops.size false)=λ_=>false:=by
     funext j;unfold inB;rw [vY,aeB];split<;>rfl
    have hno:∀ {α:Type} (us:List (List (Nat×Option α))) (k:Nat) (t:Tr α),iG us k (λ_=>false) t=t:=by
     intro α us;induction us with
     | nil=>intro k t;rfl
     | cons u us ih=>intro k t;rw [iG];simp only [gQ,if_false];exact ih _ _
    have start:zD P ops rs a σ c η { w with drawn:=w.drawn+1 } (λ_=>false) η { w with drawn:=w.drawn+1 } A:=by
     refine ⟨λi o hi=>by simp at hi, ?_, ?_,λid hq=>.inl (h.hasLt hq)⟩
     ·rw [hno]
      refine (St.refl h.drew).sub (λid o ho=>ho) (by show σ.next<=c;omega) rfl
     ·rw [hno];exact ⟨ht.gn,ht.size,ht.none,ht.slot⟩
    have OU:iG (iy rs) 0 (λj=>decide (j < ops.size)) a.t=t:=by
     rw [h3];exact Ou _ _ _ _ (λj hj=>by simp [iy] at hj ⊢;omega)
    have hlast:∀i,i < ops.size->mF ops (jQ ops.toList []) i=true->mg ops i=false/\∀j,j < i->mg ops j=true\/qw (jQ ops.toList []) j i=true:=by
     intro i hi hla;unfold mF at hla;rw [aI,vZ] at hla;exact ⟨hla.2,λj hj=>adV _ _ _ (qM hla.1) hi hla.2 hj⟩
    have hup:∀i j,i<=j->j < ops.size->mF ops (jQ ops.toList []) i=true->mF ops (jQ ops.toList []) j=true\/mg ops j=true:=by
     intro i j hij hj hla;unfold mF at hla ⊢;rw [aI,vZ] at hla;have:=qM hla.1;cases hf:mg ops j with
     | true=>exact .inr rfl
     | false=>left;rw [Yo (iR this hij)];rfl
    have hfree:∀i,mg ops i=true->mF ops (jQ ops.toList []) i=false:=by
     intro i hf;unfold mF;rw [hf];simp
    have hfin:∀ (i:Nat) r,rs[i]? = some r->mF ops (jQ ops.toList []) i=false->r.fin=none:=by
     intro i r hr hi;have hone:=C.one i r hr;unfold vM at hone;rw [hi] at hone;simp only [gQ,if_false] at hone;exact agG hone
    have aiM:∀ (i:Nat) r,rs[i]? = some r->mg ops i=true->r.upd=[]:=by
     intro i r hr hf;have hone:=C.one i r hr;unfold vM at hone;rw [hfree i hf] at hone;simp only [gQ,if_false] at hone;unfold mg at hf;split at hf
     ·next o ho=>exact (SX ho hf hone).1
     ·cases hf
    let wd:World:={ w with drawn:=w.drawn+1 }
    cases hs
    refine YJ C.tooU (λD η1 w1 A1=>((∀i,i < ops.size->mF ops (jQ ops.toList []) i=true->D i=false)/\zD P ops rs a σ c η wd D η1 w1 A1)\/
     ∃m,m < ops.size/\mF ops (jQ ops.toList []) m=true/\Closed ops D/\(∀j,j < ops.size->mg ops j=false->D j=decide (j<=m))/\∃r τ,rs[m]? = some r/\r.fin=some τ/\St P η σ wd η1 τ w1/\TR P η1 { t:=iG (iy rs) 0 D a.t,n:=a.n,gn:=a.gn } A1) ?_ ?_ ops.size (Array.replicate ops.size false) η _ A (by simp) (by simp) (.inl ⟨λi _ _=>by rw [hempty],by rw [hempty];exact start⟩)
    ·intro D η1 w1 A1 i K Q' hinv hil hi xQ hK'
     obtain ⟨o,ho⟩:∃o,ops[i]? = some o:=⟨ops[i],by simp [hil]⟩
     obtain ⟨r,hr⟩:∃r,rs[i]? = some r:=⟨_,bU (by rw [h2];exact hil)⟩
     have fB:=xQ o ho;rcases hinv with ⟨hD,hinv⟩ | ⟨m,hm2,Us,hcl,Hu,r1,τ1,hr1,hf1,hst1,Kw⟩
     ·by_cases hla:mF ops (jQ ops.toList []) i=true
      ·
        obtain ⟨hnf,hord⟩:=hlast i hil hla;have Uf:∀j,j < ops.size->mg ops j=false->D j=decide (j < i):=by
         intro j hj oH;by_cases h1:j < i
         ·have:D j=true:=C.ou hinv.closed i o ho fB j ((hord j h1).resolve_left (by rw [oH];simp))
          rw [this];simp [h1]
         ·have:D j=false:=hD j hj ((hup i j (by omega) hj hla).resolve_right (by rw [oH];simp))
          rw [this];simp [h1]
        have aiE:∀j,j < i->mF ops (jQ ops.toList []) j=false:=by
         intro j hj;cases e:mF ops (jQ ops.toList []) j with
         | false=>rfl
         | true=>
           have h1:=hD j (by omega) e;rw [Uf j (by omega) (hlast j (by omega) e).1] at h1;exact absurd hj (of_decide_eq_false h1)
        have ajd:∀b,(gU ((fJ rs).take i) σ.h).get b=(iG (fJ rs) 0 D σ.h).get b:=by
         intro b;rw [Ho (fJ rs) i 0,Aa];congr 1;refine Ia _ _ _ _ _ λj u hj hne=>?_;have hjl:j < ops.size:=by have:=(dS.1 hj).1;simp [fJ] at this;omega
         simp only [jk] at hne;cases oH:mg ops j with
         | false=>exact absurd (Uf j hjl oH).symm hne
         | true=>
           obtain ⟨r',hr',hu⟩:=LM hj;rw [aiM j r' hr' oH] at hu;subst hu;rfl
        have Hw:iU (σ.next+ops.size) rs i=c:=by
         have:=C.adW (l:=i) (λk h1 h2=>hup i k h1 h2 hla) (ops.size - i) (by omega);rw [show i+(ops.size - i)=ops.size by omega] at this;rw [<- this];exact C.fin.symm
        have hts:∀σ1,tX (rs.take i) σ1=σ1:=λσ1=>Xv i (by omega) λj r' h1 h2=>hfin j r' h2 (aiE j h1);refine C.last hcall hinv.closed ho hr hi fB hla (η:=η) (w0:=wd) (η1:=η1) ?_ hinv.tr λη' A' w' τ hf hst htr=>hK' η' A' w' (.inr ⟨i,hil,hla,NM hinv.closed xQ, ?_,r,τ,hr,hf,hst,htr⟩)
        ·rw [hts]
         refine hinv.st.sub (λid' o' ho'=>?_) (Gf Hw.symm) rfl;rw [show (ak.get { h:=iG (fJ rs) 0 D σ.h,next:=c,lock:=σ.lock } id')=(iG (fJ rs) 0 D σ.h).get id' from rfl,<- ajd];exact ho'
        ·intro j hj oH
         unfold fV;rw [Uf j hj oH];by_cases e:j=i
         ·subst e;simp
         ·rw [vS e,zC];congr 1;apply propext;omega
      ·have hnl:mF ops (jQ ops.toList []) i=false:=by simpa using hla
       refine C.step hcall h.drew hinv hil hi xQ hnl λη' A' w' hinv'=>hK' η' A' w' (.inl ⟨λj hj hjl=>?_,hinv'⟩);have hji:j≠i:=λe=>by subst e;rw [hnl] at hjl;cases hjl
       unfold fV;rw [hD j hj hjl,vS hji];rfl
     ·cases hif:mg ops i with
      | true=>
        have hof:zX o=true:=by unfold mg at hif;rw [ho] at hif;exact hif
        refine C.free hcall hcl ho hr hi fB hof hst1 Kw λη' A' w' hst htr=>hK' η' A' w' (.inr ⟨m,hm2,Us,NM hcl xQ, ?_,r1,τ1,hr1,hf1,hst,htr⟩);intro j hj oH;have hji:j≠i:=λe=>by subst e;rw [hif] at oH;cases oH
        unfold fV;rw [Hu j hj oH,vS hji,zC]
      | false=>
        have him:¬ i<=m:=by
         intro hle;rw [Hu i hil hif] at hi;exact of_decide_eq_false hi hle
        have hla:mF ops (jQ ops.toList []) i=true:=(hup m i (by omega) hil Us).resolve_right (by rw [hif];simp);have hmid:∀j,m < j->j < i->mg ops j=true:=by
         intro j h1 h2;cases oH:mg ops j with
         | true=>rfl
         | false=>
           have h8:D j=true:=C.ou hcl i o ho fB j (((hlast i hil hla).2 j h2).resolve_left (by rw [oH];simp));rw [Hu j (by omega) oH] at h8;have:=Ak h8;omega
        have hts:∀σ1,tX (rs.take i) σ1=τ1:=λσ1=>Xw hr1 hf1 i (by omega) (by omega) λj r' h1 h2 h3=>hfin j r' h3 (hfree j (hmid j h1 h2));refine C.last hcall hcl ho hr hi fB hla (η:=η) (w0:=wd) (η1:=η1) (by rw [hts];exact hst1) Kw λη' A' w' τ hf hst htr=>hK' η' A' w' (.inr ⟨i,hil,hla,NM hcl xQ, ?_,r,τ,hr,hf,hst,htr⟩);intro j hj oH;unfold fV;rw [Hu j hj oH];by_cases e:j=i
        ·subst e;simp
        ·rw [vS e,zC]
         congr 1;apply propext;constructor
         ·omega
         ·intro h1
          apply Classical.byContradiction;intro h2;have:=hmid j (by omega) (by omega);rw [this] at oH;cases oH
    ·intro η1 A1 w1 hinv
     rcases hinv with ⟨hD,hinv⟩ | ⟨m,hm2,Us,hcl,Hu,r1,τ1,hr1,hf1,hst1,Kw⟩
     ·have aiW:∀i,i < ops.size->mF ops (jQ ops.toList []) i=false:=by
       intro i hi;cases e:mF ops (jQ ops.toList []) i with
       | false=>rfl
       | true=>have:=hD i hi e;simp at this;omega
      have hts:tX rs { h:=hh,next:=c,lock:=σ.lock } = { h:=hh,next:=c,lock:=σ.lock }:=by
       have:=Xv (rs:=rs) (σ:={ h:=hh,next:=c,lock:=σ.lock }) rs.length (dJ _) λj r' h1 h2=>hfin j r' h2 (aiW j (by omega));rwa [yx] at this
      rw [hts] at hK;have aje:iG (fJ rs) 0 (λj=>decide (j < ops.size)) σ.h=hh:=by
       rw [h4];exact Ou _ _ _ _ (λj hj=>by simp [fJ] at hj ⊢;omega)
      have hst:=hinv.st;have htr:=hinv.tr;rw [aje] at hst;rw [OU] at htr;exact hK η1 A1 w1 ((St.drew h).trans hst) htr
     ·have hts:∀σ1,tX rs σ1=τ1:=by
       intro σ1;have:=Xw (σ:=σ1) hr1 hf1 rs.length (by omega) (dJ _) λj r' h1 h2 h3=>by
        refine hfin j r' h3 (hfree j ?_);cases oH:mg ops j with
        | true=>rfl
        | false=>
          have h9:decide (j < ops.size)=decide (j<=m):=Hu j (by omega) oH;have h10:decide (j < ops.size)=true:=by simp;omega
          rw [h10] at h9;have:=Ak h9.symm;omega
       rwa [yx] at this
      rw [hts] at hK;rw [OU] at Kw;exact hK η1 A1 w1 ((St.drew h).trans hst1) Kw
   ·cases hs
  ·cases hs
 ·cases hs
section
variable {call:Caller} {ops:Array Oper} {M:List Nat} {N0 gn n:Nat}
theorem ajU {o:Oper} (hf:Vb o=true) {ev:Operand->Option AV} {σ1 σ2 τ:ak} {v:Option AV} (hs:l9 P call o ev σ1=some (v,τ)):l9 P call o ev σ2=some (v,σ2):=by
 obtain ⟨dst,op,type,pos,after,guard⟩:=o;cases op with
 | move x=>
   simp only [sW,pY,dA,aX,jX] at hs ⊢;obtain ⟨u,h1,h2,_⟩:=hs;exact ⟨u,h1,h2,trivial⟩
 | assign x=>
   simp only [sW,pY,dA,aX,jX] at hs ⊢;obtain ⟨u,h1,h2,_⟩:=hs;exact ⟨u,h1,h2,trivial⟩
 | nilCheck x=>
   rw [show l9 P call _ ev σ1=Oh P call ev σ1 x from rfl] at hs;rw [show l9 P call _ ev σ2=Oh P call ev σ2 x from rfl];unfold Oh at hs ⊢;split at hs<;>simp only [dA,gy,aT,jX,reduceCtorEq] at hs ⊢<;>exact ⟨hs.1,trivial⟩
 | fieldAddr ty x f=>
   rw [show l9 P call _ ev σ1=Oe P call ev σ1 ty x f from rfl] at hs;rw [show l9 P call _ ev σ2=Oe P call ev σ2 ty x f from rfl];unfold Oe at hs ⊢;split at hs
   ·simp only [dA,aX,jX] at hs ⊢
    obtain ⟨u,h1,h2,_⟩:=hs;exact ⟨u,h1,h2,trivial⟩
   ·cases hs
 | _=>simp [Vb] at hf
theorem ajW {i:Nat} {t:Tr AV} {r:bQ} {e:Option (List UInt8×AV)} (h:Pn P call ops M N0 gn n i t=some (r,e)):∃o v,ops[i]? = some o/\o.guard=none/\r=KG (N0+1) (l7 o v)/\
 ((i=0/\e=none/\v=some (.mp N0)/\∃ty,o.op=.makeMap ty none)\/
  (i≠0/\v=none/\∃ty m k x s u,o.op=.insert ty m k x/\aV.eval { t:=gY t (o.looksAt ops),n:=n,gn:=gn } m=some (.mp N0)/\aV.eval { t:=gY t (o.looksAt ops),n:=n,gn:=gn } k=some (.s s)/\aV.eval { t:=gY t (o.looksAt ops),n:=n,gn:=gn } x=some u/\Pj P ty=true/\qw M 0 i=true/\e=some (s,u))\/
  (i≠0/\e=none/\∀σ2,l9 P call o (aV.eval { t:=gY t (o.looksAt ops),n:=n,gn:=gn }) σ2=some (v,σ2))):=by
 unfold Pn at h;split at h
 ·cases h
 ·next o ho=>
  split at h
  ·cases h
  ·next hg=>
   split at h
   ·next hi=>
    have hi:=bC hi;split at h
    ·next ty hop=>
     cases h;exact ⟨o,_,ho,hg,rfl,.inl ⟨hi,rfl,rfl,ty,hop⟩⟩
    ·cases h
   ·next hi=>
    have hi:i≠0:=λe=>by subst e;exact hi rfl
    split at h
    ·next ty m k x hop=>
     split at h
     ·next id s u e1 e2 e3=>
      split at h
      ·next hc=>
       cases h;simp only [aI] at hc;have:=bC hc.1.1;subst this;exact ⟨o,_,ho,hg,rfl,.inr (.inl ⟨hi,rfl,ty,m,k,x,s,u,hop,e1,e2,e3,hc.1.2,hc.2,rfl⟩)⟩
      ·cases h
     ·cases h
    ·split at h
     ·next hf=>
      split at h
      ·next v τ hv=>
       cases h;exact ⟨o,v,ho,hg,rfl,.inr (.inr ⟨hi,rfl,λσ2=>ajU hf hv⟩)⟩
      ·cases h
     ·cases h
theorem abI:∀ (m i:Nat) (t:Tr AV) (l:List (bQ×Option (List UInt8×AV))) (t':Tr AV),Pg P call ops M N0 gn n m i t=some (l,t')->
 l.length=m/\t'=gU (iy (l.map (·.1))) t/\∀ (k:Nat) r,l[k]? = some r->Pn P call ops M N0 gn n (i+k) (gU ((iy (l.map (·.1))).take k) t)=some r
 | 0,i,t,l,t',h=>by
   cases h;exact ⟨rfl,rfl,λk r hr=>by simp at hr⟩
 | m+1,i,t,l,t',h=>by
   unfold Pg at h;split at h
   ·cases h
   ·next r hr=>
    split at h
    ·cases h
    ·next l2 t2 hl=>
     cases h;obtain ⟨h1,h2,h3⟩:=abI m _ _ _ _ hl;refine ⟨by simp [h1],by rw [h2];rfl,λk r' hk=>?_⟩;cases k with
     | zero=>simp only [iI,aT] at hk;subst hk;exact hr
     | succ k=>
       simp only [qI] at hk;have:=h3 k r' hk;rw [show i+1+k=i+(k+1) by omega] at this;exact this
theorem Tq:∀ (es:List (Option (List UInt8×AV))) (k:Nat) (D:Nat->Bool),(∀ (j:Nat) e,es[j]? = some (some e)->D (k+j)=false)->jl es k D=[]
 | [],_,_,_=>rfl
 | none::l,k,D,h=>by
   rw [jl];exact Tq l (k+1) D λj e hj=>by have:=h (j+1) e (by simpa using hj);rwa [show k+(j+1)=k+1+j by omega] at this
 | some x::l,k,D,h=>by
   have h0:=h 0 x (by simp);simp only [lY] at h0;rw [jl,h0];exact Tq l (k+1) D λj e hj=>by have:=h (j+1) e (by simpa using hj);rwa [show k+(j+1)=k+1+j by omega] at this
theorem Tn:∀ (es:List (Option (List UInt8×AV))) (k:Nat) (D:Nat->Bool),(∀j,j < es.length->D (k+j)=true)->jl es k D=es.filterMap id
 | [],_,_,_=>rfl
 | none::l,k,D,h=>by
   rw [jl,Tn l (k+1) D λj hj=>by have:=h (j+1) (by simpa using hj);rwa [show k+(j+1)=k+1+j by omega] at this];rfl
 | some x::l,k,D,h=>by
   have h0:=h 0 (by simp);simp only [lY] at h0;rw [jl,h0,Tn l (k+1) D λj hj=>by have:=h (j+1) (by simpa using hj);rwa [show k+(j+1)=k+1+j by omega] at this];rfl
theorem N8:∀ (es:List (Option (List UInt8×AV))) (k:Nat) (D E:Nat->Bool),(∀ (j:Nat) e,es[j]? = some (some e)->D (k+j)=E (k+j))->jl es k D=jl es k E
 | [],_,_,_,_=>rfl
 | none::l,k,D,E,h=>by
   rw [jl,jl];exact N8 l (k+1) D E λj e hj=>by have:=h (j+1) e (by simpa using hj);rwa [show k+(j+1)=k+1+j by omega] at this
 | some x::l,k,D,E,h=>by
   have h0:=h 0 x (by simp);simp only [lY] at h0;rw [jl,jl,h0,N8 l (k+1) D E λj e hj=>by have:=h (j+1) e (by simpa using hj);rwa [show k+(j+1)=k+1+j by omega] at this]
theorem Tj:∀ (es:List (Option (List UInt8×AV))) (k i:Nat) (D:Nat->Bool) (e:List UInt8×AV),es[i]? = some (some e)->D (k+i)=false->(jl es k (fV D (k+i))).Perm (e::jl es k D)
 | [],_,i,_,_,h,_=>by simp at h
 | x::l,k,0,D,e,h,hD=>by
   simp only [iI,aT] at h;subst h;simp only [lY] at hD ⊢;have h1:fV D k k=true:=by unfold fV;simp
   rw [jl,jl,h1,hD,N8 l (k+1) (fV D k) D λj e' _=>by unfold fV;rw [vS (by omega),zC]];exact L9 _
 | none::l,k,i+1,D,e,h,hD=>by
   rw [jl,jl,show k+(i+1)=k+1+i by omega] at *;exact Tj l (k+1) i D e (by simpa using h) hD
 | some x::l,k,i+1,D,e,h,hD=>by
   have h1:fV D (k+(i+1)) k=D k:=by unfold fV;rw [vS (by omega),zC]
   rw [jl,jl,h1];have ih:=Tj l (k+1) i D e (by simpa using h) (by rwa [show k+1+i=k+(i+1) by omega]);rw [show k+1+i=k+(i+1) by omega] at ih;cases D k with
   | true=>exact (ih.cons x).trans (List.Perm.swap e x _)
   | false=>exact ih
theorem N9:∀ (es:List (Option (List UInt8×AV))) (k:Nat) (D:Nat->Bool),∀e∈jl es k D,∃j,es[j]? = some (some e)/\D (k+j)=true
 | [],_,_,e,h=>by simp [jl] at h
 | none::l,k,D,e,h=>by
   rw [jl] at h;obtain ⟨j,h1,h2⟩:=N9 l (k+1) D e h;exact ⟨j+1,by simpa using h1,by rwa [show k+(j+1)=k+1+j by omega]⟩
 | some x::l,k,D,e,h=>by
   rw [jl] at h;split at h
   ·next hk=>
    rcases bZ.1 h with rfl | h
    ·exact ⟨0,by simp,by simpa using hk⟩
    ·obtain ⟨j,h1,h2⟩:=N9 l (k+1) D e h
     exact ⟨j+1,by simpa using h1,by rwa [show k+(j+1)=k+1+j by omega]⟩
   ·obtain ⟨j,h1,h2⟩:=N9 l (k+1) D e h
    exact ⟨j+1,by simpa using h1,by rwa [show k+(j+1)=k+1+j by omega]⟩
theorem acA:∀ {l:List (List UInt8)},PW l=true->l.Nodup
 | [],_=>List.nodup_nil
 | s::l,h=>by
   simp only [PW,aI,vZ] at h;refine Yl.2 ⟨λhm=>?_,acA h.2⟩;have:(l.any λx=>x==s)=true:=List.any_eq_true.2 ⟨s,hm,by simp⟩;rw [h.1] at this;cases this
theorem Vw:∀ {es:List (Option (List UInt8×AV))},((es.filterMap id).map (·.1)).Nodup->∀ (i j:Nat) e f,es[i]? = some (some e)->es[j]? = some (some f)->i≠j->e.1≠f.1
 | [],_,i,j,e,f,h,_,_=>by simp at h
 | none::l,hn,i,j,e,f,h1,h2,hne=>by
   cases i with
   | zero=>simp at h1
   | succ i=>
     cases j with
     | zero=>simp at h2
     | succ j=>exact Vw (es:=l) (by simpa using hn) i j e f (by simpa using h1) (by simpa using h2) (by omega)
 | some x::l,hn,i,j,e,f,h1,h2,hne=>by
   simp only [List.filterMap_cons_some (f:=id) (a:=some x) (b:=x) rfl,ji,Yl,nM,not_exists,not_and] at hn;have mem:∀ (k:Nat) g,l[k]? = some (some g)->g∈l.filterMap id:=λk g hk=>List.mem_filterMap.2 ⟨some g,rE hk,rfl⟩;cases i with
   | zero=>
     simp only [iI,aT] at h1;subst h1;cases j with
     | zero=>exact absurd rfl hne
     | succ j=>exact λe'=>hn.1 f (mem j f (by simpa using h2)) e'.symm
   | succ i=>
     cases j with
     | zero=>
       simp only [iI,aT] at h2;subst h2;exact λe'=>hn.1 e (mem i e (by simpa using h1)) e'
     | succ j=>exact Vw hn.2 i j e f (by simpa using h1) (by simpa using h2) (by omega)
theorem aaH {s:List UInt8}:∀ (es:List (AV×AV)) (i:Nat),(∀e∈es,∃t,e.1=.s t/\t≠s)->yR (.s s) es i=some none
 | [],_,_=>rfl
 | e::es,i,h=>by
   obtain ⟨t,h1,h2⟩:=h e (by simp);have hk:KA (.s s) e.1=some false:=by
    rw [h1];simp only [KA,aT,beq_eq_false_iff_ne,ne_eq];exact λe'=>h2 e'.symm
   unfold yR;rw [hk];exact aaH es (i+1) λe he=>h e (by simp [he])
theorem St.weak {η η1:Env} {σ τ:ak} {w w1:World} (h:St P η σ w η1 τ w1) {id:Nat} {o o':bf} (hg:τ.get id=some o) (ho:o'.own=o.own) (hl:Live P η1 w1 id o'):St P η σ w η1 (τ.put id o') w1:=
 { h with
   rel:=h.rel.swap hg ho hl
   own:=λid2 o2 q a b c d=>by
    rw [ak.get_put] at a;split at a
    ·next e=>cases a;subst e;exact h.own id2 o q hg (by rw [<- ho];exact b) c d
    ·exact h.own id2 o2 q a b c d }
theorem amj {η:Env} {q:Place} {w:World} {es:List (List UInt8×AV)} {es':List (AV×AV)} (hn:(es.map (·.1)).Nodup) (hp:es'.Perm (es.map λe=>(AV.s e.1,e.2))) (h:OR P η q w (.map es')):OR P η q w (.pmap es):=by
 obtain ⟨ms,clock,h1,h2,h3⟩:=h;refine ⟨hn,ms,clock, ?_⟩;have key:∀ (l l':List (AV×AV)),l.Perm l'->∀ms:List MapEntry,wE η l ms->∃ms',ms.Perm ms'/\wE η l' ms':=by
  intro l l' hp;induction hp with
  | nil=>exact λms h=>⟨ms,L9 _,h⟩
  | cons x hp ih=>
    intro ms h;obtain ⟨m,rest,rfl,a,b,c⟩:=h.tail;obtain ⟨ms',h1,h2⟩:=ih rest c;refine ⟨m::ms',h1.cons m,by simp [h2.1],λk e hk=>?_⟩;cases k with
    | zero=>simp only [iI,aT] at hk;subst hk;exact ⟨m,by simp,a,b⟩
    | succ k=>simpa using h2.2 k e (by simpa using hk)
  | swap x y l=>
    intro ms h;obtain ⟨m,rest,rfl,a,b,c⟩:=h.tail;obtain ⟨m2,ank,rfl,a2,b2,c2⟩:=c.tail;refine ⟨m2::m::ank,List.Perm.swap _ _ _,by simp [c2.1],λk e hk=>?_⟩;match k with
    | 0=>simp only [iI,aT] at hk;subst hk;exact ⟨m2,by simp,a2,b2⟩
    | 1=>simp only [qI,iI,aT] at hk;subst hk;exact ⟨m,by simp,a,b⟩
    | k+2=>simpa using c2.2 k e (by simpa using hk)
  | trans _ _ ih1 ih2=>
    intro ms h;obtain ⟨ms1,a,b⟩:=ih1 ms h;obtain ⟨ms2,c,d⟩:=ih2 ms1 b;exact ⟨ms2,a.trans c,d⟩
 obtain ⟨ms',a,b⟩:=key _ _ hp ms.toList ⟨by simpa using h2,λk e hk=>by obtain ⟨m,hm,x,y⟩:=h3 k e hk;exact ⟨m,by simpa using hm,x,y⟩⟩;refine ⟨ms',h1,a,by simpa using b.1,λk e hk=>?_⟩;obtain ⟨m,hm,x,y⟩:=b.2 k (AV.s e.1,e.2) (by rw [jg,hk];rfl);exact ⟨m,hm,by simpa only [VR] using x,y⟩
theorem ajV {t:TypeId} (h:Pj P t=true):∃kt et,P.underlying t=some (.map kt et)/\P.underlying kt=some .string:=by
 unfold Pj at h;split at h
 ·next kt et hu=>
  split at h
  ·next hk=>exact ⟨kt,et,hu,hk⟩
  ·cases h
 ·cases h
end
theorem ajY (hm:P.follows .mixedOrders=true):I8 P (Va P):=by
 intro call hcall ops a σ a' σ' hs η w A rid Q h ht hK;unfold Va at hs;split at hs;rotate_left
 ·cases hs
 next hlit=>
 simp only at hs;split at hs;rotate_left
 ·cases hs
 next hok=>
 simp only [aI] at hok;split at hs;rotate_left
 ·cases hs
 next l t hgo=>
 split at hs;rotate_left
 ·cases hs
 next uJ=>
 simp only [aI] at uJ;obtain ⟨⟨Hz,hsl⟩,aiU⟩:=uJ;have hnd:=acA aiU;obtain ⟨hlen,ht',hone⟩:=abI _ _ _ _ _ hgo;have abd:=qM hok.2;have hes:l.filterMap (·.2)=(l.map (·.2)).filterMap id:=by rw [List.filterMap_map];rfl
 rw [hes] at hs hnd;have ent:∀ (j:Nat) e,(l.map (·.2))[j]? = some (some e)->∃r,l[j]? = some (r,some e):=λj e hj=>by
  rw [jg] at hj;obtain ⟨x,h1,h2⟩:=aX.1 hj;exact ⟨x.1,by rw [h1,<- h2]⟩
 have adh:∀ (i:Nat) r,(l.map (·.1))[i]? = some r->∃e,l[i]? = some (r,e):=λi r hr=>by
  rw [jg] at hr;obtain ⟨x,h1,h2⟩:=aX.1 hr;exact ⟨x.2,by rw [h1,<- h2]⟩
 have spec:∀ (i:Nat) r e,l[i]? = some (r,e)->_:=λi r e hr=>ajW (hone i (r,e) hr);simp only [jk] at spec
 have C:oU ops (jQ ops.toList []) (l.map (·.1)) a.n (σ.next+1):={
  hM:=rfl
  Vo:=hok.1
  len:=by simpa using hlen
  pairs:=by
   refine acO Hz ?_ λi r hr=>?_
   ·unfold NW
    rw [List.all_eq_true];intro p hp;obtain ⟨s,j⟩:=p;rw [Yk] at hp;obtain ⟨e,he⟩:=adh j s (by simpa using hp);obtain ⟨o,v,_,_,h3,_⟩:=spec j s e he;subst h3;simp [KG]
   ·obtain ⟨e,he⟩:=adh i r hr
    obtain ⟨o,v,h1,_,h3,_⟩:=spec i r e he;subst h3;exact ⟨o,v,h1,rfl⟩
  slot:=by
   intro i r hr;unfold Qr at hsl;rw [List.all_eq_true] at hsl;have:=hsl r (rE hr);simp only [aI] at this;refine ⟨Nat.le_of_ble_eq_true this.1,λp hpm=>?_⟩;have h8:=this.2;rw [List.all_eq_true] at h8;have:=h8 p hpm;rwa [iW] at this }
 refine wp_region_any hm ?_;have hempty:inB (Array.replicate ops.size false)=λ_=>false:=by
  funext j;unfold inB;rw [vY,aeB];split<;>rfl
 have hno:∀ {α:Type} (us:List (List (Nat×Option α))) (k:Nat) (t:Tr α),iG us k (λ_=>false) t=t:=by
  intro α us;induction us with
  | nil=>intro k t;rfl
  | cons u us ih=>intro k t;rw [iG];simp only [gQ,if_false];exact ih _ _
 have OU:iG (iy (l.map (·.1))) 0 (λj=>decide (j < ops.size)) a.t=t:=by
  rw [ht'];exact Ou _ _ _ _ (λj hj=>by simp [iy] at hj ⊢;omega)
 cases hs;let wd:World:={ w with drawn:=w.drawn+1 }
 have Ua:∀o,(σ.new o).get σ.next=some o:=λo=>by rw [ak.pJ];simp
 have ac8:∀o o' id x,(σ.new o').get id=some x->((σ.new o).put σ.next o').get id=some x:=λo o' id x hx=>by
  rw [ak.get_put];rw [ak.pJ] at hx ⊢;by_cases e:id=σ.next
  ·rw [aj e] at hx ⊢;exact hx
  ·rw [ah e] at hx ⊢;rw [ah e];exact hx
 have hpos:0 < ops.size/\∃ty o,ops[0]? = some o/\o.op=.makeMap ty none:=by
  unfold isLit at hlit;split at hlit
  ·next o ho=>
   split at hlit
   ·next ty hop=>exact ⟨(oQ.1 ho).1,ty,o,ho,hop⟩
   ·cases hlit
  ·cases hlit
 refine YJ C (λD η1 w1 A1=>Closed ops D/\TR P η1 { t:=iG (iy (l.map (·.1))) 0 D a.t,n:=a.n,gn:=a.gn } A1/\(D 0=false->St P η σ wd η1 σ w1)/\
  (D 0=true->∃es',es'.Perm ((jl (l.map (·.2)) 0 D).map λe=>(AV.s e.1,e.2))/\St P η σ wd η1 (σ.new (.map es')) w1)) ?_ ?_ ops.size (Array.replicate ops.size false) η _ A (by simp) (by simp) ?_
 ·intro D η1 w1 A1 i K Q' hinv hil hi xQ hK'
  obtain ⟨hcl,htr,Hz,hst1⟩:=hinv;obtain ⟨o,ho⟩:∃o,ops[i]? = some o:=⟨ops[i],by simp [hil]⟩
  obtain ⟨⟨r,e⟩,hl⟩:∃x,l[i]? = some x:=⟨_,bU (by rw [hlen];exact hil)⟩
  have hr:(l.map (·.1))[i]? = some r:=by rw [jg,hl];rfl
  have fB:=xQ o ho;obtain ⟨o',v,ho',hg,hrec,hcase⟩:=spec i r e hl;rw [ho] at ho';cases ho';have hact:TR P η1 { t:=gY (gU ((iy (l.map (·.1))).take i) a.t) (o.looksAt ops),n:=a.n,gn:=a.gn } A1:=by
   refine ⟨htr.gn,htr.size,htr.none,λd v hv=>?_⟩;rw [xO] at hv;split at hv
   ·next hd=>
    rw [C.Xa (a0:=a) hcl ho hr hi fB hd] at hv;exact htr.slot d v hv
   ·cases hv
  have hnext:=λd=>C.J5 (a0:=a) hcl ho hr hi fB d;have abh:=(C.slot i r hr).2;have Hw:=NM hcl xQ;rw [hrec] at hnext abh;have hw:A8 o ops { t:=gY (gU ((iy (l.map (·.1))).take i) a.t) (o.looksAt ops),n:=a.n,gn:=a.gn }=some true:=by
   unfold A8;rw [hg]
  have step:∀ {τ τ':ak},SR P η1 τ w1->pY P call o (aV.eval { t:=gY (gU ((iy (l.map (·.1))).take i) a.t) (o.looksAt ops),n:=a.n,gn:=a.gn }) τ=some (v,τ')->
   (∀η' A' w',St P η1 τ w1 η' τ' w'->TR P η' { t:=iG (iy (l.map (·.1))) 0 (fV D i) a.t,n:=a.n,gn:=a.gn } A'->K A' w')->wpOp P ops Q' i K A1 w1:=by
   intro τ τ' hsr hop hk;unfold wpOp;rw [ho];simp only;rw [Ba hact hw];simp only [if_true];left;exact MZ hsr hcall hact hop λx η' w' hst2 hx=>hk η' _ w' hst2 (htr.add hst2.ext hnext abh hx)
  have other:e=none->i≠0->jl (l.map (·.2)) 0 (fV D i)=jl (l.map (·.2)) 0 D:=by
   intro he _;refine N8 _ _ _ _ λj f hj=>?_;simp only [jk];have:j≠i:=by
    rintro rfl
    obtain ⟨r2,h2⟩:=ent j f hj;rw [hl,he] at h2;cases h2
   unfold fV;rw [vS this,zC]
  rcases hcase with ⟨hi0,he,hv,ty,hop⟩ | ⟨hi0,hv,ty,m,k,x,s,u,hop,e1,e2,e3,hlk,hord,he⟩ | ⟨hi0,he,hfr⟩
  ·
    subst hi0;have hst:=Hz hi;have aiX:∀ (j:Nat) f,(l.map (·.2))[j]? = some (some f)->D j=false:=by
     intro j f hj;obtain ⟨r2,h2⟩:=ent j f hj;obtain ⟨o2,v2,ho2,_,_,hc2⟩:=spec j r2 _ h2;rcases hc2 with ⟨_,hx,_⟩ | ⟨_,_,_,_,_,_,_,_,_,_,_,_,_,ai0,_⟩ | ⟨_,hx,_⟩
     ·cases hx
     ·cases xP:D j with
      | false=>rfl
      | true=>
        have:=C.ou hcl j o2 ho2 (λe' he' hb=>hcl j o2 xP ho2 e' he' hb) 0 ai0;rw [hi] at this;cases this
     ·cases hx
    refine step hst.rel (τ':=σ.new (.map [])) ?_ λη' A' w' hst2 Ej=>hK' η' A' w' ⟨Hw,Ej,λh0=>?_,λ_=>⟨[], ?_,hst.trans hst2⟩⟩
    ·have h14:∀ev,l9 P call o ev σ=aaC P call ev σ ty none:=λev=>by unfold l9;rw [hop];rfl
     rw [hv,<- sW,h14];rfl
    ·exfalso
     unfold fV at h0;simp at h0
    ·have hz:jl (l.map (·.2)) 0 (fV D 0)=[]:=by
      refine Tq _ _ _ λj f hj=>?_;simp only [jk];have h1:=aiX j f hj;have:j≠0:=by
       rintro rfl
       obtain ⟨r2,h2⟩:=ent 0 f hj;rw [hl,he] at h2;cases h2
      unfold fV;rw [vS this,h1];rfl
     rw [hz];exact L9 _
  ·
    have hD0:D 0=true:=C.ou hcl i o ho fB 0 hord;obtain ⟨es',hperm,hst⟩:=hst1 hD0;obtain ⟨kt,et,hu1,hu2⟩:=ajV hlk;have hel:(l.map (·.2))[i]? = some (some (s,u)):=by rw [jg,hl,he];rfl
    have hfind:yR (.s s) es' 0=some none:=by
     refine aaH es' 0 λf hf=>?_;have hf2:=hperm.mem_iff.1 hf;obtain ⟨g,hg1,hg2⟩:=nM.1 hf2;obtain ⟨j,hj1,hj2⟩:=N9 _ _ _ g hg1;simp only [jk] at hj2;refine ⟨g.1,by rw [<- hg2], ?_⟩;exact Vw hnd j i g (s,u) hj1 hel (by rintro rfl;rw [hi] at hj2;cases hj2)
    refine step hst.rel (τ':=(σ.new (.map es')).put σ.next (.map (es'++[(.s s,u)]))) ?_ λη' A' w' hst2 Ej=>hK' η' A' w' ⟨Hw,Ej,λh0=>?_,λ_=>⟨es'++[(.s s,u)], ?_, ?_⟩⟩
    ·have hfit:G9 P kt (.s s)=true:=by unfold G9;rw [hu2]
     have hup:Gn P ty (.mp σ.next) (.s s) u (σ.new (.map es'))=some ((σ.new (.map es')).put σ.next (.map (es'++[(.s s,u)]))):=by
      unfold Gn;rw [hu1];simp only [Ua];rw [aj ⟨abd,hfit⟩,hfind]
     have h22:∀ev,l9 P call o ev (σ.new (.map es'))=Og P call ev (σ.new (.map es')) ty m k x:=λev=>by unfold l9;rw [hop];rfl
     rw [hv,<- sW,h22];unfold Og;rw [e1,e2,e3];simp only [hup,jr,Fj,gy]
    ·exfalso
     unfold fV at h0;rw [hD0] at h0;simp at h0
    ·have hp2:=Tj (l.map (·.2)) 0 i D (s,u) hel (by simpa using hi)
     simp only [jk] at hp2;refine List.Perm.trans ?_ (hp2.map λe=>(AV.s e.1,e.2)).symm;rw [ji];exact (List.perm_append_singleton _ _).trans (hperm.cons _)
    ·refine (hst.trans hst2).sub (λid' x' hx'=>ac8 _ _ _ _ hx') ?_ rfl
     exact dJ _
  ·
    cases hD0:D 0 with
    | false=>
      have hst:=Hz hD0;refine step hst.rel (τ':=σ) (by rw [<- sW];exact hfr σ) λη' A' w' hst2 Ej=>hK' η' A' w' ⟨Hw,Ej,λ_=>hst.trans hst2,λh0=>?_⟩;exfalso;unfold fV at h0;rw [hD0,vS (λe'=>hi0 e'.symm)] at h0;cases h0
    | true=>
      obtain ⟨es',hperm,hst⟩:=hst1 hD0;refine step hst.rel (τ':=σ.new (.map es')) (by rw [<- sW];exact hfr _) λη' A' w' hst2 Ej=>hK' η' A' w' ⟨Hw,Ej,λh0=>?_,λ_=>⟨es',by rw [other he hi0];exact hperm,hst.trans hst2⟩⟩;exfalso;unfold fV at h0;rw [hD0] at h0;simp at h0
 ·intro η1 A1 w1 hinv
  obtain ⟨hcl,htr,_,hst1⟩:=hinv;obtain ⟨es',hperm,hst⟩:=hst1 (by simpa using hpos.1);rw [Tn _ _ _ (λj hj=>by simp at hj ⊢;omega)] at hperm;rw [OU] at htr;refine hK η1 A1 w1 ((St.drew h).trans ?_) htr;obtain ⟨q,hq,hor⟩:=hst.rel.obj σ.next _ (Ua _) rfl;have:=hst.weak (o':=.pmap ((l.map (·.2)).filterMap id)) (Ua _) rfl (.inl ⟨q,hq,amj hnd hperm hor⟩);exact this.sub (λid' x' hx'=>ac8 _ _ _ _ hx') (dJ _) rfl
 ·rw [hempty]
  refine ⟨λi o hi=>by simp at hi, ?_,λ_=>St.refl h.drew,λh0=>by simp at h0⟩;rw [hno];exact ⟨ht.gn,ht.size,ht.none,ht.slot⟩
theorem ZP (hm:P.follows .mixedOrders=true):I8 P (MN P):=by
 intro call hcall ops a σ a' σ' hs;unfold MN at hs;split at hs
 ·next r hr=>cases hs;exact ajY hm call hcall ops a σ a' σ' hr
 ·exact agO hm call hcall ops a σ a' σ' hs
end
end Go.aN
