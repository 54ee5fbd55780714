/- Regions whose order Go leaves open: one operation keeps the invariant. -/
import Derived.Test.YtpkihgnabejkkaaGreatDoorAbsF
namespace Go.aJ
noncomputable section
variable [aB]
set_option linter.unusedSectionVars false
set_option linter.unusedVariables false
set_option linter.unusedSimpArgs false
variable {P:Program}
structure tY (P:Program) (ops:Array Oper) (rs:List bU) (a0:aW) (σ0:ah) (cf:Nat) (η0:Env) (w0:World) (D:Nat→Bool) (η:Env) (w:World) (A:Act):Prop where
 closed:Closed ops D
 st:St P η0 σ0 w0 η { h:=iq (dU rs) 0 D σ0.h,next:=cf,lock:=σ0.lock } w
 tr:TR P η { t:=iq (iI rs) 0 D a0.t,n:=a0.n,gn:=a0.gn } A
 dm:∀id,η.has id→id < σ0.next∨(∃k,k < ops.size∧D k=true∧id=σ0.next+k)∨(∃ (j:Nat) (r:bU),rs[j]? = some r∧D j=true∧r.base≤id∧id < r.next)
theorem TR.add {η η':Env} {T T':Tr AV} {n gn:Nat} {A:Act} {o:Oper} {v:Option AV} {x:Value} (h:TR P η { t:=T,n:=n,gn:=gn } A) (hle:η.le η') (hg:∀d,T'.get d=(dJ (lG o v) d).getD (T.get d))
 (hb:∀p∈lG o v,p.1 < n) (hv:∀u,v=some u→VR η' u x):TR P η' { t:=T',n:=n,gn:=gn } (A.put o.dst x):=by
 have h':=h.mono hle
 unfold lG at hg hb
 cases hd:o.dst with
 | none=>
  rw [hd] at hg
  refine ⟨h.gn,h.size,h.none,fun d u hu=>?_⟩
  rw [hg] at hu
  exact h'.slot d u hu
 | some d0=>
  rw [hd] at hg hb
  have hd0:=hb (d0,v) (by simp)
  refine ⟨h.gn,by have:=h.size;simpa [Act.put] using this,h.none,fun d u hu=>?_⟩
  rw [hg] at hu
  simp only [dJ] at hu
  show ∃y,(A.tmps.setIfInBounds d0 x)[d]? = some y∧_
  rw [Array.getElem?_setIfInBounds]
  by_cases e:d=d0
  ·subst e
   rw [if_pos rfl,if_pos (by have:=h.size;simp only at this hd0;omega)]
   rw [if_pos rfl] at hu
   exact ⟨x,rfl,hv u hu⟩
  ·rw [if_neg (fun e'=>e e'.symm)]
   rw [if_neg e] at hu
   exact h'.slot d u hu
section
variable {call:Caller} {ops:Array Oper} {M:List Nat} {rs:List bU} {a0:aW} {σ0:ah} {cf:Nat} {η0 η:Env} {w0 w:World} {D:Nat→Bool} {A:Act} {i nn N0:Nat} {o:Oper} {r:bU}
def iR (D:Nat→Bool) (i:Nat):Nat→Bool:=fun j=>D j || Nat.beq j i
theorem amQ {rs:List bU} {i:Nat} {r:bU} (h:rs[i]? = some r):(dU rs)[i]? = some r.upd:=by simp [dU,h]
theorem alq {rs:List bU} {i:Nat} {r:bU} (h:rs[i]? = some r):(iI rs)[i]? = some r.slot:=by simp [iI,h]
theorem EJ {rs:List bU} {i:Nat} {u:List (Nat×Option aX)} (h:(dU rs)[i]? = some u):∃r,rs[i]? = some r∧r.upd=u:=by simpa [dU] using h
theorem abD {rs:List bU} {i:Nat} {u:List (Nat×Option AV)} (h:(iI rs)[i]? = some u):∃r,rs[i]? = some r∧r.slot=u:=by simpa [iI] using h
theorem BD {N0 i j:Nat} {r s:bU} {o:Oper} (ho:ops[i]? = some o) (h:Ej ops N0 i j r s=true):kT (keysOf r.slot) (keysOf s.slot)=true∧kT (o.looksAt ops) (keysOf s.slot)=true∧kT (keysOf r.upd) (keysOf s.upd)=true∧
 (∀l,r.vis=some l→kT l (keysOf s.upd)=true)∧(r.vis=none→i < j→(∀k∈keysOf s.upd,N0≤k)∧kT r.loc (keysOf s.upd)=true∧s.base=s.next)∧(r.vis=none→i≠j→j < i∨i < j):=by
 unfold Ej at h
 rw [ho] at h
 simp only [Bool.and_eq_true] at h
 obtain ⟨⟨⟨h1,h2⟩,h3⟩,h4⟩:=h
 refine ⟨h1,h2,h3, ?_, ?_,fun _ hne=>by omega⟩
 ·intro l hl;rw [hl] at h4;exact h4
 ·intro hn hij
  rw [hn] at h4
  simp only [Bool.or_eq_true,Bool.and_eq_true] at h4
  rcases h4 with h4 | ⟨⟨h5,h6⟩,h7⟩
  ·rw [Nat.blt_eq] at h4;omega
  ·refine ⟨fun k hk=>?_,h6,Nat.eq_of_beq_eq_true h7⟩
   rw [List.all_eq_true] at h5
   exact Nat.le_of_ble_eq_true (h5 k hk)
theorem lQ.YU (C:lQ ops M rs nn N0) (hD:Closed ops D) (ho:ops[i]? = some o) (hr:rs[i]? = some r) (hi:D i=false) (dZ:∀e∈o.after.toList,Region.binds .any e=true→D e.on=true) (b:Nat) :
 (iq (dU rs) 0 (iR D i) σ0.h).get b=(dJ r.upd b).getD ((iq (dU rs) 0 D σ0.h).get b):=by
 rw [uK,uK]
 have:=Np (dU rs) 0 i D b r.upd (amQ hr) (by simpa using hi) (fun j v hj hij uM hne=>by
  obtain ⟨s,hs,rfl⟩:=EJ hj
  have hjl:j < ops.size:=by have:=(List.getElem?_eq_some_iff.1 hs).1;rw [C.len] at this;exact this
  have hun:=C.open_ hD ho hi dZ hjl (by simp at uM;rw [uM];simp;omega)
  have hp:=BD ho (C.pairs i j r s hr hs hun)
  exact D8 (Dw hp.2.2.1 ((qA _ _).1 hne)))
 simp only [Nat.zero_add] at this
 unfold iR
 rw [this]
 cases dJ r.upd b<;>rfl
theorem lQ.Gt (C:lQ ops M rs nn N0) (hD:Closed ops D) (ho:ops[i]? = some o) (hr:rs[i]? = some r) (hi:D i=false) (dZ:∀e∈o.after.toList,Region.binds .any e=true→D e.on=true) (b:Nat) :
 (iq (iI rs) 0 (iR D i) a0.t).get b=(dJ r.slot b).getD ((iq (iI rs) 0 D a0.t).get b):=by
 rw [uK,uK]
 have:=Np (iI rs) 0 i D b r.slot (alq hr) (by simpa using hi) (fun j v hj hij uM hne=>by
  obtain ⟨s,hs,rfl⟩:=abD hj
  have hjl:j < ops.size:=by have:=(List.getElem?_eq_some_iff.1 hs).1;rw [C.len] at this;exact this
  have hun:=C.open_ hD ho hi dZ hjl (by simp at uM;rw [uM];simp;omega)
  have hp:=BD ho (C.pairs i j r s hr hs hun)
  exact D8 (Dw hp.1 ((qA _ _).1 hne)))
 simp only [Nat.zero_add] at this
 unfold iR
 rw [this]
 cases dJ r.slot b<;>rfl
theorem lQ.abu (C:lQ ops M rs nn N0) (hD:Closed ops D) (ho:ops[i]? = some o) (hr:rs[i]? = some r) (hi:D i=false) (dZ:∀e∈o.after.toList,Region.binds .any e=true→D e.on=true) {d:Nat} (hd:d∈o.looksAt ops) :
 (fU ((iI rs).take i) a0.t).get d=(iq (iI rs) 0 D a0.t).get d:=by
 rw [AP (iI rs) i 0,uK]
 congr 1
 refine Bd _ _ _ _ _ fun j u hj hne=>?_
 obtain ⟨s,hs,rfl⟩:=abD hj
 have hjl:j < ops.size:=by have:=(List.getElem?_eq_some_iff.1 hs).1;rw [C.len] at this;exact this
 simp only [Nat.zero_add] at hne
 have hun:=C.open_ hD ho hi dZ hjl (fun e=>hne e.symm)
 have hp:=BD ho (C.pairs i j r s hr hs hun)
 exact D8 (Dw hp.2.1 hd)
theorem lQ.akQ (C:lQ ops M rs nn N0) (hD:Closed ops D) (ho:ops[i]? = some o) (hr:rs[i]? = some r) (hi:D i=false) (dZ:∀e∈o.after.toList,Region.binds .any e=true→D e.on=true) {l:List Nat} (hv:r.vis=some l) {b:Nat} (hb:b∈l) :
 (fU ((dU rs).take i) σ0.h).get b=(iq (dU rs) 0 D σ0.h).get b:=by
 rw [AP (dU rs) i 0,uK]
 congr 1
 refine Bd _ _ _ _ _ fun j u hj hne=>?_
 obtain ⟨s,hs,rfl⟩:=EJ hj
 have hjl:j < ops.size:=by have:=(List.getElem?_eq_some_iff.1 hs).1;rw [C.len] at this;exact this
 simp only [Nat.zero_add] at hne
 have hun:=C.open_ hD ho hi dZ hjl (fun e=>hne e.symm)
 have hp:=BD ho (C.pairs i j r s hr hs hun)
 exact D8 (Dw (hp.2.2.2.1 l hv) hb)
theorem Ctx.act (C:Ctx P call ops M rs a0 σ0 cf) (hinv:tY P ops rs a0 σ0 cf η0 w0 D η w A) (ho:ops[i]? = some o) (hr:rs[i]? = some r) (hi:D i=false) (dZ:∀e∈o.after.toList,Region.binds .any e=true→D e.on=true) :
 TR P η { t:=iM (fU ((iI rs).take i) a0.t) (o.looksAt ops),n:=a0.n,gn:=a0.gn } A:=by
 refine ⟨hinv.tr.gn,hinv.tr.size,hinv.tr.none,fun d v hv=>?_⟩
 rw [sJ] at hv
 split at hv
 ·next hd=>
  rw [C.abu (a0:=a0) hinv.closed ho hr hi dZ hd] at hv
  exact hinv.tr.slot d v hv
 ·cases hv
theorem Ctx.gen (C:Ctx P call ops M rs a0 σ0 cf) (hcall:l7 P call) (hinv:tY P ops rs a0 σ0 cf η0 w0 D η w A) (ho:ops[i]? = some o) (hr:rs[i]? = some r) (hil:i < ops.size) (hi:D i=false)
 (dZ:∀e∈o.after.toList,Region.binds .any e=true→D e.on=true) {ηi:Env} {τ τ':ah} {v:Option AV} {a:aW} {K:Act→World→Prop} {Q:Exit→Act→World→Prop}
 (GH:SR P ηi τ w) (hTi:TR P ηi a A) (hle:ηi.le η) (hro:ηi.ro=η.ro) (hop:nR P call o a.eval τ=some (v,τ')) (DW:r.slot=lG o v)
 (sub:∀id ob,τ.get id=some ob→(iq (dU rs) 0 D σ0.h).get id=some ob) (free:∀id,η.has id→¬ (τ.next≤id∧id < τ'.next))
 (hu:∀b ob,dJ r.upd b=some (some ob)→τ'.get b=some ob∧((∃o0,τ.get b=some o0∧o0.own=true)∨(ob.own=true∧τ.get b=none)))
 (BR:∀id ob,τ.get id=some ob→ob.own=true→τ.lock≤id→dJ r.upd id≠none) (hlk:σ0.lock≤τ.lock) (A8:∀b,dJ r.upd b≠none→τ.lock≤b)
 (hdm:∀id,τ.next≤id→id < τ'.next→σ0.next≤id∧id < cf∧(id=σ0.next+i∨(r.base≤id∧id < r.next)))
 (hK:∀η' A' w',tY P ops rs a0 σ0 cf η0 w0 (iR D i) η' w' A'→K A' w'):o.wp P A w K Q:=by
 refine Kt GH hcall hTi hop fun x lZ w' hst hx=>?_
 let η':Env:=⟨fun id=>if τ.next≤id∧id < τ'.next then lZ id else η id,lZ.ro,fun id=>if τ.next≤id∧id < τ'.next then lZ.gh id else η.gh id⟩
 have h1:η.le η':=⟨fun id q hq=>by
  show (if τ.next≤id∧id < τ'.next then lZ id else η id)=some q
  rw [if_neg (free id (.inl ⟨q,hq⟩))];exact hq,fun b o hb=>hst.ext.ro b o (by rw [hro];exact hb),fun id hg=>by
  show (if τ.next≤id∧id < τ'.next then lZ.gh id else η.gh id)=true
  rw [if_neg (free id (.inr hg))];exact hg⟩
 have h2:lZ.le η':=⟨fun id q hq=>by
  show (if τ.next≤id∧id < τ'.next then lZ id else η id)=some q
  split
  ·exact hq
  ·next hn=>
   rcases hst.ahS hq with h3 | h3
   ·exact hle.pl _ _ h3
   ·exact absurd h3 hn,fun _ _ h=>h,fun id hg=>by
  show (if τ.next≤id∧id < τ'.next then lZ.gh id else η.gh id)=true
  split
  ·exact hg
  ·next hn=>
   rcases hst.new id (.inr hg) with (⟨q,h3⟩ | h3) | h3
   ·have:=hst.ext.pl _ _ h3
    rw [(hst.rel.iF id hg).1] at this;cases this
   ·exact hle.gh _ h3
   ·exact absurd h3 hn⟩
 have hnew:∀id,η'.has id→η.has id∨(τ.next≤id∧id < τ'.next):=fun id hh=>by
  by_cases hn:τ.next≤id∧id < τ'.next
  ·exact .inr hn
  ·left
   rcases hh with ⟨q,hq⟩ | hg
   ·have hq':(if τ.next≤id∧id < τ'.next then lZ id else η id)=some q:=hq
    rw [if_neg hn] at hq'
    exact .inl ⟨q,hq'⟩
   ·have hg':(if τ.next≤id∧id < τ'.next then lZ.gh id else η.gh id)=true:=hg
    rw [if_neg hn] at hg'
    exact .inr hg'
 have MC:∀id,η'.gh id=true→η' id=none:=fun id hg=>by
  have hg':(if τ.next≤id∧id < τ'.next then lZ.gh id else η.gh id)=true:=hg
  show (if τ.next≤id∧id < τ'.next then lZ id else η id)=none
  split at hg'
  ·next hn=>rw [if_pos hn];exact (hst.rel.iF id hg').1
  ·next hn=>rw [if_neg hn];exact (hinv.st.rel.iF id hg').1
 have hg:=C.YU (σ0:=σ0) hinv.closed ho hr hi dZ
 have hdom:∀id,η'.has id→id < cf:=fun id hq=>by
  rcases hnew id hq with h3 | ⟨h3,h4⟩
  ·exact hinv.st.rel.hasLt h3
  ·exact (hdm id h3 h4).2.1
 obtain ⟨rel,size,keep,own,lM⟩:=St.merge (σ':={ h:=iq (dU rs) 0 (iR D i) σ0.h,next:=cf,lock:=σ0.lock }) (upd:=r.upd) (η':=η') hinv.st.rel GH hst sub hle hro rfl h1 h2 hg hu BR hlk A8 (fun id q hq=>hdom id (.inl ⟨q,hq⟩)) (fun id hgi=>⟨MC id hgi,hdom id (.inr hgi)⟩)
 refine hK η' _ w' ⟨?_, ?_, ?_, ?_⟩
 ·intro k o' hk ho' e he hb
  unfold iR at hk ⊢
  simp only [Bool.or_eq_true] at hk ⊢
  rcases hk with hk | hk
  ·exact .inl (hinv.closed k o' hk ho' e he hb)
  ·have:=Nat.eq_of_beq_eq_true hk;subst this
   rw [ho] at ho';cases ho'
   exact .inl (dZ e he hb)
 ·refine hinv.st.then h1 rel size keep own hst.os hst.tape hst.output rfl (Nat.le_refl _) ?_ lM
  intro id hq
  rcases hnew id hq with h3 | ⟨h3,h4⟩
  ·exact .inl h3
  ·exact .inr ⟨(hdm id h3 h4).1,(hdm id h3 h4).2.1⟩
 ·have hg':=C.Gt (a0:=a0) hinv.closed ho hr hi dZ
  rw [DW] at hg'
  exact hinv.tr.add h1 hg' (by rw [← DW];exact (C.slot i r hr).2) (fun u hu'=>VR.mono h2 _ _ (hx u hu'))
 ·intro id hq
  have hD':∀k,D k=true→iR D i k=true:=fun k hk=>by unfold iR;rw [hk];rfl
  have hii:iR D i i=true:=by unfold iR;simp
  rcases hnew id hq with h3 | ⟨h3,h4⟩
  ·rcases hinv.dm id h3 with h5 | ⟨k,h5,h6,h7⟩ | ⟨j,s,h5,h6,h7⟩
   ·exact .inl h5
   ·exact .inr (.inl ⟨k,h5,hD' k h6,h7⟩)
   ·exact .inr (.inr ⟨j,s,h5,hD' j h6,h7⟩)
  ·obtain ⟨_,_,h5 | h5⟩:=hdm id h3 h4
   ·exact .inr (.inl ⟨i,hil,hii,h5⟩)
   ·exact .inr (.inr ⟨i,r,hr,hii,h5⟩)
end
end
end Go.aJ
namespace Go.aJ
noncomputable section
variable [aB]
set_option linter.unusedSectionVars false
set_option linter.unusedVariables false
set_option linter.unusedSimpArgs false
variable {P:Program}
section
variable {call:Caller} {ops:Array Oper} {M:List Nat} {rs:List bU} {a0:aW} {σ0:ah} {cf:Nat} {η0 η:Env} {w0 w:World} {D:Nat→Bool} {A:Act} {i:Nat} {o:Oper} {r:bU}
theorem Ns {l:List Nat} {f:Nat→Option aX} {b:Nat} {x:Option aX} (h:dJ (l.map fun k=>(k,f k)) b=some x):b∈l∧x=f b:=by
 induction l with
 | nil=>simp [dJ] at h
 | cons k l ih=>
  simp only [List.map_cons,dJ] at h
  split at h
  ·next y hy=>cases h;have:=ih hy;exact ⟨by simp [this.1],this.2⟩
  ·split at h
   ·next e=>cases h;subst e;exact ⟨by simp,rfl⟩
   ·cases h
theorem keys_map (l:List Nat) (f:Nat→Option aX):keysOf (l.map fun k=>(k,f k))=l:=by
 simp [keysOf,List.map_map,Function.comp_def]
theorem yT {τ:ah}:∀ {n c b:Nat} {x:Option aX},dJ (wJ τ c n) b=some x→c≤b∧b < c+n∧∀o,x=some o→τ.get b=some o∧o.own=true
 | 0,c,b,x,h=>by simp [wJ,dJ] at h
 | n+1,c,b,x,h=>by
  simp only [wJ,dJ] at h
  split at h
  ·next y hy=>
   cases h
   obtain ⟨h1,h2,h3⟩:=yT hy
   exact ⟨by omega,by omega,h3⟩
  ·split at h
   ·next e=>
    subst e
    simp only [Option.some.injEq] at h
    refine ⟨Nat.le_refl _,by omega,fun o ho=>?_⟩
    rw [ho] at h
    split at h
    ·next o' ho'=>
     split at h
     ·next hown=>cases h;exact ⟨ho',hown⟩
     ·cases h
    ·cases h
   ·cases h
theorem G8 {l m:List (Nat×Option aX)} {b:Nat}:dJ (l++m) b=match dJ m b with | some x=>some x | none=>dJ l b:=by
 induction l with
 | nil=>simp only [List.nil_append];cases dJ m b<;>rfl
 | cons p l ih=>
  obtain ⟨k,v⟩:=p
  simp only [List.cons_append,dJ,ih]
  cases dJ m b<;>rfl
theorem uX {h:Tr aX} {lock:Nat} {l:List Nat} {k:Nat}:k∈y9 h lock l↔k∈l∧lock≤k∧∃ob,h.get k=some ob∧ob.own=true:=by
 unfold y9
 rw [List.mem_filter,Bool.and_eq_true]
 constructor
 ·rintro ⟨h1,h2,h3⟩
  refine ⟨h1,Nat.le_of_ble_eq_true h2, ?_⟩
  split at h3
  ·next ob hob=>exact ⟨ob,hob,h3⟩
  ·cases h3
 ·rintro ⟨h1,h2,ob,h3,h4⟩
  exact ⟨h1,Nat.ble_eq_true_of_le h2,by rw [h3];exact h4⟩
theorem SR.cutAt {η:Env} {σ τ:ah} {w:World} {c:Nat} (h:SR P η σ w) (hg:P.globals.size < c) (hsub:∀id o,τ.get id=some o→σ.get id=some o) (hc:∀id o,τ.get id=some o→id < c∧uq c o=true) (hn:c≤τ.next):SR P (η.cut c) τ w:=by
 have hcut:∀id q,id < c→η id=some q→η.cut c id=some q:=fun id q h1 h2=>by simp only [Env.cut];rw [if_pos h1];exact h2
 refine ⟨fun g hgg=>?_,fun id q hq=>?_,fun id o ho=>?_,fun id hg'=>?_,fun id o id' o' q q' a1 a2 a3 a4 a5 a6=>?_,h.gI,fun id o q a1 a2 a3=>h.jT id o q (hsub _ _ a1) a2 ((Env.Ak _ _).pl _ _ a3),h.tabs⟩
 ·obtain ⟨sz,es,h1⟩:=h.jW g hgg;exact ⟨sz,es,hcut _ _ (by omega) h1⟩
 ·simp only [Env.cut] at hq
  split at hq
  ·omega
  ·cases hq
 ·rcases h.live id o (hsub _ _ ho) with ⟨q,hq,hr⟩ | ⟨hgi,h2⟩
  ·exact .inl ⟨q,hcut _ _ (hc id o ho).1 hq,hr.cut (hc id o ho).2⟩
  ·exact .inr ⟨Env.Vh (hc id o ho).1 hgi,h2⟩
 ·have hg2:(decide (id < c)&&η.gh id)=true:=hg'
  rw [Bool.and_eq_true,decide_eq_true_iff] at hg2
  exact ⟨by simp only [Env.cut];rw [if_pos hg2.1];exact (h.iF id hg2.2).1,by omega⟩
 ·exact h.sep id o id' o' q q' (hsub _ _ a1) a2 (hsub _ _ a3) a4 ((Env.Ak _ _).pl _ _ a5) ((Env.Ak _ _).pl _ _ a6)
theorem SR.part {η:Env} {σ τ:ah} {w:World} (h:SR P η σ w) (hsub:∀id o,τ.get id=some o→σ.get id=some o) (hn:∀id,η.has id→id < τ.next):SR P η τ w:=
 ⟨h.jW,fun id q hq=>hn id (.inl ⟨q,hq⟩),fun id o ho=>h.live id o (hsub id o ho),fun id hg=>⟨(h.iF id hg).1,hn id (.inr hg)⟩,fun id o id' o' q q' a1 a2 a3 a4 a5 a6=>h.sep id o id' o' q q' (hsub _ _ a1) a2 (hsub _ _ a3) a4 a5 a6,h.gI,fun id o q a1 a2 a3=>h.jT id o q (hsub _ _ a1) a2 a3,h.tabs⟩
theorem CW {c:Nat} {h:Tr aX}:∀ {l:List Nat},CV c h l=true→∀k∈l,k < c∧∀o,h.get k=some o→uq c o=true
 | [],_,k,hk=>by simp at hk
 | x::l,hb,k,hk=>by
  simp only [CV,Bool.and_eq_true] at hb
  simp only [List.mem_cons] at hk
  rcases hk with rfl | hk
  ·refine ⟨by have:=hb.1.1;rwa [Nat.blt_eq] at this,fun o ho=>?_⟩
   have:=hb.1.2;rw [ho] at this;exact this
  ·exact CW hb.2 k hk
theorem Rf {c:Nat} {t:Tr AV}:∀ {l:List Nat},zZ c t l=true→∀k∈l,∀v,t.get k=some v→v.under c=true
 | [],_,k,hk=>by simp at hk
 | x::l,hb,k,hk=>by
  simp only [zZ,Bool.and_eq_true] at hb
  simp only [List.mem_cons] at hk
  rcases hk with rfl | hk
  ·intro v hv;have:=hb.1;rw [hv] at this;exact this
  ·exact Rf hb.2 k hk
theorem OG {M:List Nat} {i:Nat}:∀ {rs:List bU} {k:Nat} {b:Nat},b∉uZ M i rs k→∀ (j:Nat) r,rs[j]? = some r→pX M i (k+j)=true→b∉keysOf r.upd
 | [],k,b,_,j,r,hj,_=>by simp at hj
 | s::rs,k,b,hb,j,r,hj,hu=>by
  unfold uZ at hb
  cases j with
  | zero=>
   simp at hj;subst hj
   rw [Nat.add_zero] at hu
   rw [if_pos hu] at hb
   simp only [List.mem_append,not_or] at hb
   exact hb.1
  | succ j=>
   have hb':b∉uZ M i rs (k+1):=by
    split at hb
    ·simp only [List.mem_append,not_or] at hb;exact hb.2
    ·exact hb
   exact OG hb' j r (by simpa using hj) (by rw [show k+1+j=k+(j+1) by omega];exact hu)
theorem ZB {M:List Nat} {i:Nat}:∀ {rs:List bU} {k:Nat} {b:Nat} (j:Nat) (r:bU),rs[j]? = some r→pX M i (k+j)=false→b∈keysOf r.upd→b∈D7 M i rs k
 | [],k,b,j,r,hj,_,_=>by simp at hj
 | s::rs,k,b,j,r,hj,hu,hb=>by
  unfold D7
  cases j with
  | zero=>
   simp at hj;subst hj
   rw [Nat.add_zero] at hu
   rw [if_neg (by rw [hu];simp)]
   simp [hb]
  | succ j=>
   have:=ZB (k:=k+1) j r (by simpa using hj) (by rw [show k+1+j=k+(j+1) by omega];exact hu) hb
   split
   ·exact this
   ·simp [this]
theorem Ctx.bound (C:Ctx P call ops M rs a0 σ0 cf) (hinv:tY P ops rs a0 σ0 cf η0 w0 D η w A) (id:Nat) (h:η.has id):id < cf:=hinv.st.rel.hasLt h
theorem Ctx.apart (C:Ctx P call ops M rs a0 σ0 cf) (hinv:tY P ops rs a0 σ0 cf η0 w0 D η w A) (hr:rs[i]? = some r) (hi:D i=false) {id:Nat} (h:η.has id):¬ (r.base≤id∧id < r.next):=by
 rintro ⟨h1,h2⟩
 have hlo:=C.lo hr
 rcases hinv.dm id h with h3 | ⟨k,h3,h4,h5⟩ | ⟨j,s,h3,h4,h5,h6⟩
 ·omega
 ·omega
 ·by_cases hij:i=j
  ·subst hij;rw [hi] at h4;cases h4
  ·rcases Nat.lt_or_gt_of_ne hij with hlt | hlt
   ·have:=C.lt hr h3 hlt;omega
   ·have:=C.lt h3 hr hlt;omega
theorem Ctx.step (C:Ctx P call ops M rs a0 σ0 cf) (hcall:l7 P call) (hS0:SR P η0 σ0 w0) (hinv:tY P ops rs a0 σ0 cf η0 w0 D η w A) (hil:i < ops.size) (hi:D i=false)
 (wK:∀o,ops[i]? = some o→∀e∈o.after.toList,Region.binds .any e=true→D e.on=true) (hnl:jv ops M i=false) {K:Act→World→Prop} {Q:Exit→Act→World→Prop}
 (hK:∀η' A' w',tY P ops rs a0 σ0 cf η0 w0 (iR D i) η' w' A'→K A' w'):wpOp P ops Q i K A w:=by
 obtain ⟨o,ho⟩:∃o,ops[i]? = some o:=⟨ops[i],by simp [hil]⟩
 obtain ⟨r,hr⟩:∃r,rs[i]? = some r:=⟨_,List.getElem?_eq_getElem (by rw [C.len];exact hil)⟩
 have dZ:=wK o ho
 have hone:=C.one i r hr
 have hact:=C.act hinv ho hr hi dZ
 have hbase:=C.base hr
 have hlo:=C.lo hr
 have hhi:=C.hi hr
 have hN0:P.globals.size < σ0.next:=by
  obtain ⟨sz,es,h1⟩:=hS0.jW P.globals.size (Nat.le_refl _)
  exact hS0.dom _ _ h1
 have hbn:=(C.slot i r hr).1
 have aoI:=C.lock
 have hbig:=C.big
 have Md:=C.bound hinv
 unfold pI at hone
 rw [hnl] at hone
 simp only [Bool.false_eq_true,if_false] at hone
 unfold su at hone
 rw [ho] at hone
 simp only at hone
 unfold wpOp
 rw [ho]
 simp only
 split at hone
 ·cases hone
 ·
  next hw=>
  rw [xX hact hw]
  simp only [Bool.false_eq_true,if_false]
  cases hone
  refine hK η _ w ⟨?_, ?_, ?_, ?_⟩
  ·intro k o' hk ho' e he hb
   unfold iR at hk ⊢
   simp only [Bool.or_eq_true] at hk ⊢
   rcases hk with hk | hk
   ·exact .inl (hinv.closed k o' hk ho' e he hb)
   ·have:=Nat.eq_of_beq_eq_true hk;subst this
    rw [ho] at ho';cases ho'
    exact .inl (wK _ ho e he hb)
  ·have hg:=C.YU (σ0:=σ0) hinv.closed ho hr hi dZ
   refine hinv.st.sub ?_ (Nat.le_refl _) rfl
   intro id ob hob
   have:(iq (dU rs) 0 (iR D i) σ0.h).get id=some ob:=hob
   rw [hg] at this
   exact this
  ·exact hinv.tr.add (Env.le.refl _) (C.Gt (a0:=a0) hinv.closed ho hr hi dZ) (C.slot i _ hr).2 (by rintro u hu;cases hu;exact ⟨[],rfl,rfl⟩)
  ·intro id hq
   have hD':∀k,D k=true→iR D i k=true:=fun k hk=>by unfold iR;rw [hk];rfl
   rcases hinv.dm id hq with h5 | ⟨k,h5,h6,h7⟩ | ⟨j,s,h5,h6,h7⟩
   ·exact .inl h5
   ·exact .inr (.inl ⟨k,h5,hD' k h6,h7⟩)
   ·exact .inr (.inr ⟨j,s,h5,hD' j h6,h7⟩)
 ·
  next hw=>
  rw [xX hact hw]
  simp only [if_true]
  left
  have rest:∀l:List Nat,r.vis=some l→∀id ob,(iM (fU ((dU rs).take i) σ0.h) l).get id=some ob→(iq (dU rs) 0 D σ0.h).get id=some ob∧id∈l∧(fU ((dU rs).take i) σ0.h).get id=some ob:=by
   intro l hl id ob hob
   rw [sJ] at hob
   split at hob
   ·next hm=>rw [← C.akQ (σ0:=σ0) hinv.closed ho hr hi dZ hl hm];exact ⟨hob,hm,hob⟩
   ·cases hob
  have Vg:∀c,zZ c (fU ((iI rs).take i) a0.t) (o.looksAt ops)=true→TR P (η.cut c) { t:=iM (fU ((iI rs).take i) a0.t) (o.looksAt ops),n:=a0.n,gn:=a0.gn } A:=by
   intro c hb
   refine ⟨hact.gn,hact.size,hact.none,fun d v hv=>?_⟩
   obtain ⟨x,hx,iL⟩:=hact.slot d v hv
   refine ⟨x,hx,VR.cut v x ?_ iL⟩
   rw [sJ] at hv
   split at hv
   ·next hd=>exact Rf hb d hd v hv
   ·cases hv
  split at hone
  ·
   next ty hty=>
   split at hone
   ·next z hz=>
    cases hone
    have hop:nR P call o (aW.eval { t:=.nil,n:=a0.n,gn:=a0.gn }) { h:=.nil,next:=σ0.next+i,lock:=σ0.lock }=some (some (.p (σ0.next+i) 0),({ h:=.nil,next:=σ0.next+i,lock:=σ0.lock }:ah).new (.cells z ty true false)):=by
     unfold nR;rw [hty];simp only [hz,Option.map_some]
    have hS':SR P (η.cut σ0.next) { h:=.nil,next:=σ0.next+i,lock:=σ0.lock } w:=hinv.st.rel.cutAt hN0 (fun id ob h=>by simp [ah.get] at h) (fun id ob h=>by simp [ah.get] at h) (by simp)
    refine C.gen hcall hinv ho hr hil hi dZ hS' (a:={ t:=.nil,n:=a0.n,gn:=a0.gn }) ⟨hact.gn,hact.size,hact.none,fun d v hv=>by simp at hv⟩ (Env.Ak _ _) rfl hop rfl (fun id ob h=>by simp [ah.get] at h) ?_ ?_ ?_ (Nat.le_refl _) ?_ ?_ hK
    ·rintro id hq ⟨h1,h2⟩
     have h1':σ0.next+i≤id:=h1
     have h2':id < σ0.next+i+1:=h2
     rcases hinv.dm id hq with h3 | ⟨k,h3,h4,h5⟩ | ⟨j,s,h3,h4,h5,h6⟩
     ·omega
     ·have:k=i:=by omega
      subst this;rw [hi] at h4;cases h4
     ·have:=C.lo h3;omega
    ·intro b ob hb
     simp only [dJ] at hb
     split at hb
     ·next e=>
      cases hb;subst e
      refine ⟨?_,.inr ⟨rfl,Tr.get_nil _⟩⟩
      rw [ah.mG,if_pos rfl]
     ·cases hb
    ·intro id ob h;simp [ah.get] at h
    ·intro b hb
     have:=(qA _ _).1 hb
     simp [keysOf] at this
     subst this
     show σ0.lock≤σ0.next+i
     omega
    ·intro id h1 h2
     have h1':σ0.next+i≤id:=h1
     have h2':id < σ0.next+i+1:=h2
     have:=C.KO
     exact ⟨by omega,by omega,.inl (by omega)⟩
   ·cases hone
  ·split at hone
   ·
    next l hcls=>
    split at hone
    ·next v τ' hop=>
     rw [uG] at hop
     split at hone
     ·next hnx=>
      cases hone
      have agh:=Nat.eq_of_beq_eq_true hnx
      have hS':SR P η { h:=iM (fU ((dU rs).take i) σ0.h) l,next:=ny,lock:=ny } w:=hinv.st.rel.part (fun id ob h=>(rest l rfl id ob h).1) (fun id hq=>Nat.lt_of_lt_of_le (Md id hq) hbig)
      refine C.gen hcall hinv ho hr hil hi dZ hS' hact (Env.le.refl _) rfl hop rfl (fun id ob h=>(rest l rfl id ob h).1) ?_ ?_ ?_ ?_ ?_ ?_ hK
      ·rintro id hq ⟨h1,h2⟩
       have h1':ny≤id:=h1
       omega
      ·intro b ob hb;simp [dJ] at hb
      ·intro id ob h1 h2 h3
       have h3':ny≤id:=h3
       have:=Md id (hS'.DT h1);omega
      ·have:=C.KO;show σ0.lock≤ny;omega
      ·intro b hb;simp [dJ] at hb
      ·intro id h1 h2
       have h1':ny≤id:=h1
       omega
     ·cases hone
    ·cases hone
   ·
    next l hcls=>
    split at hone
    ·next v τ' hop=>
     rw [uG] at hop
     split at hone
     ·next hnx=>
      cases hone
      have agh:=Nat.eq_of_beq_eq_true hnx
      have hS':SR P η { h:=iM (fU ((dU rs).take i) σ0.h) l,next:=ny,lock:=σ0.lock } w:=hinv.st.rel.part (fun id ob h=>(rest l rfl id ob h).1) (fun id hq=>Nat.lt_of_lt_of_le (Md id hq) hbig)
      refine C.gen hcall hinv ho hr hil hi dZ hS' hact (Env.le.refl _) rfl hop rfl (fun id ob h=>(rest l rfl id ob h).1) ?_ ?_ ?_ (Nat.le_refl _) ?_ ?_ hK
      ·rintro id hq ⟨h1,h2⟩
       have h1':ny≤id:=h1
       omega
      ·intro b ob hb
       obtain ⟨h1,h2⟩:=Ns hb
       obtain ⟨h3,h4,ob',h5,h6⟩:=uX.1 h1
       refine ⟨h2.symm,.inl ⟨ob', ?_,h6⟩⟩
       show (iM _ l).get b=_
       rw [sJ,if_pos h3];exact h5
      ·intro id ob h1 h2 h3
       obtain ⟨_,h4,h5⟩:=rest l rfl id ob h1
       rw [qA,keys_map]
       exact uX.2 ⟨h4,h3,ob,h5,h2⟩
      ·intro b hb
       rw [qA,keys_map] at hb
       exact (uX.1 hb).2.1
      ·intro id h1 h2
       have h1':ny≤id:=h1
       omega
     ·cases hone
    ·cases hone
   ·
    next l hcls=>
    split at hone
    ·next hbel=>
     simp only [Bool.and_eq_true] at hbel
     split at hone
     ·next v τ' hop=>
      rw [uG] at hop
      cases hone
      simp only at hlo hhi hbn
      have hS':SR P (η.cut (gy (σ0.next+ops.size) rs i)) { h:=iM (fU ((dU rs).take i) σ0.h) l,next:=gy (σ0.next+ops.size) rs i,lock:=σ0.lock } w:=
       hinv.st.rel.cutAt (by omega) (fun id ob h=>(rest l rfl id ob h).1) (fun id ob h=>by
        obtain ⟨_,h1,h2⟩:=rest l rfl id ob h
        have:=CW hbel.2 id h1
        exact ⟨this.1,this.2 ob h2⟩) (Nat.le_refl _)
      refine C.gen hcall hinv ho hr hil hi dZ hS' (Vg _ hbel.1) (Env.Ak _ _) rfl hop rfl (fun id ob h=>(rest l rfl id ob h).1) ?_ ?_ ?_ (Nat.le_refl _) ?_ ?_ hK
      ·rintro id hq ⟨h1,h2⟩
       exact C.apart hinv hr hi hq ⟨h1,h2⟩
      ·intro b ob hb
       rw [G8] at hb
       split at hb
       ·next x hx=>
        cases hb
        obtain ⟨h1,h2,h3⟩:=yT hx
        obtain ⟨h4,h5⟩:=h3 ob rfl
        refine ⟨h4,.inr ⟨h5, ?_⟩⟩
        show (iM _ l).get b=none
        rw [sJ]
        split
        ·next hm=>have:=(CW hbel.2 b hm).1;omega
        ·rfl
       ·obtain ⟨h1,h2⟩:=Ns hb
        obtain ⟨h3,h4,ob',h5,h6⟩:=uX.1 h1
        refine ⟨h2.symm,.inl ⟨ob', ?_,h6⟩⟩
        show (iM _ l).get b=_
        rw [sJ,if_pos h3];exact h5
      ·intro id ob h1 h2 h3
       obtain ⟨_,h4,h5⟩:=rest l rfl id ob h1
       rw [qA]
       unfold keysOf
       rw [List.map_append,List.mem_append]
       left
       have:=keys_map (y9 (fU ((dU rs).take i) σ0.h) σ0.lock l) (fun k=>τ'.get k)
       unfold keysOf at this
       rw [this]
       exact uX.2 ⟨h4,h3,ob,h5,h2⟩
      ·intro b hb
       rw [G8] at hb
       split at hb
       ·next x hx=>
        obtain ⟨h1,_,_⟩:=yT hx
        show σ0.lock≤b
        omega
       ·rw [qA,keys_map] at hb
        exact (uX.1 hb).2.1
      ·intro id h1 h2
       have h1':gy (σ0.next+ops.size) rs i≤id:=h1
       exact ⟨by omega,by omega,.inr ⟨h1,h2⟩⟩
     ·cases hone
    ·cases hone
   ·
    next hcls=>
    split at hone
    ·next v τ' hop0=>
     have hop:=amN hop0
     rw [uG] at hop
     cases hone
     simp only at hlo hhi hbn
     have hall:∀id,η.has id→id < gy (σ0.next+ops.size) rs i:=by
      intro id hq
      rcases hinv.dm id hq with h3 | ⟨k,h3,h4,h5⟩ | ⟨j,s,h3,h4,h5,h6⟩
      ·omega
      ·omega
      ·have hij:i≠j:=by rintro rfl;rw [hi] at h4;cases h4
       rcases Nat.lt_or_gt_of_ne hij with hlt | hlt
       ·have hjl:j < ops.size:=by have:=(List.getElem?_eq_some_iff.1 h3).1;rw [C.len] at this;exact this
        have hun:=C.open_ hinv.closed ho hi dZ hjl (by rw [h4];simp;omega)
        have hp:=BD ho (C.pairs i j _ s hr h3 hun)
        have:=(hp.2.2.2.2.1 rfl hlt).2.2
        omega
       ·have:=C.lt h3 hr hlt
        simp only at this
        omega
     have hsub:∀id ob,(wF (fU ((dU rs).take i) σ0.h) (uZ M i (rs.take i) 0)).get id=some ob→(iq (dU rs) 0 D σ0.h).get id=some ob:=by
      intro id ob hob
      rw [YT] at hob
      split at hob
      ·cases hob
      ·next hnk=>
       rw [← hob,AP (dU rs) i 0,uK]
       congr 1
       refine (Bd _ _ _ _ _ fun j u hj hne=>?_).symm
       obtain ⟨s,hs,rfl⟩:=EJ hj
       have hjl:j < ops.size:=by have:=(List.getElem?_eq_some_iff.1 hs).1;rw [C.len] at this;exact this
       simp only [Nat.zero_add] at hne
       have hun:=C.open_ hinv.closed ho hi dZ hjl (fun e=>hne e.symm)
       apply D8
       by_cases hji:j < i
       ·exact OG hnk j s (by rw [List.getElem?_take,if_pos hji];exact hs) (by rw [Nat.zero_add];exact hun)
       ·have hij:i < j:=by
         rcases Nat.lt_or_ge i j with h | h
         ·exact h
         ·have:i=j:=by omega
          subst this;rw [hi] at hne;simp at hne
        have hp:=BD ho (C.pairs i j _ s hr hs hun)
        obtain ⟨h1,h2,h3⟩:=hp.2.2.2.2.1 rfl hij
        intro hmem
        have hge:=h1 id hmem
        rw [AP (dU rs) i 0] at hob
        cases hl:iV (dU rs) 0 (fun j=>decide (j < 0+i)) id with
        | none=>
         rw [hl] at hob
         have:=hS0.hasLt (hS0.DT hob)
         omega
        | some x=>
         obtain ⟨j',u',h4,h5,h6⟩:=Nq _ _ _ _ _ hl
         obtain ⟨s',hs',rfl⟩:=EJ h4
         simp only [Nat.zero_add,decide_eq_true_eq] at h5
         have hk:id∈keysOf s'.upd:=(qA _ _).1 (by rw [h6];simp)
         have htk:(rs.take i)[j']? = some s':=by rw [List.getElem?_take,if_pos h5];exact hs'
         have hnu:pX M i (0+j')=false:=by
          cases hu:pX M i (0+j') with
          | false=>rfl
          | true=>exact absurd hk (OG hnk j' s' htk hu)
         have:=ZB j' s' htk hnu hk
         exact Dw h2 this hmem
     have hS':SR P η { h:=wF (fU ((dU rs).take i) σ0.h) (uZ M i (rs.take i) 0),next:=gy (σ0.next+ops.size) rs i,lock:=gy (σ0.next+ops.size) rs i } w:=hinv.st.rel.part hsub hall
     refine C.gen hcall hinv ho hr hil hi dZ hS' hact (Env.le.refl _) rfl hop rfl hsub ?_ ?_ ?_ ?_ ?_ ?_ hK
     ·rintro id hq ⟨h1,h2⟩
      exact C.apart hinv hr hi hq ⟨h1,h2⟩
     ·intro b ob hb
      obtain ⟨h1,h2,h3⟩:=yT hb
      obtain ⟨h4,h5⟩:=h3 ob rfl
      refine ⟨h4,.inr ⟨h5, ?_⟩⟩
      cases hg:ah.get { h:=wF (fU ((dU rs).take i) σ0.h) (uZ M i (rs.take i) 0),next:=gy (σ0.next+ops.size) rs i,lock:=gy (σ0.next+ops.size) rs i } b with
      | none=>rfl
      | some ob'=>
       have:=hall b (hS'.DT hg)
       omega
     ·intro id ob h1 h2 h3
      have h3':gy (σ0.next+ops.size) rs i≤id:=h3
      have:=hall id (hS'.DT h1)
      omega
     ·show σ0.lock≤gy (σ0.next+ops.size) rs i
      omega
     ·intro b hb
      cases hx:dJ (wJ τ' (gy (σ0.next+ops.size) rs i) (τ'.next - gy (σ0.next+ops.size) rs i)) b with
      | none=>exact absurd hx hb
      | some x=>exact (yT hx).1
     ·intro id h1 h2
      have h1':gy (σ0.next+ops.size) rs i≤id:=h1
      exact ⟨by omega,by omega,.inr ⟨h1,h2⟩⟩
    ·generalize Ep o (aW.eval { t:=iM (fU ((iI rs).take i) a0.t) (o.looksAt ops),n:=a0.n,gn:=a0.gn }) (fU ((dU rs).take i) σ0.h)=l at hone
     split at hone
     ·next hbel=>
      simp only [Bool.and_eq_true] at hbel
      split at hone
      ·next v τ' hop=>
       rw [uG] at hop
       cases hone
       simp only at hlo hhi hbn
       have hS':SR P (η.cut (gy (σ0.next+ops.size) rs i)) { h:=iM (fU ((dU rs).take i) σ0.h) l,next:=gy (σ0.next+ops.size) rs i,lock:=σ0.lock } w:=
        hinv.st.rel.cutAt (by omega) (fun id ob h=>(rest l rfl id ob h).1) (fun id ob h=>by
         obtain ⟨_,h1,h2⟩:=rest l rfl id ob h
         have:=CW hbel.2 id h1
         exact ⟨this.1,this.2 ob h2⟩) (Nat.le_refl _)
       refine C.gen hcall hinv ho hr hil hi dZ hS' (Vg _ hbel.1) (Env.Ak _ _) rfl hop rfl (fun id ob h=>(rest l rfl id ob h).1) ?_ ?_ ?_ (Nat.le_refl _) ?_ ?_ hK
       ·rintro id hq ⟨h1,h2⟩
        exact C.apart hinv hr hi hq ⟨h1,h2⟩
       ·intro b ob hb
        rw [G8] at hb
        split at hb
        ·next x hx=>
         cases hb
         obtain ⟨h1,h2,h3⟩:=yT hx
         obtain ⟨h4,h5⟩:=h3 ob rfl
         refine ⟨h4,.inr ⟨h5, ?_⟩⟩
         show (iM _ l).get b=none
         rw [sJ]
         split
         ·next hm=>have:=(CW hbel.2 b hm).1;omega
         ·rfl
        ·obtain ⟨h1,h2⟩:=Ns hb
         obtain ⟨h3,h4,ob',h5,h6⟩:=uX.1 h1
         refine ⟨h2.symm,.inl ⟨ob', ?_,h6⟩⟩
         show (iM _ l).get b=_
         rw [sJ,if_pos h3];exact h5
       ·intro id ob h1 h2 h3
        obtain ⟨_,h4,h5⟩:=rest l rfl id ob h1
        rw [qA]
        unfold keysOf
        rw [List.map_append,List.mem_append]
        left
        have:=keys_map (y9 (fU ((dU rs).take i) σ0.h) σ0.lock l) (fun k=>τ'.get k)
        unfold keysOf at this
        rw [this]
        exact uX.2 ⟨h4,h3,ob,h5,h2⟩
       ·intro b hb
        rw [G8] at hb
        split at hb
        ·next x hx=>
         obtain ⟨h1,_,_⟩:=yT hx
         show σ0.lock≤b
         omega
        ·rw [qA,keys_map] at hb
         exact (uX.1 hb).2.1
       ·intro id h1 h2
        have h1':gy (σ0.next+ops.size) rs i≤id:=h1
        exact ⟨by omega,by omega,.inr ⟨h1,h2⟩⟩
      ·cases hone
     ·cases hone
end
end
end Go.aJ
namespace Go.aJ
noncomputable section
variable [aB]
set_option linter.unusedSectionVars false
set_option linter.unusedVariables false
set_option linter.unusedSimpArgs false
variable {P:Program}
section
variable {call:Caller} {ops:Array Oper} {M:List Nat} {rs:List bU} {a0:aW} {σ0:ah} {cf:Nat} {η0:Env} {w0:World}
def inB (listed:Array Bool):Nat→Bool:=fun j=>listed.getD j false
theorem aaM {listed:Array Bool} (hl:listed.size=ops.size) {i:Nat} (h:i∈Region.ready .any ops listed):i < ops.size∧inB listed i=false∧∀o,ops[i]? = some o→∀e∈o.after.toList,Region.binds .any e=true→inB listed e.on=true:=by
 unfold Region.ready at h
 simp only [List.mem_filter,List.mem_range,Bool.and_eq_true,Bool.not_eq_true'] at h
 obtain ⟨h1,h2,h3⟩:=h
 have hlt:i < listed.size:=by omega
 refine ⟨h1, ?_, ?_⟩
 ·unfold inB
  rw [Array.getD_eq_getD_getElem?,Array.getElem?_eq_getElem hlt] at h2 ⊢
  exact h2
 ·intro o ho e he hb
  rw [ho] at h3
  simp only [Option.map_some,Option.getD_some] at h3
  rw [Array.all_eq_true'] at h3
  have:=h3 e (by simpa using he)
  rw [hb] at this
  simpa [inB] using this
theorem count_set (listed:Array Bool) (i:Nat) (h:listed[i]? = some false):(listed.setIfInBounds i true).toList.count false+1=listed.toList.count false:=by
 have hlt:i < listed.size:=(Array.getElem?_eq_some_iff.1 h).1
 have hv:listed[i]=false:=(Array.getElem?_eq_some_iff.1 h).2
 have h1:listed.toList[i]'(by simpa using hlt)=false:=by simpa using hv
 have hpos:0 < listed.toList.count false:=List.count_pos_iff.2 (by rw [← h1];exact List.getElem_mem _)
 rw [Array.toList_setIfInBounds,List.count_set (by simpa using hlt),h1]
 have e1:((false==false)=true):=rfl
 have e2:¬ ((true==false)=true):=by decide
 rw [if_pos e1,if_neg e2]
 omega
theorem LK {α:Type}:∀ (us:List (List (Nat×Option α))) (k:Nat) (D:Nat→Bool) (t:Tr α),(∀j,j < us.length→D (k+j)=true)→iq us k D t=fU us t
 | [],_,_,_,_=>rfl
 | u::us,k,D,t,h=>by
  have h0:=h 0 (by simp)
  simp only [Nat.add_zero] at h0
  rw [iq,if_pos h0,fU,LK us (k+1) D _ (fun j hj=>by rw [show k+1+j=k+(j+1) by omega];exact h (j+1) (by simpa using hj))]
end
section
variable {ops:Array Oper} {M:List Nat} {rs:List bU} {a0:aW} {σ:ah} {η0:Env} {w0:World} {n N0:Nat}
theorem acI (C:lQ ops M rs n N0) (Inv:(Nat→Bool)→Env→World→Act→Prop)
 (hstep:∀D η w A i (K:Act→World→Prop) (Q:Exit→Act→World→Prop),Inv D η w A→i < ops.size→D i=false→(∀o,ops[i]? = some o→∀e∈o.after.toList,Region.binds .any e=true→D e.on=true)→
  (∀η' A' w',Inv (iR D i) η' w' A'→K A' w')→wpOp P ops Q i K A w) {Q:Exit→Act→World→Prop}
 (hK:∀η' A' w',Inv (fun j=>decide (j < ops.size)) η' w' A'→Q .normal A' w') :
 ∀ (fuel:Nat) (listed:Array Bool) (η:Env) (w:World) (A:Act),listed.size=ops.size→listed.toList.count false=fuel→Inv (inB listed) η w A→wpAny P .any ops Q fuel listed A w:=by
 intro fuel
 induction fuel with
 | zero=>
  intro listed η w A hl hc hinv
  have hall:∀j,j < ops.size→inB listed j=true:=by
   intro j hj
   have hlt:j < listed.size:=by omega
   have hm:listed[j]∈listed.toList:=by simp
   have:false∉listed.toList:=List.count_eq_zero.1 hc
   unfold inB
   rw [Array.getD_eq_getD_getElem?,Array.getElem?_eq_getElem hlt]
   cases hv:listed[j] with
   | true=>rfl
   | false=>rw [hv] at hm;exact absurd hm this
  have hD:inB listed=fun j=>decide (j < ops.size):=by
   funext j
   by_cases hj:j < ops.size
   ·rw [hall j hj];simp [hj]
   ·unfold inB
    rw [Array.getD_eq_getD_getElem?,Array.getElem?_eq_none (by omega)]
    simp [hj]
  refine ⟨?_, ?_⟩
  ·apply List.eq_nil_iff_forall_not_mem.2
   intro i hi
   obtain ⟨h1,h2,_⟩:=aaM hl hi
   rw [hall i h1] at h2;cases h2
  ·rw [hD] at hinv;exact hK η A w hinv
 | succ fuel ih=>
  intro listed η w A hl hc hinv
  refine ⟨fun hr=>?_,fun i hi=>?_⟩
  ·exfalso
   have hex:∃i,i < ops.size∧inB listed i=false∧∀j,j < i→inB listed j=true:=by
    have hpos:0 < listed.toList.count false:=by omega
    have hm:=List.count_pos_iff.1 hpos
    obtain ⟨k,hk⟩:=List.mem_iff_getElem?.1 hm
    have af8:k < ops.size:=by have:=(List.getElem?_eq_some_iff.1 hk).1;simp at this;omega
    have hkf:inB listed k=false:=by
     unfold inB;rw [Array.getD_eq_getD_getElem?]
     rw [Array.getElem?_toList] at hk;rw [hk];rfl
    clear hm hk
    induction k using Nat.strongRecOn with
    | _ k ihk=>
     by_cases hb:∃j,j < k∧inB listed j=false
     ·obtain ⟨j,h1,h2⟩:=hb
      exact ihk j h1 (by omega) h2
     ·refine ⟨k,af8,hkf,fun j hj=>?_⟩
      cases hv:inB listed j with
      | true=>rfl
      | false=>exact absurd ⟨j,hj,hv⟩ hb
   obtain ⟨i,h1,h2,h3⟩:=hex
   have hmem:i∈Region.ready .any ops listed:=by
    unfold Region.ready
    simp only [List.mem_filter,List.mem_range,Bool.and_eq_true,Bool.not_eq_true']
    have hlt:i < listed.size:=by omega
    refine ⟨h1, ?_, ?_⟩
    ·unfold inB at h2
     rw [Array.getD_eq_getD_getElem?,Array.getElem?_eq_getElem hlt] at h2 ⊢
     exact h2
    ·have ho:ops[i]? = some ops[i]:=by simp [h1]
     rw [ho]
     simp only [Option.map_some,Option.getD_some]
     rw [Array.all_eq_true']
     intro e he
     cases hb:Region.binds .any e with
     | false=>rfl
     | true=>
      simp only [Bool.not_true,Bool.false_or]
      obtain ⟨hm,hlen⟩:=C.mask ho
      have hbit:nK M e.on i=true:=by
       unfold nK
       rw [List.getD_eq_getElem?_getD,hm]
       simp only [Option.getD_some]
       have:∀ (es:List Edge),e∈es→(ru (fun j=>(M.take i).getD j 0) es).testBit e.on=true:=by
        intro es
        induction es with
        | nil=>intro h;simp at h
        | cons x es Zi=>
         intro h
         rw [ru]
         simp only [List.mem_cons] at h
         rcases h with rfl | h
         ·rw [if_pos hb,Nat.testBit_or,Nat.testBit_or,Nat.testBit_two_pow];simp
         ·split
          ·rw [Nat.testBit_or,Zi h,Bool.or_true]
          ·exact Zi h
       exact this _ (by simpa using he)
      exact h3 e.on (C.NW hbit)
   rw [hr] at hmem;simp at hmem
  ·obtain ⟨h1,h2,h3⟩:=aaM hl hi
   refine hstep _ _ _ _ i _ Q hinv h1 h2 h3 fun η' A' w' hinv'=>?_
   have hf:listed[i]? = some false:=by
    have hlt:i < listed.size:=by omega
    unfold inB at h2
    rw [Array.getD_eq_getD_getElem?,Array.getElem?_eq_getElem hlt] at h2
    rw [Array.getElem?_eq_getElem hlt]
    simpa using h2
   have hD:iR (inB listed) i=inB (listed.setIfInBounds i true):=by
    funext j
    unfold iR inB
    have hlt:i < listed.size:=by omega
    rw [Array.getD_eq_getD_getElem?,Array.getD_eq_getD_getElem?,Array.getElem?_setIfInBounds]
    by_cases e:i=j
    ·subst e;rw [if_pos rfl,if_pos hlt];simp
    ·rw [if_neg e,wR (fun e'=>e e'.symm)];simp
   rw [hD] at hinv'
   exact ih _ η' w' A' (by simpa using hl) (by have:=count_set listed i hf;omega) hinv'
end
theorem abQ {ops:Array Oper} {M:List Nat}:∀ (k i j:Nat),JK ops M k≤i→i < k→jq ops i=false→j < i→jq ops j=true∨nK M j i=true
 | 0,i,j,_,h,_,_=>by omega
 | k+1,i,j,h1,h2,h3,h4=>by
  unfold JK at h1
  split at h1
  ·next ha=>
   by_cases e:i=k
   ·subst e
    rw [h3,Bool.false_or,List.all_eq_true] at ha
    have:=ha j (by simpa using h4)
    rwa [Bool.or_eq_true] at this
   ·exact abQ k i j h1 (by omega) h3 h4
  ·omega
theorem JL:∀ (rs:List bU) (r:bU) (σ:ah),oh (rs++[r]) σ=match r.fin with | some τ=>τ | none=>oh rs σ
 | [],_,_=>rfl
 | s::rs,r,σ=>by
  show oh (rs++[r]) _=_
  rw [JL rs r]
  rfl
theorem Pz {rs:List bU} {σ:ah}:∀k,k≤rs.length→(∀ (i:Nat) r,i < k→rs[i]? = some r→r.fin=none)→oh (rs.take k) σ=σ
 | 0,_,_=>by simp [oh]
 | k+1,hk,h=>by
  obtain ⟨r,hr⟩:∃r,rs[k]? = some r:=⟨_,List.getElem?_eq_getElem (by omega)⟩
  rw [List.take_add_one,hr,Option.toList_some,JL,h k r (by omega) hr]
  exact Pz k (by omega) (fun i r' hi=>h i r' (by omega))
theorem PD {rs:List bU} {σ:ah} {m:Nat} {r:bU} {τ:ah} (hr:rs[m]? = some r) (hf:r.fin=some τ):∀k,m < k→k≤rs.length→(∀ (i:Nat) r',m < i→i < k→rs[i]? = some r'→r'.fin=none)→oh (rs.take k) σ=τ
 | 0,h,_,_=>by omega
 | k+1,hm,hk,h=>by
  by_cases e:m=k
  ·subst e
   rw [List.take_add_one,hr,Option.toList_some,JL,hf]
  ·obtain ⟨r',hr'⟩:∃r,rs[k]? = some r:=⟨_,List.getElem?_eq_getElem (by omega)⟩
   rw [List.take_add_one,hr',Option.toList_some,JL,h k r' (by omega) (by omega) hr']
   exact PD hr hf k (by omega) (by omega) (fun i r'' h1 h2=>h i r'' h1 (by omega))
theorem aeZ {call:Caller} {o:Oper} (hf:uH o=true) {ev:Operand→Option AV} {σ1 σ2 τ:ah} {v:Option AV} (hs:qP P call o ev σ1=some (v,τ)):qP P call o ev σ2=some (v,σ2):=by
 rw [uG] at hs ⊢
 obtain ⟨dst,op,type,pos,after,guard⟩:=o
 cases op with
 | move x=>
  simp only [nR,dh,Option.map_eq_some_iff,Prod.mk.injEq] at hs ⊢
  obtain ⟨u,h1,h2,_⟩:=hs
  exact ⟨u,h1,h2,trivial⟩
 | assign x=>
  simp only [nR,dh,Option.map_eq_some_iff,Prod.mk.injEq] at hs ⊢
  obtain ⟨u,h1,h2,_⟩:=hs
  exact ⟨u,h1,h2,trivial⟩
 | extract x k=>
  simp only [nR] at hs ⊢
  split at hs
  ·simp only [dh,Option.map_eq_some_iff,Prod.mk.injEq] at hs ⊢
   obtain ⟨u,h1,h2,_⟩:=hs
   exact ⟨u,h1,h2,trivial⟩
  ·cases hs
 | binOp op t x y z=>
  simp only [nR] at hs ⊢
  split at hs
  ·simp only [dh,Option.map_eq_some_iff,Prod.mk.injEq] at hs ⊢
   obtain ⟨u,h1,h2,_⟩:=hs
   exact ⟨u,h1,h2,trivial⟩
  ·cases hs
 | _=>simp [uH] at hf
theorem ado {o:Oper} (hf:uH o=true) (ev:Operand→Option AV):Ul o ev=.na []:=by
 obtain ⟨dst,op,type,pos,after,guard⟩:=o
 cases op<;>first | rfl | (simp [uH] at hf)
theorem aeb {call:Caller} {ops:Array Oper} {lock gn n i c:Nat} {prev:List bU} {t:Tr AV} {h:Tr aX} {r:bU} (hs:Ap P call ops lock gn n prev i t h c=some r):r.next=c:=by
 unfold Ap at hs
 split at hs
 ·cases hs
 ·split at hs
  ·cases hs
  ·cases hs;rfl
  ·split at hs
   ·cases hs;rfl
   ·cases hs
theorem KZ {call:Caller} {ops:Array Oper} {M:List Nat} {N0 lock gn n i c:Nat} {prev:List bU} {t:Tr AV} {h:Tr aX} {r:bU} {o:Oper} (ho:ops[i]? = some o) (hf:uH o=true) (hs:su P call ops M N0 lock gn n prev i t h c=some r) :
 r.upd=[]∧r.next=c∧r.fin=none∧((zK o ops { t:=iM t (o.looksAt ops),n:=n,gn:=gn }=some false∧r.slot=lG o (some (.dG [])))∨
  (zK o ops { t:=iM t (o.looksAt ops),n:=n,gn:=gn }=some true∧∃v,(∀σ2,qP P call o (aW.eval { t:=iM t (o.looksAt ops),n:=n,gn:=gn }) σ2=some (v,σ2))∧r.slot=lG o v)):=by
 unfold su at hs
 rw [ho] at hs
 simp only at hs
 split at hs
 ·cases hs
 ·next hw=>cases hs;exact ⟨rfl,rfl,rfl,.inl ⟨hw,rfl⟩⟩
 ·next hw=>
  split at hs
  ·next ty e=>exfalso;obtain ⟨dst,op,type,pos,after,guard⟩:=o;cases e;simp [uH] at hf
  ·rw [ado hf] at hs
   simp only at hs
   split at hs
   ·next v τ hv=>
    split at hs
    ·cases hs
     exact ⟨rfl,rfl,rfl,.inr ⟨hw,v,fun σ2=>aeZ hf hv,rfl⟩⟩
    ·cases hs
   ·cases hs
theorem KQ {ops:Array Oper} {D:Nat→Bool} {i:Nat} (h:Closed ops D) (hd:∀o,ops[i]? = some o→∀e∈o.after.toList,Region.binds .any e=true→D e.on=true):Closed ops (iR D i):=by
 intro j o hj ho e he hb
 unfold iR at hj ⊢
 rw [Bool.or_eq_true] at hj ⊢
 rcases hj with hj | hj
 ·exact .inl (h j o hj ho e he hb)
 ·have:=Nat.eq_of_beq_eq_true hj
  subst this
  exact .inl (hd o ho e he hb)
section
variable {call:Caller} {ops:Array Oper} {M:List Nat} {rs:List bU} {a:aW} {σ:ah} {c:Nat} {D:Nat→Bool}
theorem Ctx.act' (C:Ctx P call ops M rs a σ c) (hcl:Closed ops D) {i:Nat} {o:Oper} {r:bU} (ho:ops[i]? = some o) (hr:rs[i]? = some r) (hi:D i=false) (dZ:∀e∈o.after.toList,Region.binds .any e=true→D e.on=true)
 {η:Env} {A:Act} (htr:TR P η { t:=iq (iI rs) 0 D a.t,n:=a.n,gn:=a.gn } A):TR P η { t:=iM (fU ((iI rs).take i) a.t) (o.looksAt ops),n:=a.n,gn:=a.gn } A:=by
 refine ⟨htr.gn,htr.size,htr.none,fun d v hv=>?_⟩
 rw [sJ] at hv
 split at hv
 ·next hd=>
  rw [C.abu (a0:=a) hcl ho hr hi dZ hd] at hv
  exact htr.slot d v hv
 ·cases hv
theorem Ctx.last (C:Ctx P call ops M rs a σ c) (hcall:l7 P call) (hcl:Closed ops D) {i:Nat} {o:Oper} {r:bU} (ho:ops[i]? = some o) (hr:rs[i]? = some r) (hi:D i=false) (dZ:∀e∈o.after.toList,Region.binds .any e=true→D e.on=true) (hla:jv ops M i=true)
 {η η1:Env} {w0 w1:World} {A:Act} (hst:St P η σ w0 η1 (oh (rs.take i) { h:=fU ((dU rs).take i) σ.h,next:=gy (σ.next+ops.size) rs i,lock:=σ.lock }) w1)
 (htr:TR P η1 { t:=iq (iI rs) 0 D a.t,n:=a.n,gn:=a.gn } A) {K:Act→World→Prop} {Q:Exit→Act→World→Prop}
 (hK:∀η' A' w' τ,r.fin=some τ→St P η σ w0 η' τ w'→TR P η' { t:=iq (iI rs) 0 (iR D i) a.t,n:=a.n,gn:=a.gn } A'→K A' w'):wpOp P ops Q i K A w1:=by
 have hone:=C.one i r hr
 unfold pI at hone
 rw [if_pos hla] at hone
 unfold Ap at hone
 rw [ho] at hone
 simp only at hone
 have hact:=C.act' hcl ho hr hi dZ htr
 have hnext:=fun d=>C.Gt (a0:=a) hcl ho hr hi dZ d
 have hsl:=(C.slot i r hr).2
 unfold wpOp
 rw [ho]
 simp only
 split at hone
 ·cases hone
 ·next hw=>
  cases hone
  rw [xX hact hw]
  simp only [Bool.false_eq_true,if_false]
  exact hK η1 _ w1 _ rfl hst (htr.add (Env.le.refl _) hnext hsl (by rintro u hu;cases hu;exact ⟨[],rfl,rfl⟩))
 ·next hw=>
  rw [xX hact hw]
  simp only [if_true]
  left
  split at hone
  ·next v τ hop=>
   rw [uG] at hop
   cases hone
   refine Kt hst.rel hcall hact hop fun x η' w' hst2 hx=>?_
   exact hK η' _ w' _ rfl (hst.trans hst2) (htr.add hst2.ext hnext hsl hx)
  ·cases hone
theorem Ctx.free (C:Ctx P call ops M rs a σ c) (hcall:l7 P call) (hcl:Closed ops D) {i:Nat} {o:Oper} {r:bU} (ho:ops[i]? = some o) (hr:rs[i]? = some r) (hi:D i=false) (dZ:∀e∈o.after.toList,Region.binds .any e=true→D e.on=true) (hf:uH o=true)
 {η η1:Env} {τ:ah} {w0 w1:World} {A:Act} (hst:St P η σ w0 η1 τ w1) (htr:TR P η1 { t:=iq (iI rs) 0 D a.t,n:=a.n,gn:=a.gn } A) {K:Act→World→Prop} {Q:Exit→Act→World→Prop}
 (hK:∀η' A' w',St P η σ w0 η' τ w'→TR P η' { t:=iq (iI rs) 0 (iR D i) a.t,n:=a.n,gn:=a.gn } A'→K A' w'):wpOp P ops Q i K A w1:=by
 have hone:=C.one i r hr
 unfold pI at hone
 have hnl:jv ops M i=false:=by
  unfold jv jq
  rw [ho]
  simp only [hf,Bool.not_true,Bool.and_false]
 rw [hnl] at hone
 simp only [Bool.false_eq_true,if_false] at hone
 obtain ⟨_,_,_,hcase⟩:=KZ ho hf hone
 have hact:=C.act' hcl ho hr hi dZ htr
 have hnext:=fun d=>C.Gt (a0:=a) hcl ho hr hi dZ d
 have hsl:=(C.slot i r hr).2
 unfold wpOp
 rw [ho]
 simp only
 rcases hcase with ⟨hw,hs⟩ | ⟨hw,v,hv,hs⟩
 ·rw [hs] at hnext hsl
  rw [xX hact hw]
  simp only [Bool.false_eq_true,if_false]
  exact hK η1 _ w1 hst (htr.add (Env.le.refl _) hnext hsl (by rintro u hu;cases hu;exact ⟨[],rfl,rfl⟩))
 ·rw [hs] at hnext hsl
  rw [xX hact hw]
  simp only [if_true]
  left
  have hop:=hv τ
  rw [uG] at hop
  refine Kt hst.rel hcall hact hop fun x η' w' hst2 hx=>?_
  exact hK η' _ w' (hst.trans hst2) (htr.add hst2.ext hnext hsl hx)
theorem Ctx.abR (C:Ctx P call ops M rs a σ c) {l:Nat} (hl:∀i,l≤i→i < ops.size→jv ops M i=true∨jq ops i=true):∀k,l+k≤ops.size→gy (σ.next+ops.size) rs (l+k)=gy (σ.next+ops.size) rs l
 | 0,_=>rfl
 | k+1,h=>by
  have ih:=C.abR hl k (by omega)
  obtain ⟨r,hr⟩:∃r,rs[l+k]? = some r:=⟨_,List.getElem?_eq_getElem (by rw [C.len];omega)⟩
  obtain ⟨o,ho⟩:∃o,ops[l+k]? = some o:=⟨ops[l+k],by simp⟩
  have hone:=C.one _ _ hr
  unfold pI at hone
  rw [show l+(k+1)=(l+k)+1 by omega,Dc rs _ _ _ hr,← ih]
  split at hone
  ·exact aeb hone
  ·next hn=>
   rcases hl (l+k) (by omega) (by omega) with h1 | h1
   ·exact absurd h1 hn
   ·unfold jq at h1
    rw [ho] at h1
    exact (KZ ho h1 hone).2.1
end
theorem XO (hm:P.follows .mixedOrders=true):J7 P (EW P):=by
 intro call hcall ops a σ a' σ' hs η w A id Q h ht hK
 unfold EW at hs
 simp only at hs
 split at hs
 ·next hok=>
  simp only [Bool.and_eq_true] at hok
  split at hs
  ·next rs t hh c hgo=>
   split at hs
   ·next qV=>
    simp only [Bool.and_eq_true] at qV
    obtain ⟨⟨⟨agn,hdy0⟩,hsl⟩,hbig⟩:=qV
    obtain ⟨new,h1,h2,h3,h4,h5,h6⟩:=XF _ _ _ _ _ _ _ _ _ _ hgo
    simp only [List.nil_append] at h1
    subst h1
    have C:Ctx P call ops (jh ops.toList []) rs a σ c:={
     hM:=rfl
     mok:=hok.1
     len:=h2
     one:=fun i r hr=>by have:=h6 i r hr;simpa using this
     pairs:=aik agn hdy0 (fun i r hr=>by have:=h6 i r hr;exact aeg (by simpa using this))
     slot:=by
      intro i r hr
      unfold abE at hsl
      rw [List.all_eq_true] at hsl
      have:=hsl r (List.mem_of_getElem? hr)
      simp only [Bool.and_eq_true] at this
      refine ⟨Nat.le_of_ble_eq_true this.1,fun p hpm=>?_⟩
      have h8:=this.2
      rw [List.all_eq_true] at h8
      have:=h8 p hpm
      rwa [Nat.blt_eq] at this
     fin:=h5
     big:=Nat.le_of_ble_eq_true hbig
     lock:=Nat.le_of_ble_eq_true hok.2 }
    refine wp_region_any hm ?_
    have hcl:=C.KO
    have hempty:inB (Array.replicate ops.size false)=fun _=>false:=by
     funext j
     unfold inB
     rw [Array.getD_eq_getD_getElem?,Array.getElem?_replicate]
     split<;>rfl
    have hno:∀ {α:Type} (us:List (List (Nat×Option α))) (k:Nat) (t:Tr α),iq us k (fun _=>false) t=t:=by
     intro α us
     induction us with
     | nil=>intro k t;rfl
     | cons u us ih=>intro k t;rw [iq];simp only [Bool.false_eq_true,if_false];exact ih _ _
    have start:tY P ops rs a σ c η { w with drawn:=w.drawn+1 } (fun _=>false) η { w with drawn:=w.drawn+1 } A:=by
     refine ⟨fun i o hi=>by simp at hi, ?_, ?_,fun id hq=>.inl (h.hasLt hq)⟩
     ·rw [hno]
      refine (St.refl h.drew).sub (fun id o ho=>ho) (by show σ.next≤c;omega) rfl
     ·rw [hno];exact ⟨ht.gn,ht.size,ht.none,ht.slot⟩
    have Zd:iq (iI rs) 0 (fun j=>decide (j < ops.size)) a.t=t:=by
     rw [h3];exact LK _ _ _ _ (fun j hj=>by simp [iI] at hj ⊢;omega)
    have hlast:∀i,i < ops.size→jv ops (jh ops.toList []) i=true→jq ops i=false∧∀j,j < i→jq ops j=true∨nK (jh ops.toList []) j i=true:=by
     intro i hi hla
     unfold jv at hla
     rw [Bool.and_eq_true,Bool.not_eq_true'] at hla
     exact ⟨hla.2,fun j hj=>abQ _ _ _ (Nat.le_of_ble_eq_true hla.1) hi hla.2 hj⟩
    have hup:∀i j,i≤j→j < ops.size→jv ops (jh ops.toList []) i=true→jv ops (jh ops.toList []) j=true∨jq ops j=true:=by
     intro i j hij hj hla
     unfold jv at hla ⊢
     rw [Bool.and_eq_true,Bool.not_eq_true'] at hla
     have:=Nat.le_of_ble_eq_true hla.1
     cases hf:jq ops j with
     | true=>exact .inr rfl
     | false=>left;rw [Nat.ble_eq_true_of_le (Nat.le_trans this hij)];rfl
    have hfree:∀i,jq ops i=true→jv ops (jh ops.toList []) i=false:=by
     intro i hf
     unfold jv
     rw [hf]
     simp
    have hfin:∀ (i:Nat) r,rs[i]? = some r→jv ops (jh ops.toList []) i=false→r.fin=none:=by
     intro i r hr hi
     have hone:=C.one i r hr
     unfold pI at hone
     rw [hi] at hone
     simp only [Bool.false_eq_true,if_false] at hone
     exact aef hone
    have af6:∀ (i:Nat) r,rs[i]? = some r→jq ops i=true→r.upd=[]:=by
     intro i r hr hf
     have hone:=C.one i r hr
     unfold pI at hone
     rw [hfree i hf] at hone
     simp only [Bool.false_eq_true,if_false] at hone
     unfold jq at hf
     split at hf
     ·next o ho=>exact (KZ ho hf hone).1
     ·cases hf
    let wd:World:={ w with drawn:=w.drawn+1 }
    cases hs
    refine acI C.tolQ (fun D η1 w1 A1=>((∀i,i < ops.size→jv ops (jh ops.toList []) i=true→D i=false)∧tY P ops rs a σ c η wd D η1 w1 A1)∨
     ∃m,m < ops.size∧jv ops (jh ops.toList []) m=true∧Closed ops D∧(∀j,j < ops.size→jq ops j=false→D j=decide (j≤m))∧∃r τ,rs[m]? = some r∧r.fin=some τ∧St P η σ wd η1 τ w1∧TR P η1 { t:=iq (iI rs) 0 D a.t,n:=a.n,gn:=a.gn } A1) ?_ ?_ ops.size (Array.replicate ops.size false) η _ A (by simp) (by simp) (.inl ⟨fun i _ _=>by rw [hempty],by rw [hempty];exact start⟩)
    ·intro D η1 w1 A1 i K Q' hinv hil hi wK hK'
     obtain ⟨o,ho⟩:∃o,ops[i]? = some o:=⟨ops[i],by simp [hil]⟩
     obtain ⟨r,hr⟩:∃r,rs[i]? = some r:=⟨_,List.getElem?_eq_getElem (by rw [h2];exact hil)⟩
     have dZ:=wK o ho
     rcases hinv with ⟨hD,hinv⟩ | ⟨m,hm2,MG,hcl,AY,r1,τ1,hr1,hf1,hst1,DX⟩
     ·by_cases hla:jv ops (jh ops.toList []) i=true
      ·
       obtain ⟨hnf,hord⟩:=hlast i hil hla
       have L9:∀j,j < ops.size→jq ops j=false→D j=decide (j < i):=by
        intro j hj kV
        by_cases h1:j < i
        ·have:D j=true:=C.lS hinv.closed i o ho dZ j ((hord j h1).resolve_left (by rw [kV];simp))
         rw [this];simp [h1]
        ·have:D j=false:=hD j hj ((hup i j (by omega) hj hla).resolve_right (by rw [kV];simp))
         rw [this];simp [h1]
       have afX:∀j,j < i→jv ops (jh ops.toList []) j=false:=by
        intro j hj
        cases e:jv ops (jh ops.toList []) j with
        | false=>rfl
        | true=>
         have h1:=hD j (by omega) e
         rw [L9 j (by omega) (hlast j (by omega) e).1] at h1
         exact absurd hj (of_decide_eq_false h1)
       have agu:∀b,(fU ((dU rs).take i) σ.h).get b=(iq (dU rs) 0 D σ.h).get b:=by
        intro b
        rw [AP (dU rs) i 0,uK]
        congr 1
        refine Bd _ _ _ _ _ fun j u hj hne=>?_
        have hjl:j < ops.size:=by have:=(List.getElem?_eq_some_iff.1 hj).1;simp [dU] at this;omega
        simp only [Nat.zero_add] at hne
        cases kV:jq ops j with
        | false=>exact absurd (L9 j hjl kV).symm hne
        | true=>
         obtain ⟨r',hr',hu⟩:=EJ hj
         rw [af6 j r' hr' kV] at hu
         subst hu
         rfl
       have af2:gy (σ.next+ops.size) rs i=c:=by
        have:=C.abR (l:=i) (fun k h1 h2=>hup i k h1 h2 hla) (ops.size - i) (by omega)
        rw [show i+(ops.size - i)=ops.size by omega] at this
        rw [← this];exact C.fin.symm
       have hts:∀σ1,oh (rs.take i) σ1=σ1:=fun σ1=>Pz i (by omega) fun j r' h1 h2=>hfin j r' h2 (afX j h1)
       refine C.last hcall hinv.closed ho hr hi dZ hla (η:=η) (w0:=wd) (η1:=η1) ?_ hinv.tr fun η' A' w' τ hf hst htr=>hK' η' A' w' (.inr ⟨i,hil,hla,KQ hinv.closed wK, ?_,r,τ,hr,hf,hst,htr⟩)
       ·rw [hts]
        refine hinv.st.sub (fun id' o' ho'=>?_) (Nat.le_of_eq af2.symm) rfl
        rw [show (ah.get { h:=iq (dU rs) 0 D σ.h,next:=c,lock:=σ.lock } id')=(iq (dU rs) 0 D σ.h).get id' from rfl,← agu];exact ho'
       ·intro j hj kV
        unfold iR
        rw [L9 j hj kV]
        by_cases e:j=i
        ·subst e;simp
        ·rw [wR e,Bool.or_false];congr 1;apply propext;omega
      ·have hnl:jv ops (jh ops.toList []) i=false:=by simpa using hla
       refine C.step hcall h.drew hinv hil hi wK hnl fun η' A' w' hinv'=>hK' η' A' w' (.inl ⟨fun j hj hjl=>?_,hinv'⟩)
       have hji:j≠i:=fun e=>by subst e;rw [hnl] at hjl;cases hjl
       unfold iR
       rw [hD j hj hjl,wR hji];rfl
     ·cases hif:jq ops i with
      | true=>
       have hof:uH o=true:=by unfold jq at hif;rw [ho] at hif;exact hif
       refine C.free hcall hcl ho hr hi dZ hof hst1 DX fun η' A' w' hst htr=>hK' η' A' w' (.inr ⟨m,hm2,MG,KQ hcl wK, ?_,r1,τ1,hr1,hf1,hst,htr⟩)
       intro j hj kV
       have hji:j≠i:=fun e=>by subst e;rw [hif] at kV;cases kV
       unfold iR
       rw [AY j hj kV,wR hji,Bool.or_false]
      | false=>
       have him:¬ i≤m:=by
        intro hle
        rw [AY i hil hif] at hi
        exact of_decide_eq_false hi hle
       have hla:jv ops (jh ops.toList []) i=true:=(hup m i (by omega) hil MG).resolve_right (by rw [hif];simp)
       have hmid:∀j,m < j→j < i→jq ops j=true:=by
        intro j h1 h2
        cases kV:jq ops j with
        | true=>rfl
        | false=>
         have h8:D j=true:=C.lS hcl i o ho dZ j (((hlast i hil hla).2 j h2).resolve_left (by rw [kV];simp))
         rw [AY j (by omega) kV] at h8
         have:=of_decide_eq_true h8
         omega
       have hts:∀σ1,oh (rs.take i) σ1=τ1:=fun σ1=>PD hr1 hf1 i (by omega) (by omega) fun j r' h1 h2 h3=>hfin j r' h3 (hfree j (hmid j h1 h2))
       refine C.last hcall hcl ho hr hi dZ hla (η:=η) (w0:=wd) (η1:=η1) (by rw [hts];exact hst1) DX fun η' A' w' τ hf hst htr=>hK' η' A' w' (.inr ⟨i,hil,hla,KQ hcl wK, ?_,r,τ,hr,hf,hst,htr⟩)
       intro j hj kV
       unfold iR
       rw [AY j hj kV]
       by_cases e:j=i
       ·subst e;simp
       ·rw [wR e,Bool.or_false]
        congr 1
        apply propext
        constructor
        ·omega
        ·intro h1
         apply Classical.byContradiction
         intro h2
         have:=hmid j (by omega) (by omega)
         rw [this] at kV;cases kV
    ·intro η1 A1 w1 hinv
     rcases hinv with ⟨hD,hinv⟩ | ⟨m,hm2,MG,hcl,AY,r1,τ1,hr1,hf1,hst1,DX⟩
     ·have agd:∀i,i < ops.size→jv ops (jh ops.toList []) i=false:=by
       intro i hi
       cases e:jv ops (jh ops.toList []) i with
       | false=>rfl
       | true=>have:=hD i hi e;simp at this;omega
      have hts:oh rs { h:=hh,next:=c,lock:=σ.lock } = { h:=hh,next:=c,lock:=σ.lock }:=by
       have:=Pz (rs:=rs) (σ:={ h:=hh,next:=c,lock:=σ.lock }) rs.length (Nat.le_refl _) fun j r' h1 h2=>hfin j r' h2 (agd j (by omega))
       rwa [List.take_length] at this
      rw [hts] at hK
      have agv:iq (dU rs) 0 (fun j=>decide (j < ops.size)) σ.h=hh:=by
       rw [h4];exact LK _ _ _ _ (fun j hj=>by simp [dU] at hj ⊢;omega)
      have hst:=hinv.st
      have htr:=hinv.tr
      rw [agv] at hst
      rw [Zd] at htr
      exact hK η1 A1 w1 ((St.drew h).trans hst) htr
     ·have hts:∀σ1,oh rs σ1=τ1:=by
       intro σ1
       have:=PD (σ:=σ1) hr1 hf1 rs.length (by omega) (Nat.le_refl _) fun j r' h1 h2 h3=>by
        refine hfin j r' h3 (hfree j ?_)
        cases kV:jq ops j with
        | true=>rfl
        | false=>
         have h9:decide (j < ops.size)=decide (j≤m):=AY j (by omega) kV
         have h10:decide (j < ops.size)=true:=by simp;omega
         rw [h10] at h9
         have:=of_decide_eq_true h9.symm
         omega
       rwa [List.take_length] at this
      rw [hts] at hK
      rw [Zd] at DX
      exact hK η1 A1 w1 ((St.drew h).trans hst1) DX
   ·cases hs
  ·cases hs
 ·cases hs
end
end Go.aJ
