/- Regions whose order Go leaves open: one operation keeps the invariant. -/
import Derived.Test.YthgifdbaegpbpaaGreatDoorAbsF
namespace Go.aP
noncomputable section
variable [aC]
set_option linter.unusedSectionVars false
set_option linter.unusedVariables false
set_option linter.unusedSimpArgs false
variable {P:Program}
structure vC (P:Program) (ops:Array Oper) (rs:List bP) (a0:aY) (σ0:ah) (cf:Nat) (η0:Env) (w0:World) (D:Nat→Bool) (η:Env) (w:World) (A:Act):Prop where
 closed:Closed ops D
 st:St P η0 σ0 w0 η { h:=iw (eH rs) 0 D σ0.h,next:=cf,lock:=σ0.lock } w
 tr:TR P η { t:=iw (iH rs) 0 D a0.t,n:=a0.n,gn:=a0.gn } A
 dm:∀id,η.has id→id < σ0.next∨(∃k,k < ops.size∧D k=true∧id=σ0.next+k)∨(∃ (j:Nat) (r:bP),rs[j]? = some r∧D j=true∧r.base≤id∧id < r.next)
theorem TR.add {η η':Env} {T T':Tr AV} {n gn:Nat} {A:Act} {o:Oper} {v:Option AV} {x:Value} (h:TR P η { t:=T,n:=n,gn:=gn } A) (hle:η.le η') (hg:∀d,T'.get d=(dL (lZ o v) d).getD (T.get d))
 (hb:∀p∈lZ o v,p.1 < n) (hv:∀u,v=some u→VR η' u x):TR P η' { t:=T',n:=n,gn:=gn } (A.put o.dst x):=by
 have h':=h.mono hle
 unfold lZ at hg hb
 cases hd:o.dst with
 | none=>
  rw [hd] at hg
  refine ⟨h.gn,h.size,h.none,fun d u hu=>?_⟩
  rw [hg] at hu
  exact h'.slot d u hu
 | some d0=>
  rw [hd] at hg hb
  have hd0:=hb (d0,v) (by simp)
  refine ⟨h.gn,by have:=h.size;simpa [Act.put] using this,h.none,fun d u hu=>?_⟩
  rw [hg] at hu
  simp only [dL] at hu
  show ∃y,(A.tmps.setIfInBounds d0 x)[d]? = some y∧_
  rw [Array.getElem?_setIfInBounds]
  by_cases e:d=d0
  ·subst e
   rw [if_pos rfl,if_pos (by have:=h.size;simp only at this hd0;omega)]
   rw [if_pos rfl] at hu
   exact ⟨x,rfl,hv u hu⟩
  ·rw [if_neg (fun e'=>e e'.symm)]
   rw [if_neg e] at hu
   exact h'.slot d u hu
section
variable {call:Caller} {ops:Array Oper} {M:List Nat} {rs:List bP} {a0:aY} {σ0:ah} {cf:Nat} {η0 η:Env} {w0 w:World} {D:Nat→Bool} {A:Act} {i nn N0:Nat} {o:Oper} {r:bP}
def iT (D:Nat→Bool) (i:Nat):Nat→Bool:=fun j=>D j || Nat.beq j i
theorem aq0 {rs:List bP} {i:Nat} {r:bP} (h:rs[i]? = some r):(eH rs)[i]? = some r.upd:=by simp [eH,h]
theorem anD {rs:List bP} {i:Nat} {r:bP} (h:rs[i]? = some r):(iH rs)[i]? = some r.slot:=by simp [iH,h]
theorem Gq {rs:List bP} {i:Nat} {u:List (Nat×Option aZ)} (h:(eH rs)[i]? = some u):∃r,rs[i]? = some r∧r.upd=u:=by simpa [eH] using h
theorem aeb {rs:List bP} {i:Nat} {u:List (Nat×Option AV)} (h:(iH rs)[i]? = some u):∃r,rs[i]? = some r∧r.slot=u:=by simpa [iH] using h
theorem Dw {N0 i j:Nat} {r s:bP} {o:Oper} (ho:ops[i]? = some o) (h:FQ ops N0 i j r s=true):lH (keysOf r.slot) (keysOf s.slot)=true∧lH (o.looksAt ops) (keysOf s.slot)=true∧lH (keysOf r.upd) (keysOf s.upd)=true∧
 (∀l,r.vis=some l→lH l (keysOf s.upd)=true)∧(r.vis=none→i < j→(∀k∈keysOf s.upd,N0≤k)∧lH r.loc (keysOf s.upd)=true∧s.base=s.next)∧(r.vis=none→i≠j→j < i∨i < j):=by
 unfold FQ at h
 rw [ho] at h
 simp only [Bool.and_eq_true] at h
 obtain ⟨⟨⟨h1,h2⟩,h3⟩,h4⟩:=h
 refine ⟨h1,h2,h3, ?_, ?_,fun _ hne=>by omega⟩
 ·intro l hl;rw [hl] at h4;exact h4
 ·intro hn hij
  rw [hn] at h4
  simp only [Bool.or_eq_true,Bool.and_eq_true] at h4
  rcases h4 with h4 | ⟨⟨h5,h6⟩,h7⟩
  ·rw [Nat.blt_eq] at h4;omega
  ·refine ⟨fun k hk=>?_,h6,Nat.eq_of_beq_eq_true h7⟩
   rw [List.all_eq_true] at h5
   exact Nat.le_of_ble_eq_true (h5 k hk)
theorem mg.aa5 (C:mg ops M rs nn N0) (hD:Closed ops D) (ho:ops[i]? = some o) (hr:rs[i]? = some r) (hi:D i=false) (fA:∀e∈o.after.toList,Region.binds .any e=true→D e.on=true) (b:Nat) :
 (iw (eH rs) 0 (iT D i) σ0.h).get b=(dL r.upd b).getD ((iw (eH rs) 0 D σ0.h).get b):=by
 rw [wB,wB]
 have:=Qn (eH rs) 0 i D b r.upd (aq0 hr) (by simpa using hi) (fun j v hj hij wC hne=>by
  obtain ⟨s,hs,rfl⟩:=Gq hj
  have hjl:j < ops.size:=by have:=(List.getElem?_eq_some_iff.1 hs).1;rw [C.len] at this;exact this
  have hun:=C.open_ hD ho hi fA hjl (by simp at wC;rw [wC];simp;omega)
  have hp:=Dw ho (C.pairs i j r s hr hs hun)
  exact Fz (EN hp.2.2.1 ((rH _ _).1 hne)))
 simp only [Nat.zero_add] at this
 unfold iT
 rw [this]
 cases dL r.upd b<;>rfl
theorem mg.IL (C:mg ops M rs nn N0) (hD:Closed ops D) (ho:ops[i]? = some o) (hr:rs[i]? = some r) (hi:D i=false) (fA:∀e∈o.after.toList,Region.binds .any e=true→D e.on=true) (b:Nat) :
 (iw (iH rs) 0 (iT D i) a0.t).get b=(dL r.slot b).getD ((iw (iH rs) 0 D a0.t).get b):=by
 rw [wB,wB]
 have:=Qn (iH rs) 0 i D b r.slot (anD hr) (by simpa using hi) (fun j v hj hij wC hne=>by
  obtain ⟨s,hs,rfl⟩:=aeb hj
  have hjl:j < ops.size:=by have:=(List.getElem?_eq_some_iff.1 hs).1;rw [C.len] at this;exact this
  have hun:=C.open_ hD ho hi fA hjl (by simp at wC;rw [wC];simp;omega)
  have hp:=Dw ho (C.pairs i j r s hr hs hun)
  exact Fz (EN hp.1 ((rH _ _).1 hne)))
 simp only [Nat.zero_add] at this
 unfold iT
 rw [this]
 cases dL r.slot b<;>rfl
theorem mg.ad3 (C:mg ops M rs nn N0) (hD:Closed ops D) (ho:ops[i]? = some o) (hr:rs[i]? = some r) (hi:D i=false) (fA:∀e∈o.after.toList,Region.binds .any e=true→D e.on=true) {d:Nat} (hd:d∈o.looksAt ops) :
 (fZ ((iH rs).take i) a0.t).get d=(iw (iH rs) 0 D a0.t).get d:=by
 rw [CV (iH rs) i 0,wB]
 congr 1
 refine Df _ _ _ _ _ fun j u hj hne=>?_
 obtain ⟨s,hs,rfl⟩:=aeb hj
 have hjl:j < ops.size:=by have:=(List.getElem?_eq_some_iff.1 hs).1;rw [C.len] at this;exact this
 simp only [Nat.zero_add] at hne
 have hun:=C.open_ hD ho hi fA hjl (fun e=>hne e.symm)
 have hp:=Dw ho (C.pairs i j r s hr hs hun)
 exact Fz (EN hp.2.1 hd)
theorem mg.anq (C:mg ops M rs nn N0) (hD:Closed ops D) (ho:ops[i]? = some o) (hr:rs[i]? = some r) (hi:D i=false) (fA:∀e∈o.after.toList,Region.binds .any e=true→D e.on=true) {l:List Nat} (hv:r.vis=some l) {b:Nat} (hb:b∈l) :
 (fZ ((eH rs).take i) σ0.h).get b=(iw (eH rs) 0 D σ0.h).get b:=by
 rw [CV (eH rs) i 0,wB]
 congr 1
 refine Df _ _ _ _ _ fun j u hj hne=>?_
 obtain ⟨s,hs,rfl⟩:=Gq hj
 have hjl:j < ops.size:=by have:=(List.getElem?_eq_some_iff.1 hs).1;rw [C.len] at this;exact this
 simp only [Nat.zero_add] at hne
 have hun:=C.open_ hD ho hi fA hjl (fun e=>hne e.symm)
 have hp:=Dw ho (C.pairs i j r s hr hs hun)
 exact Fz (EN (hp.2.2.2.1 l hv) hb)
theorem Ctx.act (C:Ctx P call ops M rs a0 σ0 cf) (hinv:vC P ops rs a0 σ0 cf η0 w0 D η w A) (ho:ops[i]? = some o) (hr:rs[i]? = some r) (hi:D i=false) (fA:∀e∈o.after.toList,Region.binds .any e=true→D e.on=true) :
 TR P η { t:=iM (fZ ((iH rs).take i) a0.t) (o.looksAt ops),n:=a0.n,gn:=a0.gn } A:=by
 refine ⟨hinv.tr.gn,hinv.tr.size,hinv.tr.none,fun d v hv=>?_⟩
 rw [uN] at hv
 split at hv
 ·next hd=>
  rw [C.ad3 (a0:=a0) hinv.closed ho hr hi fA hd] at hv
  exact hinv.tr.slot d v hv
 ·cases hv
theorem Ctx.gen (C:Ctx P call ops M rs a0 σ0 cf) (hcall:l9 P call) (hinv:vC P ops rs a0 σ0 cf η0 w0 D η w A) (ho:ops[i]? = some o) (hr:rs[i]? = some r) (hil:i < ops.size) (hi:D i=false)
 (fA:∀e∈o.after.toList,Region.binds .any e=true→D e.on=true) {ηi:Env} {τ τ':ah} {v:Option AV} {a:aY} {K:Act→World→Prop} {Q:Exit→Act→World→Prop}
 (IZ:SR P ηi τ w) (hTi:TR P ηi a A) (hle:ηi.le η) (hro:ηi.ro=η.ro) (hop:oK P call o a.eval τ=some (v,τ')) (Fa:r.slot=lZ o v)
 (sub:∀id ob,τ.get id=some ob→(iw (eH rs) 0 D σ0.h).get id=some ob) (free:∀id,η.has id→¬ (τ.next≤id∧id < τ'.next))
 (hu:∀b ob,dL r.upd b=some (some ob)→τ'.get b=some ob∧((∃o0,τ.get b=some o0∧o0.own=true)∨(ob.own=true∧τ.get b=none)))
 (DT:∀id ob,τ.get id=some ob→ob.own=true→τ.lock≤id→dL r.upd id≠none) (hlk:σ0.lock≤τ.lock) (C9:∀b,dL r.upd b≠none→τ.lock≤b)
 (hdm:∀id,τ.next≤id→id < τ'.next→σ0.next≤id∧id < cf∧(id=σ0.next+i∨(r.base≤id∧id < r.next)))
 (hK:∀η' A' w',vC P ops rs a0 σ0 cf η0 w0 (iT D i) η' w' A'→K A' w'):o.wp P A w K Q:=by
 refine Ny IZ hcall hTi hop fun x mZ w' hst hx=>?_
 let η':Env:=⟨fun id=>if τ.next≤id∧id < τ'.next then mZ id else η id,mZ.ro,fun id=>if τ.next≤id∧id < τ'.next then mZ.gh id else η.gh id⟩
 have h1:η.le η':=⟨fun id q hq=>by
  show (if τ.next≤id∧id < τ'.next then mZ id else η id)=some q
  rw [if_neg (free id (.inl ⟨q,hq⟩))];exact hq,fun b o hb=>hst.ext.ro b o (by rw [hro];exact hb),fun id hg=>by
  show (if τ.next≤id∧id < τ'.next then mZ.gh id else η.gh id)=true
  rw [if_neg (free id (.inr hg))];exact hg⟩
 have h2:mZ.le η':=⟨fun id q hq=>by
  show (if τ.next≤id∧id < τ'.next then mZ id else η id)=some q
  split
  ·exact hq
  ·next hn=>
   rcases hst.akO hq with h3 | h3
   ·exact hle.pl _ _ h3
   ·exact absurd h3 hn,fun _ _ h=>h,fun id hg=>by
  show (if τ.next≤id∧id < τ'.next then mZ.gh id else η.gh id)=true
  split
  ·exact hg
  ·next hn=>
   rcases hst.new id (.inr hg) with (⟨q,h3⟩ | h3) | h3
   ·have:=hst.ext.pl _ _ h3
    rw [(hst.rel.gW id hg).1] at this;cases this
   ·exact hle.gh _ h3
   ·exact absurd h3 hn⟩
 have hnew:∀id,η'.has id→η.has id∨(τ.next≤id∧id < τ'.next):=fun id hh=>by
  by_cases hn:τ.next≤id∧id < τ'.next
  ·exact .inr hn
  ·left
   rcases hh with ⟨q,hq⟩ | hg
   ·have hq':(if τ.next≤id∧id < τ'.next then mZ id else η id)=some q:=hq
    rw [if_neg hn] at hq'
    exact .inl ⟨q,hq'⟩
   ·have hg':(if τ.next≤id∧id < τ'.next then mZ.gh id else η.gh id)=true:=hg
    rw [if_neg hn] at hg'
    exact .inr hg'
 have Pq:∀id,η'.gh id=true→η' id=none:=fun id hg=>by
  have hg':(if τ.next≤id∧id < τ'.next then mZ.gh id else η.gh id)=true:=hg
  show (if τ.next≤id∧id < τ'.next then mZ id else η id)=none
  split at hg'
  ·next hn=>rw [if_pos hn];exact (hst.rel.gW id hg').1
  ·next hn=>rw [if_neg hn];exact (hinv.st.rel.gW id hg').1
 have hg:=C.aa5 (σ0:=σ0) hinv.closed ho hr hi fA
 have hdom:∀id,η'.has id→id < cf:=fun id hq=>by
  rcases hnew id hq with h3 | ⟨h3,h4⟩
  ·exact hinv.st.rel.hasLt h3
  ·exact (hdm id h3 h4).2.1
 obtain ⟨rel,size,keep,own,lU⟩:=St.merge (σ':={ h:=iw (eH rs) 0 (iT D i) σ0.h,next:=cf,lock:=σ0.lock }) (upd:=r.upd) (η':=η') hinv.st.rel IZ hst sub hle hro rfl h1 h2 hg hu DT hlk C9 (fun id q hq=>hdom id (.inl ⟨q,hq⟩)) (fun id hgi=>⟨Pq id hgi,hdom id (.inr hgi)⟩)
 refine hK η' _ w' ⟨?_, ?_, ?_, ?_⟩
 ·intro k o' hk ho' e he hb
  unfold iT at hk ⊢
  simp only [Bool.or_eq_true] at hk ⊢
  rcases hk with hk | hk
  ·exact .inl (hinv.closed k o' hk ho' e he hb)
  ·have:=Nat.eq_of_beq_eq_true hk;subst this
   rw [ho] at ho';cases ho'
   exact .inl (fA e he hb)
 ·refine hinv.st.then h1 rel size keep own hst.os hst.tape hst.output rfl (Nat.le_refl _) ?_ lU
  intro id hq
  rcases hnew id hq with h3 | ⟨h3,h4⟩
  ·exact .inl h3
  ·exact .inr ⟨(hdm id h3 h4).1,(hdm id h3 h4).2.1⟩
 ·have hg':=C.IL (a0:=a0) hinv.closed ho hr hi fA
  rw [Fa] at hg'
  exact hinv.tr.add h1 hg' (by rw [← Fa];exact (C.slot i r hr).2) (fun u hu'=>VR.mono h2 _ _ (hx u hu'))
 ·intro id hq
  have hD':∀k,D k=true→iT D i k=true:=fun k hk=>by unfold iT;rw [hk];rfl
  have hii:iT D i i=true:=by unfold iT;simp
  rcases hnew id hq with h3 | ⟨h3,h4⟩
  ·rcases hinv.dm id h3 with h5 | ⟨k,h5,h6,h7⟩ | ⟨j,s,h5,h6,h7⟩
   ·exact .inl h5
   ·exact .inr (.inl ⟨k,h5,hD' k h6,h7⟩)
   ·exact .inr (.inr ⟨j,s,h5,hD' j h6,h7⟩)
  ·obtain ⟨_,_,h5 | h5⟩:=hdm id h3 h4
   ·exact .inr (.inl ⟨i,hil,hii,h5⟩)
   ·exact .inr (.inr ⟨i,r,hr,hii,h5⟩)
end
end
end Go.aP
namespace Go.aP
noncomputable section
variable [aC]
set_option linter.unusedSectionVars false
set_option linter.unusedVariables false
set_option linter.unusedSimpArgs false
variable {P:Program}
section
variable {call:Caller} {ops:Array Oper} {M:List Nat} {rs:List bP} {a0:aY} {σ0:ah} {cf:Nat} {η0 η:Env} {w0 w:World} {D:Nat→Bool} {A:Act} {i:Nat} {o:Oper} {r:bP}
theorem Qs {l:List Nat} {f:Nat→Option aZ} {b:Nat} {x:Option aZ} (h:dL (l.map fun k=>(k,f k)) b=some x):b∈l∧x=f b:=by
 induction l with
 | nil=>simp [dL] at h
 | cons k l ih=>
  simp only [List.map_cons,dL] at h
  split at h
  ·next y hy=>cases h;have:=ih hy;exact ⟨by simp [this.1],this.2⟩
  ·split at h
   ·next e=>cases h;subst e;exact ⟨by simp,rfl⟩
   ·cases h
theorem keys_map (l:List Nat) (f:Nat→Option aZ):keysOf (l.map fun k=>(k,f k))=l:=by
 simp [keysOf,List.map_map,Function.comp_def]
theorem Aj {τ:ah}:∀ {n c b:Nat} {x:Option aZ},dL (yt τ c n) b=some x→c≤b∧b < c+n∧∀o,x=some o→τ.get b=some o∧o.own=true
 | 0,c,b,x,h=>by simp [yt,dL] at h
 | n+1,c,b,x,h=>by
  simp only [yt,dL] at h
  split at h
  ·next y hy=>
   cases h
   obtain ⟨h1,h2,h3⟩:=Aj hy
   exact ⟨by omega,by omega,h3⟩
  ·split at h
   ·next e=>
    subst e
    simp only [Option.some.injEq] at h
    refine ⟨Nat.le_refl _,by omega,fun o ho=>?_⟩
    rw [ho] at h
    split at h
    ·next o' ho'=>
     split at h
     ·next hown=>cases h;exact ⟨ho',hown⟩
     ·cases h
    ·cases h
   ·cases h
theorem Jm {l m:List (Nat×Option aZ)} {b:Nat}:dL (l++m) b=match dL m b with | some x=>some x | none=>dL l b:=by
 induction l with
 | nil=>simp only [List.nil_append];cases dL m b<;>rfl
 | cons p l ih=>
  obtain ⟨k,v⟩:=p
  simp only [List.cons_append,dL,ih]
  cases dL m b<;>rfl
theorem wO {h:Tr aZ} {lock:Nat} {l:List Nat} {k:Nat}:k∈Aw h lock l↔k∈l∧lock≤k∧∃ob,h.get k=some ob∧ob.own=true:=by
 unfold Aw
 rw [List.mem_filter,Bool.and_eq_true]
 constructor
 ·rintro ⟨h1,h2,h3⟩
  refine ⟨h1,Nat.le_of_ble_eq_true h2, ?_⟩
  split at h3
  ·next ob hob=>exact ⟨ob,hob,h3⟩
  ·cases h3
 ·rintro ⟨h1,h2,ob,h3,h4⟩
  exact ⟨h1,Nat.ble_eq_true_of_le h2,by rw [h3];exact h4⟩
theorem SR.cutAt {η:Env} {σ τ:ah} {w:World} {c:Nat} (h:SR P η σ w) (hg:P.globals.size < c) (hsub:∀id o,τ.get id=some o→σ.get id=some o) (hc:∀id o,τ.get id=some o→id < c∧vK c o=true) (hn:c≤τ.next):SR P (η.cut c) τ w:=by
 have hcut:∀id q,id < c→η id=some q→η.cut c id=some q:=fun id q h1 h2=>by simp only [Env.cut];rw [if_pos h1];exact h2
 refine ⟨fun g hgg=>?_,fun id q hq=>?_,fun id o ho=>?_,fun id hg'=>?_,fun id o id' o' q q' a1 a2 a3 a4 a5 a6=>?_,h.fP,fun id o q a1 a2 a3=>h.iW id o q (hsub _ _ a1) a2 ((Env.Ce _ _).pl _ _ a3),h.tabs⟩
 ·obtain ⟨sz,es,h1⟩:=h.jr g hgg;exact ⟨sz,es,hcut _ _ (by omega) h1⟩
 ·simp only [Env.cut] at hq
  split at hq
  ·omega
  ·cases hq
 ·rcases h.live id o (hsub _ _ ho) with ⟨q,hq,hr⟩ | ⟨hgi,h2⟩
  ·exact .inl ⟨q,hcut _ _ (hc id o ho).1 hq,hr.cut (hc id o ho).2⟩
  ·exact .inr ⟨Env.YL (hc id o ho).1 hgi,h2⟩
 ·have hg2:(decide (id < c)&&η.gh id)=true:=hg'
  rw [Bool.and_eq_true,decide_eq_true_iff] at hg2
  exact ⟨by simp only [Env.cut];rw [if_pos hg2.1];exact (h.gW id hg2.2).1,by omega⟩
 ·exact h.sep id o id' o' q q' (hsub _ _ a1) a2 (hsub _ _ a3) a4 ((Env.Ce _ _).pl _ _ a5) ((Env.Ce _ _).pl _ _ a6)
theorem SR.part {η:Env} {σ τ:ah} {w:World} (h:SR P η σ w) (hsub:∀id o,τ.get id=some o→σ.get id=some o) (hn:∀id,η.has id→id < τ.next):SR P η τ w:=
 ⟨h.jr,fun id q hq=>hn id (.inl ⟨q,hq⟩),fun id o ho=>h.live id o (hsub id o ho),fun id hg=>⟨(h.gW id hg).1,hn id (.inr hg)⟩,fun id o id' o' q q' a1 a2 a3 a4 a5 a6=>h.sep id o id' o' q q' (hsub _ _ a1) a2 (hsub _ _ a3) a4 a5 a6,h.fP,fun id o q a1 a2 a3=>h.iW id o q (hsub _ _ a1) a2 a3,h.tabs⟩
theorem Ej {c:Nat} {h:Tr aZ}:∀ {l:List Nat},Ei c h l=true→∀k∈l,k < c∧∀o,h.get k=some o→vK c o=true
 | [],_,k,hk=>by simp at hk
 | x::l,hb,k,hk=>by
  simp only [Ei,Bool.and_eq_true] at hb
  simp only [List.mem_cons] at hk
  rcases hk with rfl | hk
  ·refine ⟨by have:=hb.1.1;rwa [Nat.blt_eq] at this,fun o ho=>?_⟩
   have:=hb.1.2;rw [ho] at this;exact this
  ·exact Ej hb.2 k hk
theorem Ve {c:Nat} {t:Tr AV}:∀ {l:List Nat},BL c t l=true→∀k∈l,∀v,t.get k=some v→v.under c=true
 | [],_,k,hk=>by simp at hk
 | x::l,hb,k,hk=>by
  simp only [BL,Bool.and_eq_true] at hb
  simp only [List.mem_cons] at hk
  rcases hk with rfl | hk
  ·intro v hv;have:=hb.1;rw [hv] at this;exact this
  ·exact Ve hb.2 k hk
theorem RJ {M:List Nat} {i:Nat}:∀ {rs:List bP} {k:Nat} {b:Nat},b∉wW M i rs k→∀ (j:Nat) r,rs[j]? = some r→qW M i (k+j)=true→b∉keysOf r.upd
 | [],k,b,_,j,r,hj,_=>by simp at hj
 | s::rs,k,b,hb,j,r,hj,hu=>by
  unfold wW at hb
  cases j with
  | zero=>
   simp at hj;subst hj
   rw [Nat.add_zero] at hu
   rw [if_pos hu] at hb
   simp only [List.mem_append,not_or] at hb
   exact hb.1
  | succ j=>
   have hb':b∉wW M i rs (k+1):=by
    split at hb
    ·simp only [List.mem_append,not_or] at hb;exact hb.2
    ·exact hb
   exact RJ hb' j r (by simpa using hj) (by rw [show k+1+j=k+(j+1) by omega];exact hu)
theorem abQ {M:List Nat} {i:Nat}:∀ {rs:List bP} {k:Nat} {b:Nat} (j:Nat) (r:bP),rs[j]? = some r→qW M i (k+j)=false→b∈keysOf r.upd→b∈Fv M i rs k
 | [],k,b,j,r,hj,_,_=>by simp at hj
 | s::rs,k,b,j,r,hj,hu,hb=>by
  unfold Fv
  cases j with
  | zero=>
   simp at hj;subst hj
   rw [Nat.add_zero] at hu
   rw [if_neg (by rw [hu];simp)]
   simp [hb]
  | succ j=>
   have:=abQ (k:=k+1) j r (by simpa using hj) (by rw [show k+1+j=k+(j+1) by omega];exact hu) hb
   split
   ·exact this
   ·simp [this]
theorem Ctx.bound (C:Ctx P call ops M rs a0 σ0 cf) (hinv:vC P ops rs a0 σ0 cf η0 w0 D η w A) (id:Nat) (h:η.has id):id < cf:=hinv.st.rel.hasLt h
theorem Ctx.apart (C:Ctx P call ops M rs a0 σ0 cf) (hinv:vC P ops rs a0 σ0 cf η0 w0 D η w A) (hr:rs[i]? = some r) (hi:D i=false) {id:Nat} (h:η.has id):¬ (r.base≤id∧id < r.next):=by
 rintro ⟨h1,h2⟩
 have hlo:=C.lo hr
 rcases hinv.dm id h with h3 | ⟨k,h3,h4,h5⟩ | ⟨j,s,h3,h4,h5,h6⟩
 ·omega
 ·omega
 ·by_cases hij:i=j
  ·subst hij;rw [hi] at h4;cases h4
  ·rcases Nat.lt_or_gt_of_ne hij with hlt | hlt
   ·have:=C.lt hr h3 hlt;omega
   ·have:=C.lt h3 hr hlt;omega
theorem Ctx.step (C:Ctx P call ops M rs a0 σ0 cf) (hcall:l9 P call) (hS0:SR P η0 σ0 w0) (hinv:vC P ops rs a0 σ0 cf η0 w0 D η w A) (hil:i < ops.size) (hi:D i=false)
 (yw:∀o,ops[i]? = some o→∀e∈o.after.toList,Region.binds .any e=true→D e.on=true) (hnl:jL ops M i=false) {K:Act→World→Prop} {Q:Exit→Act→World→Prop}
 (hK:∀η' A' w',vC P ops rs a0 σ0 cf η0 w0 (iT D i) η' w' A'→K A' w'):wpOp P ops Q i K A w:=by
 obtain ⟨o,ho⟩:∃o,ops[i]? = some o:=⟨ops[i],by simp [hil]⟩
 obtain ⟨r,hr⟩:∃r,rs[i]? = some r:=⟨_,List.getElem?_eq_getElem (by rw [C.len];exact hil)⟩
 have fA:=yw o ho
 have hone:=C.one i r hr
 have hact:=C.act hinv ho hr hi fA
 have hbase:=C.base hr
 have hlo:=C.lo hr
 have hhi:=C.hi hr
 have hN0:P.globals.size < σ0.next:=by
  obtain ⟨sz,es,h1⟩:=hS0.jr P.globals.size (Nat.le_refl _)
  exact hS0.dom _ _ h1
 have hbn:=(C.slot i r hr).1
 have atu:=C.lock
 have hbig:=C.big
 have Ph:=C.bound hinv
 unfold qI at hone
 rw [hnl] at hone
 simp only [Bool.false_eq_true,if_false] at hone
 unfold uH at hone
 rw [ho] at hone
 simp only at hone
 unfold wpOp
 rw [ho]
 simp only
 split at hone
 ·cases hone
 ·
  next hw=>
  rw [zo hact hw]
  simp only [Bool.false_eq_true,if_false]
  cases hone
  refine hK η _ w ⟨?_, ?_, ?_, ?_⟩
  ·intro k o' hk ho' e he hb
   unfold iT at hk ⊢
   simp only [Bool.or_eq_true] at hk ⊢
   rcases hk with hk | hk
   ·exact .inl (hinv.closed k o' hk ho' e he hb)
   ·have:=Nat.eq_of_beq_eq_true hk;subst this
    rw [ho] at ho';cases ho'
    exact .inl (yw _ ho e he hb)
  ·have hg:=C.aa5 (σ0:=σ0) hinv.closed ho hr hi fA
   refine hinv.st.sub ?_ (Nat.le_refl _) rfl
   intro id ob hob
   have:(iw (eH rs) 0 (iT D i) σ0.h).get id=some ob:=hob
   rw [hg] at this
   exact this
  ·exact hinv.tr.add (Env.le.refl _) (C.IL (a0:=a0) hinv.closed ho hr hi fA) (C.slot i _ hr).2 (by rintro u hu;cases hu;exact ⟨[],rfl,rfl⟩)
  ·intro id hq
   have hD':∀k,D k=true→iT D i k=true:=fun k hk=>by unfold iT;rw [hk];rfl
   rcases hinv.dm id hq with h5 | ⟨k,h5,h6,h7⟩ | ⟨j,s,h5,h6,h7⟩
   ·exact .inl h5
   ·exact .inr (.inl ⟨k,h5,hD' k h6,h7⟩)
   ·exact .inr (.inr ⟨j,s,h5,hD' j h6,h7⟩)
 ·
  next hw=>
  rw [zo hact hw]
  simp only [if_true]
  left
  have rest:∀l:List Nat,r.vis=some l→∀id ob,(iM (fZ ((eH rs).take i) σ0.h) l).get id=some ob→(iw (eH rs) 0 D σ0.h).get id=some ob∧id∈l∧(fZ ((eH rs).take i) σ0.h).get id=some ob:=by
   intro l hl id ob hob
   rw [uN] at hob
   split at hob
   ·next hm=>rw [← C.anq (σ0:=σ0) hinv.closed ho hr hi fA hl hm];exact ⟨hob,hm,hob⟩
   ·cases hob
  have YK:∀c,BL c (fZ ((iH rs).take i) a0.t) (o.looksAt ops)=true→TR P (η.cut c) { t:=iM (fZ ((iH rs).take i) a0.t) (o.looksAt ops),n:=a0.n,gn:=a0.gn } A:=by
   intro c hb
   refine ⟨hact.gn,hact.size,hact.none,fun d v hv=>?_⟩
   obtain ⟨x,hx,iL⟩:=hact.slot d v hv
   refine ⟨x,hx,VR.cut v x ?_ iL⟩
   rw [uN] at hv
   split at hv
   ·next hd=>exact Ve hb d hd v hv
   ·cases hv
  split at hone
  ·
   next ty hty=>
   split at hone
   ·next z hz=>
    cases hone
    have hop:oK P call o (aY.eval { t:=.nil,n:=a0.n,gn:=a0.gn }) { h:=.nil,next:=σ0.next+i,lock:=σ0.lock }=some (some (.p (σ0.next+i) 0),({ h:=.nil,next:=σ0.next+i,lock:=σ0.lock }:ah).new (.cells z ty true false)):=by
     unfold oK;rw [hty];simp only [hz,Option.map_some]
    have hS':SR P (η.cut σ0.next) { h:=.nil,next:=σ0.next+i,lock:=σ0.lock } w:=hinv.st.rel.cutAt hN0 (fun id ob h=>by simp [ah.get] at h) (fun id ob h=>by simp [ah.get] at h) (by simp)
    refine C.gen hcall hinv ho hr hil hi fA hS' (a:={ t:=.nil,n:=a0.n,gn:=a0.gn }) ⟨hact.gn,hact.size,hact.none,fun d v hv=>by simp at hv⟩ (Env.Ce _ _) rfl hop rfl (fun id ob h=>by simp [ah.get] at h) ?_ ?_ ?_ (Nat.le_refl _) ?_ ?_ hK
    ·rintro id hq ⟨h1,h2⟩
     have h1':σ0.next+i≤id:=h1
     have h2':id < σ0.next+i+1:=h2
     rcases hinv.dm id hq with h3 | ⟨k,h3,h4,h5⟩ | ⟨j,s,h3,h4,h5,h6⟩
     ·omega
     ·have:k=i:=by omega
      subst this;rw [hi] at h4;cases h4
     ·have:=C.lo h3;omega
    ·intro b ob hb
     simp only [dL] at hb
     split at hb
     ·next e=>
      cases hb;subst e
      refine ⟨?_,.inr ⟨rfl,Tr.get_nil _⟩⟩
      rw [ah.nJ,if_pos rfl]
     ·cases hb
    ·intro id ob h;simp [ah.get] at h
    ·intro b hb
     have:=(rH _ _).1 hb
     simp [keysOf] at this
     subst this
     show σ0.lock≤σ0.next+i
     omega
    ·intro id h1 h2
     have h1':σ0.next+i≤id:=h1
     have h2':id < σ0.next+i+1:=h2
     have:=C.Oi
     exact ⟨by omega,by omega,.inl (by omega)⟩
   ·cases hone
  ·split at hone
   ·
    next l hcls=>
    split at hone
    ·next v τ' hop=>
     rw [vW] at hop
     split at hone
     ·next hnx=>
      cases hone
      have ai6:=Nat.eq_of_beq_eq_true hnx
      have hS':SR P η { h:=iM (fZ ((eH rs).take i) σ0.h) l,next:=nY,lock:=nY } w:=hinv.st.rel.part (fun id ob h=>(rest l rfl id ob h).1) (fun id hq=>Nat.lt_of_lt_of_le (Ph id hq) hbig)
      refine C.gen hcall hinv ho hr hil hi fA hS' hact (Env.le.refl _) rfl hop rfl (fun id ob h=>(rest l rfl id ob h).1) ?_ ?_ ?_ ?_ ?_ ?_ hK
      ·rintro id hq ⟨h1,h2⟩
       have h1':nY≤id:=h1
       omega
      ·intro b ob hb;simp [dL] at hb
      ·intro id ob h1 h2 h3
       have h3':nY≤id:=h3
       have:=Ph id (hS'.E5 h1);omega
      ·have:=C.Oi;show σ0.lock≤nY;omega
      ·intro b hb;simp [dL] at hb
      ·intro id h1 h2
       have h1':nY≤id:=h1
       omega
     ·cases hone
    ·cases hone
   ·
    next l hcls=>
    split at hone
    ·next v τ' hop=>
     rw [vW] at hop
     split at hone
     ·next hnx=>
      cases hone
      have ai6:=Nat.eq_of_beq_eq_true hnx
      have hS':SR P η { h:=iM (fZ ((eH rs).take i) σ0.h) l,next:=nY,lock:=σ0.lock } w:=hinv.st.rel.part (fun id ob h=>(rest l rfl id ob h).1) (fun id hq=>Nat.lt_of_lt_of_le (Ph id hq) hbig)
      refine C.gen hcall hinv ho hr hil hi fA hS' hact (Env.le.refl _) rfl hop rfl (fun id ob h=>(rest l rfl id ob h).1) ?_ ?_ ?_ (Nat.le_refl _) ?_ ?_ hK
      ·rintro id hq ⟨h1,h2⟩
       have h1':nY≤id:=h1
       omega
      ·intro b ob hb
       obtain ⟨h1,h2⟩:=Qs hb
       obtain ⟨h3,h4,ob',h5,h6⟩:=wO.1 h1
       refine ⟨h2.symm,.inl ⟨ob', ?_,h6⟩⟩
       show (iM _ l).get b=_
       rw [uN,if_pos h3];exact h5
      ·intro id ob h1 h2 h3
       obtain ⟨_,h4,h5⟩:=rest l rfl id ob h1
       rw [rH,keys_map]
       exact wO.2 ⟨h4,h3,ob,h5,h2⟩
      ·intro b hb
       rw [rH,keys_map] at hb
       exact (wO.1 hb).2.1
      ·intro id h1 h2
       have h1':nY≤id:=h1
       omega
     ·cases hone
    ·cases hone
   ·
    next l hcls=>
    split at hone
    ·next hbel=>
     simp only [Bool.and_eq_true] at hbel
     split at hone
     ·next v τ' hop=>
      rw [vW] at hop
      cases hone
      simp only at hlo hhi hbn
      have hS':SR P (η.cut (gB (σ0.next+ops.size) rs i)) { h:=iM (fZ ((eH rs).take i) σ0.h) l,next:=gB (σ0.next+ops.size) rs i,lock:=σ0.lock } w:=
       hinv.st.rel.cutAt (by omega) (fun id ob h=>(rest l rfl id ob h).1) (fun id ob h=>by
        obtain ⟨_,h1,h2⟩:=rest l rfl id ob h
        have:=Ej hbel.2 id h1
        exact ⟨this.1,this.2 ob h2⟩) (Nat.le_refl _)
      refine C.gen hcall hinv ho hr hil hi fA hS' (YK _ hbel.1) (Env.Ce _ _) rfl hop rfl (fun id ob h=>(rest l rfl id ob h).1) ?_ ?_ ?_ (Nat.le_refl _) ?_ ?_ hK
      ·rintro id hq ⟨h1,h2⟩
       exact C.apart hinv hr hi hq ⟨h1,h2⟩
      ·intro b ob hb
       rw [Jm] at hb
       split at hb
       ·next x hx=>
        cases hb
        obtain ⟨h1,h2,h3⟩:=Aj hx
        obtain ⟨h4,h5⟩:=h3 ob rfl
        refine ⟨h4,.inr ⟨h5, ?_⟩⟩
        show (iM _ l).get b=none
        rw [uN]
        split
        ·next hm=>have:=(Ej hbel.2 b hm).1;omega
        ·rfl
       ·obtain ⟨h1,h2⟩:=Qs hb
        obtain ⟨h3,h4,ob',h5,h6⟩:=wO.1 h1
        refine ⟨h2.symm,.inl ⟨ob', ?_,h6⟩⟩
        show (iM _ l).get b=_
        rw [uN,if_pos h3];exact h5
      ·intro id ob h1 h2 h3
       obtain ⟨_,h4,h5⟩:=rest l rfl id ob h1
       rw [rH]
       unfold keysOf
       rw [List.map_append,List.mem_append]
       left
       have:=keys_map (Aw (fZ ((eH rs).take i) σ0.h) σ0.lock l) (fun k=>τ'.get k)
       unfold keysOf at this
       rw [this]
       exact wO.2 ⟨h4,h3,ob,h5,h2⟩
      ·intro b hb
       rw [Jm] at hb
       split at hb
       ·next x hx=>
        obtain ⟨h1,_,_⟩:=Aj hx
        show σ0.lock≤b
        omega
       ·rw [rH,keys_map] at hb
        exact (wO.1 hb).2.1
      ·intro id h1 h2
       have h1':gB (σ0.next+ops.size) rs i≤id:=h1
       exact ⟨by omega,by omega,.inr ⟨h1,h2⟩⟩
     ·cases hone
    ·cases hone
   ·
    next hcls=>
    split at hone
    ·next v τ' hop0=>
     have hop:=aqX hop0
     rw [vW] at hop
     cases hone
     simp only at hlo hhi hbn
     have hall:∀id,η.has id→id < gB (σ0.next+ops.size) rs i:=by
      intro id hq
      rcases hinv.dm id hq with h3 | ⟨k,h3,h4,h5⟩ | ⟨j,s,h3,h4,h5,h6⟩
      ·omega
      ·omega
      ·have hij:i≠j:=by rintro rfl;rw [hi] at h4;cases h4
       rcases Nat.lt_or_gt_of_ne hij with hlt | hlt
       ·have hjl:j < ops.size:=by have:=(List.getElem?_eq_some_iff.1 h3).1;rw [C.len] at this;exact this
        have hun:=C.open_ hinv.closed ho hi fA hjl (by rw [h4];simp;omega)
        have hp:=Dw ho (C.pairs i j _ s hr h3 hun)
        have:=(hp.2.2.2.2.1 rfl hlt).2.2
        omega
       ·have:=C.lt h3 hr hlt
        simp only at this
        omega
     have hsub:∀id ob,(yg (fZ ((eH rs).take i) σ0.h) (wW M i (rs.take i) 0)).get id=some ob→(iw (eH rs) 0 D σ0.h).get id=some ob:=by
      intro id ob hob
      rw [aa4] at hob
      split at hob
      ·cases hob
      ·next hnk=>
       rw [← hob,CV (eH rs) i 0,wB]
       congr 1
       refine (Df _ _ _ _ _ fun j u hj hne=>?_).symm
       obtain ⟨s,hs,rfl⟩:=Gq hj
       have hjl:j < ops.size:=by have:=(List.getElem?_eq_some_iff.1 hs).1;rw [C.len] at this;exact this
       simp only [Nat.zero_add] at hne
       have hun:=C.open_ hinv.closed ho hi fA hjl (fun e=>hne e.symm)
       apply Fz
       by_cases hji:j < i
       ·exact RJ hnk j s (by rw [List.getElem?_take,if_pos hji];exact hs) (by rw [Nat.zero_add];exact hun)
       ·have hij:i < j:=by
         rcases Nat.lt_or_ge i j with h | h
         ·exact h
         ·have:i=j:=by omega
          subst this;rw [hi] at hne;simp at hne
        have hp:=Dw ho (C.pairs i j _ s hr hs hun)
        obtain ⟨h1,h2,h3⟩:=hp.2.2.2.2.1 rfl hij
        intro hmem
        have hge:=h1 id hmem
        rw [CV (eH rs) i 0] at hob
        cases hl:iV (eH rs) 0 (fun j=>decide (j < 0+i)) id with
        | none=>
         rw [hl] at hob
         have:=hS0.hasLt (hS0.E5 hob)
         omega
        | some x=>
         obtain ⟨j',u',h4,h5,h6⟩:=Qo _ _ _ _ _ hl
         obtain ⟨s',hs',rfl⟩:=Gq h4
         simp only [Nat.zero_add,decide_eq_true_eq] at h5
         have hk:id∈keysOf s'.upd:=(rH _ _).1 (by rw [h6];simp)
         have htk:(rs.take i)[j']? = some s':=by rw [List.getElem?_take,if_pos h5];exact hs'
         have hnu:qW M i (0+j')=false:=by
          cases hu:qW M i (0+j') with
          | false=>rfl
          | true=>exact absurd hk (RJ hnk j' s' htk hu)
         have:=abQ j' s' htk hnu hk
         exact EN h2 this hmem
     have hS':SR P η { h:=yg (fZ ((eH rs).take i) σ0.h) (wW M i (rs.take i) 0),next:=gB (σ0.next+ops.size) rs i,lock:=gB (σ0.next+ops.size) rs i } w:=hinv.st.rel.part hsub hall
     refine C.gen hcall hinv ho hr hil hi fA hS' hact (Env.le.refl _) rfl hop rfl hsub ?_ ?_ ?_ ?_ ?_ ?_ hK
     ·rintro id hq ⟨h1,h2⟩
      exact C.apart hinv hr hi hq ⟨h1,h2⟩
     ·intro b ob hb
      obtain ⟨h1,h2,h3⟩:=Aj hb
      obtain ⟨h4,h5⟩:=h3 ob rfl
      refine ⟨h4,.inr ⟨h5, ?_⟩⟩
      cases hg:ah.get { h:=yg (fZ ((eH rs).take i) σ0.h) (wW M i (rs.take i) 0),next:=gB (σ0.next+ops.size) rs i,lock:=gB (σ0.next+ops.size) rs i } b with
      | none=>rfl
      | some ob'=>
       have:=hall b (hS'.E5 hg)
       omega
     ·intro id ob h1 h2 h3
      have h3':gB (σ0.next+ops.size) rs i≤id:=h3
      have:=hall id (hS'.E5 h1)
      omega
     ·show σ0.lock≤gB (σ0.next+ops.size) rs i
      omega
     ·intro b hb
      cases hx:dL (yt τ' (gB (σ0.next+ops.size) rs i) (τ'.next - gB (σ0.next+ops.size) rs i)) b with
      | none=>exact absurd hx hb
      | some x=>exact (Aj hx).1
     ·intro id h1 h2
      have h1':gB (σ0.next+ops.size) rs i≤id:=h1
      exact ⟨by omega,by omega,.inr ⟨h1,h2⟩⟩
    ·generalize FX o (aY.eval { t:=iM (fZ ((iH rs).take i) a0.t) (o.looksAt ops),n:=a0.n,gn:=a0.gn }) (fZ ((eH rs).take i) σ0.h)=l at hone
     split at hone
     ·next hbel=>
      simp only [Bool.and_eq_true] at hbel
      split at hone
      ·next v τ' hop=>
       rw [vW] at hop
       cases hone
       simp only at hlo hhi hbn
       have hS':SR P (η.cut (gB (σ0.next+ops.size) rs i)) { h:=iM (fZ ((eH rs).take i) σ0.h) l,next:=gB (σ0.next+ops.size) rs i,lock:=σ0.lock } w:=
        hinv.st.rel.cutAt (by omega) (fun id ob h=>(rest l rfl id ob h).1) (fun id ob h=>by
         obtain ⟨_,h1,h2⟩:=rest l rfl id ob h
         have:=Ej hbel.2 id h1
         exact ⟨this.1,this.2 ob h2⟩) (Nat.le_refl _)
       refine C.gen hcall hinv ho hr hil hi fA hS' (YK _ hbel.1) (Env.Ce _ _) rfl hop rfl (fun id ob h=>(rest l rfl id ob h).1) ?_ ?_ ?_ (Nat.le_refl _) ?_ ?_ hK
       ·rintro id hq ⟨h1,h2⟩
        exact C.apart hinv hr hi hq ⟨h1,h2⟩
       ·intro b ob hb
        rw [Jm] at hb
        split at hb
        ·next x hx=>
         cases hb
         obtain ⟨h1,h2,h3⟩:=Aj hx
         obtain ⟨h4,h5⟩:=h3 ob rfl
         refine ⟨h4,.inr ⟨h5, ?_⟩⟩
         show (iM _ l).get b=none
         rw [uN]
         split
         ·next hm=>have:=(Ej hbel.2 b hm).1;omega
         ·rfl
        ·obtain ⟨h1,h2⟩:=Qs hb
         obtain ⟨h3,h4,ob',h5,h6⟩:=wO.1 h1
         refine ⟨h2.symm,.inl ⟨ob', ?_,h6⟩⟩
         show (iM _ l).get b=_
         rw [uN,if_pos h3];exact h5
       ·intro id ob h1 h2 h3
        obtain ⟨_,h4,h5⟩:=rest l rfl id ob h1
        rw [rH]
        unfold keysOf
        rw [List.map_append,List.mem_append]
        left
        have:=keys_map (Aw (fZ ((eH rs).take i) σ0.h) σ0.lock l) (fun k=>τ'.get k)
        unfold keysOf at this
        rw [this]
        exact wO.2 ⟨h4,h3,ob,h5,h2⟩
       ·intro b hb
        rw [Jm] at hb
        split at hb
        ·next x hx=>
         obtain ⟨h1,_,_⟩:=Aj hx
         show σ0.lock≤b
         omega
        ·rw [rH,keys_map] at hb
         exact (wO.1 hb).2.1
       ·intro id h1 h2
        have h1':gB (σ0.next+ops.size) rs i≤id:=h1
        exact ⟨by omega,by omega,.inr ⟨h1,h2⟩⟩
      ·cases hone
     ·cases hone
end
end
end Go.aP
namespace Go.aP
noncomputable section
variable [aC]
set_option linter.unusedSectionVars false
set_option linter.unusedVariables false
set_option linter.unusedSimpArgs false
variable {P:Program}
section
variable {call:Caller} {ops:Array Oper} {M:List Nat} {rs:List bP} {a0:aY} {σ0:ah} {cf:Nat} {η0:Env} {w0:World}
def inB (listed:Array Bool):Nat→Bool:=fun j=>listed.getD j false
theorem adf {listed:Array Bool} (hl:listed.size=ops.size) {i:Nat} (h:i∈Region.ready .any ops listed):i < ops.size∧inB listed i=false∧∀o,ops[i]? = some o→∀e∈o.after.toList,Region.binds .any e=true→inB listed e.on=true:=by
 unfold Region.ready at h
 simp only [List.mem_filter,List.mem_range,Bool.and_eq_true,Bool.not_eq_true'] at h
 obtain ⟨h1,h2,h3⟩:=h
 have hlt:i < listed.size:=by omega
 refine ⟨h1, ?_, ?_⟩
 ·unfold inB
  rw [Array.getD_eq_getD_getElem?,Array.getElem?_eq_getElem hlt] at h2 ⊢
  exact h2
 ·intro o ho e he hb
  rw [ho] at h3
  simp only [Option.map_some,Option.getD_some] at h3
  rw [Array.all_eq_true'] at h3
  have:=h3 e (by simpa using he)
  rw [hb] at this
  simpa [inB] using this
theorem count_set (listed:Array Bool) (i:Nat) (h:listed[i]? = some false):(listed.setIfInBounds i true).toList.count false+1=listed.toList.count false:=by
 have hlt:i < listed.size:=(Array.getElem?_eq_some_iff.1 h).1
 have hv:listed[i]=false:=(Array.getElem?_eq_some_iff.1 h).2
 have h1:listed.toList[i]'(by simpa using hlt)=false:=by simpa using hv
 have hpos:0 < listed.toList.count false:=List.count_pos_iff.2 (by rw [← h1];exact List.getElem_mem _)
 rw [Array.toList_setIfInBounds,List.count_set (by simpa using hlt),h1]
 have e1:((false==false)=true):=rfl
 have e2:¬ ((true==false)=true):=by decide
 rw [if_pos e1,if_neg e2]
 omega
theorem OX {α:Type}:∀ (us:List (List (Nat×Option α))) (k:Nat) (D:Nat→Bool) (t:Tr α),(∀j,j < us.length→D (k+j)=true)→iw us k D t=fZ us t
 | [],_,_,_,_=>rfl
 | u::us,k,D,t,h=>by
  have h0:=h 0 (by simp)
  simp only [Nat.add_zero] at h0
  rw [iw,if_pos h0,fZ,OX us (k+1) D _ (fun j hj=>by rw [show k+1+j=k+(j+1) by omega];exact h (j+1) (by simpa using hj))]
end
section
variable {ops:Array Oper} {M:List Nat} {rs:List bP} {a0:aY} {σ:ah} {η0:Env} {w0:World} {n N0:Nat}
theorem afi (C:mg ops M rs n N0) (Inv:(Nat→Bool)→Env→World→Act→Prop)
 (hstep:∀D η w A i (K:Act→World→Prop) (Q:Exit→Act→World→Prop),Inv D η w A→i < ops.size→D i=false→(∀o,ops[i]? = some o→∀e∈o.after.toList,Region.binds .any e=true→D e.on=true)→
  (∀η' A' w',Inv (iT D i) η' w' A'→K A' w')→wpOp P ops Q i K A w) {Q:Exit→Act→World→Prop}
 (hK:∀η' A' w',Inv (fun j=>decide (j < ops.size)) η' w' A'→Q .normal A' w') :
 ∀ (fuel:Nat) (listed:Array Bool) (η:Env) (w:World) (A:Act),listed.size=ops.size→listed.toList.count false=fuel→Inv (inB listed) η w A→wpAny P .any ops Q fuel listed A w:=by
 intro fuel
 induction fuel with
 | zero=>
  intro listed η w A hl hc hinv
  have hall:∀j,j < ops.size→inB listed j=true:=by
   intro j hj
   have hlt:j < listed.size:=by omega
   have hm:listed[j]∈listed.toList:=by simp
   have:false∉listed.toList:=List.count_eq_zero.1 hc
   unfold inB
   rw [Array.getD_eq_getD_getElem?,Array.getElem?_eq_getElem hlt]
   cases hv:listed[j] with
   | true=>rfl
   | false=>rw [hv] at hm;exact absurd hm this
  have hD:inB listed=fun j=>decide (j < ops.size):=by
   funext j
   by_cases hj:j < ops.size
   ·rw [hall j hj];simp [hj]
   ·unfold inB
    rw [Array.getD_eq_getD_getElem?,Array.getElem?_eq_none (by omega)]
    simp [hj]
  refine ⟨?_, ?_⟩
  ·apply List.eq_nil_iff_forall_not_mem.2
   intro i hi
   obtain ⟨h1,h2,_⟩:=adf hl hi
   rw [hall i h1] at h2;cases h2
  ·rw [hD] at hinv;exact hK η A w hinv
 | succ fuel ih=>
  intro listed η w A hl hc hinv
  refine ⟨fun hr=>?_,fun i hi=>?_⟩
  ·exfalso
   have hex:∃i,i < ops.size∧inB listed i=false∧∀j,j < i→inB listed j=true:=by
    have hpos:0 < listed.toList.count false:=by omega
    have hm:=List.count_pos_iff.1 hpos
    obtain ⟨k,hk⟩:=List.mem_iff_getElem?.1 hm
    have aiZ:k < ops.size:=by have:=(List.getElem?_eq_some_iff.1 hk).1;simp at this;omega
    have hkf:inB listed k=false:=by
     unfold inB;rw [Array.getD_eq_getD_getElem?]
     rw [Array.getElem?_toList] at hk;rw [hk];rfl
    clear hm hk
    induction k using Nat.strongRecOn with
    | _ k ihk=>
     by_cases hb:∃j,j < k∧inB listed j=false
     ·obtain ⟨j,h1,h2⟩:=hb
      exact ihk j h1 (by omega) h2
     ·refine ⟨k,aiZ,hkf,fun j hj=>?_⟩
      cases hv:inB listed j with
      | true=>rfl
      | false=>exact absurd ⟨j,hj,hv⟩ hb
   obtain ⟨i,h1,h2,h3⟩:=hex
   have hmem:i∈Region.ready .any ops listed:=by
    unfold Region.ready
    simp only [List.mem_filter,List.mem_range,Bool.and_eq_true,Bool.not_eq_true']
    have hlt:i < listed.size:=by omega
    refine ⟨h1, ?_, ?_⟩
    ·unfold inB at h2
     rw [Array.getD_eq_getD_getElem?,Array.getElem?_eq_getElem hlt] at h2 ⊢
     exact h2
    ·have ho:ops[i]? = some ops[i]:=by simp [h1]
     rw [ho]
     simp only [Option.map_some,Option.getD_some]
     rw [Array.all_eq_true']
     intro e he
     cases hb:Region.binds .any e with
     | false=>rfl
     | true=>
      simp only [Bool.not_true,Bool.false_or]
      obtain ⟨hm,hlen⟩:=C.mask ho
      have hbit:oz M e.on i=true:=by
       unfold oz
       rw [List.getD_eq_getElem?_getD,hm]
       simp only [Option.getD_some]
       have:∀ (es:List Edge),e∈es→(sW (fun j=>(M.take i).getD j 0) es).testBit e.on=true:=by
        intro es
        induction es with
        | nil=>intro h;simp at h
        | cons x es abq=>
         intro h
         rw [sW]
         simp only [List.mem_cons] at h
         rcases h with rfl | h
         ·rw [if_pos hb,Nat.testBit_or,Nat.testBit_or,Nat.testBit_two_pow];simp
         ·split
          ·rw [Nat.testBit_or,abq h,Bool.or_true]
          ·exact abq h
       exact this _ (by simpa using he)
      exact h3 e.on (C.QV hbit)
   rw [hr] at hmem;simp at hmem
  ·obtain ⟨h1,h2,h3⟩:=adf hl hi
   refine hstep _ _ _ _ i _ Q hinv h1 h2 h3 fun η' A' w' hinv'=>?_
   have hf:listed[i]? = some false:=by
    have hlt:i < listed.size:=by omega
    unfold inB at h2
    rw [Array.getD_eq_getD_getElem?,Array.getElem?_eq_getElem hlt] at h2
    rw [Array.getElem?_eq_getElem hlt]
    simpa using h2
   have hD:iT (inB listed) i=inB (listed.setIfInBounds i true):=by
    funext j
    unfold iT inB
    have hlt:i < listed.size:=by omega
    rw [Array.getD_eq_getD_getElem?,Array.getD_eq_getD_getElem?,Array.getElem?_setIfInBounds]
    by_cases e:i=j
    ·subst e;rw [if_pos rfl,if_pos hlt];simp
    ·rw [if_neg e,yH (fun e'=>e e'.symm)];simp
   rw [hD] at hinv'
   exact ih _ η' w' A' (by simpa using hl) (by have:=count_set listed i hf;omega) hinv'
end
theorem aeu {ops:Array Oper} {M:List Nat}:∀ (k i j:Nat),MN ops M k≤i→i < k→jI ops i=false→j < i→jI ops j=true∨oz M j i=true
 | 0,i,j,_,h,_,_=>by omega
 | k+1,i,j,h1,h2,h3,h4=>by
  unfold MN at h1
  split at h1
  ·next ha=>
   by_cases e:i=k
   ·subst e
    rw [h3,Bool.false_or,List.all_eq_true] at ha
    have:=ha j (by simpa using h4)
    rwa [Bool.or_eq_true] at this
   ·exact aeu k i j h1 (by omega) h3 h4
  ·omega
theorem MO:∀ (rs:List bP) (r:bP) (σ:ah),pz (rs++[r]) σ=match r.fin with | some τ=>τ | none=>pz rs σ
 | [],_,_=>rfl
 | s::rs,r,σ=>by
  show pz (rs++[r]) _=_
  rw [MO rs r]
  rfl
theorem Tt {rs:List bP} {σ:ah}:∀k,k≤rs.length→(∀ (i:Nat) r,i < k→rs[i]? = some r→r.fin=none)→pz (rs.take k) σ=σ
 | 0,_,_=>by simp [pz]
 | k+1,hk,h=>by
  obtain ⟨r,hr⟩:∃r,rs[k]? = some r:=⟨_,List.getElem?_eq_getElem (by omega)⟩
  rw [List.take_add_one,hr,Option.toList_some,MO,h k r (by omega) hr]
  exact Tt k (by omega) (fun i r' hi=>h i r' (by omega))
theorem Tv {rs:List bP} {σ:ah} {m:Nat} {r:bP} {τ:ah} (hr:rs[m]? = some r) (hf:r.fin=some τ):∀k,m < k→k≤rs.length→(∀ (i:Nat) r',m < i→i < k→rs[i]? = some r'→r'.fin=none)→pz (rs.take k) σ=τ
 | 0,h,_,_=>by omega
 | k+1,hm,hk,h=>by
  by_cases e:m=k
  ·subst e
   rw [List.take_add_one,hr,Option.toList_some,MO,hf]
  ·obtain ⟨r',hr'⟩:∃r,rs[k]? = some r:=⟨_,List.getElem?_eq_getElem (by omega)⟩
   rw [List.take_add_one,hr',Option.toList_some,MO,h k r' (by omega) (by omega) hr']
   exact Tv hr hf k (by omega) (by omega) (fun i r'' h1 h2=>h i r'' h1 (by omega))
theorem ahE {call:Caller} {o:Oper} (hf:vY o=true) {ev:Operand→Option AV} {σ1 σ2 τ:ah} {v:Option AV} (hs:sH P call o ev σ1=some (v,τ)):sH P call o ev σ2=some (v,σ2):=by
 rw [vW] at hs ⊢
 obtain ⟨dst,op,type,pos,after,guard⟩:=o
 cases op with
 | move x=>
  simp only [oK,bZ,Option.map_eq_some_iff,Prod.mk.injEq] at hs ⊢
  obtain ⟨u,h1,h2,_⟩:=hs
  exact ⟨u,h1,h2,trivial⟩
 | assign x=>
  simp only [oK,bZ,Option.map_eq_some_iff,Prod.mk.injEq] at hs ⊢
  obtain ⟨u,h1,h2,_⟩:=hs
  exact ⟨u,h1,h2,trivial⟩
 | extract x k=>
  simp only [oK] at hs ⊢
  split at hs
  ·simp only [bZ,Option.map_eq_some_iff,Prod.mk.injEq] at hs ⊢
   obtain ⟨u,h1,h2,_⟩:=hs
   exact ⟨u,h1,h2,trivial⟩
  ·cases hs
 | binOp op t x y z=>
  simp only [oK] at hs ⊢
  split at hs
  ·simp only [bZ,Option.map_eq_some_iff,Prod.mk.injEq] at hs ⊢
   obtain ⟨u,h1,h2,_⟩:=hs
   exact ⟨u,h1,h2,trivial⟩
  ·cases hs
 | _=>simp [vY] at hf
theorem afU {o:Oper} (hf:vY o=true) (ev:Operand→Option AV):XU o ev=.na []:=by
 obtain ⟨dst,op,type,pos,after,guard⟩:=o
 cases op<;>first | rfl | (simp [vY] at hf)
theorem agV {call:Caller} {ops:Array Oper} {lock gn n i c:Nat} {prev:List bP} {t:Tr AV} {h:Tr aZ} {r:bP} (hs:Ci P call ops lock gn n prev i t h c=some r):r.next=c:=by
 unfold Ci at hs
 split at hs
 ·cases hs
 ·split at hs
  ·cases hs
  ·cases hs;rfl
  ·split at hs
   ·cases hs;rfl
   ·cases hs
theorem Oy {call:Caller} {ops:Array Oper} {M:List Nat} {N0 lock gn n i c:Nat} {prev:List bP} {t:Tr AV} {h:Tr aZ} {r:bP} {o:Oper} (ho:ops[i]? = some o) (hf:vY o=true) (hs:uH P call ops M N0 lock gn n prev i t h c=some r) :
 r.upd=[]∧r.next=c∧r.fin=none∧((Bq o ops { t:=iM t (o.looksAt ops),n:=n,gn:=gn }=some false∧r.slot=lZ o (some (.bV [])))∨
  (Bq o ops { t:=iM t (o.looksAt ops),n:=n,gn:=gn }=some true∧∃v,(∀σ2,sH P call o (aY.eval { t:=iM t (o.looksAt ops),n:=n,gn:=gn }) σ2=some (v,σ2))∧r.slot=lZ o v)):=by
 unfold uH at hs
 rw [ho] at hs
 simp only at hs
 split at hs
 ·cases hs
 ·next hw=>cases hs;exact ⟨rfl,rfl,rfl,.inl ⟨hw,rfl⟩⟩
 ·next hw=>
  split at hs
  ·next ty e=>exfalso;obtain ⟨dst,op,type,pos,after,guard⟩:=o;cases e;simp [vY] at hf
  ·rw [afU hf] at hs
   simp only at hs
   split at hs
   ·next v τ hv=>
    split at hs
    ·cases hs
     exact ⟨rfl,rfl,rfl,.inr ⟨hw,v,fun σ2=>ahE hf hv,rfl⟩⟩
    ·cases hs
   ·cases hs
theorem Oo {ops:Array Oper} {D:Nat→Bool} {i:Nat} (h:Closed ops D) (hd:∀o,ops[i]? = some o→∀e∈o.after.toList,Region.binds .any e=true→D e.on=true):Closed ops (iT D i):=by
 intro j o hj ho e he hb
 unfold iT at hj ⊢
 rw [Bool.or_eq_true] at hj ⊢
 rcases hj with hj | hj
 ·exact .inl (h j o hj ho e he hb)
 ·have:=Nat.eq_of_beq_eq_true hj
  subst this
  exact .inl (hd o ho e he hb)
section
variable {call:Caller} {ops:Array Oper} {M:List Nat} {rs:List bP} {a:aY} {σ:ah} {c:Nat} {D:Nat→Bool}
theorem Ctx.act' (C:Ctx P call ops M rs a σ c) (hcl:Closed ops D) {i:Nat} {o:Oper} {r:bP} (ho:ops[i]? = some o) (hr:rs[i]? = some r) (hi:D i=false) (fA:∀e∈o.after.toList,Region.binds .any e=true→D e.on=true)
 {η:Env} {A:Act} (htr:TR P η { t:=iw (iH rs) 0 D a.t,n:=a.n,gn:=a.gn } A):TR P η { t:=iM (fZ ((iH rs).take i) a.t) (o.looksAt ops),n:=a.n,gn:=a.gn } A:=by
 refine ⟨htr.gn,htr.size,htr.none,fun d v hv=>?_⟩
 rw [uN] at hv
 split at hv
 ·next hd=>
  rw [C.ad3 (a0:=a) hcl ho hr hi fA hd] at hv
  exact htr.slot d v hv
 ·cases hv
theorem Ctx.last (C:Ctx P call ops M rs a σ c) (hcall:l9 P call) (hcl:Closed ops D) {i:Nat} {o:Oper} {r:bP} (ho:ops[i]? = some o) (hr:rs[i]? = some r) (hi:D i=false) (fA:∀e∈o.after.toList,Region.binds .any e=true→D e.on=true) (hla:jL ops M i=true)
 {η η1:Env} {w0 w1:World} {A:Act} (hst:St P η σ w0 η1 (pz (rs.take i) { h:=fZ ((eH rs).take i) σ.h,next:=gB (σ.next+ops.size) rs i,lock:=σ.lock }) w1)
 (htr:TR P η1 { t:=iw (iH rs) 0 D a.t,n:=a.n,gn:=a.gn } A) {K:Act→World→Prop} {Q:Exit→Act→World→Prop}
 (hK:∀η' A' w' τ,r.fin=some τ→St P η σ w0 η' τ w'→TR P η' { t:=iw (iH rs) 0 (iT D i) a.t,n:=a.n,gn:=a.gn } A'→K A' w'):wpOp P ops Q i K A w1:=by
 have hone:=C.one i r hr
 unfold qI at hone
 rw [if_pos hla] at hone
 unfold Ci at hone
 rw [ho] at hone
 simp only at hone
 have hact:=C.act' hcl ho hr hi fA htr
 have hnext:=fun d=>C.IL (a0:=a) hcl ho hr hi fA d
 have hsl:=(C.slot i r hr).2
 unfold wpOp
 rw [ho]
 simp only
 split at hone
 ·cases hone
 ·next hw=>
  cases hone
  rw [zo hact hw]
  simp only [Bool.false_eq_true,if_false]
  exact hK η1 _ w1 _ rfl hst (htr.add (Env.le.refl _) hnext hsl (by rintro u hu;cases hu;exact ⟨[],rfl,rfl⟩))
 ·next hw=>
  rw [zo hact hw]
  simp only [if_true]
  left
  split at hone
  ·next v τ hop=>
   rw [vW] at hop
   cases hone
   refine Ny hst.rel hcall hact hop fun x η' w' hst2 hx=>?_
   exact hK η' _ w' _ rfl (hst.trans hst2) (htr.add hst2.ext hnext hsl hx)
  ·cases hone
theorem Ctx.free (C:Ctx P call ops M rs a σ c) (hcall:l9 P call) (hcl:Closed ops D) {i:Nat} {o:Oper} {r:bP} (ho:ops[i]? = some o) (hr:rs[i]? = some r) (hi:D i=false) (fA:∀e∈o.after.toList,Region.binds .any e=true→D e.on=true) (hf:vY o=true)
 {η η1:Env} {τ:ah} {w0 w1:World} {A:Act} (hst:St P η σ w0 η1 τ w1) (htr:TR P η1 { t:=iw (iH rs) 0 D a.t,n:=a.n,gn:=a.gn } A) {K:Act→World→Prop} {Q:Exit→Act→World→Prop}
 (hK:∀η' A' w',St P η σ w0 η' τ w'→TR P η' { t:=iw (iH rs) 0 (iT D i) a.t,n:=a.n,gn:=a.gn } A'→K A' w'):wpOp P ops Q i K A w1:=by
 have hone:=C.one i r hr
 unfold qI at hone
 have hnl:jL ops M i=false:=by
  unfold jL jI
  rw [ho]
  simp only [hf,Bool.not_true,Bool.and_false]
 rw [hnl] at hone
 simp only [Bool.false_eq_true,if_false] at hone
 obtain ⟨_,_,_,hcase⟩:=Oy ho hf hone
 have hact:=C.act' hcl ho hr hi fA htr
 have hnext:=fun d=>C.IL (a0:=a) hcl ho hr hi fA d
 have hsl:=(C.slot i r hr).2
 unfold wpOp
 rw [ho]
 simp only
 rcases hcase with ⟨hw,hs⟩ | ⟨hw,v,hv,hs⟩
 ·rw [hs] at hnext hsl
  rw [zo hact hw]
  simp only [Bool.false_eq_true,if_false]
  exact hK η1 _ w1 hst (htr.add (Env.le.refl _) hnext hsl (by rintro u hu;cases hu;exact ⟨[],rfl,rfl⟩))
 ·rw [hs] at hnext hsl
  rw [zo hact hw]
  simp only [if_true]
  left
  have hop:=hv τ
  rw [vW] at hop
  refine Ny hst.rel hcall hact hop fun x η' w' hst2 hx=>?_
  exact hK η' _ w' (hst.trans hst2) (htr.add hst2.ext hnext hsl hx)
theorem Ctx.aev (C:Ctx P call ops M rs a σ c) {l:Nat} (hl:∀i,l≤i→i < ops.size→jL ops M i=true∨jI ops i=true):∀k,l+k≤ops.size→gB (σ.next+ops.size) rs (l+k)=gB (σ.next+ops.size) rs l
 | 0,_=>rfl
 | k+1,h=>by
  have ih:=C.aev hl k (by omega)
  obtain ⟨r,hr⟩:∃r,rs[l+k]? = some r:=⟨_,List.getElem?_eq_getElem (by rw [C.len];omega)⟩
  obtain ⟨o,ho⟩:∃o,ops[l+k]? = some o:=⟨ops[l+k],by simp⟩
  have hone:=C.one _ _ hr
  unfold qI at hone
  rw [show l+(k+1)=(l+k)+1 by omega,Eu rs _ _ _ hr,← ih]
  split at hone
  ·exact agV hone
  ·next hn=>
   rcases hl (l+k) (by omega) (by omega) with h1 | h1
   ·exact absurd h1 hn
   ·unfold jI at h1
    rw [ho] at h1
    exact (Oy ho h1 hone).2.1
end
theorem aaf (hm:P.follows .mixedOrders=true):Nr P (GL P):=by
 intro call hcall ops a σ a' σ' hs η w A id Q h ht hK
 unfold GL at hs
 simp only at hs
 split at hs
 ·next hok=>
  simp only [Bool.and_eq_true] at hok
  split at hs
  ·next rs t hh c hgo=>
   split at hs
   ·next sN=>
    simp only [Bool.and_eq_true] at sN
    obtain ⟨⟨⟨ajd,hdy0⟩,hsl⟩,hbig⟩:=sN
    obtain ⟨new,h1,h2,h3,h4,h5,h6⟩:=aac _ _ _ _ _ _ _ _ _ _ hgo
    simp only [List.nil_append] at h1
    subst h1
    have C:Ctx P call ops (jl ops.toList []) rs a σ c:={
     hM:=rfl
     mok:=hok.1
     len:=h2
     one:=fun i r hr=>by have:=h6 i r hr;simpa using this
     pairs:=alh ajd hdy0 (fun i r hr=>by have:=h6 i r hr;exact ag0 (by simpa using this))
     slot:=by
      intro i r hr
      unfold aec at hsl
      rw [List.all_eq_true] at hsl
      have:=hsl r (List.mem_of_getElem? hr)
      simp only [Bool.and_eq_true] at this
      refine ⟨Nat.le_of_ble_eq_true this.1,fun p hpm=>?_⟩
      have h8:=this.2
      rw [List.all_eq_true] at h8
      have:=h8 p hpm
      rwa [Nat.blt_eq] at this
     fin:=h5
     big:=Nat.le_of_ble_eq_true hbig
     lock:=Nat.le_of_ble_eq_true hok.2 }
    refine wp_region_any hm ?_
    have hcl:=C.Oi
    have hempty:inB (Array.replicate ops.size false)=fun _=>false:=by
     funext j
     unfold inB
     rw [Array.getD_eq_getD_getElem?,Array.getElem?_replicate]
     split<;>rfl
    have hno:∀ {α:Type} (us:List (List (Nat×Option α))) (k:Nat) (t:Tr α),iw us k (fun _=>false) t=t:=by
     intro α us
     induction us with
     | nil=>intro k t;rfl
     | cons u us ih=>intro k t;rw [iw];simp only [Bool.false_eq_true,if_false];exact ih _ _
    have start:vC P ops rs a σ c η { w with drawn:=w.drawn+1 } (fun _=>false) η { w with drawn:=w.drawn+1 } A:=by
     refine ⟨fun i o hi=>by simp at hi, ?_, ?_,fun id hq=>.inl (h.hasLt hq)⟩
     ·rw [hno]
      refine (St.refl h.drew).sub (fun id o ho=>ho) (by show σ.next≤c;omega) rfl
     ·rw [hno];exact ⟨ht.gn,ht.size,ht.none,ht.slot⟩
    have abm:iw (iH rs) 0 (fun j=>decide (j < ops.size)) a.t=t:=by
     rw [h3];exact OX _ _ _ _ (fun j hj=>by simp [iH] at hj ⊢;omega)
    have hlast:∀i,i < ops.size→jL ops (jl ops.toList []) i=true→jI ops i=false∧∀j,j < i→jI ops j=true∨oz (jl ops.toList []) j i=true:=by
     intro i hi hla
     unfold jL at hla
     rw [Bool.and_eq_true,Bool.not_eq_true'] at hla
     exact ⟨hla.2,fun j hj=>aeu _ _ _ (Nat.le_of_ble_eq_true hla.1) hi hla.2 hj⟩
    have hup:∀i j,i≤j→j < ops.size→jL ops (jl ops.toList []) i=true→jL ops (jl ops.toList []) j=true∨jI ops j=true:=by
     intro i j hij hj hla
     unfold jL at hla ⊢
     rw [Bool.and_eq_true,Bool.not_eq_true'] at hla
     have:=Nat.le_of_ble_eq_true hla.1
     cases hf:jI ops j with
     | true=>exact .inr rfl
     | false=>left;rw [Nat.ble_eq_true_of_le (Nat.le_trans this hij)];rfl
    have hfree:∀i,jI ops i=true→jL ops (jl ops.toList []) i=false:=by
     intro i hf
     unfold jL
     rw [hf]
     simp
    have hfin:∀ (i:Nat) r,rs[i]? = some r→jL ops (jl ops.toList []) i=false→r.fin=none:=by
     intro i r hr hi
     have hone:=C.one i r hr
     unfold qI at hone
     rw [hi] at hone
     simp only [Bool.false_eq_true,if_false] at hone
     exact agZ hone
    have aiW:∀ (i:Nat) r,rs[i]? = some r→jI ops i=true→r.upd=[]:=by
     intro i r hr hf
     have hone:=C.one i r hr
     unfold qI at hone
     rw [hfree i hf] at hone
     simp only [Bool.false_eq_true,if_false] at hone
     unfold jI at hf
     split at hf
     ·next o ho=>exact (Oy ho hf hone).1
     ·cases hf
    let wd:World:={ w with drawn:=w.drawn+1 }
    cases hs
    refine afi C.tomg (fun D η1 w1 A1=>((∀i,i < ops.size→jL ops (jl ops.toList []) i=true→D i=false)∧vC P ops rs a σ c η wd D η1 w1 A1)∨
     ∃m,m < ops.size∧jL ops (jl ops.toList []) m=true∧Closed ops D∧(∀j,j < ops.size→jI ops j=false→D j=decide (j≤m))∧∃r τ,rs[m]? = some r∧r.fin=some τ∧St P η σ wd η1 τ w1∧TR P η1 { t:=iw (iH rs) 0 D a.t,n:=a.n,gn:=a.gn } A1) ?_ ?_ ops.size (Array.replicate ops.size false) η _ A (by simp) (by simp) (.inl ⟨fun i _ _=>by rw [hempty],by rw [hempty];exact start⟩)
    ·intro D η1 w1 A1 i K Q' hinv hil hi yw hK'
     obtain ⟨o,ho⟩:∃o,ops[i]? = some o:=⟨ops[i],by simp [hil]⟩
     obtain ⟨r,hr⟩:∃r,rs[i]? = some r:=⟨_,List.getElem?_eq_getElem (by rw [h2];exact hil)⟩
     have fA:=yw o ho
     rcases hinv with ⟨hD,hinv⟩ | ⟨m,hm2,Py,hcl,CY,r1,τ1,hr1,hf1,hst1,Fb⟩
     ·by_cases hla:jL ops (jl ops.toList []) i=true
      ·
       obtain ⟨hnf,hord⟩:=hlast i hil hla
       have O8:∀j,j < ops.size→jI ops j=false→D j=decide (j < i):=by
        intro j hj lJ
        by_cases h1:j < i
        ·have:D j=true:=C.mD hinv.closed i o ho fA j ((hord j h1).resolve_left (by rw [lJ];simp))
         rw [this];simp [h1]
        ·have:D j=false:=hD j hj ((hup i j (by omega) hj hla).resolve_right (by rw [lJ];simp))
         rw [this];simp [h1]
       have aiO:∀j,j < i→jL ops (jl ops.toList []) j=false:=by
        intro j hj
        cases e:jL ops (jl ops.toList []) j with
        | false=>rfl
        | true=>
         have h1:=hD j (by omega) e
         rw [O8 j (by omega) (hlast j (by omega) e).1] at h1
         exact absurd hj (of_decide_eq_false h1)
       have ajh:∀b,(fZ ((eH rs).take i) σ.h).get b=(iw (eH rs) 0 D σ.h).get b:=by
        intro b
        rw [CV (eH rs) i 0,wB]
        congr 1
        refine Df _ _ _ _ _ fun j u hj hne=>?_
        have hjl:j < ops.size:=by have:=(List.getElem?_eq_some_iff.1 hj).1;simp [eH] at this;omega
        simp only [Nat.zero_add] at hne
        cases lJ:jI ops j with
        | false=>exact absurd (O8 j hjl lJ).symm hne
        | true=>
         obtain ⟨r',hr',hu⟩:=Gq hj
         rw [aiW j r' hr' lJ] at hu
         subst hu
         rfl
       have aiS:gB (σ.next+ops.size) rs i=c:=by
        have:=C.aev (l:=i) (fun k h1 h2=>hup i k h1 h2 hla) (ops.size - i) (by omega)
        rw [show i+(ops.size - i)=ops.size by omega] at this
        rw [← this];exact C.fin.symm
       have hts:∀σ1,pz (rs.take i) σ1=σ1:=fun σ1=>Tt i (by omega) fun j r' h1 h2=>hfin j r' h2 (aiO j h1)
       refine C.last hcall hinv.closed ho hr hi fA hla (η:=η) (w0:=wd) (η1:=η1) ?_ hinv.tr fun η' A' w' τ hf hst htr=>hK' η' A' w' (.inr ⟨i,hil,hla,Oo hinv.closed yw, ?_,r,τ,hr,hf,hst,htr⟩)
       ·rw [hts]
        refine hinv.st.sub (fun id' o' ho'=>?_) (Nat.le_of_eq aiS.symm) rfl
        rw [show (ah.get { h:=iw (eH rs) 0 D σ.h,next:=c,lock:=σ.lock } id')=(iw (eH rs) 0 D σ.h).get id' from rfl,← ajh];exact ho'
       ·intro j hj lJ
        unfold iT
        rw [O8 j hj lJ]
        by_cases e:j=i
        ·subst e;simp
        ·rw [yH e,Bool.or_false];congr 1;apply propext;omega
      ·have hnl:jL ops (jl ops.toList []) i=false:=by simpa using hla
       refine C.step hcall h.drew hinv hil hi yw hnl fun η' A' w' hinv'=>hK' η' A' w' (.inl ⟨fun j hj hjl=>?_,hinv'⟩)
       have hji:j≠i:=fun e=>by subst e;rw [hnl] at hjl;cases hjl
       unfold iT
       rw [hD j hj hjl,yH hji];rfl
     ·cases hif:jI ops i with
      | true=>
       have hof:vY o=true:=by unfold jI at hif;rw [ho] at hif;exact hif
       refine C.free hcall hcl ho hr hi fA hof hst1 Fb fun η' A' w' hst htr=>hK' η' A' w' (.inr ⟨m,hm2,Py,Oo hcl yw, ?_,r1,τ1,hr1,hf1,hst,htr⟩)
       intro j hj lJ
       have hji:j≠i:=fun e=>by subst e;rw [hif] at lJ;cases lJ
       unfold iT
       rw [CY j hj lJ,yH hji,Bool.or_false]
      | false=>
       have him:¬ i≤m:=by
        intro hle
        rw [CY i hil hif] at hi
        exact of_decide_eq_false hi hle
       have hla:jL ops (jl ops.toList []) i=true:=(hup m i (by omega) hil Py).resolve_right (by rw [hif];simp)
       have hmid:∀j,m < j→j < i→jI ops j=true:=by
        intro j h1 h2
        cases lJ:jI ops j with
        | true=>rfl
        | false=>
         have h8:D j=true:=C.mD hcl i o ho fA j (((hlast i hil hla).2 j h2).resolve_left (by rw [lJ];simp))
         rw [CY j (by omega) lJ] at h8
         have:=of_decide_eq_true h8
         omega
       have hts:∀σ1,pz (rs.take i) σ1=τ1:=fun σ1=>Tv hr1 hf1 i (by omega) (by omega) fun j r' h1 h2 h3=>hfin j r' h3 (hfree j (hmid j h1 h2))
       refine C.last hcall hcl ho hr hi fA hla (η:=η) (w0:=wd) (η1:=η1) (by rw [hts];exact hst1) Fb fun η' A' w' τ hf hst htr=>hK' η' A' w' (.inr ⟨i,hil,hla,Oo hcl yw, ?_,r,τ,hr,hf,hst,htr⟩)
       intro j hj lJ
       unfold iT
       rw [CY j hj lJ]
       by_cases e:j=i
       ·subst e;simp
       ·rw [yH e,Bool.or_false]
        congr 1
        apply propext
        constructor
        ·omega
        ·intro h1
         apply Classical.byContradiction
         intro h2
         have:=hmid j (by omega) (by omega)
         rw [this] at lJ;cases lJ
    ·intro η1 A1 w1 hinv
     rcases hinv with ⟨hD,hinv⟩ | ⟨m,hm2,Py,hcl,CY,r1,τ1,hr1,hf1,hst1,Fb⟩
     ·have ai4:∀i,i < ops.size→jL ops (jl ops.toList []) i=false:=by
       intro i hi
       cases e:jL ops (jl ops.toList []) i with
       | false=>rfl
       | true=>have:=hD i hi e;simp at this;omega
      have hts:pz rs { h:=hh,next:=c,lock:=σ.lock } = { h:=hh,next:=c,lock:=σ.lock }:=by
       have:=Tt (rs:=rs) (σ:={ h:=hh,next:=c,lock:=σ.lock }) rs.length (Nat.le_refl _) fun j r' h1 h2=>hfin j r' h2 (ai4 j (by omega))
       rwa [List.take_length] at this
      rw [hts] at hK
      have aji:iw (eH rs) 0 (fun j=>decide (j < ops.size)) σ.h=hh:=by
       rw [h4];exact OX _ _ _ _ (fun j hj=>by simp [eH] at hj ⊢;omega)
      have hst:=hinv.st
      have htr:=hinv.tr
      rw [aji] at hst
      rw [abm] at htr
      exact hK η1 A1 w1 ((St.drew h).trans hst) htr
     ·have hts:∀σ1,pz rs σ1=τ1:=by
       intro σ1
       have:=Tv (σ:=σ1) hr1 hf1 rs.length (by omega) (Nat.le_refl _) fun j r' h1 h2 h3=>by
        refine hfin j r' h3 (hfree j ?_)
        cases lJ:jI ops j with
        | true=>rfl
        | false=>
         have h9:decide (j < ops.size)=decide (j≤m):=CY j (by omega) lJ
         have h10:decide (j < ops.size)=true:=by simp;omega
         rw [h10] at h9
         have:=of_decide_eq_true h9.symm
         omega
       rwa [List.take_length] at this
      rw [hts] at hK
      rw [abm] at Fb
      exact hK η1 A1 w1 ((St.drew h).trans hst1) Fb
   ·cases hs
  ·cases hs
 ·cases hs
end
end Go.aP
