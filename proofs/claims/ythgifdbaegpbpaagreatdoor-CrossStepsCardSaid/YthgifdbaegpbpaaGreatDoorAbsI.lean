/- Pure programs: trees of nodes; what they compute; how a check of all their ways serves all values. -/
import Derived.Test.YthgifdbaegpbpaaGreatDoorAbsH
import Derived.Control
namespace Go.aN
set_option linter.unusedSimpArgs false
noncomputable section
inductive Tree where
 | step (nd:Nd) (t:Tree)
 | ite (n:Nat) (t e:Tree)
 | ret (l:List Nat)
 | tail (f:Nat) (l:List Nat)
 | dead
 deriving Inhabited
abbrev gu:=Nat->List GV->Option (List GV)
def Tree.den (I:gu):Tree->List GV->Option (List GV)
 | .step nd t,env=>match nd.den I (λn=>env[n]?) with
  | some g=>t.den I (env++[g])
  | none=>none
 | .ite n t e,env=>match env[n]? with
  | some (.b true)=>t.den I env
  | some (.b false)=>e.den I env
  | _=>none
 | .ret l,env=>valsOf (λn=>env[n]?) l
 | .tail f l,env=>match valsOf (λn=>env[n]?) l with
  | some gs=>I f gs
  | none=>none
 | .dead,_=>none
inductive Leaf where
 | ret (l:List Nat)
 | tail (f:Nat) (l:List Nat)
def Tree.chk (p:List Nd->List (Nat×Bool)->Leaf->Bool):Tree->List Nd->List (Nat×Bool)->Bool
 | .step nd t,ns,ds=>t.chk p (ns++[nd]) ds
 | .ite n t e,ns,ds=>t.chk p ns ((n,true)::ds)&&e.chk p ns ((n,false)::ds)
 | .ret l,ns,ds=>p ns ds (.ret l)
 | .tail f l,ns,ds=>p ns ds (.tail f l)
 | .dead,_,_=>true
theorem LQ {val val':Nat->Option GV} (h:∀n g,val n=some g->val' n=some g):∀ {l:List Nat} {gs:List GV},valsOf val l=some gs->valsOf val' l=some gs
 | [],gs,hv=>hv
 | n::l,gs,hv=>by
  simp only [valsOf] at hv ⊢;split at hv
  ·next g r h1 h2=>rw [h n g h1,LQ h h2];exact hv
  ·cases hv
theorem Nd.ZG {I:gu} {val val':Nat->Option GV} (h:∀n g,val n=some g->val' n=some g) {nd:Nd} {g:GV} (hd:nd.den I val=some g):nd.den I val'=some g:=by
 cases nd<;>simp only [Nd.den] at hd ⊢
 case ci=>exact hd
 case cb=>exact hd
 case cs=>exact hd
 case arg=>exact hd
 case mk l=>
  split at hd
  ·next gs hg=>rw [LQ h hg];exact hd
  ·cases hd
 case ml l=>
  obtain ⟨gs,hg,e⟩:=aX.1 hd;rw [LQ h hg];simpa using e
 case call f l j=>
  split at hd
  ·next gs hg=>rw [LQ h hg];exact hd
  ·cases hd
 case upd size off a i vs=>
  split at hd
  ·next xs k j gs h1 h2 h3=>rw [h _ _ h1,h _ _ h2,LQ h h3];exact hd
  ·cases hd
 all_goals
  split at hd
  all_goals first
   | (cases hd;done)
   | (simp only [h _ _ (by assumption)];exact hd)
   | (rename_i h1 h2 h3;rw [h _ _ h1,h _ _ h2,h _ _ h3];exact hd)
   | (rename_i h1 h2;rw [h _ _ h1,h _ _ h2];exact hd)
   | (rename_i h1;rw [h _ _ h1];exact hd)
structure zK (I:gu) (ns:List Nd) (ds:List (Nat×Bool)) (env:List GV):Prop where
 len:ns.length=env.length
 node:∀ (n:Nat) nd,ns[n]? = some nd->nd≠.arg->∃g,env[n]? = some g/\nd.den I (λk=>env[k]?)=some g
 dec:∀ (n:Nat) (b:Bool),(n,b)∈ds->env[n]? = some (.b b)
theorem OC {α:Type} {l:List α} {x a:α} {n:Nat} (h:l[n]? = some a):(l++[x])[n]? = some a:=by
 have:=(dS.1 h).1;rw [kM this];exact h
theorem Tree.Gy {I:gu} {p:List Nd->List (Nat×Bool)->Leaf->Bool}:∀ (t:Tree) {ns:List Nd} {ds:List (Nat×Bool)} {env out:List GV},t.chk p ns ds=true->zK I ns ds env->t.den I env=some out->
 ∃ns' ds' env' lf,p ns' ds' lf=true/\zK I ns' ds' env'/\(∃more,env'=env++more)/\(match lf with | .ret l=>valsOf (λn=>env'[n]?) l=some out | .tail f l=>∃gs,valsOf (λn=>env'[n]?) l=some gs/\I f gs=some out)
 | .step nd t,ns,ds,env,out,hc,hw,hd=>by
  simp only [Tree.den] at hd;split at hd
  ·next g hg=>
   have hw':zK I (ns++[nd]) ds (env++[g]):=by
    refine ⟨by simp [hw.len],λn x hn hx=>?_,λn b hb=>OC (hw.dec n b hb)⟩;by_cases hlt:n < ns.length
    ·rw [kM hlt] at hn
     obtain ⟨g',h1,h2⟩:=hw.node n x hn hx;exact ⟨g',OC h1,Nd.ZG (λk a ha=>OC ha) h2⟩
    ·have hlen:n=ns.length:=by
      have:=(dS.1 hn).1;simp at this;omega
     subst hlen;simp at hn;subst hn;exact ⟨g,by rw [hw.len];simp,Nd.ZG (λk a ha=>OC ha) hg⟩
   obtain ⟨ns',ds',env',lf,h1,h2,⟨more,h3⟩,h4⟩:=Tree.Gy t hc hw' hd;exact ⟨ns',ds',env',lf,h1,h2,⟨[g]++more,by rw [h3,List.append_assoc]⟩,h4⟩
  ·cases hd
 | .ite n t e,ns,ds,env,out,hc,hw,hd=>by
  simp only [Tree.chk,aI] at hc;simp only [Tree.den] at hd;split at hd
  ·next hn=>
   refine Tree.Gy t hc.1 ⟨hw.len,hw.node,λk b hb=>?_⟩ hd;rcases bZ.1 hb with hb | hb
   ·cases hb;exact hn
   ·exact hw.dec k b hb
  ·next hn=>
   refine Tree.Gy e hc.2 ⟨hw.len,hw.node,λk b hb=>?_⟩ hd;rcases bZ.1 hb with hb | hb
   ·cases hb;exact hn
   ·exact hw.dec k b hb
  ·cases hd
 | .ret l,ns,ds,env,out,hc,hw,hd=>⟨ns,ds,env,.ret l,hc,hw,⟨[],by simp⟩,hd⟩
 | .tail f l,ns,ds,env,out,hc,hw,hd=>by
  simp only [Tree.den] at hd;split at hd
  ·next gs hg=>exact ⟨ns,ds,env,.tail f l,hc,hw,⟨[],by simp⟩,gs,hg,hd⟩
  ·cases hd
 | .dead,_,_,_,_,_,_,hd=>by simp [Tree.den] at hd
inductive oZ where
 | sc
 | ag (n:Nat)
def oO:List oZ->List GV->Bool
 | [],[]=>true
 | .sc::l,g::m=>g.scalar&&oO l m
 | .ag n::l,g::m=>!g.scalar&&Nat.beq g.cells.length n&&oO l m
 | _,_=>false
inductive aJ where
 | tree (n:Nat) (t:Tree)
 | fn (uU wZ:List oZ) (t:Tree)
 | wW (f:List GV->Option (List GV))
def aJ.den (I:gu):aJ->List GV->Option (List GV)
 | .tree n t,gs=>if gs.length=n then t.den I gs else none
 | .fn uU wZ t,gs=>if oO uU gs=true then match t.den I gs with
  | some out=>if oO wZ out=true then some out else none
  | none=>none
  else none
 | .wW f,gs=>f gs
abbrev gJ:=Nat->Option aJ
def gJ.run (TT:gJ):Nat->gu
 | 0,_,_=>none
 | n+1,k,gs=>match TT k with
  | some d=>d.den (gJ.run TT n) gs
  | none=>none
def gu.le (I J:gu):Prop:=∀k gs out,I k gs=some out->J k gs=some out
theorem Nd.xK {I J:gu} (h:I.le J) {val:Nat->Option GV} {nd:Nd} {g:GV} (hd:nd.den I val=some g):nd.den J val=some g:=by
 cases nd with
 | call f l j=>
  simp only [Nd.den] at hd ⊢;split at hd
  ·next gs hg=>
   split at hd
   ·next r hr=>rw [h f gs r hr];exact hd
   ·cases hd
  ·cases hd
 | _=>exact hd
theorem Tree.xK {I J:gu} (h:I.le J):∀ (t:Tree) {env out:List GV},t.den I env=some out->t.den J env=some out
 | .step nd t,env,out,hd=>by
  simp only [Tree.den] at hd ⊢;split at hd
  ·next g hg=>rw [Nd.xK h hg];exact Tree.xK h t hd
  ·cases hd
 | .ite n t e,env,out,hd=>by
  simp only [Tree.den] at hd ⊢;split at hd
  ·exact Tree.xK h t hd
  ·exact Tree.xK h e hd
  ·cases hd
 | .ret l,env,out,hd=>hd
 | .tail f l,env,out,hd=>by
  simp only [Tree.den] at hd ⊢;split at hd
  ·exact h _ _ _ hd
  ·cases hd
 | .dead,_,_,hd=>by simp [Tree.den] at hd
theorem aJ.xK {I J:gu} (h:I.le J) (d:aJ) {gs out:List GV} (hd:d.den I gs=some out):d.den J gs=some out:=by
 cases d with
 | tree n t=>
  simp only [aJ.den] at hd ⊢;split at hd
  ·next hn=>rw [aj hn];exact t.xK h hd
  ·cases hd
 | fn sh so t=>
  simp only [aJ.den] at hd ⊢;split at hd
  ·next hf=>
   split at hd
   ·next o ho=>rw [aj hf,t.xK h ho];exact hd
   ·cases hd
  ·cases hd
 | wW f=>exact hd
theorem gJ.adr (TT:gJ):∀n,(TT.run n).le (TT.run (n+1))
 | 0,k,gs,out,h=>by simp [gJ.run] at h
 | n+1,k,gs,out,h=>by
  simp only [gJ.run] at h;rw [gJ.run];split at h
  ·next d hd=>exact d.xK (gJ.adr TT n) h
  ·cases h
theorem gJ.Qm (TT:gJ) {n m:Nat} (h:n<=m):(TT.run n).le (TT.run m):=by
 induction h with
 | refl=>exact λ_ _ _ h=>h
 | step _ ih=>exact λk gs out hh=>gJ.adr TT _ k gs out (ih k gs out hh)
open Classical in
def gJ.lim (TT:gJ):gu:=λk gs=>if h:∃out n,TT.run n k gs=some out then some (Classical.choose h) else none
theorem gJ.Ep {TT:gJ} {n k:Nat} {gs out:List GV} (h:TT.run n k gs=some out):TT.lim k gs=some out:=by
 unfold gJ.lim;have hex:∃out n,TT.run n k gs=some out:=⟨out,n,h⟩
 rw [dif_pos hex];obtain ⟨m,hm⟩:=aeC hex;have h1:=TT.Qm (Nat.le_max_left n m) k gs out h;have h2:=TT.Qm (Nat.le_max_right n m) k gs _ hm;rw [h1] at h2;exact h2.symm
theorem gJ.VA {TT:gJ} {k:Nat} {gs out:List GV} (h:TT.lim k gs=some out):∃n,TT.run n k gs=some out:=by
 unfold gJ.lim at h;split at h
 ·next hex=>
  cases h;exact aeC hex
 ·cases h
theorem Nd.D9 {TT:gJ} {val:Nat->Option GV} {nd:Nd} {g:GV} (hd:nd.den TT.lim val=some g):∃n,nd.den (TT.run n) val=some g:=by
 cases nd with
 | call f l j=>
  simp only [Nd.den] at hd ⊢;split at hd
  ·next gs hg=>
   split at hd
   ·next r hr=>
    obtain ⟨n,hn⟩:=gJ.VA hr;exact ⟨n,by rw [hn];exact hd⟩
   ·cases hd
  ·cases hd
 | _=>exact ⟨0,hd⟩
theorem Tree.D9 {TT:gJ}:∀ (t:Tree) {env out:List GV},t.den TT.lim env=some out->∃n,t.den (TT.run n) env=some out
 | .step nd t,env,out,hd=>by
  simp only [Tree.den] at hd;split at hd
  ·next g hg=>
   obtain ⟨n,hn⟩:=Nd.D9 hg;obtain ⟨m,hm⟩:=Tree.D9 t hd;refine ⟨max n m, ?_⟩;simp only [Tree.den];rw [Nd.xK (TT.Qm (Nat.le_max_left n m)) hn];exact t.xK (TT.Qm (Nat.le_max_right n m)) hm
  ·cases hd
 | .ite n t e,env,out,hd=>by
  simp only [Tree.den] at hd ⊢;split at hd
  ·next h=>obtain ⟨m,hm⟩:=Tree.D9 t hd;exact ⟨m,hm⟩
  ·next h=>obtain ⟨m,hm⟩:=Tree.D9 e hd;exact ⟨m,hm⟩
  ·cases hd
 | .ret l,env,out,hd=>⟨0,hd⟩
 | .tail f l,env,out,hd=>by
  simp only [Tree.den] at hd ⊢;split at hd
  ·exact gJ.VA hd
  ·cases hd
 | .dead,_,_,hd=>by simp [Tree.den] at hd
theorem gJ.ajP {TT:gJ} {k:Nat} {d:aJ} (hk:TT k=some d) {gs out:List GV} (h:d.den TT.lim gs=some out):TT.lim k gs=some out:=by
 cases d with
 | tree m t=>
  simp only [aJ.den] at h;split at h
  ·next hm=>
   obtain ⟨n,hn⟩:=Tree.D9 t h;exact gJ.Ep (n:=n+1) (by simp only [gJ.run,hk,aJ.den,aj hm];exact hn)
  ·cases h
 | fn sh so t=>
  simp only [aJ.den] at h;split at h
  ·next hf=>
   split at h
   ·next o ho=>
    obtain ⟨n,hn⟩:=Tree.D9 t ho;exact gJ.Ep (n:=n+1) (by simp only [gJ.run,hk,aJ.den,hf,if_true,hn];exact h)
   ·cases h
  ·cases h
 | wW f=>exact gJ.Ep (n:=1) (by simp only [gJ.run,hk];exact h)
theorem gJ.ajR {TT:gJ} {C:Nat->List GV->List GV->Prop} (h:∀k d,TT k=some d->∀I:gu,(∀k gs out,I k gs=some out->C k gs out)->∀gs out,d.den I gs=some out->C k gs out):∀k gs out,TT.lim k gs=some out->C k gs out:=by
 have:∀n k gs out,TT.run n k gs=some out->C k gs out:=by
  intro n;induction n with
  | zero=>intro k gs out hh;simp [gJ.run] at hh
  | succ n ih=>
   intro k gs out hh;simp only [gJ.run] at hh;split at hh
   ·next d hd=>exact h k d hd _ ih gs out hh
   ·cases hh
 intro k gs out hh;obtain ⟨n,hn⟩:=gJ.VA hh;exact this n k gs out hn
end
end Go.aN
namespace Go.aN
set_option linter.unusedSimpArgs false
noncomputable section
set_option linter.unusedSectionVars false
set_option linter.unusedVariables false
variable {P:Program}
def yt (P:Program) (c:Code) (Q:Exit->Act->World->Prop) (a:Act) (w:World):Prop:=∀b k cs,∃e a' w',Q e a' w'/\Arrives P (lone (b.at a (.code c::.inLoop c::k)) cs w) b k cs e a' w'
theorem yt.step {c:Code} {Q:Exit->Act->World->Prop} {a:Act} {w:World} (h:c.wp P (Exit.then (yt P c Q) Q) a w):yt P c Q a w:=by
 intro b k cs;obtain ⟨e,a₁,w₁,hq,harr⟩:=h b (.inLoop c::k) cs;cases e with
 | normal=>
  obtain ⟨e₂,a₂,w₂,hq₂,harr₂⟩:=hq b k cs;exact ⟨e₂,a₂,w₂,hq₂,.of_steps (Steps.trans harr (.one step_inLoop)) harr₂⟩
 | exit id=>exact ⟨_,a₁,w₁,hq,.pass (x:=.inLoop c) rfl (λ_ _=>.inl (by simp)) harr⟩
 | goto l=>exact ⟨_,a₁,w₁,hq,.pass (x:=.inLoop c) rfl (λ_ _=>.inl (by simp)) harr⟩
 | ret=>exact ⟨_,a₁,w₁,hq,.pass (x:=.inLoop c) rfl (λ_ _=>.inl (by simp)) harr⟩
 | panic ch=>exact ⟨_,a₁,w₁,hq,.pass (x:=.inLoop c) rfl (λ_ _=>.inl (by simp)) harr⟩
 | outgrown=>exact ⟨_,a₁,w₁,hq,.pass (x:=.inLoop c) rfl (λ_ _=>.inl (by simp)) harr⟩
theorem yt.loop {c:Code} {Q:Exit->Act->World->Prop} {a:Act} {w:World} (h:yt P c Q a w):(Code.loop c).wp P Q a w:=by
 intro b k cs;obtain ⟨e,a',w',hq,harr⟩:=h b k cs;exact ⟨e,a',w',hq,.of_steps (.one step_loop) harr⟩
section
variable [aG]
def AT (P:Program) (c:Code) (a:aV) (σ:ak) (Q:dP->aV->ak->Prop):Prop:=
 ∀w0 dD η w A K,jd P w0 dD η σ w->σ.lock=0->TR P η a A->(∀e a' σ' η' A' w',Q e a' σ'->jd P w0 dD η' σ' w'->σ'.lock=0->TR P η' a' A'->K e.toExit A' w')->c.wp P K A w
variable {c b x y z:Code} {a a' a2:aV} {σ σ' σ2:ak} {Q R:dP->aV->ak->Prop}
theorem AT.mono (h:AT P c a σ R) (hq:∀e a' σ',R e a' σ'->Q e a' σ'):AT P c a σ Q:=
 λw0 dD η w A K hF hl ht hK=>h w0 dD η w A K hF hl ht λe a' σ' η' A' w' hr=>hK e a' σ' η' A' w' (hq _ _ _ hr)
def Xb (P:Program) (y:Code) (Q:dP->aV->ak->Prop):dP->aV->ak->Prop
 | .normal,a,σ=>AT P y a σ Q
 | e,a,σ=>Q e a σ
theorem AT.seq (h:AT P x a σ (Xb P y Q)):AT P (.seq x y) a σ Q:=by
 intro w0 dD η w A K hF hl ht hK;refine wp_seq ?_;refine h w0 dD η w A _ hF hl ht ?_;intro e a' σ' η' A' w' hq hF' hl' ht';cases e with
 | normal=>exact hq w0 dD η' w' A' K hF' hl' ht' hK
 | exit id=>exact hK _ a' σ' η' A' w' hq hF' hl' ht'
 | ret=>exact hK _ a' σ' η' A' w' hq hF' hl' ht'
theorem AT.cond {o:Operand} {t:Bool} (ho:dB (a.eval o)=some (.b t)) (h:AT P (if t then y else z) a σ Q):AT P (.cond o y z) a σ Q:=by
 intro w0 dD η w A K hF hl ht hK;obtain ⟨vd,ho,himp⟩:=D7 ho;have hv:=himp _ _ (JW hF.rel ht o _ ho);simp only [VR] at hv;exact wp_cond hv (h w0 dD η w A K hF hl ht hK)
def DN (id:Nat) (Q:dP->aV->ak->Prop):dP->aV->ak->Prop
 | .exit id',a,σ=>if id'=id then Q .normal a σ else Q (.exit id') a σ
 | e,a,σ=>Q e a σ
theorem AT.block {id:Nat} (h:AT P b a σ (DN id Q)):AT P (.block id b) a σ Q:=by
 intro w0 dD η w A K hF hl ht hK;refine wp_block ?_;refine h w0 dD η w A _ hF hl ht ?_;intro e a' σ' η' A' w' hq hF' hl' ht';cases e with
 | normal=>exact hK .normal a' σ' η' A' w' hq hF' hl' ht'
 | ret=>exact hK .ret a' σ' η' A' w' hq hF' hl' ht'
 | exit id'=>
  simp only [DN] at hq;simp only [dP.toExit,Exit.inBlock];split at hq
  ·next e=>rw [aj e];exact hK .normal a' σ' η' A' w' hq hF' hl' ht'
  ·next e=>rw [ah e];exact hK (.exit id') a' σ' η' A' w' hq hF' hl' ht'
def zy (P:Program) (b:Code) (a:aV) (σ:ak) (Q:dP->aV->ak->Prop):Prop:=
 ∀w0 dD η w A K,jd P w0 dD η σ w->σ.lock=0->TR P η a A->(∀e a' σ' η' A' w',Q e a' σ'->jd P w0 dD η' σ' w'->σ'.lock=0->TR P η' a' A'->K e.toExit A' w')->yt P b K A w
theorem zy.at (h:zy P b a σ Q):AT P (.loop b) a σ Q:=
 λw0 dD η w A K hF hl ht hK=>(h w0 dD η w A K hF hl ht hK).loop
def Ve (P:Program) (b:Code) (Q:dP->aV->ak->Prop):dP->aV->ak->Prop
 | .normal,a,σ=>zy P b a σ Q
 | e,a,σ=>Q e a σ
theorem zy.step (h:AT P b a σ (Ve P b Q)):zy P b a σ Q:=by
 intro w0 dD η w A K hF hl ht hK;refine yt.step ?_;refine h w0 dD η w A _ hF hl ht ?_;intro e a' σ' η' A' w' hq hF' hl' ht';cases e with
 | normal=>exact hq w0 dD η' w' A' K hF' hl' ht' hK
 | exit id=>exact hK _ a' σ' η' A' w' hq hF' hl' ht'
 | ret=>exact hK _ a' σ' η' A' w' hq hF' hl' ht'
theorem AT.run {run:Code->aV->ak->Option (dP×aV×ak)} (hr:Jq P run) {e:dP} (h:run c a σ=some (e,a',σ')) (hq:Q e a' σ'):AT P c a σ Q:=by
 intro w0 dD η w A K hF hl ht hK;refine hr c a σ e a' σ' h η w A K hF.rel ht ?_;intro η' A' w' hst ht';exact hK e a' σ' η' A' w' hq (hF.step hl hst) (hst.lock.trans hl) ht'
end
inductive AC where
 | plain (c:Code)
 | seq (x y:AC)
 | cond (o:Operand) (y z:AC)
 | block (id:Nat) (b:AC)
 | loop (k:Nat) (b:Code)
 | peel (x:AC) (k:Nat) (b:Code)
def AC.erase:AC->Code
 | .plain c=>c
 | .seq x y=>.seq x.erase y.erase
 | .cond o y z=>.cond o y.erase z.erase
 | .block id b=>.block id b.erase
 | .loop _ b=>.loop b
 | .peel _ _ b=>.loop b
def AC.Good:AC->Prop
 | .plain _=>True
 | .seq x y=>x.Good/\y.Good
 | .cond _ y z=>y.Good/\z.Good
 | .block _ b=>b.Good
 | .loop _ _=>True
 | .peel x _ b=>x.erase=b/\x.Good
def jK (ps:List Nat):Code->Nat->AC×Nat
 | .seq x y,n=>match jK ps x n with
  | (a,n1)=>match jK ps y n1 with
   | (b,n2)=>(.seq a b,n2)
 | .cond o y z,n=>match jK ps y n with
  | (a,n1)=>match jK ps z n1 with
   | (b,n2)=>(.cond o a b,n2)
 | .block id b,n=>match jK ps b n with
  | (a,n1)=>(.block id a,n1)
 | .loop b,n=>if ps.contains (2 * n+1) then (.plain (.loop b),n+1) else match jK ps b (n+1) with
  | (x,n1)=>if ps.contains (2 * n) then (.peel x n b,n1) else (.loop n b,n+1)
 | c,n=>(.plain c,n)
def kR (ps:List Nat) (c:Code):AC:=(jK ps c 0).1
theorem wM (ps:List Nat):∀ (c:Code) (n:Nat),(jK ps c n).1.erase=c/\(jK ps c n).1.Good
 | .seq x y,n=>by
  have h1:=wM ps x n;have h2:=wM ps y (jK ps x n).2;simp only [jK,AC.erase,AC.Good];exact ⟨by rw [h1.1,h2.1],h1.2,h2.2⟩
 | .cond o y z,n=>by
  have h1:=wM ps y n;have h2:=wM ps z (jK ps y n).2;simp only [jK,AC.erase,AC.Good];exact ⟨by rw [h1.1,h2.1],h1.2,h2.2⟩
 | .block id b,n=>by
  have h1:=wM ps b n;simp only [jK,AC.erase,AC.Good];exact ⟨by rw [h1.1],h1.2⟩
 | .loop b,n=>by
  have h1:=wM ps b (n+1);simp only [jK];split
  ·exact ⟨rfl,trivial⟩
  ·split
   ·exact ⟨rfl,h1.1,h1.2⟩
   ·exact ⟨rfl,trivial⟩
 | .skip,_ | .region _ _ _,_ | .rangeFunc _ _ _ _,_ | .exit _,_ | .scope _,_ | .label _,_ | .goto _,_ | .ret,_ | .refuse _,_=>⟨rfl,trivial⟩
def AC.nJ (k:Nat) (b:Code):AC->Prop
 | .plain _=>False
 | .seq x y=>x.nJ k b\/y.nJ k b
 | .cond _ y z=>y.nJ k b\/z.nJ k b
 | .block _ x=>x.nJ k b
 | .loop k' b'=>k'=k/\b'=b
 | .peel x k' b'=>(k'=k/\b'=b)\/x.nJ k b
abbrev RH:=Nat->aV->ak->Option (dP×aV×ak)
def uq [fQ] (ls:RH) (run:Code->aV->ak->Option (dP×aV×ak)):AC->aV->ak->Option (dP×aV×ak)
 | .plain c,a,σ=>run c a σ
 | .seq x y,a,σ=>match uq ls run x a σ with
  | some (.normal,a',σ')=>uq ls run y a' σ'
  | r=>r
 | .cond o y z,a,σ=>match dB (a.eval o) with
  | some (.b t)=>if t then uq ls run y a σ else uq ls run z a σ
  | _=>none
 | .block id b,a,σ=>match uq ls run b a σ with
  | some (.exit id',a',σ')=>if id'=id then some (.normal,a',σ') else some (.exit id',a',σ')
  | r=>r
 | .loop k _,a,σ=>ls k a σ
 | .peel x k _,a,σ=>match uq ls run x a σ with
  | some (.normal,a',σ')=>ls k a' σ'
  | r=>r
theorem RX [aG] {ls:RH} {run:Code->aV->ak->Option (dP×aV×ak)} (hr:Jq P run):∀ (ac:AC),ac.Good->(∀k b,ac.nJ k b->∀a σ e a' σ',ls k a σ=some (e,a',σ')->∀Q:dP->aV->ak->Prop,Q e a' σ'->zy P b a σ Q)->
 ∀ (a:aV) (σ:ak) (e:dP) (a':aV) (σ':ak),uq ls run ac a σ=some (e,a',σ')->∀Q:dP->aV->ak->Prop,Q e a' σ'->AT P ac.erase a σ Q:=by
 intro ac;induction ac with
 | plain c=>intro hg hl a σ e a' σ' h Q hq;exact AT.run hr h hq
 | loop k b=>intro hg hl a σ e a' σ' h Q hq;exact (hl k b ⟨rfl,rfl⟩ a σ e a' σ' h Q hq).at
 | peel x k b ih=>
  intro hg hl a σ e a' σ' h Q hq;simp only [uq] at h;refine zy.at (zy.step ?_);obtain ⟨rfl,hg⟩:=hg;split at h
  ·next a1 σ1 h1=>
   exact ih hg (λk' b' hk=>hl k' b' (.inr hk)) a σ _ a1 σ1 h1 (Ve P x.erase Q) (hl k _ (.inl ⟨rfl,rfl⟩) a1 σ1 e a' σ' h Q hq)
  ·next hne=>
   refine ih hg (λk' b' hk=>hl k' b' (.inr hk)) a σ e a' σ' h (Ve P x.erase Q) ?_;cases e with
   | normal=>exact absurd h (by intro e';exact hne _ _ e')
   | exit id=>exact hq
   | ret=>exact hq
 | seq x y ihx ihy=>
  intro hg hl a σ e a' σ' h Q hq;simp only [uq] at h;split at h
  ·next a1 σ1 h1=>
   exact AT.seq (ihx hg.1 (λk b hk=>hl k b (.inl hk)) a σ _ a1 σ1 h1 (Xb P y.erase Q) (ihy hg.2 (λk b hk=>hl k b (.inr hk)) a1 σ1 e a' σ' h Q hq))
  ·next hne=>
   refine AT.seq (ihx hg.1 (λk b hk=>hl k b (.inl hk)) a σ e a' σ' h (Xb P y.erase Q) ?_);cases e with
   | normal=>exact absurd h (by intro e';exact hne _ _ e')
   | exit id=>exact hq
   | ret=>exact hq
 | cond o y z ihy ihz=>
  intro hg hl a σ e a' σ' h Q hq;simp only [uq] at h;split at h
  ·next t ho=>
   refine AT.cond ho ?_;cases t with
   | true=>exact ihy hg.1 (λk b hk=>hl k b (.inl hk)) a σ e a' σ' h Q hq
   | false=>exact ihz hg.2 (λk b hk=>hl k b (.inr hk)) a σ e a' σ' h Q hq
  ·cases h
 | block id b ih=>
  intro hg hl a σ e a' σ' h Q hq;simp only [uq] at h;split at h
  ·next id' a1 σ1 h1=>
   split at h
   ·next e1=>
    cases h;exact AT.block (ih hg (λk b hk=>hl k b hk) a σ _ _ _ h1 (DN id Q) (by simp only [DN];rw [aj e1];exact hq))
   ·next e1=>
    cases h;exact AT.block (ih hg (λk b hk=>hl k b hk) a σ _ _ _ h1 (DN id Q) (by simp only [DN];rw [ah e1];exact hq))
  ·next hne=>
   refine AT.block (ih hg (λk b hk=>hl k b hk) a σ e a' σ' h (DN id Q) ?_);cases e with
   | normal=>exact hq
   | exit id'=>exact absurd h (by intro e';exact hne _ _ _ e')
   | ret=>exact hq
end
end Go.aN
namespace Go.aN
set_option linter.unusedSimpArgs false
noncomputable section
set_option linter.unusedSectionVars false
set_option linter.unusedVariables false
variable {P:Program}
def zq:List Value->Value
 | [v]=>v
 | l=>.tuple ⟨l⟩
structure wH (tabs:List (Nat×List AV)) (ro:Nat->Option Obj) (w:World):Prop where
 at':∀b o,ro b=some o->w.heap[b]? = some o
 tab:∀p∈tabs,∃cs elem fr,ro p.1=some (.cells cs elem fr)/\p.2.length<=cs.size/\∀ (k:Nat) a,p.2[k]? = some a->∃x,cs[k]? = some x/\a.toVal 4=some x
structure Gj (ro ro':Nat->Option Obj) (w w':World):Prop where
 kept:Kept w w'
 le:∀b o,ro b=some o->ro' b=some o
 new:∀b,ro' b≠none->ro b≠none\/w.heap.size<=b
 at':∀b o,ro' b=some o->w'.heap[b]? = some o
def uP:List (Option FuncId)->List Value->List Value
 | none::st,v::vs=>v::uP st vs
 | none::_,[]=>[]
 | some g::st,vs=>.func (.func g) ⟨[]⟩ ⟨[]⟩::uP st vs
 | [],vs=>vs
def uO:List (Option FuncId)->List AV->List AV
 | none::st,v::vs=>v::uO st vs
 | none::_,[]=>[]
 | some g::st,vs=>.fn g [] []::uO st vs
 | [],vs=>vs
def zo:List (Option FuncId)->List AV->Option (List AV)
 | [],l=>some l
 | none::st,a::l=>(zo st l).map (a::·)
 | some g::st,.fn g' [] []::l=>if g'=g then zo st l else none
 | _,_=>none
def aeR (P:Program) (tabs:List (Nat×List AV)) (f:FuncId) (st:List (Option FuncId)) (gs out:List GV):Prop:=∀ro w vs,wH tabs ro w->aO ro gs vs->jV P f ⟨uP st vs⟩ w λv w'=>∃ro',Gj ro ro' w w'/\∃us,v=zq us/\aO ro' out us
section
variable [aG]
theorem QS {η:Env}:∀ {st:List (Option FuncId)} {l r:List AV} {vs:List Value},zo st l=some r->ay η l vs->∃vs',vs=uP st vs'/\ay η r vs'
 | [],l,r,vs,h,hv=>by
  simp only [zo,aT] at h;subst h;exact ⟨vs,rfl,hv⟩
 | none::st,[],r,vs,h,hv=>by simp [zo] at h
 | none::st,a::l,r,vs,h,hv=>by
  simp only [zo,aX] at h;obtain ⟨r',h1,rfl⟩:=h;obtain ⟨x,xs,rfl,hx,hxs⟩:=hv;obtain ⟨vs',rfl,h2⟩:=QS h1 hxs;exact ⟨x::vs',rfl,ay.cons hx h2⟩
 | some g::st,[],r,vs,h,hv=>by simp [zo] at h
 | some g::st,a::l,r,vs,h,hv=>by
  unfold zo at h;split at h
  ·next e=>cases e
  ·next e _=>cases e
  ·next g0 st0 g' l0 e1 e2=>
   cases e1;cases e2;split at h
   ·next e=>
    subst e;obtain ⟨x,xs,rfl,hx,hxs⟩:=hv;obtain ⟨vs',rfl,h2⟩:=QS h hxs;simp only [VR] at hx;obtain ⟨us,ws,rfl,h3,h4⟩:=hx;simp only [ay] at h3 h4;subst h3;subst h4;exact ⟨vs',rfl,h2⟩
   ·cases h
  ·cases h
theorem Qc {η:Env}:∀ {st:List (Option FuncId)} {l:List AV} {vs:List Value},ay η l vs->ay η (uO st l) (uP st vs)
 | [],l,vs,hv=>hv
 | none::st,[],vs,hv=>by simp only [ay] at hv;subst hv;simp [uO,uP,ay]
 | none::st,a::l,vs,hv=>by
  obtain ⟨x,xs,rfl,hx,hxs⟩:=hv;exact ay.cons hx (Qc hxs)
 | some g::st,l,vs,hv=>ay.cons (by simp only [VR];exact ⟨[],[],rfl,by simp [ay],by simp [ay]⟩) (Qc hv)
theorem SR.Qj {η:Env} {σ:ak} {w:World} (h:SR P η σ w):wH aG.tabs η.ro w:=⟨h.iH,h.tabs⟩
theorem St.alq {η:Env} {σ:ak} {w w':World} {ro':Nat->Option Obj} (h:SR P η σ w) (k:Gj η.ro ro' w w'):St P η σ w ⟨η.pl,ro',η.gh⟩ σ w':=by
 have hle:(η:Env).le ⟨η.pl,ro',η.gh⟩:=⟨λ_ _ h=>h,k.le,λ_ h=>h⟩
 refine ⟨hle,⟨h.kV,h.dom,λid o ho=>?_,h.jc,h.sep,k.at',λid o q a1 a2 a3=>?_,λp hp=>(h.tabs p hp).mono hle⟩,k.kept.size,λbl hb _=>k.kept.keep bl hb,λid o q h1 h2 h3 h4=>.inr ⟨id,o,q,h1,h2,h3,h4,rfl⟩,k.kept.os,k.kept.tape,k.kept.output,rfl,dJ _,λ_ h=>.inl h,λb hb=>?_⟩
 ·exact ((h.live id o ho).heap λq _ hr=>k.kept.keep _ hr.lt).mono hle
 ·have hr:=h.at a1 (show η id=some q from a3)
  cases hro:ro' q.bl with
  | none=>exact hro
  | some o2=>
   rcases k.new q.bl (by rw [hro];simp) with h1 | h1
   ·exact absurd (h.jS id o q a1 a2 a3) h1
   ·have:=hr.lt;omega
 ·rcases k.new b hb with h1 | h1
  ·exact .inl h1
  ·exact .inr (.inl h1)
end
end
end Go.aN
namespace Go.aN
set_option linter.unusedSimpArgs false
noncomputable section
set_option linter.unusedSectionVars false
set_option linter.unusedVariables false
variable {P:Program}
@[reducible] def Tg (tabs:List (Nat×List AV)) (gs:List GV) (ka:Nat):aG:={ nodes:=[],dec:=[],ka:=ka,tabs:=tabs,I:=λ_ _=>none,val:=λn=>gs[n]?,pK:=by intro n nd h;simp at h,yN:=by intro n b h;simp at h }
def nX {α:Type}:List (Nat×α)->Tr α
 | []=>.nil
 | (k,v)::l=>(nX l).set k (some v)
theorem KO {α:Type}:∀ {l:List (Nat×α)} {k:Nat} {v:α},(nX l).get k=some v->(k,v)∈l
 | [],k,v,h=>by simp [nX] at h
 | (j,u)::l,k,v,h=>by
  rw [nX,Tr.uH] at h;split at h
  ·next e=>cases h;subst e;simp
  ·exact yw _ (KO h)
structure fU where
 np:Nat
 n:Nat
 gn:Nat
 next:Nat
 slots:List (Nat×AV)
 objs:List (Nat×bf)
 ka:Nat:=0
 al:List (Option Nat):=[]
def tV (tabs:List (Nat×List AV)):List (Nat×bf):=tabs.map λp=>(p.1,.cells p.2 0 false false)
def fU.act (s:fU):aV:=⟨nX s.slots,s.n,s.gn⟩
def fU.st (tabs:List (Nat×List AV)) (s:fU):ak:=⟨nX (s.objs++tV tabs),s.next,0⟩
def MK (P:Program) (tabs:List (Nat×List AV)) (s:fU) (gs:List GV) (w0:Base) (dD:Nat->Option Obj) (A:Act) (w:World):Prop:=∃η,@jd (Tg tabs gs s.ka) P w0 dD η (s.st tabs) w/\@TR (Tg tabs gs s.ka) P η s.act A
def bY {α:Type} (k:Nat):List (Nat×α)->Option α
 | []=>none
 | p::l=>bif Nat.beq k p.1 then some p.2 else bY k l
theorem OB {α:Type} {k:Nat} {v:α}:∀ {l:List (Nat×α)},bY k l=some v->(k,v)∈l
 | [],h=>by simp [bY] at h
 | p::l,h=>by
  simp only [bY] at h;cases hb:Nat.beq k p.1 with
  | true=>rw [hb] at h;simp only [cond_true,aT] at h;rw [bC hb,<- h];simp
  | false=>rw [hb] at h;simp only [cond_false] at h;exact yw _ (OB h)
def Ar (r:List (Nat×Option Nat)) (i:Nat) (x:Option Nat):Bool:=
 match bY i r,x with
 | some (some a),some b=>Nat.beq a b
 | some none,none=>true
 | _,_=>false
section
variable [fQ]
def Ih (m:Nat):Bool:=match fQ.nodes[m]? with
 | some (.ml [])=>true
 | _=>false
def OA (P:Program) (σ:ak) (fz:List Nat) (a:AV) (m:Nat):Bool:=
 match a with
 | .sv id n=>fz.contains id&&match σ.get id with
  | some (.vec m' _ _)=>Nat.beq m' m&&tK 100 m' n
  | _=>false
 | .sl id off len cap=>fz.contains id&&match σ.get id with
  | some (.cells c et true opn)=>(match listOf P σ et (.sl id off len cap),sizeT P et with
   | some m',some size=>Nat.beq m' m&&Nat.blt 0 size
   | _,_=>false)
  | _=>false
 | _=>false
mutual
def mV (P:Program) (G:Nat) (σ:ak) (fz:List Nat) (r:List (Nat×Option Nat)) (ps:List Nat):AV->AV->Bool
 | .nd j,a=>match ps[j]? with
  | some m=>(match iq a with
   | some m'=>Nat.beq m m'
   | none=>false) || OA P σ fz a m
  | none=>false
 | .sv i j,a=>match ps[j]? with
  | some m=>match a with
   | .sv id n=>Nat.blt G i&&Ar r i (some id)&&tK 100 m n
   | .bK=>Nat.blt G i&&Ar r i none&&Ih m
   | _=>false
  | none=>false
 | .p i off,a=>match a with
  | .p id off'=>Nat.beq off off'&&(if i<=G then Nat.beq i id else Ar r i (some id))
  | _=>false
 | .rx j off,a=>match a with
  | .rx m off'=>Nat.beq off off'&&(match ps[j]? with | some m'=>Nat.beq m m' | none=>false)
  | _=>false
 | .fn f fi cs,a=>match a with
  | .fn f' fi' cs'=>Nat.beq f f'&&yY P G σ fz r ps fi fi'&&yY P G σ fz r ps cs cs'
  | _=>false
 | .agg l,a=>match a with
  | .agg l'=>yY P G σ fz r ps l l'
  | _=>false
 | .dM l,a=>match a with
  | .dM l'=>yY P G σ fz r ps l l'
  | _=>false
 | .dU t x,a=>match a with
  | .dU t' x'=>Nat.beq t t'&&mV P G σ fz r ps x x'
  | _=>false
 | .b x,a=>match a with | .b y=>(bif x then y else !y) | _=>false
 | .i k n,a=>match a with | .i k' n'=>Nat.beq (kc k) (kc k')&&Em n n' | _=>false
 | .s x,a=>match a with | .s y=>yK x y | _=>false
 | .jq,a=>match a with | .jq=>true | _=>false
 | .bK,a=>match a with | .bK=>true | _=>false
 | .xZ,a=>match a with | .xZ=>true | _=>false
 | .qY,a=>match a with | .qY=>true | _=>false
 | .oK,a=>match a with | .oK=>true | _=>false
 | .mp i,a=>match a with
  | .mp id=>Nat.blt G i&&Ar r i (some id)
  | _=>false
 | _,_=>false
def yY (P:Program) (G:Nat) (σ:ak) (fz:List Nat) (r:List (Nat×Option Nat)) (ps:List Nat):List AV->List AV->Bool
 | [],l=>match l with | []=>true | _=>false
 | a::l,m=>match m with
  | b::m'=>mV P G σ fz r ps a b&&yY P G σ fz r ps l m'
  | []=>false
end
def mO (P:Program) (G:Nat) (σ:ak) (fz:List Nat) (r:List (Nat×Option Nat)) (ps:List Nat) (i:Nat) (o:bf):Bool:=
 match bY i r with
 | some (some id)=>!(fz.contains id)&&match o with
  | .cells l et rX opn=>match σ.get id with
   | some (.cells c Ea rw' KQ)=>Nat.beq et Ea&&(bif rX then rw' else !rw')&&(bif opn then KQ else !KQ)&&yY P G σ fz r ps l c
   | _=>false
  | .vec j et f=>match σ.get id with
   | some (.vec m Ea f')=>Nat.beq et Ea&&(!f || f')&&(match ps[j]? with | some m'=>Nat.beq m m' | none=>false)
   | _=>false
  | .smap j kk sz=>match σ.get id with
   | some (.smap m Ag sz')=>H9 kk Ag&&LC sz sz'&&(match ps[j]? with | some m'=>Nat.beq m m' | none=>false)
   | some (.map [])=>(match ps[j]? with | some m=>Ih m | none=>false)
   | _=>false
  | .map []=>(match σ.get id with
   | some (.map [])=>true
   | _=>false)
  | _=>false
 | some none=>match o with
  | .vec j _ _=>(match ps[j]? with | some m=>Ih m | none=>false)
  | _=>false
 | none=>false
def PE (P:Program) (G:Nat) (σ:ak) (fz:List Nat) (r:List (Nat×Option Nat)) (ps:List Nat) (t:Tr AV):List (Nat×AV)->Bool
 | []=>true
 | p::l=>(match t.get p.1 with | some v=>mV P G σ fz r ps p.2 v | none=>false)&&PE P G σ fz r ps t l
def Ic (P:Program) (G next:Nat) (σ:ak) (fz:List Nat) (r:List (Nat×Option Nat)) (ps:List Nat):List (Nat×bf)->Bool
 | []=>true
 | p::l=>Nat.blt G p.1&&Nat.blt p.1 next&&mO P G σ fz r ps p.1 p.2&&Ic P G next σ fz r ps l
def Ju (r:List (Nat×Option Nat)):Nat->Nat->Bool
 | _,0=>true
 | i,n+1=>Ar r (i+1) (some (i+1))&&Ju r (i+1) n
def Fh:List (Nat×Option Nat)->Bool
 | []=>true
 | p::l=>(match p.2 with
  | some a=>l.all λq=>match q.2 with | some b=>!(Nat.beq a b) | none=>true
  | none=>true)&&Fh l
def Vg (P:Program) (s:fU) (a:aV) (σ:ak) (fz:List Nat) (r:List (Nat×Option Nat)) (ps:List Nat):Bool:=
 Nat.beq s.ka fQ.ka&&Nat.blt (s.gn+s.ka) s.next&&Ju r s.gn s.ka&&Nat.beq s.n a.n&&Nat.beq s.gn a.gn&&Nat.blt s.gn s.next&&Fh r&&PE P s.gn σ fz r ps a.t s.slots&&Ic P s.gn s.next σ fz r ps s.objs
end
def kills (σ:ak):List Nat->ak
 | []=>σ
 | id::l=>(kills σ l).kill id
theorem Af {σ:ak} {k:Nat}:∀ {l:List Nat},(kills σ l).get k=if k∈l then none else σ.get k
 | []=>by simp [kills]
 | id::l=>by
  rw [kills,ak.wR,Af];by_cases h:k=id
  ·simp [h]
  ·simp [h]
theorem H8 {σ:ak}:∀l:List Nat,(kills σ l).lock=σ.lock
 | []=>rfl
 | _::l=>H8 l
theorem UR {σ:ak}:∀l:List Nat,(kills σ l).next=σ.next
 | []=>rfl
 | _::l=>UR l
section
variable [aG]
theorem Ov {w0:Base} {dD:Nat->Option Obj} {η:Env} {σ:ak} {w:World} (hF:jd P w0 dD η σ w) (hl:σ.lock=0):∀fz:List Nat,∃bT,(∀b o,η.ro b=some o->bT b=some o)/\jd P w0 dD ⟨η.pl,bT,η.gh⟩ (kills σ fz) w/\
 (∀id∈fz,∀o q,σ.get id=some o->o.own=true->η id=some q->bT q.bl=w.heap[q.bl]?)
 | []=>⟨η.ro,λ_ _ h=>h,hF,by simp⟩
 | id::fz=>by
  obtain ⟨bT,h1,h2,h3⟩:=Ov hF hl fz;by_cases hx:∃o q,(kills σ fz).get id=some o/\o.own=true/\η id=some q
  ·obtain ⟨o,q,ho,hown,hq⟩:=hx
   have hst:=St.freeze h2.rel ho hown (by rw [H8,hl];exact vC _) (show (⟨η.pl,bT,η.gh⟩:Env) id=some q from hq);have hF2:=h2.step (by rw [H8,hl]) hst;refine ⟨CZ bT w q.bl,λb o hb=>Qh h2.rel.iH q.bl b o (h1 b o hb),hF2, ?_⟩;intro id' iY o' q' ho' hown' hq';show (if q'.bl=q.bl then w.heap[q.bl]? else bT q'.bl)=_
   split
   ·next e=>rw [e]
   ·next e=>
    rcases bZ.1 iY with rfl | iY
    ·rw [hq] at hq';cases hq';exact absurd rfl e
    ·exact h3 id' iY o' q' ho' hown' hq'
  ·refine ⟨bT,h1,⟨h2.rel.sub (λk u hk=>?_) (dJ _),h2.kept,λk u q a1 a2 a3=>?_,h2.rW,h2.pR,h2.ou⟩, ?_⟩
   ·rw [kills,ak.wR] at hk;split at hk;cases hk;exact hk
   ·rw [kills,ak.wR] at a1;split at a1;cases a1;exact h2.own k u q a1 a2 a3
   ·intro id' iY o' q' ho' hown' hq'
    rcases bZ.1 iY with rfl | iY
    ·by_cases hm:id'∈fz
     ·exact h3 id' hm o' q' ho' hown' hq'
     ·exact absurd ⟨o',q',by rw [Af,ah hm];exact ho',hown',hq'⟩ hx
    ·exact h3 id' iY o' q' ho' hown' hq'
end
theorem Dj {val:Nat->Option GV}:∀ {ps:List Nat} {gs:List GV},valsOf val ps=some gs->∀ {j m:Nat},ps[j]? = some m->gs[j]? = val m/\∃g,val m=some g
 | [],gs,h,j,m,hj=>by simp at hj
 | p::ps,gs,h,j,m,hj=>by
  simp only [valsOf] at h;split at h
  ·next g r h1 h2=>
   cases h;cases j with
   | zero=>simp at hj;subst hj;exact ⟨by simp [h1],g,h1⟩
   | succ j=>simpa using Dj h2 (j:=j) (by simpa using hj)
  ·cases h
theorem Qe {r:List (Nat×Option Nat)} {i id:Nat} (h:Ar r i (some id)=true):bY i r=some (some id):=by
 unfold Ar at h;split at h
 ·next a b e1 e2=>cases e2;rw [e1,bC h]
 ·next e1 e2=>cases e2
 ·cases h
theorem amY {r:List (Nat×Option Nat)} {i:Nat} (h:Ar r i none=true):bY i r=some none:=by
 unfold Ar at h;split at h
 ·next a b e1 e2=>cases e2
 ·next e1 e2=>exact e1
 ·cases h
def yh (tabs:List (Nat×List AV)) (i:Nat):Nat:=match bY i tabs with
 | some c=>c.length
 | none=>0
def qU (tabs:List (Nat×List AV)) (G next:Nat) (r:List (Nat×Option Nat)) (η:Env) (bT:Nat->Option Obj):Env where
 pl:=λi=>if i<=G then some ⟨i,0,yh tabs i,0⟩ else if i < next then match bY i r with
  | some (some id)=>η id
  | _=>none
  else none
 ro:=bT
 gh:=λi=>decide (G < i)&&decide (i < next)&&match bY i r with
  | some (some id)=>η.gh id
  | some none=>true
  | none=>false
end
end Go.aN
namespace Go.aN
set_option linter.unusedSimpArgs false
noncomputable section
set_option linter.unusedSectionVars false
set_option linter.unusedVariables false
variable {P:Program}
structure uf (T:aG) (P:Program) (tabs:List (Nat×List AV)) (G next:Nat) (η:Env) (σ:ak) (w:World) (fz:List Nat) (r:List (Nat×Option Nat)) (ps:List Nat) (gs:List GV) (bT:Nat->Option Obj):Prop where
 rel:@SR T P η σ w
 vals:valsOf T.val ps=some gs
 rW:∀b o,η.ro b=some o->bT b=some o
 sZ:∀id∈fz,∀o q,σ.get id=some o->o.own=true->η id=some q->bT q.bl=w.heap[q.bl]?
 gn:G=P.globals.size
 lt:G < next
variable {T:aG} {ka:Nat} {tabs:List (Nat×List AV)} {G next:Nat} {η:Env} {σ:ak} {w:World} {fz:List Nat} {r:List (Nat×Option Nat)} {ps:List Nat} {gs:List GV} {bT:Nat->Option Obj}
theorem Et {i id:Nat} (hG:G < i) (hn:i < next) (hr:bY i r=some (some id)):(qU tabs G next r η bT) i=η id:=by
 show (if i<=G then some (⟨i,0,yh tabs i,0⟩:Place) else if i < next then _ else none)=_
 rw [ah (by omega),aj hn,hr]
theorem PD {i:Nat} (hG:i<=G):(qU tabs G next r η bT) i=some ⟨i,0,yh tabs i,0⟩:=by
 show (if i<=G then some (⟨i,0,yh tabs i,0⟩:Place) else _)=_
 rw [aj hG]
theorem abX {i id:Nat} (hG:G < i) (hn:i < next) (hr:bY i r=some (some id)):(qU tabs G next r η bT).gh i=η.gh id:=by
 show (decide (G < i)&&decide (i < next)&&_)=_
 rw [hr];simp [hG,hn]
theorem abY {i:Nat} (hG:G < i) (hn:i < next) (hr:bY i r=some none):(qU tabs G next r η bT).gh i=true:=by
 show (decide (G < i)&&decide (i < next)&&_)=_
 rw [hr];simp [hG,hn]
theorem aaR (C:uf T P tabs G next η σ w fz r ps gs bT) {a:AV} {m:Nat} {v:Value} (h:@OA T.tofQ P σ fz a m=true) (hv:@VR T η a v) {g:GV} (hm:T.val m=some g):g.scalar=true/\GR bT g v:=by
 letI:=T
 unfold OA at h;split at h
 ·next id n=>
  rw [aI] at h;obtain ⟨h1,h⟩:=h;have hid:id∈fz:=by simpa using h1
  split at h
  ·next m' et f hg=>
   rw [aI] at h;have e:=bC h.1;subst e;simp only [VR] at hv;obtain ⟨ys,k1,hv⟩:=hv;rcases hv with ⟨q,hq,hle,rfl⟩ | ⟨hgh,rfl,rfl⟩
   ·have hor:=C.rel.at hg hq
    obtain ⟨xs,x1,x2,x3,x4,x5,x6,x7,x8⟩:=hor.Ii;have x1':T.val m'=some (.l xs):=x1;rw [hm] at x1';cases x1';have hlen:=wY 100 h.2 x1 k1;refine ⟨rfl, ?_⟩;have hcl:=DY x2;have:=GR.Vy (ro':=bT) (off:=0) (n:=ys.length) (size:=q.es) (cap:=q.sz / q.es) (cs:=bF xs) (gs:=xs) x8 C.rW (C.sZ id hid _ q hg rfl hq) (by
     unfold takeN;rw [eH,<- hlen,mQ (by omega),aj hcl]) hlen hle x4 (λx hx=>⟨x2 x hx,x7 x hx⟩) (λη' vs hro hvs=>by
      unfold bF at hvs ⊢;exact (nI _ _).1 (aO.mono hro _ _ ((nI _ _).2 hvs)))
    simpa using this
   ·rcases C.rel.live id _ hg with ⟨q,hq,_⟩ | ⟨_,n2,Tv,f2,e2,hv0⟩
    ·rw [(C.rel.jc id hgh).1] at hq;cases hq
    ·cases e2
     have OW:T.val m'=some (.l []):=hv0;rw [hm] at OW;cases OW;exact ⟨rfl,by simp [GR]⟩
  ·cases h
 ·next id off len cap=>
  rw [aI] at h;obtain ⟨h1,h⟩:=h;have hid:id∈fz:=by simpa using h1
  split at h
  ·next c et opn hg=>
   split at h
   ·next m' size hl hsz=>
    rw [aI] at h;have e:=bC h.1;subst e;have h0:0 < size:=by have:=h.2;rwa [iW] at this
    simp only [VR] at hv;obtain ⟨q,hq,hle,rfl⟩:=hv;unfold listOf at hl;simp only [hg,hsz] at hl;split at hl
    ·next c' Ea rw' KQ size' agg e1 e2 ha=>
     cases e1;cases e2;split at hl
     ·next hc=>
      rw [aI,mP,aI] at hc;split at hl
      ·next cs hcs=>
       split at hl
       ·next ns hns=>
        have hagg:agg=false->size=1:=by
         intro e;subst e;rcases hc.2 with h1 | h1
         ·simp at h1
         ·exact bC h1
        obtain ⟨g',g1,g2⟩:=fD hl;have g1':T.val m'=some g':=g1;rw [hm] at g1';cases g1';have hor:=C.rel.at hg hq;obtain ⟨ws,elem,fr,hb,rr⟩:=hor;have hlc:=(qA hcs).2.1;have ajj:=rr.xk hcs;obtain ⟨gl,k1,k2,k3,k4,hsize⟩:=BN (η:=η) hagg len hns ajj hlc;simp only [Nd.den,k1,gy,aT] at g2;subst g2;refine ⟨rfl, ?_⟩;have:=GR.Vy (ro':=bT) (off:=off) (n:=len) (size:=size) (cap:=cap.getD ((q.sz - off) / q.es)) (cs:=cs) (gs:=gl) (C.rel.at hg hq) C.rW (C.sZ id hid _ q hg rfl hq) hcs k2 hle h0 hsize (λη' vs hro hvs=>by
         obtain ⟨gl',k1',k2',OZ,_⟩:=BN (η:=η) hagg len hns hvs hlc;rw [k1] at k1';cases k1';unfold bF at OZ ⊢;exact (nI _ _).1 (aO.mono hro _ _ ((nI _ _).2 OZ)))
        exact this
       ·cases hl
      ·cases hl
     ·cases hl
    ·cases hl
   ·cases h
  ·cases h
 ·cases h
mutual
theorem Vh (C:uf T P tabs G next η σ w fz r ps gs bT):∀ (p a:AV) (v:Value),p.under next=true->@mV T.tofQ P G σ fz r ps p a=true->@VR T η a v->@VR (Tg tabs gs ka) (qU tabs G next r η bT) p v
 | .nd j,a,v,hu,h,hv=>by
  letI:=T
  simp only [mV] at h;split at h
  ·next m hm=>
   obtain ⟨e1,g,e2⟩:=Dj C.vals hm;simp only [VR];refine ⟨g,by show gs[j]? = _;rw [e1,e2], ?_⟩;rw [mP] at h;rcases h with h | h
   ·split at h
    ·next m' hm'=>
     have e:=bC h;subst e;obtain ⟨g',k1,k2,k3⟩:=jZ hm' hv;have k1':T.val m=some g':=k1;rw [e2] at k1';cases k1';exact ⟨k2,GR.mono C.rW _ _ k3⟩
    ·cases h
   ·exact aaR C h hv e2
  ·cases h
 | .sv i j,a,v,hu,h,hv=>by
  letI:=T
  simp only [AV.under,iW] at hu;simp only [mV] at h;split at h
  ·next m hm=>
   obtain ⟨e1,g,e2⟩:=Dj C.vals hm;split at h
   ·next id n=>
    rw [aI,aI,iW] at h;obtain ⟨⟨h1,h2⟩,h3⟩:=h;have hr:=Qe h2;simp only [VR] at hv ⊢;obtain ⟨xs,k1,hv⟩:=hv;have hx:∃ys,g=.l ys/\ys.length=xs.length:=by
     obtain ⟨ys,rfl⟩:=aoh 100 h3 e2 k1;exact ⟨ys,rfl,wY 100 h3 e2 k1⟩
    obtain ⟨ys,rfl,hlen⟩:=hx;refine ⟨ys,by show gs[j]? = _;rw [e1,e2], ?_⟩;rcases hv with ⟨q,hq,hle,rfl⟩ | ⟨hgh,rfl,rfl⟩
    ·exact .inl ⟨q,by rw [Et h1 hu hr];exact hq,by rw [hlen];exact hle,by rw [hlen]⟩
    ·exact .inr ⟨by rw [abX h1 hu hr];exact hgh,je (by simpa using hlen),rfl⟩
   ·rw [aI,aI,iW] at h
    obtain ⟨⟨h1,h2⟩,h3⟩:=h;have hr:=amY h2;simp only [VR] at hv ⊢;unfold Ih at h3;split at h3
    ·next hn=>
     obtain ⟨g',k1,k2⟩:=T.pK m _ hn (by simp);rw [e2] at k1;cases k1;simp only [Nd.den,valsOf,gy,aT] at k2;subst k2;exact ⟨[],by show gs[j]? = _;rw [e1,e2],.inr ⟨abY h1 hu hr,rfl,hv⟩⟩
    ·cases h3
   ·cases h
  ·cases h
 | .p i off,a,v,hu,h,hv=>by
  letI:=T
  simp only [AV.under,iW] at hu;simp only [mV] at h;split at h
  ·next id off'=>
   rw [aI] at h;have e:=bC h.1;subst e;simp only [VR] at hv ⊢;obtain ⟨q,hq,rfl⟩:=hv;split at h
   ·next hle=>
    have e:=bC h.2;subst e;obtain ⟨sz,es,hg⟩:=C.rel.kV i (by rw [<- C.gn];exact hle);rw [hq] at hg;cases hg;exact ⟨_,PD hle,rfl⟩
   ·next hle=>exact ⟨q,by rw [Et (by omega) hu (Qe h.2)];exact hq,rfl⟩
  ·cases h
 | .rx j off,a,v,hu,h,hv=>by
  letI:=T
  simp only [mV] at h;split at h
  ·next m off'=>
   rw [aI] at h;have e:=bC h.1;subst e;split at h
   ·next m' hm=>
    have e:=bC h.2;subst e;obtain ⟨e1,g,e2⟩:=Dj C.vals hm;simp only [VR] at hv ⊢;obtain ⟨g',bl,base,cs,elem,fr,x,k1,k2,k3,k4,k5⟩:=hv;have k1':T.val m=some g':=k1;rw [e2] at k1';cases k1';exact ⟨g,bl,base,cs,elem,fr,x,by show gs[j]? = _;rw [e1,e2],C.rW _ _ k2,GR.mono C.rW _ _ k3,k4,k5⟩
   ·simp at h
  ·cases h
 | .fn f fi cs,a,v,hu,h,hv=>by
  letI:=T
  simp only [AV.under,aI] at hu;simp only [mV] at h;split at h
  ·next f' fi' cs'=>
   rw [aI,aI] at h;obtain ⟨⟨h1,h2⟩,h3⟩:=h;have e:=bC h1;subst e;simp only [VR] at hv ⊢;obtain ⟨us,vs,rfl,k1,k2⟩:=hv;exact ⟨us,vs,rfl,CP C fi fi' us hu.1 h2 k1,CP C cs cs' vs hu.2 h3 k2⟩
  ·cases h
 | .agg l,a,v,hu,h,hv=>by
  letI:=T
  simp only [AV.under] at hu;simp only [mV] at h;split at h
  ·next l'=>simp only [VR] at hv ⊢;obtain ⟨vs,rfl,k1⟩:=hv;exact ⟨vs,rfl,CP C l l' vs hu h k1⟩
  ·cases h
 | .dM l,a,v,hu,h,hv=>by
  letI:=T
  simp only [AV.under] at hu;simp only [mV] at h;split at h
  ·next l'=>simp only [VR] at hv ⊢;obtain ⟨vs,rfl,k1⟩:=hv;exact ⟨vs,rfl,CP C l l' vs hu h k1⟩
  ·cases h
 | .dU t x,a,v,hu,h,hv=>by
  letI:=T
  simp only [AV.under] at hu;simp only [mV] at h;split at h
  ·next t' x'=>
   rw [aI] at h;have e:=bC h.1;subst e;simp only [VR] at hv ⊢;obtain ⟨y,rfl,k1⟩:=hv;exact ⟨y,rfl,Vh C x x' y hu h.2 k1⟩
  ·cases h
 | .b x,a,v,hu,h,hv=>by
  letI:=T
  simp only [mV] at h;split at h
  ·next y=>have:=Ns.1 h;subst this;simp only [VR] at hv ⊢;exact hv
  ·cases h
 | .i k n,a,v,hu,h,hv=>by
  letI:=T
  simp only [mV] at h;split at h
  ·next k' n'=>
   rw [aI] at h;have e1:=O0 h.1;have e2:=abp h.2;subst e1;subst e2;simp only [VR] at hv ⊢;exact hv
  ·cases h
 | .s x,a,v,hu,h,hv=>by
  letI:=T
  simp only [mV] at h;split at h
  ·next y=>have:=SB h;subst this;simp only [VR] at hv ⊢;exact hv
  ·cases h
 | .jq,a,v,hu,h,hv=>by letI:=T;simp only [mV] at h;split at h;(simp only [VR] at hv ⊢;exact hv);cases h
 | .bK,a,v,hu,h,hv=>by letI:=T;simp only [mV] at h;split at h;(simp only [VR] at hv ⊢;exact hv);cases h
 | .xZ,a,v,hu,h,hv=>by letI:=T;simp only [mV] at h;split at h;(simp only [VR] at hv ⊢;exact hv);cases h
 | .qY,a,v,hu,h,hv=>by letI:=T;simp only [mV] at h;split at h;(simp only [VR] at hv ⊢;exact hv);cases h
 | .oK,a,v,hu,h,hv=>by letI:=T;simp only [mV] at h;split at h;(simp only [VR] at hv ⊢;exact hv);cases h
 | .sl _ _ _ _,_,_,_,h,_=>by simp [mV] at h
 | .mp i,a,v,hu,h,hv=>by
  letI:=T
  simp only [AV.under,iW] at hu;simp only [mV] at h;split at h
  ·next id=>
   rw [aI,iW] at h;simp only [VR] at hv ⊢;obtain ⟨q,hq,rfl⟩:=hv;exact ⟨q,by rw [Et h.1 hu (Qe h.2)];exact hq,rfl⟩
  ·cases h
 | .z _ _ _,_,_,_,h,_=>by simp [mV] at h
 | .ro _,_,_,_,h,_=>by simp [mV] at h
 | .rp _ _,_,_,_,h,_=>by simp [mV] at h
 | .pv _ _ _,_,_,_,h,_=>by simp [mV] at h
 | .pd _ _,_,_,_,h,_=>by simp [mV] at h
theorem CP (C:uf T P tabs G next η σ w fz r ps gs bT):∀ (p a:List AV) (v:List Value),AV.og next p=true->@yY T.tofQ P G σ fz r ps p a=true->@ay T η a v->@ay (Tg tabs gs ka) (qU tabs G next r η bT) p v
 | [],a,v,hu,h,hv=>by
  letI:=T
  simp only [yY] at h;split at h
  ·simp only [ay] at hv ⊢;exact hv
  ·cases h
 | p::l,a,v,hu,h,hv=>by
  letI:=T
  simp only [AV.og,aI] at hu;simp only [yY] at h;split at h
  ·next b m'=>
   rw [aI] at h;simp only [ay] at hv ⊢;obtain ⟨x,xs,rfl,k1,k2⟩:=hv;exact ⟨x,xs,rfl,Vh C p b x hu.1 h.1 k1,CP C l m' xs hu.2 h.2 k2⟩
  ·cases h
end
theorem ab1 {t:Tr AV} [fQ]:∀ {l:List (Nat×AV)},PE P G σ fz r ps t l=true->∀k p,(k,p)∈l->∃v,t.get k=some v/\mV P G σ fz r ps p v=true
 | [],_,k,p,hk=>by simp at hk
 | q::l,h,k,p,hk=>by
  simp only [PE,aI] at h;rcases bZ.1 hk with e | hk
  ·subst e
   have h1:=h.1;split at h1
   ·next v hv=>exact ⟨v,hv,h1⟩
   ·cases h1
  ·exact ab1 h.2 k p hk
theorem abZ [fQ]:∀ {l:List (Nat×bf)},Ic P G next σ fz r ps l=true->∀i o,(i,o)∈l->G < i/\i < next/\mO P G σ fz r ps i o=true
 | [],_,i,o,hk=>by simp at hk
 | q::l,h,i,o,hk=>by
  simp only [Ic,aI,iW] at h;rcases bZ.1 hk with e | hk
  ·subst e;exact ⟨h.1.1.1,h.1.1.2,h.1.2⟩
  ·exact abZ h.2 i o hk
theorem WH:∀ {r:List (Nat×Option Nat)},Fh r=true->∀i j a,bY i r=some (some a)->bY j r=some (some a)->i=j
 | [],_,i,j,a,h1,_=>by simp [bY] at h1
 | p::l,h,i,j,a,h1,h2=>by
  simp only [Fh,aI] at h;simp only [bY] at h1 h2;cases hb1:Nat.beq i p.1<;>cases hb2:Nat.beq j p.1<;>rw [hb1] at h1<;>rw [hb2] at h2<;>simp only [cond_true,cond_false,aT] at h1 h2
  ·exact WH h.2 i j a h1 h2
  ·have hm:=OB h1
   have h3:=h.1;rw [h2] at h3;have:=List.all_eq_true.1 h3 _ hm;simp at this
  ·have hm:=OB h2
   have h3:=h.1;rw [h1] at h3;have:=List.all_eq_true.1 h3 _ hm;simp at this
  ·rw [bC hb1,bC hb2]
theorem aj6 (C:uf T P tabs G next η σ w fz r ps gs bT) {i:Nat} {o:bf} (hG:G < i) (hn:i < next) (hb:yI next o=true) (h:@mO T.tofQ P G σ fz r ps i o=true) :
 @Live (Tg tabs gs ka) P (qU tabs G next r η bT) w i o/\(∀id,bY i r=some (some id)->id∉fz/\∃o',σ.get id=some o'/\o'.own=o.own):=by
 letI:=T
 unfold mO at h;split at h
 ·next id hr=>
  rw [aI] at h;obtain ⟨h1,h⟩:=h;have hnf:id∉fz:=by intro hm;rw [Ya.2 hm] at h1;simp at h1
  have hpl:(qU tabs G next r η bT) i=η id:=Et hG hn hr;split at h
  ·next l et rX opn=>
   split at h
   ·next c Ea rw' KQ hg=>
    rw [aI,aI,aI] at h;obtain ⟨⟨⟨h2,h3⟩,h4⟩,h5⟩:=h;have e1:=bC h2;have e2:=Ns.1 h3;have e3:=Ns.1 h4;subst e1;subst e2;subst e3;refine ⟨?_,λid' iY=>by rw [hr] at iY;cases iY;exact ⟨hnf,_,hg,rfl⟩⟩;obtain ⟨q,hq,cs,elem,fr,hb0,rr⟩:=C.rel.obj _ _ hg rfl;refine .inl ⟨q,by rw [hpl];exact hq,cs,elem,fr,hb0, ?_⟩;have hvs:@ay T η c ((cs.toList.drop q.ba).take c.length):=by
     have hfit:=rr.fits;have hle:=rr.le;refine ay.of (by simp;omega) λk a hk=>?_;obtain ⟨x,hx,hv⟩:=rr.cell k a hk;have hlt:=(dS.1 hk).1;exact ⟨x,by rw [kD,aj hlt,qJ];simpa using hx,hv⟩
    have hvl:=CP (ka:=ka) C l c _ hb h5 hvs;have hlen:l.length=c.length:=by
     have h6:=@ay.length (Tg tabs gs ka) _ _ _ hvl;have h7:=hvs.length;omega
    exact @qG.mk (Tg tabs gs ka) P (qU tabs G next r η bT) q l et rX opn cs elem fr rr.fits (by rw [hlen];exact rr.le) (λe=>by rw [hlen];exact rr.shut e) (λk a hk=>by
     obtain ⟨x,hx,hv⟩:=@ay.at (Tg tabs gs ka) _ _ _ hvl k a hk;have hlt:=(dS.1 hk).1;rw [kD,aj (by omega),qJ] at hx;exact ⟨x,by simpa using hx,hv⟩) rr.free rr.whole rr.room
   ·cases h
  ·next j et f=>
   split at h
   ·next m Ea f' hg=>
    rw [aI,aI] at h;obtain ⟨⟨h2,h3⟩,h4⟩:=h;have e1:=bC h2;subst e1;refine ⟨?_,λid' iY=>by rw [hr] at iY;cases iY;exact ⟨hnf,_,hg,rfl⟩⟩;split at h4
    ·next m' hm=>
     have e:=bC h4;subst e;obtain ⟨e1,g,e2⟩:=Dj C.vals hm;rcases C.rel.live id _ hg with ⟨q,hq,hor⟩ | ⟨hgh,n2,Tv,f2,e3,hv0⟩
     ·obtain ⟨xs,cs,elem,fr,ys,k1,k2,k3,k4,k5,k6,k7,k8,k9⟩:=hor
      have k1':T.val m=some (.l xs):=k1;refine .inl ⟨q,by rw [hpl];exact hq,xs,cs,elem,fr,ys,by show gs[j]? = _;rw [e1,k1'],k2,aO.mono C.rW _ _ k3,k4,k5,k6,@qG.mk (Tg tabs gs ka) P (qU tabs G next r η bT) q [] et true true cs elem fr k7.fits k7.le k7.shut (λk a hk=>by simp at hk) k7.free k7.whole k7.room,k8,λe=>k9 ?_⟩;rw [e] at h3;simpa using h3
     ·cases e3
      have OW:T.val m=some (.l []):=hv0;exact .inr ⟨by rw [abX hG hn hr];exact hgh,j,et,f,rfl,by show gs[j]? = _;rw [e1,OW]⟩
    ·simp at h4
   ·cases h
  ·next j kk sz=>
   split at h
   ·next m Ag sz' hg=>
    rw [aI,aI] at h;obtain ⟨⟨h2,h3⟩,h4⟩:=h;have e1:=O5 h2;have e2:=Xt h3;subst e1;subst e2;refine ⟨?_,λid' iY=>by rw [hr] at iY;cases iY;exact ⟨hnf,_,hg,rfl⟩⟩;split at h4
    ·next m' hm=>
     have e:=bC h4;subst e;obtain ⟨e1,g,e2⟩:=Dj C.vals hm;obtain ⟨q,hq,xs,ms,clock,k1,k2,k3⟩:=C.rel.obj _ _ hg rfl;have k1':T.val m=some (.l xs):=k1;exact .inl ⟨q,by rw [hpl];exact hq,xs,ms,clock,by show gs[j]? = _;rw [e1,k1'],k2,k3.mono C.rW⟩
    ·simp at h4
   ·next hg=>
    refine ⟨?_,λid' iY=>by rw [hr] at iY;cases iY;exact ⟨hnf,_,hg,rfl⟩⟩;split at h
    ·next m hm=>
     obtain ⟨e1,g,e2⟩:=Dj C.vals hm;unfold Ih at h;split at h
     ·next hnn=>
      obtain ⟨g',k1,k2⟩:=T.pK m _ hnn (by simp);rw [e2] at k1;cases k1;simp only [Nd.den,valsOf,gy,aT] at k2;subst k2;obtain ⟨q,hq,ms,clock,hb,hsz,_⟩:=C.rel.obj _ _ hg rfl;refine .inl ⟨q,by rw [hpl];exact hq,[],ms,clock,by show gs[j]? = _;rw [e1,e2],hb, ?_⟩;simp only [qK];have:ms.size=0:=by simpa using hsz
      simpa using XR this
     ·cases h
    ·simp at h
   ·cases h
  ·split at h
   ·next hg=>
    refine ⟨?_,λid' iY=>by rw [hr] at iY;cases iY;exact ⟨hnf,_,hg,rfl⟩⟩;obtain ⟨q,hq,ms,clock,hb,hsz,_⟩:=C.rel.obj _ _ hg rfl;exact .inl ⟨q,by rw [hpl];exact hq,ms,clock,hb,hsz,λk e hk=>by simp at hk⟩
   ·cases h
  ·cases h
 ·next hr=>
  refine ⟨?_,λid hid=>by rw [hr] at hid;cases hid⟩;split at h
  ·next j et f=>
   split at h
   ·next m hm=>
    obtain ⟨e1,g,e2⟩:=Dj C.vals hm;unfold Ih at h;split at h
    ·next hnn=>
     obtain ⟨g',k1,k2⟩:=T.pK m _ hnn (by simp);rw [e2] at k1;cases k1;simp only [Nd.den,valsOf,gy,aT] at k2;subst k2;exact .inr ⟨abY hG hn hr,j,et,f,rfl,by show gs[j]? = _;rw [e1,e2]⟩
    ·cases h
   ·cases h
  ·cases h
 ·cases h
end
end Go.aN
namespace Go.aN
set_option linter.unusedSimpArgs false
noncomputable section
set_option linter.unusedSectionVars false
set_option linter.unusedVariables false
variable {P:Program}
variable {T:aG} {tabs:List (Nat×List AV)} {G next:Nat} {η:Env} {σ:ak} {w:World} {fz:List Nat} {r:List (Nat×Option Nat)} {ps:List Nat} {gs:List GV} {bT:Nat->Option Obj}
def BD (n:Nat):List (Nat×AV)->Bool
 | []=>true
 | p::l=>p.2.under n&&BD n l
theorem YP {n:Nat}:∀ {l:List (Nat×AV)},BD n l=true->∀k p,(k,p)∈l->p.under n=true
 | [],_,k,p,h=>by simp at h
 | q::l,h,k,p,hk=>by
  simp only [BD,aI] at h;rcases bZ.1 hk with e | hk
  ·subst e;exact h.1
  ·exact YP h.2 k p hk
def fU.ok (s:fU):Bool:=Nat.blt s.gn s.next&&BD s.next s.slots&&s.objs.all λp=>yI s.next p.2
structure sO (tabs:List (Nat×List AV)) (G:Nat):Prop where
 low:∀p∈tabs,p.1<=G
 one:∀p∈tabs,bY p.1 tabs=some p.2
theorem ad3 (T:aG) {η:Env} {a:AV} {v:Value} (h:a.toVal 4=some v):@VR T η a v:=@ad2 T η 4 a v h
theorem Vl {ka:Nat} {s:fU} (rQ:T.tabs=tabs) (hlow:sO tabs P.globals.size) (Ef:s.objs.all (λp=>yI s.next p.2)=true) (h3:s.gn < s.next) (hgn:s.gn=P.globals.size)
 (C:uf T P tabs s.gn s.next η σ w fz r ps gs bT) (f1:∀b o,bT b=some o->w.heap[b]? = some o) (f2:∀id o q,id∉fz->σ.get id=some o->o.own=true->η id=some q->bT q.bl=none) (h4:Fh r=true) (h6:@Ic T.tofQ P s.gn s.next σ fz r ps s.objs=true) :
 @SR (Tg tabs gs ka) P (qU tabs s.gn s.next r η bT) (s.st tabs) w/\(∀i o q,(s.st tabs).get i=some o->o.own=true->(qU tabs s.gn s.next r η bT) i=some q->∃id o',bY i r=some (some id)/\id∉fz/\σ.get id=some o'/\o'.own=true/\η id=some q):=by
 letI:=T
 have obj:∀i o,(s.st tabs).get i=some o->(s.gn < i/\i < s.next/\@Live (Tg tabs gs ka) P (qU tabs s.gn s.next r η bT) w i o/\(∀id,bY i r=some (some id)->id∉fz/\∃o',σ.get id=some o'/\o'.own=o.own))\/
  (i<=s.gn/\∃c,o=.cells c 0 false false/\(i,c)∈tabs):=by
  intro i o hi;have hmem:=KO hi;rcases lX.1 hmem with hmem | hmem
  ·obtain ⟨g1,g2,g3⟩:=abZ h6 i o hmem
   have hb:=List.all_eq_true.1 Ef _ hmem;obtain ⟨g4,g5⟩:=aj6 C g1 g2 hb g3;exact .inl ⟨g1,g2,g4,g5⟩
  ·obtain ⟨p,hp,e⟩:=nM.1 hmem
   cases e;exact .inr ⟨by rw [hgn];exact hlow.low p hp,p.2,rfl,hp⟩
 have own:∀i o q,(s.st tabs).get i=some o->o.own=true->(qU tabs s.gn s.next r η bT) i=some q->∃id o',bY i r=some (some id)/\id∉fz/\σ.get id=some o'/\o'.own=true/\η id=some q:=by
  intro i o q hi ho hq;rcases obj i o hi with ⟨g1,g2,_,g4⟩ | ⟨_,c,rfl,_⟩
  ·have hq':(if i<=s.gn then some ⟨i,0,yh tabs i,0⟩ else if i < s.next then (match bY i r with | some (some id)=>η id | _=>none) else none)=some q:=hq
   rw [ah (by omega),aj g2] at hq';split at hq'
   ·next id hid=>
    obtain ⟨k1,o',k2,k3⟩:=g4 id hid;exact ⟨id,o',hid,k1,k2,k3.trans ho,hq'⟩
   ·cases hq'
  ·cases ho
 have aqz:∀p∈tabs,@Bo (qU tabs s.gn s.next r η bT) p.1 p.2:=by
  intro p hp;obtain ⟨cs,elem,fr,k1,k2⟩:=C.rel.tabs p (by rw [rQ];exact hp);exact ⟨cs,elem,fr,C.rW _ _ k1,k2⟩
 refine ⟨@SR.mk (Tg tabs gs ka) P _ _ w ?_ ?_ ?_ ?_ ?_ ?_ ?_ ?_,own⟩
 ·intro g hg
  exact ⟨_,_,PD (by omega)⟩
 ·intro i q hq
  have hq':(if i<=s.gn then some ⟨i,0,yh tabs i,0⟩ else if i < s.next then (match bY i r with | some (some id)=>η id | _=>none) else none)=some q:=hq;show i < s.next
  split at hq'
  ·omega
  ·split at hq'
   ·next h=>exact h
   ·cases hq'
 ·intro i o hi
  rcases obj i o hi with ⟨_,_,g3,_⟩ | ⟨hle,c,rfl,hmem⟩
  ·exact g3
  ·obtain ⟨cs,elem,fr,k1,k2,k3⟩:=C.rel.tabs (i,c) (by rw [rQ];exact hmem)
   have hb:=C.rel.iH _ _ k1;have hsz:yh tabs i=c.length:=by unfold yh;rw [hlow.one (i,c) hmem]
   refine .inl ⟨⟨i,0,yh tabs i,0⟩,PD hle,cs,elem,fr,hb, ?_⟩;refine @qG.mk (Tg tabs gs ka) P _ _ c 0 false false cs elem fr (by simp only at k2 ⊢;omega) (by simp only;omega) (λ_=>by simp only;omega) (λk a hk=>?_) (λh=>by cases h) (λh=>absurd rfl h) (λh=>by cases h);obtain ⟨x,hx,hv⟩:=k3 k a hk;exact ⟨x,by simpa using hx,ad3 (Tg tabs gs ka) hv⟩
 ·intro i hg
  have hg':(decide (s.gn < i)&&decide (i < s.next)&&(match bY i r with | some (some id)=>η.gh id | some none=>true | none=>false))=true:=hg;rw [aI,aI,decide_eq_true_iff,decide_eq_true_iff] at hg';obtain ⟨⟨k1,k2⟩,k3⟩:=hg';refine ⟨?_,k2⟩;show (if i<=s.gn then some ⟨i,0,yh tabs i,0⟩ else if i < s.next then (match bY i r with | some (some id)=>η id | _=>none) else none)=none
  rw [ah (by omega),aj k2];split at k3
  ·next id hid=>rw [hid];exact (C.rel.jc id k3).1
  ·next hid=>rw [hid]
  ·cases k3
 ·intro i o i' o' q q' a1 a2 a3 a4 a5 a6
  obtain ⟨id,u,b1,b2,b3,b4,b5⟩:=own i o q a1 a2 a5;rcases obj i' o' a3 with ⟨g1,g2,_,g4⟩ | ⟨hle,c,rfl,hmem⟩
  ·have hq':(if i'<=s.gn then some ⟨i',0,yh tabs i',0⟩ else if i' < s.next then (match bY i' r with | some (some id)=>η id | _=>none) else none)=some q':=a6
   rw [ah (by omega),aj g2] at hq';split at hq'
   ·next id' iY=>
    obtain ⟨k1,u',k2,k3⟩:=g4 id' iY;exact C.rel.sep id u id' u' q q' b3 b4 k2 (λe=>a4 (by subst e;exact WH h4 i i' id b1 iY)) b5 hq'
   ·cases hq'
  ·intro e
   rw [PD hle] at a6;cases a6;obtain ⟨cs,elem,fr,k1,_⟩:=C.rel.tabs (i',c) (by rw [rQ];exact hmem);have:=C.rel.jS id u q b3 b4 b5;simp only at e;rw [e] at this;rw [k1] at this;cases this
 ·exact f1
 ·intro i o q a1 a2 a3
  obtain ⟨id,u,b1,b2,b3,b4,b5⟩:=own i o q a1 a2 a3;exact f2 id u q b2 b3 b4 b5
 ·exact aqz
theorem Sj {r:List (Nat×Option Nat)}:∀ {n i:Nat},Ju r i n=true->∀j,i < j->j<=i+n->bY j r=some (some j)
 | 0,i,_,j,h1,h2=>by omega
 | n+1,i,h,j,h1,h2=>by
  simp only [Ju,aI] at h;by_cases e:j=i+1
  ·subst e;exact Qe h.1
  ·exact Sj h.2 j (by omega) (by omega)
theorem Vk {w0:Base} {dD:Nat->Option Obj} {a:aV} {A:Act} {s:fU} (rQ:T.tabs=tabs) (hlow:sO tabs P.globals.size) (hok:s.ok=true) (hF:@jd T P w0 dD η σ w) (hl:σ.lock=0) (ht:@TR T P η a A) (hm:@Vg T.tofQ P s a σ fz r ps=true) (hps:valsOf T.val ps=some gs):MK P tabs s gs w0 dD A w:=by
 letI:=T
 unfold Vg at hm;simp only [aI,iW] at hm;obtain ⟨⟨⟨⟨⟨⟨⟨⟨k1,k2⟩,k3⟩,h1⟩,h2⟩,h3⟩,h4⟩,h5⟩,h6⟩:=hm;have k1:=bC k1;have e1:=bC h1;have e2:=bC h2;unfold fU.ok at hok;rw [aI,aI] at hok;obtain ⟨⟨_,hbs⟩,Ef⟩:=hok;have hgn:s.gn=P.globals.size:=by rw [e2];exact ht.gn
 obtain ⟨bT,f1,f2,f3⟩:=Ov hF hl fz;have C:uf T P tabs s.gn s.next η σ w fz r ps gs bT:=⟨hF.rel,hps,f1,f3,hgn,h3⟩
 obtain ⟨hS,own⟩:=Vl (ka:=s.ka) rQ hlow Ef h3 hgn C f2.rel.iH (λid o q b2 b3 b4 b5=>f2.rel.jS id o q (by rw [Af,ah b2];exact b3) b4 b5) h4 h6;refine ⟨qU tabs s.gn s.next r η bT, ?_, ?_⟩
 ·refine @jd.mk (Tg tabs gs s.ka) P w0 dD _ _ w hS hF.kept ?_ ?_ ?_ ?_
  ·intro i o q a1 a2 a3
   obtain ⟨id,u,b1,b2,b3,b4,b5⟩:=own i o q a1 a2 a3;exact hF.own id u q b3 b4 b5
  ·exact f2.rW
  ·exact f2.pR
  ·intro i q hi
   obtain ⟨a1,a2,a3⟩:=hF.ou i q hi;have a3':i<=P.globals.size+s.ka:=by rw [k1];exact a3
   refine ⟨?_,a2,a3'⟩;rw [Et (by omega) (by omega) (Sj k3 i (by omega) (by omega))];exact a1
 ·refine @TR.mk (Tg tabs gs s.ka) P _ _ A ?_ ?_ ht.none ?_
  ·exact hgn
  ·show A.tmps.size=s.n
   rw [e1];exact ht.size
  ·intro k p hk
   obtain ⟨v,v1,v2⟩:=ab1 h5 k p (KO hk);obtain ⟨x,hx,hv⟩:=ht.slot k v v1;exact ⟨x,hx,Vh C p v x (YP hbs k p (KO hk)) v2 hv⟩
end
end Go.aN
namespace Go.aN
set_option linter.unusedSimpArgs false
noncomputable section
set_option linter.unusedSectionVars false
set_option linter.unusedVariables false
variable {P:Program}
mutual
def AV.dL (f:Nat->Nat):AV->AV
 | .nd j=>.nd (f j)
 | .rx j off=>.rx (f j) off
 | .sv id j=>.sv id (f j)
 | .pv id j off=>.pv id (f j) off
 | .pd id j=>.pd id (f j)
 | .fn g fi cs=>.fn g (AV.oJ f fi) (AV.oJ f cs)
 | .dU t a=>.dU t (a.dL f)
 | .agg l=>.agg (AV.oJ f l)
 | .dM l=>.dM (AV.oJ f l)
 | .ro l=>.ro (AV.oJ f l)
 | .rp a off=>.rp (a.dL f) off
 | a=>a
def AV.oJ (f:Nat->Nat):List AV->List AV
 | []=>[]
 | a::l=>a.dL f::AV.oJ f l
end
theorem PI (f:Nat->Nat):∀l:List AV,AV.oJ f l=l.map (AV.dL f)
 | []=>rfl
 | a::l=>by simp [AV.oJ,PI f l]
def bf.dL (f:Nat->Nat):bf->bf
 | .cells c et rw opn=>.cells (AV.oJ f c) et rw opn
 | .iter s pos=>.iter s pos
 | .map es=>.map (es.map λe=>(e.1.dL f,e.2.dL f))
 | .iterM m=>.iterM m
 | .vec j et b=>.vec (f j) et b
 | .smap j kk sz=>.smap (f j) kk sz
 | .pmap es=>.pmap (es.map λe=>(e.1,e.2.dL f))
theorem bf.akh (f:Nat->Nat) (o:bf):(o.dL f).own=o.own:=by cases o<;>rfl
section
variable {S T:aG} {f:Nat->Nat} {η:Env}
mutual
theorem VR.dL (h:∀j g,S.val j=some g->T.val (f j)=some g):∀ (a:AV) (v:Value),@VR S η a v->@VR T η (a.dL f) v
 | .b _,_,hv=>by simpa only [VR,AV.dL] using hv
 | .i _ _,_,hv=>by simpa only [VR,AV.dL] using hv
 | .s _,_,hv=>by simpa only [VR,AV.dL] using hv
 | .jq,_,hv=>by simpa only [VR,AV.dL] using hv
 | .p _ _,_,hv=>by simpa only [VR,AV.dL] using hv
 | .bK,_,hv=>by simpa only [VR,AV.dL] using hv
 | .sl _ _ _ _,_,hv=>by simpa only [VR,AV.dL] using hv
 | .oK,_,hv=>by simpa only [VR,AV.dL] using hv
 | .mp _,_,hv=>by simpa only [VR,AV.dL] using hv
 | .xZ,_,hv=>by simpa only [VR,AV.dL] using hv
 | .fn _ fi cs,_,hv=>by
  simp only [VR,AV.dL] at hv ⊢;obtain ⟨us,vs,e,h1,h2⟩:=hv;exact ⟨us,vs,e,ay.dL h fi us h1,ay.dL h cs vs h2⟩
 | .qY,_,hv=>by simpa only [VR,AV.dL] using hv
 | .dU _ a,_,hv=>by simp only [VR,AV.dL] at hv ⊢;obtain ⟨x,e,h1⟩:=hv;exact ⟨x,e,VR.dL h a x h1⟩
 | .agg l,_,hv=>by simp only [VR,AV.dL] at hv ⊢;obtain ⟨x,e,h1⟩:=hv;exact ⟨x,e,ay.dL h l x h1⟩
 | .dM l,_,hv=>by simp only [VR,AV.dL] at hv ⊢;obtain ⟨x,e,h1⟩:=hv;exact ⟨x,e,ay.dL h l x h1⟩
 | .z _ _ _,_,hv=>by simpa only [VR,AV.dL] using hv
 | .ro l,_,hv=>by
  simp only [VR,AV.dL] at hv ⊢;have hl:(AV.oJ f l).length=l.length:=by rw [PI];simp
  rcases hv with ⟨rfl,hv⟩ | ⟨bl,off,c,xs,sz,e,hc,h1,h2,h3⟩
  ·exact .inl ⟨rfl,hv⟩
  ·rw [hl]
   exact .inr ⟨bl,off,c,xs,sz,e,hc,ay.dL h l xs h1,h2,λhn=>h3 (by intro e';apply hn;rw [e'];rfl)⟩
 | .rp a _,_,hv=>by
  simp only [VR,AV.dL] at hv ⊢;obtain ⟨bl,base,cs,elem,fr,x,h1,h2,h3⟩:=hv;exact ⟨bl,base,cs,elem,fr,x,h1,VR.dL h a x h2,h3⟩
 | .nd _,_,hv=>by simp only [VR,AV.dL] at hv ⊢;obtain ⟨g,h1,h2⟩:=hv;exact ⟨g,h _ _ h1,h2⟩
 | .rx _ _,_,hv=>by simp only [VR,AV.dL] at hv ⊢;obtain ⟨g,bl,base,cs,elem,fr,x,h1,h2⟩:=hv;exact ⟨g,bl,base,cs,elem,fr,x,h _ _ h1,h2⟩
 | .sv _ _,_,hv=>by simp only [VR,AV.dL] at hv ⊢;obtain ⟨xs,h1,h2⟩:=hv;exact ⟨xs,h _ _ h1,h2⟩
 | .pv _ _ _,_,hv=>by simp only [VR,AV.dL] at hv ⊢;obtain ⟨q,k,i,h1,h2,h3⟩:=hv;exact ⟨q,k,i,h1,h _ _ h2,h3⟩
 | .pd _ _,_,hv=>by simp only [VR,AV.dL] at hv ⊢;obtain ⟨xs,p,h1,h2⟩:=hv;exact ⟨xs,p,h _ _ h1,h2⟩
theorem ay.dL (h:∀j g,S.val j=some g->T.val (f j)=some g):∀ (l:List AV) (vs:List Value),@ay S η l vs->@ay T η (AV.oJ f l) vs
 | [],_,hv=>by simpa only [ay,AV.oJ] using hv
 | a::l,_,hv=>by
  simp only [ay,AV.oJ] at hv ⊢;obtain ⟨x,xs,e,h1,h2⟩:=hv;exact ⟨x,xs,e,VR.dL h a x h1,ay.dL h l xs h2⟩
end
theorem OR.dL (h:∀j g,S.val j=some g->T.val (f j)=some g) {q:Place} {w:World} {o:bf} (r:@OR S P η q w o):@OR T P η q w (o.dL f):=by
 cases o with
 | cells c et rX opn=>
  obtain ⟨cs,elem,fr,h1,⟨r1,r2,r3,r4,r5,r6,r7⟩⟩:=r;have hl:(AV.oJ f c).length=c.length:=by rw [PI];simp
  refine ⟨cs,elem,fr,h1,@qG.mk T P η q _ et rX opn cs elem fr r1 (by rw [hl];exact r2) (λe=>by rw [hl];exact r3 e) (λk a hk=>?_) r5 r6 r7⟩;rw [PI,jg] at hk;obtain ⟨a0,h2,rfl⟩:=aX.1 hk;obtain ⟨x,hx,hv⟩:=r4 k a0 h2;exact ⟨x,hx,VR.dL h a0 x hv⟩
 | iter s pos=>exact r
 | map es=>
  obtain ⟨ms,clock,h1,h2,h3⟩:=r;refine ⟨ms,clock,h1,by simpa using h2,λk e hk=>?_⟩;rw [jg] at hk;obtain ⟨e0,h4,rfl⟩:=aX.1 hk;obtain ⟨m,hm,ha,hb⟩:=h3 k e0 h4;exact ⟨m,hm,VR.dL h _ _ ha,VR.dL h _ _ hb⟩
 | iterM m=>cases m<;>exact r
 | smap j kk sz=>
  obtain ⟨xs,ms,clock,k1,k2,k3⟩:=r;exact ⟨xs,ms,clock,h _ _ k1,k2,k3⟩
 | pmap es=>
  obtain ⟨hn,ms,clock,ms',h1,hp,h2,h3⟩:=r;refine ⟨by simpa [List.map_map,Function.comp_def] using hn,ms,clock,ms',h1,hp,by simpa using h2,λk e hk=>?_⟩;rw [jg] at hk;obtain ⟨e0,h4,rfl⟩:=aX.1 hk;obtain ⟨m,hm,ha,hb⟩:=h3 k e0 h4;exact ⟨m,hm,ha,VR.dL h _ _ hb⟩
 | vec j et b=>
  obtain ⟨xs,cs,elem,fr,ys,k1,k2,k3,k4,k5,k6,⟨r1,r2,r3,r4,r5,r6,r7⟩,k8⟩:=r;exact ⟨xs,cs,elem,fr,ys,h _ _ k1,k2,k3,k4,k5,k6,@qG.mk T P η q [] et true true cs elem fr r1 r2 r3 (λk a hk=>by simp at hk) r5 r6 r7,k8⟩
theorem Live.dL (h:∀j g,S.val j=some g->T.val (f j)=some g) {w:World} {i:Nat} {o:bf} (r:@Live S P η w i o):@Live T P η w i (o.dL f):=by
 rcases r with ⟨q,hq,hr⟩ | ⟨hg,n,et,b,rfl,hv⟩
 ·exact .inl ⟨q,hq,OR.dL h hr⟩
 ·exact .inr ⟨hg,f n,et,b,rfl,h _ _ hv⟩
end
theorem Ey {α:Type}:∀ (l:List (Nat×α)) (k:Nat),(nX l).get k=bY k l
 | [],k=>by simp [nX,bY]
 | (j,u)::l,k=>by
  rw [nX,Tr.uH,bY];cases hb:Nat.beq k j with
  | true=>rw [aj (bC hb)];rfl
  | false=>rw [ah (λe=>by rw [e,Nat.beq_refl] at hb;cases hb)];exact Ey l k
theorem TV {α β:Type} (g:α->β):∀ (l:List (Nat×α)) (m:List (Nat×β)) (m':List (Nat×α)) (k:Nat) (o:β),bY k (l.map (λp=>(p.1,g p.2))++m)=some o->(∃o0,bY k (l++m')=some o0/\o=g o0)\/(bY k m=some o/\(∀o',bY k m'=some o'->bY k (l++m')=some o'))
 | [],m,m',k,o,h=>.inr ⟨h,λo' h'=>h'⟩
 | p::l,m,m',k,o,h=>by
  simp only [ji,dW,bY] at h ⊢;cases hb:Nat.beq k p.1 with
  | true=>rw [hb] at h;simp only [cond_true,aT] at h ⊢;exact .inl ⟨p.2,rfl,h.symm⟩
  | false=>rw [hb] at h;simp only [cond_false] at h ⊢;exact TV g l m m' k o h
def fU.Nk (s:fU) (f:Nat->Nat):aV:=⟨nX (s.slots.map λp=>(p.1,p.2.dL f)),s.n,s.gn⟩
def fU.AQ (tabs:List (Nat×List AV)) (s:fU) (f:Nat->Nat):ak:=⟨nX (s.objs.map (λp=>(p.1,p.2.dL f))++tV tabs),s.next,0⟩
theorem aaP {T:aG} {tabs:List (Nat×List AV)} {s:fU} {gs:List GV} {f:Nat->Nat} {w0:Base} {w:World} {dD:Nat->Option Obj} {η:Env} (rQ:T.tabs=tabs) (hka:T.ka=s.ka) (hf:∀j g,gs[j]? = some g->T.val (f j)=some g) (h:@jd (Tg tabs gs s.ka) P w0 dD η (s.st tabs) w) :
 @jd T P w0 dD η (s.AQ tabs f) w:=by
 obtain ⟨⟨aiN,hdom,hlive,Uo,hsep,ai2,ai4,htab⟩,hkept,hown,Uw,ai3,Uh⟩:=h;have hf':∀j g,(Tg tabs gs s.ka).val j=some g->T.val (f j)=some g:=hf;have obj:∀i o,(s.AQ tabs f).get i=some o->(∃o0,(s.st tabs).get i=some o0/\o=o0.dL f)\/(∃c,o=.cells c 0 false false/\(i,c)∈tabs/\(s.st tabs).get i=some o):=by
  intro i o hi;have hi':bY i (s.objs.map (λp=>(p.1,p.2.dL f))++tV tabs)=some o:=(Ey _ i).symm.trans hi;rcases TV (bf.dL f) s.objs (tV tabs) (tV tabs) i o hi' with ⟨o0,h1,h2⟩ | ⟨h1,h2⟩
  ·exact .inl ⟨o0,(Ey _ i).trans h1,h2⟩
  ·have hm:=OB h1
   obtain ⟨p,hp,e⟩:=nM.1 hm;cases e;exact .inr ⟨p.2,rfl,hp,(Ey _ _).trans (h2 _ h1)⟩
 have own:∀i o,(s.AQ tabs f).get i=some o->∃o0,(s.st tabs).get i=some o0/\o0.own=o.own:=by
  intro i o hi;rcases obj i o hi with ⟨o0,h1,rfl⟩ | ⟨c,rfl,_,h1⟩
  ·exact ⟨o0,h1,(bf.akh f o0).symm⟩
  ·exact ⟨_,h1,rfl⟩
 refine @jd.mk T P w0 dD _ _ w (@SR.mk T P _ _ w aiN hdom ?_ Uo ?_ ai2 ?_ ?_) hkept ?_ Uw ai3 (by rw [hka];exact Uh)
 ·intro i o hi
  rcases obj i o hi with ⟨o0,h1,rfl⟩ | ⟨c,rfl,hm,h1⟩
  ·exact Live.dL hf' (hlive i o0 h1)
  ·rcases hlive i _ h1 with ⟨q,hq,cs,elem,fr,hb,⟨r1,r2,r3,r4,r5,r6,r7⟩⟩ | ⟨_,_,_,_,e,_⟩
   rotate_left
   ·cases e
   obtain ⟨cs2,GN,Hl,k1,k2,k3⟩:=htab (i,c) hm;refine .inl ⟨q,hq,cs,elem,fr,hb,@qG.mk T P _ _ c 0 false false cs elem fr r1 r2 r3 (λk a hk=>?_) r5 r6 r7⟩;obtain ⟨x,hx,hv⟩:=r4 k a hk;obtain ⟨y,hy,hv2⟩:=k3 k a hk;have:x=y:=@ad4 (Tg tabs gs s.ka) _ 4 a y x hv2 hv;subst this;exact ⟨x,hx,ad3 T hv2⟩
 ·intro i o i' o' q q' a1 a2 a3 a4 a5 a6
  obtain ⟨u,u1,u2⟩:=own i o a1;obtain ⟨u',u1',u2'⟩:=own i' o' a3;exact hsep i u i' u' q q' u1 (u2.trans a2) u1' a4 a5 a6
 ·intro i o q a1 a2 a3
  obtain ⟨u,u1,u2⟩:=own i o a1;exact ai4 i u q u1 (u2.trans a2) a3
 ·rw [rQ];exact htab
 ·intro i o q a1 a2 a3
  obtain ⟨u,u1,u2⟩:=own i o a1;exact hown i u q u1 (u2.trans a2) a3
theorem Xe {T:aG} {tabs:List (Nat×List AV)} {s:fU} {gs:List GV} {f:Nat->Nat} {w0:Base} {w:World} {dD:Nat->Option Obj} {A:Act} (rQ:T.tabs=tabs) (hka:T.ka=s.ka) (hf:∀j g,gs[j]? = some g->T.val (f j)=some g) (h:MK P tabs s gs w0 dD A w) :
 ∃η,@jd T P w0 dD η (s.AQ tabs f) w/\@TR T P η (s.Nk f) A:=by
 obtain ⟨η,hF,⟨tgn,aqJ,aqD,aqK⟩⟩:=h;have hf':∀j g,(Tg tabs gs s.ka).val j=some g->T.val (f j)=some g:=hf;refine ⟨η,aaP rQ hka hf hF,@TR.mk T P _ _ A tgn aqJ aqD ?_⟩
 ·intro k v hk
  have hk':bY k (s.slots.map (λp=>(p.1,p.2.dL f))++[])=some v:=by rw [nK];exact (Ey _ k).symm.trans hk
  rcases TV (AV.dL f) s.slots [] [] k v hk' with ⟨v0,h1,rfl⟩ | ⟨h1,_⟩
  ·rw [nK] at h1
   obtain ⟨x,hx,hv⟩:=aqK k v0 ((Ey _ k).trans h1);exact ⟨x,hx,VR.dL hf' v0 x hv⟩
  ·simp [bY] at h1
end
end Go.aN
