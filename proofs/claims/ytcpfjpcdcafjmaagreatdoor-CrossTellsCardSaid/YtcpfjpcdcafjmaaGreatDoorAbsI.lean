/- Pure programs: trees of nodes; what they compute; how a check of all their ways serves all values. -/
import Derived.Test.YtcpfjpcdcafjmaaGreatDoorAbsH
import Derived.Control
namespace Go.aN
set_option linter.unusedSimpArgs false
noncomputable section
inductive Tree where
 | step (nd:Nd) (t:Tree)
 | ite (n:Nat) (t e:Tree)
 | ret (l:List Nat)
 | tail (f:Nat) (l:List Nat)
 | dead
 deriving Inhabited
abbrev fP:=Nat->List GV->Option (List GV)
def Tree.den (I:fP):Tree->List GV->Option (List GV)
 | .step nd t,env=>match nd.den I (λn=>env[n]?) with
   | some g=>t.den I (env++[g])
   | none=>none
 | .ite n t e,env=>match env[n]? with
   | some (.b true)=>t.den I env
   | some (.b false)=>e.den I env
   | _=>none
 | .ret l,env=>valsOf (λn=>env[n]?) l
 | .tail f l,env=>match valsOf (λn=>env[n]?) l with
   | some gs=>I f gs
   | none=>none
 | .dead,_=>none
inductive Leaf where
 | ret (l:List Nat)
 | tail (f:Nat) (l:List Nat)
def Tree.chk (p:List Nd->List (Nat×Bool)->Leaf->Bool):Tree->List Nd->List (Nat×Bool)->Bool
 | .step nd t,ns,ds=>t.chk p (ns++[nd]) ds
 | .ite n t e,ns,ds=>t.chk p ns ((n,true)::ds)&&e.chk p ns ((n,false)::ds)
 | .ret l,ns,ds=>p ns ds (.ret l)
 | .tail f l,ns,ds=>p ns ds (.tail f l)
 | .dead,_,_=>true
theorem JY {val val':Nat->Option GV} (h:∀n g,val n=some g->val' n=some g):∀ {l:List Nat} {gs:List GV},valsOf val l=some gs->valsOf val' l=some gs
 | [],gs,hv=>hv
 | n::l,gs,hv=>by
   simp only [valsOf] at hv ⊢;split at hv
   ·next g r h1 h2=>rw [h n g h1,JY h h2];exact hv
   ·cases hv
theorem Nd.Yr {I:fP} {val val':Nat->Option GV} (h:∀n g,val n=some g->val' n=some g) {nd:Nd} {g:GV} (hd:nd.den I val=some g):nd.den I val'=some g:=by
 cases nd<;>simp only [Nd.den] at hd ⊢
 case ci=>exact hd
 case cb=>exact hd
 case cs=>exact hd
 case arg=>exact hd
 case mk l=>
  split at hd
  ·next gs hg=>rw [JY h hg];exact hd
  ·cases hd
 case ml l=>
  obtain ⟨gs,hg,e⟩:=aZ.1 hd;rw [JY h hg];simpa using e
 case call f l j=>
  split at hd
  ·next gs hg=>rw [JY h hg];exact hd
  ·cases hd
 case upd size off a i vs=>
  split at hd
  ·next xs k j gs h1 h2 h3=>rw [h _ _ h1,h _ _ h2,JY h h3];exact hd
  ·cases hd
 all_goals
  split at hd
  all_goals first
   | (cases hd;done)
   | (simp only [h _ _ (by assumption)];exact hd)
   | (rename_i h1 h2 h3;rw [h _ _ h1,h _ _ h2,h _ _ h3];exact hd)
   | (rename_i h1 h2;rw [h _ _ h1,h _ _ h2];exact hd)
   | (rename_i h1;rw [h _ _ h1];exact hd)
structure zu (I:fP) (ns:List Nd) (ds:List (Nat×Bool)) (env:List GV):Prop where
 len:ns.length=env.length
 node:∀ (n:Nat) nd,ns[n]? = some nd->nd≠.arg->∃g,env[n]? = some g/\nd.den I (λk=>env[k]?)=some g
 dec:∀ (n:Nat) (b:Bool),(n,b)∈ds->env[n]? = some (.b b)
theorem MR {α:Type} {l:List α} {x a:α} {n:Nat} (h:l[n]? = some a):(l++[x])[n]? = some a:=by
 have:=(dO.1 h).1;rw [lg this];exact h
theorem Tree.ER {I:fP} {p:List Nd->List (Nat×Bool)->Leaf->Bool}:∀ (t:Tree) {ns:List Nd} {ds:List (Nat×Bool)} {env out:List GV},t.chk p ns ds=true->zu I ns ds env->t.den I env=some out->
 ∃ns' ds' env' lf,p ns' ds' lf=true/\zu I ns' ds' env'/\(∃more,env'=env++more)/\(match lf with | .ret l=>valsOf (λn=>env'[n]?) l=some out | .tail f l=>∃gs,valsOf (λn=>env'[n]?) l=some gs/\I f gs=some out)
 | .step nd t,ns,ds,env,out,hc,hw,hd=>by
   simp only [Tree.den] at hd;split at hd
   ·next g hg=>
    have hw':zu I (ns++[nd]) ds (env++[g]):=by
     refine ⟨by simp [hw.len],λn x hn hx=>?_,λn b hb=>MR (hw.dec n b hb)⟩;by_cases hlt:n < ns.length
     ·rw [lg hlt] at hn
      obtain ⟨g',h1,h2⟩:=hw.node n x hn hx;exact ⟨g',MR h1,Nd.Yr (λk a ha=>MR ha) h2⟩
     ·have hlen:n=ns.length:=by
       have:=(dO.1 hn).1;simp at this;omega
      subst hlen;simp at hn;subst hn;exact ⟨g,by rw [hw.len];simp,Nd.Yr (λk a ha=>MR ha) hg⟩
    obtain ⟨ns',ds',env',lf,h1,h2,⟨more,h3⟩,h4⟩:=Tree.ER t hc hw' hd;exact ⟨ns',ds',env',lf,h1,h2,⟨[g]++more,by rw [h3,rU]⟩,h4⟩
   ·cases hd
 | .ite n t e,ns,ds,env,out,hc,hw,hd=>by
   simp only [Tree.chk,aH] at hc;simp only [Tree.den] at hd;split at hd
   ·next hn=>
    refine Tree.ER t hc.1 ⟨hw.len,hw.node,λk b hb=>?_⟩ hd;rcases dP.1 hb with hb | hb
    ·cases hb;exact hn
    ·exact hw.dec k b hb
   ·next hn=>
    refine Tree.ER e hc.2 ⟨hw.len,hw.node,λk b hb=>?_⟩ hd;rcases dP.1 hb with hb | hb
    ·cases hb;exact hn
    ·exact hw.dec k b hb
   ·cases hd
 | .ret l,ns,ds,env,out,hc,hw,hd=>⟨ns,ds,env,.ret l,hc,hw,⟨[],by simp⟩,hd⟩
 | .tail f l,ns,ds,env,out,hc,hw,hd=>by
   simp only [Tree.den] at hd;split at hd
   ·next gs hg=>exact ⟨ns,ds,env,.tail f l,hc,hw,⟨[],by simp⟩,gs,hg,hd⟩
   ·cases hd
 | .dead,_,_,_,_,_,_,hd=>by simp [Tree.den] at hd
inductive ou where
 | sc
 | ag (n:Nat)
def nY:List ou->List GV->Bool
 | [],[]=>true
 | .sc::l,g::m=>g.scalar&&nY l m
 | .ag n::l,g::m=>!g.scalar&&Nat.beq g.cells.length n&&nY l m
 | _,_=>false
inductive aI where
 | tree (n:Nat) (t:Tree)
 | fn (tV vP:List ou) (t:Tree)
 | vN (f:List GV->Option (List GV))
def aI.den (I:fP):aI->List GV->Option (List GV)
 | .tree n t,gs=>if gs.length=n then t.den I gs else none
 | .fn tV vP t,gs=>if nY tV gs=true then match t.den I gs with
   | some out=>if nY vP out=true then some out else none
   | none=>none
   else none
 | .vN f,gs=>f gs
abbrev gu:=Nat->Option aI
def gu.run (TT:gu):Nat->fP
 | 0,_,_=>none
 | n+1,k,gs=>match TT k with
   | some d=>d.den (gu.run TT n) gs
   | none=>none
def fP.le (I J:fP):Prop:=∀k gs out,I k gs=some out->J k gs=some out
theorem Nd.wz {I J:fP} (h:I.le J) {val:Nat->Option GV} {nd:Nd} {g:GV} (hd:nd.den I val=some g):nd.den J val=some g:=by
 cases nd with
 | call f l j=>
   simp only [Nd.den] at hd ⊢;split at hd
   ·next gs hg=>
    split at hd
    ·next r hr=>rw [h f gs r hr];exact hd
    ·cases hd
   ·cases hd
 | _=>exact hd
theorem Tree.wz {I J:fP} (h:I.le J):∀ (t:Tree) {env out:List GV},t.den I env=some out->t.den J env=some out
 | .step nd t,env,out,hd=>by
   simp only [Tree.den] at hd ⊢;split at hd
   ·next g hg=>rw [Nd.wz h hg];exact Tree.wz h t hd
   ·cases hd
 | .ite n t e,env,out,hd=>by
   simp only [Tree.den] at hd ⊢;split at hd
   ·exact Tree.wz h t hd
   ·exact Tree.wz h e hd
   ·cases hd
 | .ret l,env,out,hd=>hd
 | .tail f l,env,out,hd=>by
   simp only [Tree.den] at hd ⊢;split at hd
   ·exact h _ _ _ hd
   ·cases hd
 | .dead,_,_,hd=>by simp [Tree.den] at hd
theorem aI.wz {I J:fP} (h:I.le J) (d:aI) {gs out:List GV} (hd:d.den I gs=some out):d.den J gs=some out:=by
 cases d with
 | tree n t=>
   simp only [aI.den] at hd ⊢;split at hd
   ·next hn=>rw [ak hn];exact t.wz h hd
   ·cases hd
 | fn sh so t=>
   simp only [aI.den] at hd ⊢;split at hd
   ·next hf=>
    split at hd
    ·next o ho=>rw [ak hf,t.wz h ho];exact hd
    ·cases hd
   ·cases hd
 | vN f=>exact hd
theorem gu.aci (TT:gu):∀n,(TT.run n).le (TT.run (n+1))
 | 0,k,gs,out,h=>by simp [gu.run] at h
 | n+1,k,gs,out,h=>by
   simp only [gu.run] at h;rw [gu.run];split at h
   ·next d hd=>exact d.wz (gu.aci TT n) h
   ·cases h
theorem gu.OA (TT:gu) {n m:Nat} (h:n<=m):(TT.run n).le (TT.run m):=by
 induction h with
 | refl=>exact λ_ _ _ h=>h
 | step _ ih=>exact λk gs out hh=>gu.aci TT _ k gs out (ih k gs out hh)
open Classical in
def gu.lim (TT:gu):fP:=λk gs=>if h:∃out n,TT.run n k gs=some out then some (Classical.choose h) else none
theorem gu.DF {TT:gu} {n k:Nat} {gs out:List GV} (h:TT.run n k gs=some out):TT.lim k gs=some out:=by
 unfold gu.lim;have hex:∃out n,TT.run n k gs=some out:=⟨out,n,h⟩
 rw [dif_pos hex];obtain ⟨m,hm⟩:=adt hex;have h1:=TT.OA (Nat.le_max_left n m) k gs out h;have h2:=TT.OA (Nat.le_max_right n m) k gs _ hm;rw [h1] at h2;exact h2.symm
theorem gu.TQ {TT:gu} {k:Nat} {gs out:List GV} (h:TT.lim k gs=some out):∃n,TT.run n k gs=some out:=by
 unfold gu.lim at h;split at h
 ·next hex=>
  cases h;exact adt hex
 ·cases h
theorem Nd.Di {TT:gu} {val:Nat->Option GV} {nd:Nd} {g:GV} (hd:nd.den TT.lim val=some g):∃n,nd.den (TT.run n) val=some g:=by
 cases nd with
 | call f l j=>
   simp only [Nd.den] at hd ⊢;split at hd
   ·next gs hg=>
    split at hd
    ·next r hr=>
     obtain ⟨n,hn⟩:=gu.TQ hr;exact ⟨n,by rw [hn];exact hd⟩
    ·cases hd
   ·cases hd
 | _=>exact ⟨0,hd⟩
theorem Tree.Di {TT:gu}:∀ (t:Tree) {env out:List GV},t.den TT.lim env=some out->∃n,t.den (TT.run n) env=some out
 | .step nd t,env,out,hd=>by
   simp only [Tree.den] at hd;split at hd
   ·next g hg=>
    obtain ⟨n,hn⟩:=Nd.Di hg;obtain ⟨m,hm⟩:=Tree.Di t hd;refine ⟨max n m, ?_⟩;simp only [Tree.den];rw [Nd.wz (TT.OA (Nat.le_max_left n m)) hn];exact t.wz (TT.OA (Nat.le_max_right n m)) hm
   ·cases hd
 | .ite n t e,env,out,hd=>by
   simp only [Tree.den] at hd ⊢;split at hd
   ·next h=>obtain ⟨m,hm⟩:=Tree.Di t hd;exact ⟨m,hm⟩
   ·next h=>obtain ⟨m,hm⟩:=Tree.Di e hd;exact ⟨m,hm⟩
   ·cases hd
 | .ret l,env,out,hd=>⟨0,hd⟩
 | .tail f l,env,out,hd=>by
   simp only [Tree.den] at hd ⊢;split at hd
   ·exact gu.TQ hd
   ·cases hd
 | .dead,_,_,hd=>by simp [Tree.den] at hd
theorem gu.ah2 {TT:gu} {k:Nat} {d:aI} (hk:TT k=some d) {gs out:List GV} (h:d.den TT.lim gs=some out):TT.lim k gs=some out:=by
 cases d with
 | tree m t=>
   simp only [aI.den] at h;split at h
   ·next hm=>
    obtain ⟨n,hn⟩:=Tree.Di t h;exact gu.DF (n:=n+1) (by simp only [gu.run,hk,aI.den,ak hm];exact hn)
   ·cases h
 | fn sh so t=>
   simp only [aI.den] at h;split at h
   ·next hf=>
    split at h
    ·next o ho=>
     obtain ⟨n,hn⟩:=Tree.Di t ho;exact gu.DF (n:=n+1) (by simp only [gu.run,hk,aI.den,hf,if_true,hn];exact h)
    ·cases h
   ·cases h
 | vN f=>exact gu.DF (n:=1) (by simp only [gu.run,hk];exact h)
theorem gu.ah4 {TT:gu} {C:Nat->List GV->List GV->Prop} (h:∀k d,TT k=some d->∀I:fP,(∀k gs out,I k gs=some out->C k gs out)->∀gs out,d.den I gs=some out->C k gs out):∀k gs out,TT.lim k gs=some out->C k gs out:=by
 have:∀n k gs out,TT.run n k gs=some out->C k gs out:=by
  intro n;induction n with
  | zero=>intro k gs out hh;simp [gu.run] at hh
  | succ n ih=>
    intro k gs out hh;simp only [gu.run] at hh;split at hh
    ·next d hd=>exact h k d hd _ ih gs out hh
    ·cases hh
 intro k gs out hh;obtain ⟨n,hn⟩:=gu.TQ hh;exact this n k gs out hn
end
end Go.aN
namespace Go.aN
set_option linter.unusedSimpArgs false
noncomputable section
set_option linter.unusedSectionVars false
set_option linter.unusedVariables false
variable {P:Program}
def xU (P:Program) (c:Code) (Q:Exit->Act->World->Prop) (a:Act) (w:World):Prop:=∀b k cs,∃e a' w',Q e a' w'/\Arrives P (lone (b.at a (.code c::.inLoop c::k)) cs w) b k cs e a' w'
theorem xU.step {c:Code} {Q:Exit->Act->World->Prop} {a:Act} {w:World} (h:c.wp P (Exit.then (xU P c Q) Q) a w):xU P c Q a w:=by
 intro b k cs;obtain ⟨e,a₁,w₁,hq,harr⟩:=h b (.inLoop c::k) cs;cases e with
 | normal=>
   obtain ⟨e₂,a₂,w₂,hq₂,harr₂⟩:=hq b k cs;exact ⟨e₂,a₂,w₂,hq₂,.of_steps (Steps.trans harr (.one step_inLoop)) harr₂⟩
 | exit id=>exact ⟨_,a₁,w₁,hq,.pass (x:=.inLoop c) rfl (λ_ _=>.inl (by simp)) harr⟩
 | goto l=>exact ⟨_,a₁,w₁,hq,.pass (x:=.inLoop c) rfl (λ_ _=>.inl (by simp)) harr⟩
 | ret=>exact ⟨_,a₁,w₁,hq,.pass (x:=.inLoop c) rfl (λ_ _=>.inl (by simp)) harr⟩
 | panic ch=>exact ⟨_,a₁,w₁,hq,.pass (x:=.inLoop c) rfl (λ_ _=>.inl (by simp)) harr⟩
 | outgrown=>exact ⟨_,a₁,w₁,hq,.pass (x:=.inLoop c) rfl (λ_ _=>.inl (by simp)) harr⟩
theorem xU.loop {c:Code} {Q:Exit->Act->World->Prop} {a:Act} {w:World} (h:xU P c Q a w):(Code.loop c).wp P Q a w:=by
 intro b k cs;obtain ⟨e,a',w',hq,harr⟩:=h b k cs;exact ⟨e,a',w',hq,.of_steps (.one step_loop) harr⟩
section
variable [aF]
def AT (P:Program) (c:Code) (a:aX) (σ:aj) (Q:dH->aX->aj->Prop):Prop:=
 ∀w0 cu η w A K,je P w0 cu η σ w->σ.lock=0->TR P η a A->(∀e a' σ' η' A' w',Q e a' σ'->je P w0 cu η' σ' w'->σ'.lock=0->TR P η' a' A'->K e.toExit A' w')->c.wp P K A w
variable {c b x y z:Code} {a a' a2:aX} {σ σ' σ2:aj} {Q R:dH->aX->aj->Prop}
theorem AT.mono (h:AT P c a σ R) (hq:∀e a' σ',R e a' σ'->Q e a' σ'):AT P c a σ Q:=
 λw0 cu η w A K hF hl ht hK=>h w0 cu η w A K hF hl ht λe a' σ' η' A' w' hr=>hK e a' σ' η' A' w' (hq _ _ _ hr)
def Vy (P:Program) (y:Code) (Q:dH->aX->aj->Prop):dH->aX->aj->Prop
 | .normal,a,σ=>AT P y a σ Q
 | e,a,σ=>Q e a σ
theorem AT.seq (h:AT P x a σ (Vy P y Q)):AT P (.seq x y) a σ Q:=by
 intro w0 cu η w A K hF hl ht hK;refine wp_seq ?_;refine h w0 cu η w A _ hF hl ht ?_;intro e a' σ' η' A' w' hq hF' hl' ht';cases e with
 | normal=>exact hq w0 cu η' w' A' K hF' hl' ht' hK
 | exit id=>exact hK _ a' σ' η' A' w' hq hF' hl' ht'
 | ret=>exact hK _ a' σ' η' A' w' hq hF' hl' ht'
theorem AT.cond {o:Operand} {t:Bool} (ho:dB (a.eval o)=some (.b t)) (h:AT P (if t then y else z) a σ Q):AT P (.cond o y z) a σ Q:=by
 intro w0 cu η w A K hF hl ht hK;obtain ⟨vd,ho,himp⟩:=Df ho;have hv:=himp _ _ (IY hF.rel ht o _ ho);simp only [VR] at hv;exact wp_cond hv (h w0 cu η w A K hF hl ht hK)
def CU (id:Nat) (Q:dH->aX->aj->Prop):dH->aX->aj->Prop
 | .exit id',a,σ=>if id'=id then Q .normal a σ else Q (.exit id') a σ
 | e,a,σ=>Q e a σ
theorem AT.block {id:Nat} (h:AT P b a σ (CU id Q)):AT P (.block id b) a σ Q:=by
 intro w0 cu η w A K hF hl ht hK;refine wp_block ?_;refine h w0 cu η w A _ hF hl ht ?_;intro e a' σ' η' A' w' hq hF' hl' ht';cases e with
 | normal=>exact hK .normal a' σ' η' A' w' hq hF' hl' ht'
 | ret=>exact hK .ret a' σ' η' A' w' hq hF' hl' ht'
 | exit id'=>
   simp only [CU] at hq;simp only [dH.toExit,Exit.inBlock];split at hq
   ·next e=>rw [ak e];exact hK .normal a' σ' η' A' w' hq hF' hl' ht'
   ·next e=>rw [ah e];exact hK (.exit id') a' σ' η' A' w' hq hF' hl' ht'
def yZ (P:Program) (b:Code) (a:aX) (σ:aj) (Q:dH->aX->aj->Prop):Prop:=
 ∀w0 cu η w A K,je P w0 cu η σ w->σ.lock=0->TR P η a A->(∀e a' σ' η' A' w',Q e a' σ'->je P w0 cu η' σ' w'->σ'.lock=0->TR P η' a' A'->K e.toExit A' w')->xU P b K A w
theorem yZ.at (h:yZ P b a σ Q):AT P (.loop b) a σ Q:=
 λw0 cu η w A K hF hl ht hK=>(h w0 cu η w A K hF hl ht hK).loop
def Tq (P:Program) (b:Code) (Q:dH->aX->aj->Prop):dH->aX->aj->Prop
 | .normal,a,σ=>yZ P b a σ Q
 | e,a,σ=>Q e a σ
theorem yZ.step (h:AT P b a σ (Tq P b Q)):yZ P b a σ Q:=by
 intro w0 cu η w A K hF hl ht hK;refine xU.step ?_;refine h w0 cu η w A _ hF hl ht ?_;intro e a' σ' η' A' w' hq hF' hl' ht';cases e with
 | normal=>exact hq w0 cu η' w' A' K hF' hl' ht' hK
 | exit id=>exact hK _ a' σ' η' A' w' hq hF' hl' ht'
 | ret=>exact hK _ a' σ' η' A' w' hq hF' hl' ht'
theorem AT.run {run:Code->aX->aj->Option (dH×aX×aj)} (hr:H8 P run) {e:dH} (h:run c a σ=some (e,a',σ')) (hq:Q e a' σ'):AT P c a σ Q:=by
 intro w0 cu η w A K hF hl ht hK;refine hr c a σ e a' σ' h η w A K hF.rel ht ?_;intro η' A' w' hst ht';exact hK e a' σ' η' A' w' hq (hF.step hl hst) (hst.lock.trans hl) ht'
end
inductive AC where
 | plain (c:Code)
 | seq (x y:AC)
 | cond (o:Operand) (y z:AC)
 | block (id:Nat) (b:AC)
 | loop (k:Nat) (b:Code)
 | peel (x:AC) (k:Nat) (b:Code)
def AC.erase:AC->Code
 | .plain c=>c
 | .seq x y=>.seq x.erase y.erase
 | .cond o y z=>.cond o y.erase z.erase
 | .block id b=>.block id b.erase
 | .loop _ b=>.loop b
 | .peel _ _ b=>.loop b
def AC.Good:AC->Prop
 | .plain _=>True
 | .seq x y=>x.Good/\y.Good
 | .cond _ y z=>y.Good/\z.Good
 | .block _ b=>b.Good
 | .loop _ _=>True
 | .peel x _ b=>x.erase=b/\x.Good
def jL (ps:List Nat):Code->Nat->AC×Nat
 | .seq x y,n=>match jL ps x n with
   | (a,n1)=>match jL ps y n1 with
     | (b,n2)=>(.seq a b,n2)
 | .cond o y z,n=>match jL ps y n with
   | (a,n1)=>match jL ps z n1 with
     | (b,n2)=>(.cond o a b,n2)
 | .block id b,n=>match jL ps b n with
   | (a,n1)=>(.block id a,n1)
 | .loop b,n=>if ps.contains (2 * n+1) then (.plain (.loop b),n+1) else match jL ps b (n+1) with
   | (x,n1)=>if ps.contains (2 * n) then (.peel x n b,n1) else (.loop n b,n+1)
 | c,n=>(.plain c,n)
def lC (ps:List Nat) (c:Code):AC:=(jL ps c 0).1
theorem vC (ps:List Nat):∀ (c:Code) (n:Nat),(jL ps c n).1.erase=c/\(jL ps c n).1.Good
 | .seq x y,n=>by
   have h1:=vC ps x n;have h2:=vC ps y (jL ps x n).2;simp only [jL,AC.erase,AC.Good];exact ⟨by rw [h1.1,h2.1],h1.2,h2.2⟩
 | .cond o y z,n=>by
   have h1:=vC ps y n;have h2:=vC ps z (jL ps y n).2;simp only [jL,AC.erase,AC.Good];exact ⟨by rw [h1.1,h2.1],h1.2,h2.2⟩
 | .block id b,n=>by
   have h1:=vC ps b n;simp only [jL,AC.erase,AC.Good];exact ⟨by rw [h1.1],h1.2⟩
 | .loop b,n=>by
   have h1:=vC ps b (n+1);simp only [jL];split
   ·exact ⟨rfl,trivial⟩
   ·split
    ·exact ⟨rfl,h1.1,h1.2⟩
    ·exact ⟨rfl,trivial⟩
 | .skip,_ | .region _ _ _,_ | .rangeFunc _ _ _ _,_ | .exit _,_ | .scope _,_ | .label _,_ | .goto _,_ | .ret,_ | .refuse _,_=>⟨rfl,trivial⟩
def AC.mW (k:Nat) (b:Code):AC->Prop
 | .plain _=>False
 | .seq x y=>x.mW k b\/y.mW k b
 | .cond _ y z=>y.mW k b\/z.mW k b
 | .block _ x=>x.mW k b
 | .loop k' b'=>k'=k/\b'=b
 | .peel x k' b'=>(k'=k/\b'=b)\/x.mW k b
abbrev PY:=Nat->aX->aj->Option (dH×aX×aj)
def sG [gq] (ls:PY) (run:Code->aX->aj->Option (dH×aX×aj)):AC->aX->aj->Option (dH×aX×aj)
 | .plain c,a,σ=>run c a σ
 | .seq x y,a,σ=>match sG ls run x a σ with
   | some (.normal,a',σ')=>sG ls run y a' σ'
   | r=>r
 | .cond o y z,a,σ=>match dB (a.eval o) with
   | some (.b t)=>if t then sG ls run y a σ else sG ls run z a σ
   | _=>none
 | .block id b,a,σ=>match sG ls run b a σ with
   | some (.exit id',a',σ')=>if id'=id then some (.normal,a',σ') else some (.exit id',a',σ')
   | r=>r
 | .loop k _,a,σ=>ls k a σ
 | .peel x k _,a,σ=>match sG ls run x a σ with
   | some (.normal,a',σ')=>ls k a' σ'
   | r=>r
theorem Qd [aF] {ls:PY} {run:Code->aX->aj->Option (dH×aX×aj)} (hr:H8 P run):∀ (ac:AC),ac.Good->(∀k b,ac.mW k b->∀a σ e a' σ',ls k a σ=some (e,a',σ')->∀Q:dH->aX->aj->Prop,Q e a' σ'->yZ P b a σ Q)->
 ∀ (a:aX) (σ:aj) (e:dH) (a':aX) (σ':aj),sG ls run ac a σ=some (e,a',σ')->∀Q:dH->aX->aj->Prop,Q e a' σ'->AT P ac.erase a σ Q:=by
 intro ac;induction ac with
 | plain c=>intro hg hl a σ e a' σ' h Q hq;exact AT.run hr h hq
 | loop k b=>intro hg hl a σ e a' σ' h Q hq;exact (hl k b ⟨rfl,rfl⟩ a σ e a' σ' h Q hq).at
 | peel x k b ih=>
   intro hg hl a σ e a' σ' h Q hq;simp only [sG] at h;refine yZ.at (yZ.step ?_);obtain ⟨rfl,hg⟩:=hg;split at h
   ·next a1 σ1 h1=>
    exact ih hg (λk' b' hk=>hl k' b' (.inr hk)) a σ _ a1 σ1 h1 (Tq P x.erase Q) (hl k _ (.inl ⟨rfl,rfl⟩) a1 σ1 e a' σ' h Q hq)
   ·next hne=>
    refine ih hg (λk' b' hk=>hl k' b' (.inr hk)) a σ e a' σ' h (Tq P x.erase Q) ?_;cases e with
    | normal=>exact absurd h (by intro e';exact hne _ _ e')
    | exit id=>exact hq
    | ret=>exact hq
 | seq x y ihx ihy=>
   intro hg hl a σ e a' σ' h Q hq;simp only [sG] at h;split at h
   ·next a1 σ1 h1=>
    exact AT.seq (ihx hg.1 (λk b hk=>hl k b (.inl hk)) a σ _ a1 σ1 h1 (Vy P y.erase Q) (ihy hg.2 (λk b hk=>hl k b (.inr hk)) a1 σ1 e a' σ' h Q hq))
   ·next hne=>
    refine AT.seq (ihx hg.1 (λk b hk=>hl k b (.inl hk)) a σ e a' σ' h (Vy P y.erase Q) ?_);cases e with
    | normal=>exact absurd h (by intro e';exact hne _ _ e')
    | exit id=>exact hq
    | ret=>exact hq
 | cond o y z ihy ihz=>
   intro hg hl a σ e a' σ' h Q hq;simp only [sG] at h;split at h
   ·next t ho=>
    refine AT.cond ho ?_;cases t with
    | true=>exact ihy hg.1 (λk b hk=>hl k b (.inl hk)) a σ e a' σ' h Q hq
    | false=>exact ihz hg.2 (λk b hk=>hl k b (.inr hk)) a σ e a' σ' h Q hq
   ·cases h
 | block id b ih=>
   intro hg hl a σ e a' σ' h Q hq;simp only [sG] at h;split at h
   ·next id' a1 σ1 h1=>
    split at h
    ·next e1=>
     cases h;exact AT.block (ih hg (λk b hk=>hl k b hk) a σ _ _ _ h1 (CU id Q) (by simp only [CU];rw [ak e1];exact hq))
    ·next e1=>
     cases h;exact AT.block (ih hg (λk b hk=>hl k b hk) a σ _ _ _ h1 (CU id Q) (by simp only [CU];rw [ah e1];exact hq))
   ·next hne=>
    refine AT.block (ih hg (λk b hk=>hl k b hk) a σ e a' σ' h (CU id Q) ?_);cases e with
    | normal=>exact hq
    | exit id'=>exact absurd h (by intro e';exact hne _ _ _ e')
    | ret=>exact hq
end
end Go.aN
namespace Go.aN
set_option linter.unusedSimpArgs false
noncomputable section
set_option linter.unusedSectionVars false
set_option linter.unusedVariables false
variable {P:Program}
def yY:List Value->Value
 | [v]=>v
 | l=>.tuple ⟨l⟩
structure vg (tabs:List (Nat×List AV)) (ro:Nat->Option Obj) (w:World):Prop where
 at':∀b o,ro b=some o->w.heap[b]? = some o
 tab:∀p∈tabs,∃cs elem fr,ro p.1=some (.cells cs elem fr)/\p.2.length<=cs.size/\∀ (k:Nat) a,p.2[k]? = some a->∃x,cs[k]? = some x/\a.toVal 4=some x
structure ED (ro ro':Nat->Option Obj) (w w':World):Prop where
 kept:Kept w w'
 le:∀b o,ro b=some o->ro' b=some o
 new:∀b,ro' b≠none->ro b≠none\/w.heap.size<=b
 at':∀b o,ro' b=some o->w'.heap[b]? = some o
def tJ:List (Option FuncId)->List Value->List Value
 | none::st,v::vs=>v::tJ st vs
 | none::_,[]=>[]
 | some g::st,vs=>.func (.func g) ⟨[]⟩ ⟨[]⟩::tJ st vs
 | [],vs=>vs
def tH:List (Option FuncId)->List AV->List AV
 | none::st,v::vs=>v::tH st vs
 | none::_,[]=>[]
 | some g::st,vs=>.fn g [] []::tH st vs
 | [],vs=>vs
def yX:List (Option FuncId)->List AV->Option (List AV)
 | [],l=>some l
 | none::st,a::l=>(yX st l).map (a::·)
 | some g::st,.fn g' [] []::l=>if g'=g then yX st l else none
 | _,_=>none
def adB (P:Program) (tabs:List (Nat×List AV)) (f:FuncId) (st:List (Option FuncId)) (gs out:List GV):Prop:=∀ro w vs,vg tabs ro w->aS ro gs vs->jS P f ⟨tJ st vs⟩ w λv w'=>∃ro',ED ro ro' w w'/\∃us,v=yY us/\aS ro' out us
section
variable [aF]
theorem Pg {η:Env}:∀ {st:List (Option FuncId)} {l r:List AV} {vs:List Value},yX st l=some r->au η l vs->∃vs',vs=tJ st vs'/\au η r vs'
 | [],l,r,vs,h,hv=>by
   simp only [yX,aT] at h;subst h;exact ⟨vs,rfl,hv⟩
 | none::st,[],r,vs,h,hv=>by simp [yX] at h
 | none::st,a::l,r,vs,h,hv=>by
   simp only [yX,aZ] at h;obtain ⟨r',h1,rfl⟩:=h;obtain ⟨x,xs,rfl,hx,hxs⟩:=hv;obtain ⟨vs',rfl,h2⟩:=Pg h1 hxs;exact ⟨x::vs',rfl,au.cons hx h2⟩
 | some g::st,[],r,vs,h,hv=>by simp [yX] at h
 | some g::st,a::l,r,vs,h,hv=>by
   unfold yX at h;split at h
   ·next e=>cases e
   ·next e _=>cases e
   ·next g0 st0 g' l0 e1 e2=>
    cases e1;cases e2;split at h
    ·next e=>
     subst e;obtain ⟨x,xs,rfl,hx,hxs⟩:=hv;obtain ⟨vs',rfl,h2⟩:=Pg h hxs;simp only [VR] at hx;obtain ⟨us,ws,rfl,h3,h4⟩:=hx;simp only [au] at h3 h4;subst h3;subst h4;exact ⟨vs',rfl,h2⟩
    ·cases h
   ·cases h
theorem Oo {η:Env}:∀ {st:List (Option FuncId)} {l:List AV} {vs:List Value},au η l vs->au η (tH st l) (tJ st vs)
 | [],l,vs,hv=>hv
 | none::st,[],vs,hv=>by simp only [au] at hv;subst hv;simp [tH,tJ,au]
 | none::st,a::l,vs,hv=>by
   obtain ⟨x,xs,rfl,hx,hxs⟩:=hv;exact au.cons hx (Oo hxs)
 | some g::st,l,vs,hv=>au.cons (by simp only [VR];exact ⟨[],[],rfl,by simp [au],by simp [au]⟩) (Oo hv)
theorem SR.Ox {η:Env} {σ:aj} {w:World} (h:SR P η σ w):vg aF.tabs η.ro w:=⟨h.iG,h.tabs⟩
theorem St.aiO {η:Env} {σ:aj} {w w':World} {ro':Nat->Option Obj} (h:SR P η σ w) (k:ED η.ro ro' w w'):St P η σ w ⟨η.pl,ro',η.gh⟩ σ w':=by
 have hle:(η:Env).le ⟨η.pl,ro',η.gh⟩:=⟨λ_ _ h=>h,k.le,λ_ h=>h⟩
 refine ⟨hle,⟨h.mD,h.dom,λid o ho=>?_,h.jo,h.sep,k.at',λid o q a1 a2 a3=>?_,λp hp=>(h.tabs p hp).mono hle⟩,k.kept.size,λbl hb _=>k.kept.keep bl hb,λid o q h1 h2 h3 h4=>.inr ⟨id,o,q,h1,h2,h3,h4,rfl⟩,k.kept.os,k.kept.tape,k.kept.output,rfl,dF _,λ_ h=>.inl h,λb hb=>?_⟩
 ·exact ((h.live id o ho).heap λq _ hr=>k.kept.keep _ hr.lt).mono hle
 ·have hr:=h.at a1 (show η id=some q from a3)
  cases hro:ro' q.bl with
  | none=>exact hro
  | some o2=>
    rcases k.new q.bl (by rw [hro];simp) with h1 | h1
    ·exact absurd (h.lU id o q a1 a2 a3) h1
    ·have:=hr.lt;omega
 ·rcases k.new b hb with h1 | h1
  ·exact .inl h1
  ·exact .inr (.inl h1)
end
end
end Go.aN
namespace Go.aN
set_option linter.unusedSimpArgs false
noncomputable section
set_option linter.unusedSectionVars false
set_option linter.unusedVariables false
variable {P:Program}
@[reducible] def Tg (tabs:List (Nat×List AV)) (gs:List GV) (ka:Nat):aF:={ nodes:=[],dec:=[],ka:=ka,tabs:=tabs,I:=λ_ _=>none,val:=λn=>gs[n]?,oJ:=by intro n nd h;simp at h,yE:=by intro n b h;simp at h }
def ny {α:Type}:List (Nat×α)->Tr α
 | []=>.nil
 | (k,v)::l=>(ny l).set k (some v)
theorem Ju {α:Type}:∀ {l:List (Nat×α)} {k:Nat} {v:α},(ny l).get k=some v->(k,v)∈l
 | [],k,v,h=>by simp [ny] at h
 | (j,u)::l,k,v,h=>by
   rw [ny,Tr.sU] at h;split at h
   ·next e=>cases h;subst e;simp
   ·exact xX _ (Ju h)
structure fJ where
 np:Nat
 n:Nat
 gn:Nat
 next:Nat
 slots:List (Nat×AV)
 objs:List (Nat×bg)
 ka:Nat:=0
 al:List (Option Nat):=[]
def rO (tabs:List (Nat×List AV)):List (Nat×bg):=tabs.map λp=>(p.1,.cells p.2 0 false false)
def fJ.act (s:fJ):aX:=⟨ny s.slots,s.n,s.gn⟩
def fJ.st (tabs:List (Nat×List AV)) (s:fJ):aj:=⟨ny (s.objs++rO tabs),s.next,0⟩
def KE (P:Program) (tabs:List (Nat×List AV)) (s:fJ) (gs:List GV) (w0:Base) (cu:Nat->Option Obj) (A:Act) (w:World):Prop:=∃η,@je (Tg tabs gs s.ka) P w0 cu η (s.st tabs) w/\@TR (Tg tabs gs s.ka) P η s.act A
def bW {α:Type} (k:Nat):List (Nat×α)->Option α
 | []=>none
 | p::l=>bif Nat.beq k p.1 then some p.2 else bW k l
theorem MQ {α:Type} {k:Nat} {v:α}:∀ {l:List (Nat×α)},bW k l=some v->(k,v)∈l
 | [],h=>by simp [bW] at h
 | p::l,h=>by
   simp only [bW] at h;cases hb:Nat.beq k p.1 with
   | true=>rw [hb] at h;simp only [cond_true,aT] at h;rw [bn hb,<- h];simp
   | false=>rw [hb] at h;simp only [cond_false] at h;exact xX _ (MQ h)
def zZ (r:List (Nat×Option Nat)) (i:Nat) (x:Option Nat):Bool:=
 match bW i r,x with
 | some (some a),some b=>Nat.beq a b
 | some none,none=>true
 | _,_=>false
section
variable [gq]
def FY (m:Nat):Bool:=match gq.nodes[m]? with
 | some (.ml [])=>true
 | _=>false
def MO (P:Program) (σ:aj) (fz:List Nat) (a:AV) (m:Nat):Bool:=
 match a with
 | .sv id n=>fz.contains id&&match σ.get id with
   | some (.vec m' _ _)=>Nat.beq m' m&&rJ 100 m' n
   | _=>false
 | .sl id off len cap=>fz.contains id&&match σ.get id with
   | some (.cells c et true opn)=>(match listOf P σ et (.sl id off len cap),sizeT P et with
     | some m',some size=>Nat.beq m' m&&Nat.blt 0 size
     | _,_=>false)
   | _=>false
 | _=>false
mutual
def mV (P:Program) (G:Nat) (σ:aj) (fz:List Nat) (r:List (Nat×Option Nat)) (ps:List Nat):AV->AV->Bool
 | .nd j,a=>match ps[j]? with
   | some m=>(match gU a with
     | some m'=>Nat.beq m m'
     | none=>false) || MO P σ fz a m
   | none=>false
 | .sv i j,a=>match ps[j]? with
   | some m=>match a with
     | .sv id n=>Nat.blt G i&&zZ r i (some id)&&rJ 100 m n
     | .bP=>Nat.blt G i&&zZ r i none&&FY m
     | _=>false
   | none=>false
 | .p i off,a=>match a with
   | .p id off'=>Nat.beq off off'&&(if i<=G then Nat.beq i id else zZ r i (some id))
   | _=>false
 | .rx j off,a=>match a with
   | .rx m off'=>Nat.beq off off'&&(match ps[j]? with | some m'=>Nat.beq m m' | none=>false)
   | _=>false
 | .fn f fi cs,a=>match a with
   | .fn f' fi' cs'=>Nat.beq f f'&&yL P G σ fz r ps fi fi'&&yL P G σ fz r ps cs cs'
   | _=>false
 | .agg l,a=>match a with
   | .agg l'=>yL P G σ fz r ps l l'
   | _=>false
 | .dA l,a=>match a with
   | .dA l'=>yL P G σ fz r ps l l'
   | _=>false
 | .ig t x,a=>match a with
   | .ig t' x'=>Nat.beq t t'&&mV P G σ fz r ps x x'
   | _=>false
 | .b x,a=>match a with | .b y=>(bif x then y else !y) | _=>false
 | .i k n,a=>match a with | .i k' n'=>Nat.beq (kc k) (kc k')&&Dx n n' | _=>false
 | .s x,a=>match a with | .s y=>yC x y | _=>false
 | .ji,a=>match a with | .ji=>true | _=>false
 | .bP,a=>match a with | .bP=>true | _=>false
 | .wQ,a=>match a with | .wQ=>true | _=>false
 | .qN,a=>match a with | .qN=>true | _=>false
 | .nU,a=>match a with | .nU=>true | _=>false
 | .mp i,a=>match a with
   | .mp id=>Nat.blt G i&&zZ r i (some id)
   | _=>false
 | _,_=>false
def yL (P:Program) (G:Nat) (σ:aj) (fz:List Nat) (r:List (Nat×Option Nat)) (ps:List Nat):List AV->List AV->Bool
 | [],l=>match l with | []=>true | _=>false
 | a::l,m=>match m with
   | b::m'=>mV P G σ fz r ps a b&&yL P G σ fz r ps l m'
   | []=>false
end
def mO (P:Program) (G:Nat) (σ:aj) (fz:List Nat) (r:List (Nat×Option Nat)) (ps:List Nat) (i:Nat) (o:bg):Bool:=
 match bW i r with
 | some (some id)=>!(fz.contains id)&&match o with
   | .cells l et qQ opn=>match σ.get id with
     | some (.cells c Dj rw' Jy)=>Nat.beq et Dj&&(bif qQ then rw' else !rw')&&(bif opn then Jy else !Jy)&&yL P G σ fz r ps l c
     | _=>false
   | .vec j et f=>match σ.get id with
     | some (.vec m Dj f')=>Nat.beq et Dj&&(!f || f')&&(match ps[j]? with | some m'=>Nat.beq m m' | none=>false)
     | _=>false
   | .smap j kk sz=>match σ.get id with
     | some (.smap m zS sz')=>FP kk zS&&JQ sz sz'&&(match ps[j]? with | some m'=>Nat.beq m m' | none=>false)
     | some (.map [])=>(match ps[j]? with | some m=>FY m | none=>false)
     | _=>false
   | .map []=>(match σ.get id with
     | some (.map [])=>true
     | _=>false)
   | _=>false
 | some none=>match o with
   | .vec j _ _=>(match ps[j]? with | some m=>FY m | none=>false)
   | _=>false
 | none=>false
def NP (P:Program) (G:Nat) (σ:aj) (fz:List Nat) (r:List (Nat×Option Nat)) (ps:List Nat) (t:Tr AV):List (Nat×AV)->Bool
 | []=>true
 | p::l=>(match t.get p.1 with | some v=>mV P G σ fz r ps p.2 v | none=>false)&&NP P G σ fz r ps t l
def FV (P:Program) (G next:Nat) (σ:aj) (fz:List Nat) (r:List (Nat×Option Nat)) (ps:List Nat):List (Nat×bg)->Bool
 | []=>true
 | p::l=>Nat.blt G p.1&&Nat.blt p.1 next&&mO P G σ fz r ps p.1 p.2&&FV P G next σ fz r ps l
def Ic (r:List (Nat×Option Nat)):Nat->Nat->Bool
 | _,0=>true
 | i,n+1=>zZ r (i+1) (some (i+1))&&Ic r (i+1) n
def D7:List (Nat×Option Nat)->Bool
 | []=>true
 | p::l=>(match p.2 with
   | some a=>l.all λq=>match q.2 with | some b=>!(Nat.beq a b) | none=>true
   | none=>true)&&D7 l
def Tv (P:Program) (s:fJ) (a:aX) (σ:aj) (fz:List Nat) (r:List (Nat×Option Nat)) (ps:List Nat):Bool:=
 Nat.beq s.ka gq.ka&&Nat.blt (s.gn+s.ka) s.next&&Ic r s.gn s.ka&&Nat.beq s.n a.n&&Nat.beq s.gn a.gn&&Nat.blt s.gn s.next&&D7 r&&NP P s.gn σ fz r ps a.t s.slots&&FV P s.gn s.next σ fz r ps s.objs
end
def kills (σ:aj):List Nat->aj
 | []=>σ
 | id::l=>(kills σ l).kill id
theorem zQ {σ:aj} {k:Nat}:∀ {l:List Nat},(kills σ l).get k=if k∈l then none else σ.get k
 | []=>by simp [kills]
 | id::l=>by
   rw [kills,aj.vJ,zQ];by_cases h:k=id
   ·simp [h]
   ·simp [h]
theorem FN {σ:aj}:∀l:List Nat,(kills σ l).lock=σ.lock
 | []=>rfl
 | _::l=>FN l
theorem SN {σ:aj}:∀l:List Nat,(kills σ l).next=σ.next
 | []=>rfl
 | _::l=>SN l
section
variable [aF]
theorem MK {w0:Base} {cu:Nat->Option Obj} {η:Env} {σ:aj} {w:World} (hF:je P w0 cu η σ w) (hl:σ.lock=0):∀fz:List Nat,∃bQ,(∀b o,η.ro b=some o->bQ b=some o)/\je P w0 cu ⟨η.pl,bQ,η.gh⟩ (kills σ fz) w/\
 (∀id∈fz,∀o q,σ.get id=some o->o.own=true->η id=some q->bQ q.bl=w.heap[q.bl]?)
 | []=>⟨η.ro,λ_ _ h=>h,hF,by simp⟩
 | id::fz=>by
   obtain ⟨bQ,h1,h2,h3⟩:=MK hF hl fz;by_cases hx:∃o q,(kills σ fz).get id=some o/\o.own=true/\η id=some q
   ·obtain ⟨o,q,ho,hown,hq⟩:=hx
    have hst:=St.freeze h2.rel ho hown (by rw [FN,hl];exact yg _) (show (⟨η.pl,bQ,η.gh⟩:Env) id=some q from hq);have hF2:=h2.step (by rw [FN,hl]) hst;refine ⟨BI bQ w q.bl,λb o hb=>Ou h2.rel.iG q.bl b o (h1 b o hb),hF2, ?_⟩;intro id' iP o' q' ho' hown' hq';show (if q'.bl=q.bl then w.heap[q.bl]? else bQ q'.bl)=_
    split
    ·next e=>rw [e]
    ·next e=>
     rcases dP.1 iP with rfl | iP
     ·rw [hq] at hq';cases hq';exact absurd rfl e
     ·exact h3 id' iP o' q' ho' hown' hq'
   ·refine ⟨bQ,h1,⟨h2.rel.sub (λk u hk=>?_) (dF _),h2.kept,λk u q a1 a2 a3=>?_,h2.qP,h2.oM,h2.nK⟩, ?_⟩
    ·rw [kills,aj.vJ] at hk;split at hk;cases hk;exact hk
    ·rw [kills,aj.vJ] at a1;split at a1;cases a1;exact h2.own k u q a1 a2 a3
    ·intro id' iP o' q' ho' hown' hq'
     rcases dP.1 iP with rfl | iP
     ·by_cases hm:id'∈fz
      ·exact h3 id' hm o' q' ho' hown' hq'
      ·exact absurd ⟨o',q',by rw [zQ,ah hm];exact ho',hown',hq'⟩ hx
     ·exact h3 id' iP o' q' ho' hown' hq'
end
theorem BN {val:Nat->Option GV}:∀ {ps:List Nat} {gs:List GV},valsOf val ps=some gs->∀ {j m:Nat},ps[j]? = some m->gs[j]? = val m/\∃g,val m=some g
 | [],gs,h,j,m,hj=>by simp at hj
 | p::ps,gs,h,j,m,hj=>by
   simp only [valsOf] at h;split at h
   ·next g r h1 h2=>
    cases h;cases j with
    | zero=>simp at hj;subst hj;exact ⟨by simp [h1],g,h1⟩
    | succ j=>simpa using BN h2 (j:=j) (by simpa using hj)
   ·cases h
theorem Oq {r:List (Nat×Option Nat)} {i id:Nat} (h:zZ r i (some id)=true):bW i r=some (some id):=by
 unfold zZ at h;split at h
 ·next a b e1 e2=>cases e2;rw [e1,bn h]
 ·next e1 e2=>cases e2
 ·cases h
theorem akd {r:List (Nat×Option Nat)} {i:Nat} (h:zZ r i none=true):bW i r=some none:=by
 unfold zZ at h;split at h
 ·next a b e1 e2=>cases e2
 ·next e1 e2=>exact e1
 ·cases h
def xP (tabs:List (Nat×List AV)) (i:Nat):Nat:=match bW i tabs with
 | some c=>c.length
 | none=>0
def qg (tabs:List (Nat×List AV)) (G next:Nat) (r:List (Nat×Option Nat)) (η:Env) (bQ:Nat->Option Obj):Env where
 pl:=λi=>if i<=G then some ⟨i,0,xP tabs i,0⟩ else if i < next then match bW i r with
  | some (some id)=>η id
  | _=>none
  else none
 ro:=bQ
 gh:=λi=>decide (G < i)&&decide (i < next)&&match bW i r with
  | some (some id)=>η.gh id
  | some none=>true
  | none=>false
end
end Go.aN
namespace Go.aN
set_option linter.unusedSimpArgs false
noncomputable section
set_option linter.unusedSectionVars false
set_option linter.unusedVariables false
variable {P:Program}
structure rW (T:aF) (P:Program) (tabs:List (Nat×List AV)) (G next:Nat) (η:Env) (σ:aj) (w:World) (fz:List Nat) (r:List (Nat×Option Nat)) (ps:List Nat) (gs:List GV) (bQ:Nat->Option Obj):Prop where
 rel:@SR T P η σ w
 vals:valsOf T.val ps=some gs
 qP:∀b o,η.ro b=some o->bQ b=some o
 rD:∀id∈fz,∀o q,σ.get id=some o->o.own=true->η id=some q->bQ q.bl=w.heap[q.bl]?
 gn:G=P.globals.size
 lt:G < next
variable {T:aF} {ka:Nat} {tabs:List (Nat×List AV)} {G next:Nat} {η:Env} {σ:aj} {w:World} {fz:List Nat} {r:List (Nat×Option Nat)} {ps:List Nat} {gs:List GV} {bQ:Nat->Option Obj}
theorem DJ {i id:Nat} (hG:G < i) (hn:i < next) (hr:bW i r=some (some id)):(qg tabs G next r η bQ) i=η id:=by
 show (if i<=G then some (⟨i,0,xP tabs i,0⟩:Place) else if i < next then _ else none)=_
 rw [ah (by omega),ak hn,hr]
theorem NM {i:Nat} (hG:i<=G):(qg tabs G next r η bQ) i=some ⟨i,0,xP tabs i,0⟩:=by
 show (if i<=G then some (⟨i,0,xP tabs i,0⟩:Place) else _)=_
 rw [ak hG]
theorem aaW {i id:Nat} (hG:G < i) (hn:i < next) (hr:bW i r=some (some id)):(qg tabs G next r η bQ).gh i=η.gh id:=by
 show (decide (G < i)&&decide (i < next)&&_)=_
 rw [hr];simp [hG,hn]
theorem aaX {i:Nat} (hG:G < i) (hn:i < next) (hr:bW i r=some none):(qg tabs G next r η bQ).gh i=true:=by
 show (decide (G < i)&&decide (i < next)&&_)=_
 rw [hr];simp [hG,hn]
theorem ZA (C:rW T P tabs G next η σ w fz r ps gs bQ) {a:AV} {m:Nat} {v:Value} (h:@MO T.togq P σ fz a m=true) (hv:@VR T η a v) {g:GV} (hm:T.val m=some g):g.scalar=true/\GR bQ g v:=by
 letI:=T
 unfold MO at h;split at h
 ·next id n=>
  rw [aH] at h;obtain ⟨h1,h⟩:=h;have hid:id∈fz:=by simpa using h1
  split at h
  ·next m' et f hg=>
   rw [aH] at h;have e:=bn h.1;subst e;simp only [VR] at hv;obtain ⟨ys,k1,hv⟩:=hv;rcases hv with ⟨q,hq,hle,rfl⟩ | ⟨hgh,rfl,rfl⟩
   ·have hor:=C.rel.at hg hq
    obtain ⟨xs,x1,x2,x3,x4,x5,x6,x7,x8⟩:=hor.FZ;have x1':T.val m'=some (.l xs):=x1;rw [hm] at x1';cases x1';have hlen:=vO 100 h.2 x1 k1;refine ⟨rfl, ?_⟩;have hcl:=Dc x2;have:=GR.TN (ro':=bQ) (off:=0) (n:=ys.length) (size:=q.es) (cap:=q.sz / q.es) (cs:=bC xs) (gs:=xs) x8 C.qP (C.rD id hid _ q hg rfl hq) (by
     unfold takeN;rw [dJ,<- hlen,lK (by omega),ak hcl]) hlen hle x4 (λx hx=>⟨x2 x hx,x7 x hx⟩) (λη' vs hro hvs=>by
      unfold bC at hvs ⊢;exact (mQ _ _).1 (aS.mono hro _ _ ((mQ _ _).2 hvs)))
    simpa using this
   ·rcases C.rel.live id _ hg with ⟨q,hq,_⟩ | ⟨_,n2,QY,f2,e2,hv0⟩
    ·rw [(C.rel.jo id hgh).1] at hq;cases hq
    ·cases e2
     have Nh:T.val m'=some (.l []):=hv0;rw [hm] at Nh;cases Nh;exact ⟨rfl,by simp [GR]⟩
  ·cases h
 ·next id off len cap=>
  rw [aH] at h;obtain ⟨h1,h⟩:=h;have hid:id∈fz:=by simpa using h1
  split at h
  ·next c et opn hg=>
   split at h
   ·next m' size hl hsz=>
    rw [aH] at h;have e:=bn h.1;subst e;have h0:0 < size:=by have:=h.2;rwa [iK] at this
    simp only [VR] at hv;obtain ⟨q,hq,hle,rfl⟩:=hv;unfold listOf at hl;simp only [hg,hsz] at hl;split at hl
    ·next c' Dj rw' Jy size' agg e1 e2 ha=>
     cases e1;cases e2;split at hl
     ·next hc=>
      rw [aH,lW,aH] at hc;split at hl
      ·next cs hcs=>
       split at hl
       ·next ns hns=>
        have hagg:agg=false->size=1:=by
         intro e;subst e;rcases hc.2 with h1 | h1
         ·simp at h1
         ·exact bn h1
        obtain ⟨g',g1,g2⟩:=fG hl;have g1':T.val m'=some g':=g1;rw [hm] at g1';cases g1';have hor:=C.rel.at hg hq;obtain ⟨ws,elem,fr,hb,rr⟩:=hor;have hlc:=(pJ hcs).2.1;have ahB:=rr.vU hcs;obtain ⟨gl,k1,k2,k3,k4,hsize⟩:=Bf (η:=η) hagg len hns ahB hlc;simp only [Nd.den,k1,fQ,aT] at g2;subst g2;refine ⟨rfl, ?_⟩;have:=GR.TN (ro':=bQ) (off:=off) (n:=len) (size:=size) (cap:=cap.getD ((q.sz - off) / q.es)) (cs:=cs) (gs:=gl) (C.rel.at hg hq) C.qP (C.rD id hid _ q hg rfl hq) hcs k2 hle h0 hsize (λη' vs hro hvs=>by
         obtain ⟨gl',k1',k2',Np,_⟩:=Bf (η:=η) hagg len hns hvs hlc;rw [k1] at k1';cases k1';unfold bC at Np ⊢;exact (mQ _ _).1 (aS.mono hro _ _ ((mQ _ _).2 Np)))
        exact this
       ·cases hl
      ·cases hl
     ·cases hl
    ·cases hl
   ·cases h
  ·cases h
 ·cases h
mutual
theorem Tz (C:rW T P tabs G next η σ w fz r ps gs bQ):∀ (p a:AV) (v:Value),p.under next=true->@mV T.togq P G σ fz r ps p a=true->@VR T η a v->@VR (Tg tabs gs ka) (qg tabs G next r η bQ) p v
 | .nd j,a,v,hu,h,hv=>by
   letI:=T
   simp only [mV] at h;split at h
   ·next m hm=>
    obtain ⟨e1,g,e2⟩:=BN C.vals hm;simp only [VR];refine ⟨g,by show gs[j]? = _;rw [e1,e2], ?_⟩;rw [lW] at h;rcases h with h | h
    ·split at h
     ·next m' hm'=>
      have e:=bn h;subst e;obtain ⟨g',k1,k2,k3⟩:=kU hm' hv;have k1':T.val m=some g':=k1;rw [e2] at k1';cases k1';exact ⟨k2,GR.mono C.qP _ _ k3⟩
     ·cases h
    ·exact ZA C h hv e2
   ·cases h
 | .sv i j,a,v,hu,h,hv=>by
   letI:=T
   simp only [AV.under,iK] at hu;simp only [mV] at h;split at h
   ·next m hm=>
    obtain ⟨e1,g,e2⟩:=BN C.vals hm;split at h
    ·next id n=>
     rw [aH,aH,iK] at h;obtain ⟨⟨h1,h2⟩,h3⟩:=h;have hr:=Oq h2;simp only [VR] at hv ⊢;obtain ⟨xs,k1,hv⟩:=hv;have hx:∃ys,g=.l ys/\ys.length=xs.length:=by
      obtain ⟨ys,rfl⟩:=amc 100 h3 e2 k1;exact ⟨ys,rfl,vO 100 h3 e2 k1⟩
     obtain ⟨ys,rfl,hlen⟩:=hx;refine ⟨ys,by show gs[j]? = _;rw [e1,e2], ?_⟩;rcases hv with ⟨q,hq,hle,rfl⟩ | ⟨hgh,rfl,rfl⟩
     ·exact .inl ⟨q,by rw [DJ h1 hu hr];exact hq,by rw [hlen];exact hle,by rw [hlen]⟩
     ·exact .inr ⟨by rw [aaW h1 hu hr];exact hgh,jw (by simpa using hlen),rfl⟩
    ·rw [aH,aH,iK] at h
     obtain ⟨⟨h1,h2⟩,h3⟩:=h;have hr:=akd h2;simp only [VR] at hv ⊢;unfold FY at h3;split at h3
     ·next hn=>
      obtain ⟨g',k1,k2⟩:=T.oJ m _ hn (by simp);rw [e2] at k1;cases k1;simp only [Nd.den,valsOf,fQ,aT] at k2;subst k2;exact ⟨[],by show gs[j]? = _;rw [e1,e2],.inr ⟨aaX h1 hu hr,rfl,hv⟩⟩
     ·cases h3
    ·cases h
   ·cases h
 | .p i off,a,v,hu,h,hv=>by
   letI:=T
   simp only [AV.under,iK] at hu;simp only [mV] at h;split at h
   ·next id off'=>
    rw [aH] at h;have e:=bn h.1;subst e;simp only [VR] at hv ⊢;obtain ⟨q,hq,rfl⟩:=hv;split at h
    ·next hle=>
     have e:=bn h.2;subst e;obtain ⟨sz,es,hg⟩:=C.rel.mD i (by rw [<- C.gn];exact hle);rw [hq] at hg;cases hg;exact ⟨_,NM hle,rfl⟩
    ·next hle=>exact ⟨q,by rw [DJ (by omega) hu (Oq h.2)];exact hq,rfl⟩
   ·cases h
 | .rx j off,a,v,hu,h,hv=>by
   letI:=T
   simp only [mV] at h;split at h
   ·next m off'=>
    rw [aH] at h;have e:=bn h.1;subst e;split at h
    ·next m' hm=>
     have e:=bn h.2;subst e;obtain ⟨e1,g,e2⟩:=BN C.vals hm;simp only [VR] at hv ⊢;obtain ⟨g',bl,base,cs,elem,fr,x,k1,k2,k3,k4,k5⟩:=hv;have k1':T.val m=some g':=k1;rw [e2] at k1';cases k1';exact ⟨g,bl,base,cs,elem,fr,x,by show gs[j]? = _;rw [e1,e2],C.qP _ _ k2,GR.mono C.qP _ _ k3,k4,k5⟩
    ·simp at h
   ·cases h
 | .fn f fi cs,a,v,hu,h,hv=>by
   letI:=T
   simp only [AV.under,aH] at hu;simp only [mV] at h;split at h
   ·next f' fi' cs'=>
    rw [aH,aH] at h;obtain ⟨⟨h1,h2⟩,h3⟩:=h;have e:=bn h1;subst e;simp only [VR] at hv ⊢;obtain ⟨us,vs,rfl,k1,k2⟩:=hv;exact ⟨us,vs,rfl,BF C fi fi' us hu.1 h2 k1,BF C cs cs' vs hu.2 h3 k2⟩
   ·cases h
 | .agg l,a,v,hu,h,hv=>by
   letI:=T
   simp only [AV.under] at hu;simp only [mV] at h;split at h
   ·next l'=>simp only [VR] at hv ⊢;obtain ⟨vs,rfl,k1⟩:=hv;exact ⟨vs,rfl,BF C l l' vs hu h k1⟩
   ·cases h
 | .dA l,a,v,hu,h,hv=>by
   letI:=T
   simp only [AV.under] at hu;simp only [mV] at h;split at h
   ·next l'=>simp only [VR] at hv ⊢;obtain ⟨vs,rfl,k1⟩:=hv;exact ⟨vs,rfl,BF C l l' vs hu h k1⟩
   ·cases h
 | .ig t x,a,v,hu,h,hv=>by
   letI:=T
   simp only [AV.under] at hu;simp only [mV] at h;split at h
   ·next t' x'=>
    rw [aH] at h;have e:=bn h.1;subst e;simp only [VR] at hv ⊢;obtain ⟨y,rfl,k1⟩:=hv;exact ⟨y,rfl,Tz C x x' y hu h.2 k1⟩
   ·cases h
 | .b x,a,v,hu,h,hv=>by
   letI:=T
   simp only [mV] at h;split at h
   ·next y=>have:=Le.1 h;subst this;simp only [VR] at hv ⊢;exact hv
   ·cases h
 | .i k n,a,v,hu,h,hv=>by
   letI:=T
   simp only [mV] at h;split at h
   ·next k' n'=>
    rw [aH] at h;have e1:=Nq h.1;have e2:=aak h.2;subst e1;subst e2;simp only [VR] at hv ⊢;exact hv
   ·cases h
 | .s x,a,v,hu,h,hv=>by
   letI:=T
   simp only [mV] at h;split at h
   ·next y=>have:=Qo h;subst this;simp only [VR] at hv ⊢;exact hv
   ·cases h
 | .ji,a,v,hu,h,hv=>by letI:=T;simp only [mV] at h;split at h;(simp only [VR] at hv ⊢;exact hv);cases h
 | .bP,a,v,hu,h,hv=>by letI:=T;simp only [mV] at h;split at h;(simp only [VR] at hv ⊢;exact hv);cases h
 | .wQ,a,v,hu,h,hv=>by letI:=T;simp only [mV] at h;split at h;(simp only [VR] at hv ⊢;exact hv);cases h
 | .qN,a,v,hu,h,hv=>by letI:=T;simp only [mV] at h;split at h;(simp only [VR] at hv ⊢;exact hv);cases h
 | .nU,a,v,hu,h,hv=>by letI:=T;simp only [mV] at h;split at h;(simp only [VR] at hv ⊢;exact hv);cases h
 | .sl _ _ _ _,_,_,_,h,_=>by simp [mV] at h
 | .mp i,a,v,hu,h,hv=>by
   letI:=T
   simp only [AV.under,iK] at hu;simp only [mV] at h;split at h
   ·next id=>
    rw [aH,iK] at h;simp only [VR] at hv ⊢;obtain ⟨q,hq,rfl⟩:=hv;exact ⟨q,by rw [DJ h.1 hu (Oq h.2)];exact hq,rfl⟩
   ·cases h
 | .z _ _ _,_,_,_,h,_=>by simp [mV] at h
 | .ro _,_,_,_,h,_=>by simp [mV] at h
 | .rp _ _,_,_,_,h,_=>by simp [mV] at h
 | .pv _ _ _,_,_,_,h,_=>by simp [mV] at h
 | .pd _ _,_,_,_,h,_=>by simp [mV] at h
theorem BF (C:rW T P tabs G next η σ w fz r ps gs bQ):∀ (p a:List AV) (v:List Value),AV.nD next p=true->@yL T.togq P G σ fz r ps p a=true->@au T η a v->@au (Tg tabs gs ka) (qg tabs G next r η bQ) p v
 | [],a,v,hu,h,hv=>by
   letI:=T
   simp only [yL] at h;split at h
   ·simp only [au] at hv ⊢;exact hv
   ·cases h
 | p::l,a,v,hu,h,hv=>by
   letI:=T
   simp only [AV.nD,aH] at hu;simp only [yL] at h;split at h
   ·next b m'=>
    rw [aH] at h;simp only [au] at hv ⊢;obtain ⟨x,xs,rfl,k1,k2⟩:=hv;exact ⟨x,xs,rfl,Tz C p b x hu.1 h.1 k1,BF C l m' xs hu.2 h.2 k2⟩
   ·cases h
end
theorem aaZ {t:Tr AV} [gq]:∀ {l:List (Nat×AV)},NP P G σ fz r ps t l=true->∀k p,(k,p)∈l->∃v,t.get k=some v/\mV P G σ fz r ps p v=true
 | [],_,k,p,hk=>by simp at hk
 | q::l,h,k,p,hk=>by
   simp only [NP,aH] at h;rcases dP.1 hk with e | hk
   ·subst e
    have h1:=h.1;split at h1
    ·next v hv=>exact ⟨v,hv,h1⟩
    ·cases h1
   ·exact aaZ h.2 k p hk
theorem aaY [gq]:∀ {l:List (Nat×bg)},FV P G next σ fz r ps l=true->∀i o,(i,o)∈l->G < i/\i < next/\mO P G σ fz r ps i o=true
 | [],_,i,o,hk=>by simp at hk
 | q::l,h,i,o,hk=>by
   simp only [FV,aH,iK] at h;rcases dP.1 hk with e | hk
   ·subst e;exact ⟨h.1.1.1,h.1.1.2,h.1.2⟩
   ·exact aaY h.2 i o hk
theorem UQ:∀ {r:List (Nat×Option Nat)},D7 r=true->∀i j a,bW i r=some (some a)->bW j r=some (some a)->i=j
 | [],_,i,j,a,h1,_=>by simp [bW] at h1
 | p::l,h,i,j,a,h1,h2=>by
   simp only [D7,aH] at h;simp only [bW] at h1 h2;cases hb1:Nat.beq i p.1<;>cases hb2:Nat.beq j p.1<;>rw [hb1] at h1<;>rw [hb2] at h2<;>simp only [cond_true,cond_false,aT] at h1 h2
   ·exact UQ h.2 i j a h1 h2
   ·have hm:=MQ h1
    have h3:=h.1;rw [h2] at h3;have:=List.all_eq_true.1 h3 _ hm;simp at this
   ·have hm:=MQ h2
    have h3:=h.1;rw [h1] at h3;have:=List.all_eq_true.1 h3 _ hm;simp at this
   ·rw [bn hb1,bn hb2]
theorem aip (C:rW T P tabs G next η σ w fz r ps gs bQ) {i:Nat} {o:bg} (hG:G < i) (hn:i < next) (hb:yA next o=true) (h:@mO T.togq P G σ fz r ps i o=true) :
 @Live (Tg tabs gs ka) P (qg tabs G next r η bQ) w i o/\(∀id,bW i r=some (some id)->id∉fz/\∃o',σ.get id=some o'/\o'.own=o.own):=by
 letI:=T
 unfold mO at h;split at h
 ·next id hr=>
  rw [aH] at h;obtain ⟨h1,h⟩:=h;have hnf:id∉fz:=by intro hm;rw [WM.2 hm] at h1;simp at h1
  have hpl:(qg tabs G next r η bQ) i=η id:=DJ hG hn hr;split at h
  ·next l et qQ opn=>
   split at h
   ·next c Dj rw' Jy hg=>
    rw [aH,aH,aH] at h;obtain ⟨⟨⟨h2,h3⟩,h4⟩,h5⟩:=h;have e1:=bn h2;have e2:=Le.1 h3;have e3:=Le.1 h4;subst e1;subst e2;subst e3;refine ⟨?_,λid' iP=>by rw [hr] at iP;cases iP;exact ⟨hnf,_,hg,rfl⟩⟩;obtain ⟨q,hq,cs,elem,fr,hb0,rr⟩:=C.rel.obj _ _ hg rfl;refine .inl ⟨q,by rw [hpl];exact hq,cs,elem,fr,hb0, ?_⟩;have hvs:@au T η c ((cs.toList.drop q.ba).take c.length):=by
     have hfit:=rr.fits;have hle:=rr.le;refine au.of (by simp;omega) λk a hk=>?_;obtain ⟨x,hx,hv⟩:=rr.cell k a hk;have hlt:=(dO.1 hk).1;exact ⟨x,by rw [kX,ak hlt,pU];simpa using hx,hv⟩
    have hvl:=BF (ka:=ka) C l c _ hb h5 hvs;have hlen:l.length=c.length:=by
     have h6:=@au.length (Tg tabs gs ka) _ _ _ hvl;have h7:=hvs.length;omega
    exact @pR.mk (Tg tabs gs ka) P (qg tabs G next r η bQ) q l et qQ opn cs elem fr rr.fits (by rw [hlen];exact rr.le) (λe=>by rw [hlen];exact rr.shut e) (λk a hk=>by
           obtain ⟨x,hx,hv⟩:=@au.at (Tg tabs gs ka) _ _ _ hvl k a hk;have hlt:=(dO.1 hk).1;rw [kX,ak (by omega),pU] at hx;exact ⟨x,by simpa using hx,hv⟩) rr.free rr.whole rr.room
   ·cases h
  ·next j et f=>
   split at h
   ·next m Dj f' hg=>
    rw [aH,aH] at h;obtain ⟨⟨h2,h3⟩,h4⟩:=h;have e1:=bn h2;subst e1;refine ⟨?_,λid' iP=>by rw [hr] at iP;cases iP;exact ⟨hnf,_,hg,rfl⟩⟩;split at h4
    ·next m' hm=>
     have e:=bn h4;subst e;obtain ⟨e1,g,e2⟩:=BN C.vals hm;rcases C.rel.live id _ hg with ⟨q,hq,hor⟩ | ⟨hgh,n2,QY,f2,e3,hv0⟩
     ·obtain ⟨xs,cs,elem,fr,ys,k1,k2,k3,k4,k5,k6,k7,k8,k9⟩:=hor
      have k1':T.val m=some (.l xs):=k1;refine .inl ⟨q,by rw [hpl];exact hq,xs,cs,elem,fr,ys,by show gs[j]? = _;rw [e1,k1'],k2,aS.mono C.qP _ _ k3,k4,k5,k6,@pR.mk (Tg tabs gs ka) P (qg tabs G next r η bQ) q [] et true true cs elem fr k7.fits k7.le k7.shut (λk a hk=>by simp at hk) k7.free k7.whole k7.room,k8,λe=>k9 ?_⟩;rw [e] at h3;simpa using h3
     ·cases e3
      have Nh:T.val m=some (.l []):=hv0;exact .inr ⟨by rw [aaW hG hn hr];exact hgh,j,et,f,rfl,by show gs[j]? = _;rw [e1,Nh]⟩
    ·simp at h4
   ·cases h
  ·next j kk sz=>
   split at h
   ·next m zS sz' hg=>
    rw [aH,aH] at h;obtain ⟨⟨h2,h3⟩,h4⟩:=h;have e1:=Nv h2;have e2:=VQ h3;subst e1;subst e2;refine ⟨?_,λid' iP=>by rw [hr] at iP;cases iP;exact ⟨hnf,_,hg,rfl⟩⟩;split at h4
    ·next m' hm=>
     have e:=bn h4;subst e;obtain ⟨e1,g,e2⟩:=BN C.vals hm;obtain ⟨q,hq,xs,ms,clock,k1,k2,k3⟩:=C.rel.obj _ _ hg rfl;have k1':T.val m=some (.l xs):=k1;exact .inl ⟨q,by rw [hpl];exact hq,xs,ms,clock,by show gs[j]? = _;rw [e1,k1'],k2,k3.mono C.qP⟩
    ·simp at h4
   ·next hg=>
    refine ⟨?_,λid' iP=>by rw [hr] at iP;cases iP;exact ⟨hnf,_,hg,rfl⟩⟩;split at h
    ·next m hm=>
     obtain ⟨e1,g,e2⟩:=BN C.vals hm;unfold FY at h;split at h
     ·next hnn=>
      obtain ⟨g',k1,k2⟩:=T.oJ m _ hnn (by simp);rw [e2] at k1;cases k1;simp only [Nd.den,valsOf,fQ,aT] at k2;subst k2;obtain ⟨q,hq,ms,clock,hb,hsz,_⟩:=C.rel.obj _ _ hg rfl;refine .inl ⟨q,by rw [hpl];exact hq,[],ms,clock,by show gs[j]? = _;rw [e1,e2],hb, ?_⟩;simp only [pV];have:ms.size=0:=by simpa using hsz
      simpa using Wv this
     ·cases h
    ·simp at h
   ·cases h
  ·split at h
   ·next hg=>
    refine ⟨?_,λid' iP=>by rw [hr] at iP;cases iP;exact ⟨hnf,_,hg,rfl⟩⟩;obtain ⟨q,hq,ms,clock,hb,hsz,_⟩:=C.rel.obj _ _ hg rfl;exact .inl ⟨q,by rw [hpl];exact hq,ms,clock,hb,hsz,λk e hk=>by simp at hk⟩
   ·cases h
  ·cases h
 ·next hr=>
  refine ⟨?_,λid hid=>by rw [hr] at hid;cases hid⟩;split at h
  ·next j et f=>
   split at h
   ·next m hm=>
    obtain ⟨e1,g,e2⟩:=BN C.vals hm;unfold FY at h;split at h
    ·next hnn=>
     obtain ⟨g',k1,k2⟩:=T.oJ m _ hnn (by simp);rw [e2] at k1;cases k1;simp only [Nd.den,valsOf,fQ,aT] at k2;subst k2;exact .inr ⟨aaX hG hn hr,j,et,f,rfl,by show gs[j]? = _;rw [e1,e2]⟩
    ·cases h
   ·cases h
  ·cases h
 ·cases h
end
end Go.aN
namespace Go.aN
set_option linter.unusedSimpArgs false
noncomputable section
set_option linter.unusedSectionVars false
set_option linter.unusedVariables false
variable {P:Program}
variable {T:aF} {tabs:List (Nat×List AV)} {G next:Nat} {η:Env} {σ:aj} {w:World} {fz:List Nat} {r:List (Nat×Option Nat)} {ps:List Nat} {gs:List GV} {bQ:Nat->Option Obj}
def AZ (n:Nat):List (Nat×AV)->Bool
 | []=>true
 | p::l=>p.2.under n&&AZ n l
theorem XC {n:Nat}:∀ {l:List (Nat×AV)},AZ n l=true->∀k p,(k,p)∈l->p.under n=true
 | [],_,k,p,h=>by simp at h
 | q::l,h,k,p,hk=>by
   simp only [AZ,aH] at h;rcases dP.1 hk with e | hk
   ·subst e;exact h.1
   ·exact XC h.2 k p hk
def fJ.ok (s:fJ):Bool:=Nat.blt s.gn s.next&&AZ s.next s.slots&&s.objs.all λp=>yA s.next p.2
structure qZ (tabs:List (Nat×List AV)) (G:Nat):Prop where
 low:∀p∈tabs,p.1<=G
 one:∀p∈tabs,bW p.1 tabs=some p.2
theorem acV (T:aF) {η:Env} {a:AV} {v:Value} (h:a.toVal 4=some v):@VR T η a v:=@acU T η 4 a v h
theorem TD {ka:Nat} {s:fJ} (qL:T.tabs=tabs) (hlow:qZ tabs P.globals.size) (Dt:s.objs.all (λp=>yA s.next p.2)=true) (h3:s.gn < s.next) (hgn:s.gn=P.globals.size)
 (C:rW T P tabs s.gn s.next η σ w fz r ps gs bQ) (f1:∀b o,bQ b=some o->w.heap[b]? = some o) (f2:∀id o q,id∉fz->σ.get id=some o->o.own=true->η id=some q->bQ q.bl=none) (h4:D7 r=true) (h6:@FV T.togq P s.gn s.next σ fz r ps s.objs=true) :
 @SR (Tg tabs gs ka) P (qg tabs s.gn s.next r η bQ) (s.st tabs) w/\(∀i o q,(s.st tabs).get i=some o->o.own=true->(qg tabs s.gn s.next r η bQ) i=some q->∃id o',bW i r=some (some id)/\id∉fz/\σ.get id=some o'/\o'.own=true/\η id=some q):=by
 letI:=T
 have obj:∀i o,(s.st tabs).get i=some o->(s.gn < i/\i < s.next/\@Live (Tg tabs gs ka) P (qg tabs s.gn s.next r η bQ) w i o/\(∀id,bW i r=some (some id)->id∉fz/\∃o',σ.get id=some o'/\o'.own=o.own))\/
  (i<=s.gn/\∃c,o=.cells c 0 false false/\(i,c)∈tabs):=by
  intro i o hi;have hmem:=Ju hi;rcases nI.1 hmem with hmem | hmem
  ·obtain ⟨g1,g2,g3⟩:=aaY h6 i o hmem
   have hb:=List.all_eq_true.1 Dt _ hmem;obtain ⟨g4,g5⟩:=aip C g1 g2 hb g3;exact .inl ⟨g1,g2,g4,g5⟩
  ·obtain ⟨p,hp,e⟩:=qB.1 hmem
   cases e;exact .inr ⟨by rw [hgn];exact hlow.low p hp,p.2,rfl,hp⟩
 have own:∀i o q,(s.st tabs).get i=some o->o.own=true->(qg tabs s.gn s.next r η bQ) i=some q->∃id o',bW i r=some (some id)/\id∉fz/\σ.get id=some o'/\o'.own=true/\η id=some q:=by
  intro i o q hi ho hq;rcases obj i o hi with ⟨g1,g2,_,g4⟩ | ⟨_,c,rfl,_⟩
  ·have hq':(if i<=s.gn then some ⟨i,0,xP tabs i,0⟩ else if i < s.next then (match bW i r with | some (some id)=>η id | _=>none) else none)=some q:=hq
   rw [ah (by omega),ak g2] at hq';split at hq'
   ·next id hid=>
    obtain ⟨k1,o',k2,k3⟩:=g4 id hid;exact ⟨id,o',hid,k1,k2,k3.trans ho,hq'⟩
   ·cases hq'
  ·cases ho
 have anh:∀p∈tabs,@AP (qg tabs s.gn s.next r η bQ) p.1 p.2:=by
  intro p hp;obtain ⟨cs,elem,fr,k1,k2⟩:=C.rel.tabs p (by rw [qL];exact hp);exact ⟨cs,elem,fr,C.qP _ _ k1,k2⟩
 refine ⟨@SR.mk (Tg tabs gs ka) P _ _ w ?_ ?_ ?_ ?_ ?_ ?_ ?_ ?_,own⟩
 ·intro g hg
  exact ⟨_,_,NM (by omega)⟩
 ·intro i q hq
  have hq':(if i<=s.gn then some ⟨i,0,xP tabs i,0⟩ else if i < s.next then (match bW i r with | some (some id)=>η id | _=>none) else none)=some q:=hq;show i < s.next
  split at hq'
  ·omega
  ·split at hq'
   ·next h=>exact h
   ·cases hq'
 ·intro i o hi
  rcases obj i o hi with ⟨_,_,g3,_⟩ | ⟨hle,c,rfl,hmem⟩
  ·exact g3
  ·obtain ⟨cs,elem,fr,k1,k2,k3⟩:=C.rel.tabs (i,c) (by rw [qL];exact hmem)
   have hb:=C.rel.iG _ _ k1;have hsz:xP tabs i=c.length:=by unfold xP;rw [hlow.one (i,c) hmem]
   refine .inl ⟨⟨i,0,xP tabs i,0⟩,NM hle,cs,elem,fr,hb, ?_⟩;refine @pR.mk (Tg tabs gs ka) P _ _ c 0 false false cs elem fr (by simp only at k2 ⊢;omega) (by simp only;omega) (λ_=>by simp only;omega) (λk a hk=>?_) (λh=>by cases h) (λh=>absurd rfl h) (λh=>by cases h);obtain ⟨x,hx,hv⟩:=k3 k a hk;exact ⟨x,by simpa using hx,acV (Tg tabs gs ka) hv⟩
 ·intro i hg
  have hg':(decide (s.gn < i)&&decide (i < s.next)&&(match bW i r with | some (some id)=>η.gh id | some none=>true | none=>false))=true:=hg;rw [aH,aH,decide_eq_true_iff,decide_eq_true_iff] at hg';obtain ⟨⟨k1,k2⟩,k3⟩:=hg';refine ⟨?_,k2⟩;show (if i<=s.gn then some ⟨i,0,xP tabs i,0⟩ else if i < s.next then (match bW i r with | some (some id)=>η id | _=>none) else none)=none
  rw [ah (by omega),ak k2];split at k3
  ·next id hid=>rw [hid];exact (C.rel.jo id k3).1
  ·next hid=>rw [hid]
  ·cases k3
 ·intro i o i' o' q q' a1 a2 a3 a4 a5 a6
  obtain ⟨id,u,b1,b2,b3,b4,b5⟩:=own i o q a1 a2 a5;rcases obj i' o' a3 with ⟨g1,g2,_,g4⟩ | ⟨hle,c,rfl,hmem⟩
  ·have hq':(if i'<=s.gn then some ⟨i',0,xP tabs i',0⟩ else if i' < s.next then (match bW i' r with | some (some id)=>η id | _=>none) else none)=some q':=a6
   rw [ah (by omega),ak g2] at hq';split at hq'
   ·next id' iP=>
    obtain ⟨k1,u',k2,k3⟩:=g4 id' iP;exact C.rel.sep id u id' u' q q' b3 b4 k2 (λe=>a4 (by subst e;exact UQ h4 i i' id b1 iP)) b5 hq'
   ·cases hq'
  ·intro e
   rw [NM hle] at a6;cases a6;obtain ⟨cs,elem,fr,k1,_⟩:=C.rel.tabs (i',c) (by rw [qL];exact hmem);have:=C.rel.lU id u q b3 b4 b5;simp only at e;rw [e] at this;rw [k1] at this;cases this
 ·exact f1
 ·intro i o q a1 a2 a3
  obtain ⟨id,u,b1,b2,b3,b4,b5⟩:=own i o q a1 a2 a3;exact f2 id u q b2 b3 b4 b5
 ·exact anh
theorem Qh {r:List (Nat×Option Nat)}:∀ {n i:Nat},Ic r i n=true->∀j,i < j->j<=i+n->bW j r=some (some j)
 | 0,i,_,j,h1,h2=>by omega
 | n+1,i,h,j,h1,h2=>by
   simp only [Ic,aH] at h;by_cases e:j=i+1
   ·subst e;exact Oq h.1
   ·exact Qh h.2 j (by omega) (by omega)
theorem TB {w0:Base} {cu:Nat->Option Obj} {a:aX} {A:Act} {s:fJ} (qL:T.tabs=tabs) (hlow:qZ tabs P.globals.size) (hok:s.ok=true) (hF:@je T P w0 cu η σ w) (hl:σ.lock=0) (ht:@TR T P η a A) (hm:@Tv T.togq P s a σ fz r ps=true) (hps:valsOf T.val ps=some gs):KE P tabs s gs w0 cu A w:=by
 letI:=T
 unfold Tv at hm;simp only [aH,iK] at hm;obtain ⟨⟨⟨⟨⟨⟨⟨⟨k1,k2⟩,k3⟩,h1⟩,h2⟩,h3⟩,h4⟩,h5⟩,h6⟩:=hm;have k1:=bn k1;have e1:=bn h1;have e2:=bn h2;unfold fJ.ok at hok;rw [aH,aH] at hok;obtain ⟨⟨_,hbs⟩,Dt⟩:=hok;have hgn:s.gn=P.globals.size:=by rw [e2];exact ht.gn
 obtain ⟨bQ,f1,f2,f3⟩:=MK hF hl fz;have C:rW T P tabs s.gn s.next η σ w fz r ps gs bQ:=⟨hF.rel,hps,f1,f3,hgn,h3⟩
 obtain ⟨hS,own⟩:=TD (ka:=s.ka) qL hlow Dt h3 hgn C f2.rel.iG (λid o q b2 b3 b4 b5=>f2.rel.lU id o q (by rw [zQ,ah b2];exact b3) b4 b5) h4 h6;refine ⟨qg tabs s.gn s.next r η bQ, ?_, ?_⟩
 ·refine @je.mk (Tg tabs gs s.ka) P w0 cu _ _ w hS hF.kept ?_ ?_ ?_ ?_
  ·intro i o q a1 a2 a3
   obtain ⟨id,u,b1,b2,b3,b4,b5⟩:=own i o q a1 a2 a3;exact hF.own id u q b3 b4 b5
  ·exact f2.qP
  ·exact f2.oM
  ·intro i q hi
   obtain ⟨a1,a2,a3⟩:=hF.nK i q hi;have a3':i<=P.globals.size+s.ka:=by rw [k1];exact a3
   refine ⟨?_,a2,a3'⟩;rw [DJ (by omega) (by omega) (Qh k3 i (by omega) (by omega))];exact a1
 ·refine @TR.mk (Tg tabs gs s.ka) P _ _ A ?_ ?_ ht.none ?_
  ·exact hgn
  ·show A.tmps.size=s.n
   rw [e1];exact ht.size
  ·intro k p hk
   obtain ⟨v,v1,v2⟩:=aaZ h5 k p (Ju hk);obtain ⟨x,hx,hv⟩:=ht.slot k v v1;exact ⟨x,hx,Tz C p v x (XC hbs k p (Ju hk)) v2 hv⟩
end
end Go.aN
namespace Go.aN
set_option linter.unusedSimpArgs false
noncomputable section
set_option linter.unusedSectionVars false
set_option linter.unusedVariables false
variable {P:Program}
mutual
def AV.dw (f:Nat->Nat):AV->AV
 | .nd j=>.nd (f j)
 | .rx j off=>.rx (f j) off
 | .sv id j=>.sv id (f j)
 | .pv id j off=>.pv id (f j) off
 | .pd id j=>.pd id (f j)
 | .fn g fi cs=>.fn g (AV.nT f fi) (AV.nT f cs)
 | .ig t a=>.ig t (a.dw f)
 | .agg l=>.agg (AV.nT f l)
 | .dA l=>.dA (AV.nT f l)
 | .ro l=>.ro (AV.nT f l)
 | .rp a off=>.rp (a.dw f) off
 | a=>a
def AV.nT (f:Nat->Nat):List AV->List AV
 | []=>[]
 | a::l=>a.dw f::AV.nT f l
end
theorem NQ (f:Nat->Nat):∀l:List AV,AV.nT f l=l.map (AV.dw f)
 | []=>rfl
 | a::l=>by simp [AV.nT,NQ f l]
def bg.dw (f:Nat->Nat):bg->bg
 | .cells c et rw opn=>.cells (AV.nT f c) et rw opn
 | .iter s pos=>.iter s pos
 | .map es=>.map (es.map λe=>(e.1.dw f,e.2.dw f))
 | .iterM m=>.iterM m
 | .vec j et b=>.vec (f j) et b
 | .smap j kk sz=>.smap (f j) kk sz
 | .pmap es=>.pmap (es.map λe=>(e.1,e.2.dw f))
theorem bg.aiy (f:Nat->Nat) (o:bg):(o.dw f).own=o.own:=by cases o<;>rfl
section
variable {S T:aF} {f:Nat->Nat} {η:Env}
mutual
theorem VR.dw (h:∀j g,S.val j=some g->T.val (f j)=some g):∀ (a:AV) (v:Value),@VR S η a v->@VR T η (a.dw f) v
 | .b _,_,hv=>by simpa only [VR,AV.dw] using hv
 | .i _ _,_,hv=>by simpa only [VR,AV.dw] using hv
 | .s _,_,hv=>by simpa only [VR,AV.dw] using hv
 | .ji,_,hv=>by simpa only [VR,AV.dw] using hv
 | .p _ _,_,hv=>by simpa only [VR,AV.dw] using hv
 | .bP,_,hv=>by simpa only [VR,AV.dw] using hv
 | .sl _ _ _ _,_,hv=>by simpa only [VR,AV.dw] using hv
 | .nU,_,hv=>by simpa only [VR,AV.dw] using hv
 | .mp _,_,hv=>by simpa only [VR,AV.dw] using hv
 | .wQ,_,hv=>by simpa only [VR,AV.dw] using hv
 | .fn _ fi cs,_,hv=>by
   simp only [VR,AV.dw] at hv ⊢;obtain ⟨us,vs,e,h1,h2⟩:=hv;exact ⟨us,vs,e,au.dw h fi us h1,au.dw h cs vs h2⟩
 | .qN,_,hv=>by simpa only [VR,AV.dw] using hv
 | .ig _ a,_,hv=>by simp only [VR,AV.dw] at hv ⊢;obtain ⟨x,e,h1⟩:=hv;exact ⟨x,e,VR.dw h a x h1⟩
 | .agg l,_,hv=>by simp only [VR,AV.dw] at hv ⊢;obtain ⟨x,e,h1⟩:=hv;exact ⟨x,e,au.dw h l x h1⟩
 | .dA l,_,hv=>by simp only [VR,AV.dw] at hv ⊢;obtain ⟨x,e,h1⟩:=hv;exact ⟨x,e,au.dw h l x h1⟩
 | .z _ _ _,_,hv=>by simpa only [VR,AV.dw] using hv
 | .ro l,_,hv=>by
   simp only [VR,AV.dw] at hv ⊢;have hl:(AV.nT f l).length=l.length:=by rw [NQ];simp
   rcases hv with ⟨rfl,hv⟩ | ⟨bl,off,c,xs,sz,e,hc,h1,h2,h3⟩
   ·exact .inl ⟨rfl,hv⟩
   ·rw [hl]
    exact .inr ⟨bl,off,c,xs,sz,e,hc,au.dw h l xs h1,h2,λhn=>h3 (by intro e';apply hn;rw [e'];rfl)⟩
 | .rp a _,_,hv=>by
   simp only [VR,AV.dw] at hv ⊢;obtain ⟨bl,base,cs,elem,fr,x,h1,h2,h3⟩:=hv;exact ⟨bl,base,cs,elem,fr,x,h1,VR.dw h a x h2,h3⟩
 | .nd _,_,hv=>by simp only [VR,AV.dw] at hv ⊢;obtain ⟨g,h1,h2⟩:=hv;exact ⟨g,h _ _ h1,h2⟩
 | .rx _ _,_,hv=>by simp only [VR,AV.dw] at hv ⊢;obtain ⟨g,bl,base,cs,elem,fr,x,h1,h2⟩:=hv;exact ⟨g,bl,base,cs,elem,fr,x,h _ _ h1,h2⟩
 | .sv _ _,_,hv=>by simp only [VR,AV.dw] at hv ⊢;obtain ⟨xs,h1,h2⟩:=hv;exact ⟨xs,h _ _ h1,h2⟩
 | .pv _ _ _,_,hv=>by simp only [VR,AV.dw] at hv ⊢;obtain ⟨q,k,i,h1,h2,h3⟩:=hv;exact ⟨q,k,i,h1,h _ _ h2,h3⟩
 | .pd _ _,_,hv=>by simp only [VR,AV.dw] at hv ⊢;obtain ⟨xs,p,h1,h2⟩:=hv;exact ⟨xs,p,h _ _ h1,h2⟩
theorem au.dw (h:∀j g,S.val j=some g->T.val (f j)=some g):∀ (l:List AV) (vs:List Value),@au S η l vs->@au T η (AV.nT f l) vs
 | [],_,hv=>by simpa only [au,AV.nT] using hv
 | a::l,_,hv=>by
   simp only [au,AV.nT] at hv ⊢;obtain ⟨x,xs,e,h1,h2⟩:=hv;exact ⟨x,xs,e,VR.dw h a x h1,au.dw h l xs h2⟩
end
theorem OR.dw (h:∀j g,S.val j=some g->T.val (f j)=some g) {q:Place} {w:World} {o:bg} (r:@OR S P η q w o):@OR T P η q w (o.dw f):=by
 cases o with
 | cells c et qQ opn=>
   obtain ⟨cs,elem,fr,h1,⟨r1,r2,r3,r4,r5,r6,r7⟩⟩:=r;have hl:(AV.nT f c).length=c.length:=by rw [NQ];simp
   refine ⟨cs,elem,fr,h1,@pR.mk T P η q _ et qQ opn cs elem fr r1 (by rw [hl];exact r2) (λe=>by rw [hl];exact r3 e) (λk a hk=>?_) r5 r6 r7⟩;rw [NQ,jU] at hk;obtain ⟨a0,h2,rfl⟩:=aZ.1 hk;obtain ⟨x,hx,hv⟩:=r4 k a0 h2;exact ⟨x,hx,VR.dw h a0 x hv⟩
 | iter s pos=>exact r
 | map es=>
   obtain ⟨ms,clock,h1,h2,h3⟩:=r;refine ⟨ms,clock,h1,by simpa using h2,λk e hk=>?_⟩;rw [jU] at hk;obtain ⟨e0,h4,rfl⟩:=aZ.1 hk;obtain ⟨m,hm,ha,hb⟩:=h3 k e0 h4;exact ⟨m,hm,VR.dw h _ _ ha,VR.dw h _ _ hb⟩
 | iterM m=>cases m<;>exact r
 | smap j kk sz=>
   obtain ⟨xs,ms,clock,k1,k2,k3⟩:=r;exact ⟨xs,ms,clock,h _ _ k1,k2,k3⟩
 | pmap es=>
   obtain ⟨hn,ms,clock,ms',h1,hp,h2,h3⟩:=r;refine ⟨by simpa [List.map_map,Function.comp_def] using hn,ms,clock,ms',h1,hp,by simpa using h2,λk e hk=>?_⟩;rw [jU] at hk;obtain ⟨e0,h4,rfl⟩:=aZ.1 hk;obtain ⟨m,hm,ha,hb⟩:=h3 k e0 h4;exact ⟨m,hm,ha,VR.dw h _ _ hb⟩
 | vec j et b=>
   obtain ⟨xs,cs,elem,fr,ys,k1,k2,k3,k4,k5,k6,⟨r1,r2,r3,r4,r5,r6,r7⟩,k8⟩:=r;exact ⟨xs,cs,elem,fr,ys,h _ _ k1,k2,k3,k4,k5,k6,@pR.mk T P η q [] et true true cs elem fr r1 r2 r3 (λk a hk=>by simp at hk) r5 r6 r7,k8⟩
theorem Live.dw (h:∀j g,S.val j=some g->T.val (f j)=some g) {w:World} {i:Nat} {o:bg} (r:@Live S P η w i o):@Live T P η w i (o.dw f):=by
 rcases r with ⟨q,hq,hr⟩ | ⟨hg,n,et,b,rfl,hv⟩
 ·exact .inl ⟨q,hq,OR.dw h hr⟩
 ·exact .inr ⟨hg,f n,et,b,rfl,h _ _ hv⟩
end
theorem DL {α:Type}:∀ (l:List (Nat×α)) (k:Nat),(ny l).get k=bW k l
 | [],k=>by simp [ny,bW]
 | (j,u)::l,k=>by
   rw [ny,Tr.sU,bW];cases hb:Nat.beq k j with
   | true=>rw [ak (bn hb)];rfl
   | false=>rw [ah (λe=>by rw [e,Nat.beq_refl] at hb;cases hb)];exact DL l k
theorem Ru {α β:Type} (g:α->β):∀ (l:List (Nat×α)) (m:List (Nat×β)) (m':List (Nat×α)) (k:Nat) (o:β),bW k (l.map (λp=>(p.1,g p.2))++m)=some o->(∃o0,bW k (l++m')=some o0/\o=g o0)\/(bW k m=some o/\(∀o',bW k m'=some o'->bW k (l++m')=some o'))
 | [],m,m',k,o,h=>.inr ⟨h,λo' h'=>h'⟩
 | p::l,m,m',k,o,h=>by
   simp only [jV,eP,bW] at h ⊢;cases hb:Nat.beq k p.1 with
   | true=>rw [hb] at h;simp only [cond_true,aT] at h ⊢;exact .inl ⟨p.2,rfl,h.symm⟩
   | false=>rw [hb] at h;simp only [cond_false] at h ⊢;exact Ru g l m m' k o h
def fJ.KY (s:fJ) (f:Nat->Nat):aX:=⟨ny (s.slots.map λp=>(p.1,p.2.dw f)),s.n,s.gn⟩
def fJ.Ag (tabs:List (Nat×List AV)) (s:fJ) (f:Nat->Nat):aj:=⟨ny (s.objs.map (λp=>(p.1,p.2.dw f))++rO tabs),s.next,0⟩
theorem Zy {T:aF} {tabs:List (Nat×List AV)} {s:fJ} {gs:List GV} {f:Nat->Nat} {w0:Base} {w:World} {cu:Nat->Option Obj} {η:Env} (qL:T.tabs=tabs) (hka:T.ka=s.ka) (hf:∀j g,gs[j]? = some g->T.val (f j)=some g) (h:@je (Tg tabs gs s.ka) P w0 cu η (s.st tabs) w) :
 @je T P w0 cu η (s.Ag tabs f) w:=by
 obtain ⟨⟨ag9,hdom,hlive,RV,hsep,ahn,ahp,htab⟩,hkept,hown,Sr,aho,RJ⟩:=h;have hf':∀j g,(Tg tabs gs s.ka).val j=some g->T.val (f j)=some g:=hf;have obj:∀i o,(s.Ag tabs f).get i=some o->(∃o0,(s.st tabs).get i=some o0/\o=o0.dw f)\/(∃c,o=.cells c 0 false false/\(i,c)∈tabs/\(s.st tabs).get i=some o):=by
  intro i o hi;have hi':bW i (s.objs.map (λp=>(p.1,p.2.dw f))++rO tabs)=some o:=(DL _ i).symm.trans hi;rcases Ru (bg.dw f) s.objs (rO tabs) (rO tabs) i o hi' with ⟨o0,h1,h2⟩ | ⟨h1,h2⟩
  ·exact .inl ⟨o0,(DL _ i).trans h1,h2⟩
  ·have hm:=MQ h1
   obtain ⟨p,hp,e⟩:=qB.1 hm;cases e;exact .inr ⟨p.2,rfl,hp,(DL _ _).trans (h2 _ h1)⟩
 have own:∀i o,(s.Ag tabs f).get i=some o->∃o0,(s.st tabs).get i=some o0/\o0.own=o.own:=by
  intro i o hi;rcases obj i o hi with ⟨o0,h1,rfl⟩ | ⟨c,rfl,_,h1⟩
  ·exact ⟨o0,h1,(bg.aiy f o0).symm⟩
  ·exact ⟨_,h1,rfl⟩
 refine @je.mk T P w0 cu _ _ w (@SR.mk T P _ _ w ag9 hdom ?_ RV ?_ ahn ?_ ?_) hkept ?_ Sr aho (by rw [hka];exact RJ)
 ·intro i o hi
  rcases obj i o hi with ⟨o0,h1,rfl⟩ | ⟨c,rfl,hm,h1⟩
  ·exact Live.dw hf' (hlive i o0 h1)
  ·rcases hlive i _ h1 with ⟨q,hq,cs,elem,fr,hb,⟨r1,r2,r3,r4,r5,r6,r7⟩⟩ | ⟨_,_,_,_,e,_⟩
   rotate_left
   ·cases e
   obtain ⟨cs2,YZ,Zx,k1,k2,k3⟩:=htab (i,c) hm;refine .inl ⟨q,hq,cs,elem,fr,hb,@pR.mk T P _ _ c 0 false false cs elem fr r1 r2 r3 (λk a hk=>?_) r5 r6 r7⟩;obtain ⟨x,hx,hv⟩:=r4 k a hk;obtain ⟨y,hy,hv2⟩:=k3 k a hk;have:x=y:=@acW (Tg tabs gs s.ka) _ 4 a y x hv2 hv;subst this;exact ⟨x,hx,acV T hv2⟩
 ·intro i o i' o' q q' a1 a2 a3 a4 a5 a6
  obtain ⟨u,u1,u2⟩:=own i o a1;obtain ⟨u',u1',u2'⟩:=own i' o' a3;exact hsep i u i' u' q q' u1 (u2.trans a2) u1' a4 a5 a6
 ·intro i o q a1 a2 a3
  obtain ⟨u,u1,u2⟩:=own i o a1;exact ahp i u q u1 (u2.trans a2) a3
 ·rw [qL];exact htab
 ·intro i o q a1 a2 a3
  obtain ⟨u,u1,u2⟩:=own i o a1;exact hown i u q u1 (u2.trans a2) a3
theorem VD {T:aF} {tabs:List (Nat×List AV)} {s:fJ} {gs:List GV} {f:Nat->Nat} {w0:Base} {w:World} {cu:Nat->Option Obj} {A:Act} (qL:T.tabs=tabs) (hka:T.ka=s.ka) (hf:∀j g,gs[j]? = some g->T.val (f j)=some g) (h:KE P tabs s gs w0 cu A w) :
 ∃η,@je T P w0 cu η (s.Ag tabs f) w/\@TR T P η (s.KY f) A:=by
 obtain ⟨η,hF,⟨tgn,anu,anm,anv⟩⟩:=h;have hf':∀j g,(Tg tabs gs s.ka).val j=some g->T.val (f j)=some g:=hf;refine ⟨η,Zy qL hka hf hF,@TR.mk T P _ _ A tgn anu anm ?_⟩
 ·intro k v hk
  have hk':bW k (s.slots.map (λp=>(p.1,p.2.dw f))++[])=some v:=by rw [qV];exact (DL _ k).symm.trans hk
  rcases Ru (AV.dw f) s.slots [] [] k v hk' with ⟨v0,h1,rfl⟩ | ⟨h1,_⟩
  ·rw [qV] at h1
   obtain ⟨x,hx,hv⟩:=anv k v0 ((DL _ k).trans h1);exact ⟨x,hx,VR.dw hf' v0 x hv⟩
  ·simp [bW] at h1
end
end Go.aN
