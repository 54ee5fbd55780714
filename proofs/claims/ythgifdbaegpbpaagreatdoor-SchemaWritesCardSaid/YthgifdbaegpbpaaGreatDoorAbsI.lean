/- Pure programs: trees of nodes; what they compute; how a check of all their ways serves all values. -/
import Derived.Test.YthgifdbaegpbpaaGreatDoorAbsH
import Derived.Control
namespace Go.aP
noncomputable section
inductive Tree where
 | step (nd:Nd) (t:Tree)
 | ite (n:Nat) (t e:Tree)
 | ret (l:List Nat)
 | tail (f:Nat) (l:List Nat)
 | dead
 deriving Inhabited
abbrev fH:=Nat→List GV→Option (List GV)
def Tree.den (I:fH):Tree→List GV→Option (List GV)
 | .step nd t,env=>match nd.den I (fun n=>env[n]?) with
  | some g=>t.den I (env++[g])
  | none=>none
 | .ite n t e,env=>match env[n]? with
  | some (.b true)=>t.den I env
  | some (.b false)=>e.den I env
  | _=>none
 | .ret l,env=>valsOf (fun n=>env[n]?) l
 | .tail f l,env=>match valsOf (fun n=>env[n]?) l with
  | some gs=>I f gs
  | none=>none
 | .dead,_=>none
inductive Leaf where
 | ret (l:List Nat)
 | tail (f:Nat) (l:List Nat)
def Tree.chk (p:List Nd→List (Nat×Bool)→Leaf→Bool):Tree→List Nd→List (Nat×Bool)→Bool
 | .step nd t,ns,ds=>t.chk p (ns++[nd]) ds
 | .ite n t e,ns,ds=>t.chk p ns ((n,true)::ds)&&e.chk p ns ((n,false)::ds)
 | .ret l,ns,ds=>p ns ds (.ret l)
 | .tail f l,ns,ds=>p ns ds (.tail f l)
 | .dead,_,_=>true
theorem Gt {val val':Nat→Option GV} (h:∀n g,val n=some g→val' n=some g):∀ {l:List Nat} {gs:List GV},valsOf val l=some gs→valsOf val' l=some gs
 | [],gs,hv=>hv
 | n::l,gs,hv=>by
  simp only [valsOf] at hv ⊢
  split at hv
  ·next g r h1 h2=>rw [h n g h1,Gt h h2];exact hv
  ·cases hv
theorem Nd.aad {I:fH} {val val':Nat→Option GV} (h:∀n g,val n=some g→val' n=some g) {nd:Nd} {g:GV} (hd:nd.den I val=some g):nd.den I val'=some g:=by
 cases nd<;>simp only [Nd.den] at hd ⊢
 case ci=>exact hd
 case cb=>exact hd
 case cs=>exact hd
 case arg=>exact hd
 case mk l=>
  split at hd
  ·next gs hg=>rw [Gt h hg];exact hd
  ·cases hd
 case ml l=>
  obtain ⟨gs,hg,e⟩:=Option.map_eq_some_iff.1 hd
  rw [Gt h hg];simpa using e
 case call f l j=>
  split at hd
  ·next gs hg=>rw [Gt h hg];exact hd
  ·cases hd
 case upd size off a i vs=>
  split at hd
  ·next xs k j gs h1 h2 h3=>rw [h _ _ h1,h _ _ h2,Gt h h3];exact hd
  ·cases hd
 all_goals
  split at hd
  all_goals first
   | (cases hd;done)
   | (simp only [h _ _ (by assumption)];exact hd)
   | (rename_i h1 h2 h3;rw [h _ _ h1,h _ _ h2,h _ _ h3];exact hd)
   | (rename_i h1 h2;rw [h _ _ h1,h _ _ h2];exact hd)
   | (rename_i h1;rw [h _ _ h1];exact hd)
structure vH (I:fH) (ns:List Nd) (ds:List (Nat×Bool)) (env:List GV):Prop where
 len:ns.length=env.length
 node:∀ (n:Nat) nd,ns[n]? = some nd→nd≠.arg→∃g,env[n]? = some g∧nd.den I (fun k=>env[k]?)=some g
 dec:∀ (n:Nat) (b:Bool),(n,b)∈ds→env[n]? = some (.b b)
theorem IQ {α:Type} {l:List α} {x a:α} {n:Nat} (h:l[n]? = some a):(l++[x])[n]? = some a:=by
 have:=(List.getElem?_eq_some_iff.1 h).1
 rw [List.getElem?_append_left this];exact h
theorem Tree.BZ {I:fH} {p:List Nd→List (Nat×Bool)→Leaf→Bool}:∀ (t:Tree) {ns:List Nd} {ds:List (Nat×Bool)} {env out:List GV},t.chk p ns ds=true→vH I ns ds env→t.den I env=some out→
 ∃ns' ds' env' lf,p ns' ds' lf=true∧vH I ns' ds' env'∧(∃more,env'=env++more)∧(match lf with | .ret l=>valsOf (fun n=>env'[n]?) l=some out | .tail f l=>∃gs,valsOf (fun n=>env'[n]?) l=some gs∧I f gs=some out)
 | .step nd t,ns,ds,env,out,hc,hw,hd=>by
  simp only [Tree.den] at hd
  split at hd
  ·next g hg=>
   have hw':vH I (ns++[nd]) ds (env++[g]):=by
    refine ⟨by simp [hw.len],fun n x hn hx=>?_,fun n b hb=>IQ (hw.dec n b hb)⟩
    by_cases hlt:n < ns.length
    ·rw [List.getElem?_append_left hlt] at hn
     obtain ⟨g',h1,h2⟩:=hw.node n x hn hx
     exact ⟨g',IQ h1,Nd.aad (fun k a ha=>IQ ha) h2⟩
    ·have hlen:n=ns.length:=by
      have:=(List.getElem?_eq_some_iff.1 hn).1
      simp at this;omega
     subst hlen
     simp at hn
     subst hn
     exact ⟨g,by rw [hw.len];simp,Nd.aad (fun k a ha=>IQ ha) hg⟩
   obtain ⟨ns',ds',env',lf,h1,h2,⟨more,h3⟩,h4⟩:=Tree.BZ t hc hw' hd
   exact ⟨ns',ds',env',lf,h1,h2,⟨[g]++more,by rw [h3,List.append_assoc]⟩,h4⟩
  ·cases hd
 | .ite n t e,ns,ds,env,out,hc,hw,hd=>by
  simp only [Tree.chk,Bool.and_eq_true] at hc
  simp only [Tree.den] at hd
  split at hd
  ·next hn=>
   refine Tree.BZ t hc.1 ⟨hw.len,hw.node,fun k b hb=>?_⟩ hd
   rcases List.mem_cons.1 hb with hb | hb
   ·cases hb;exact hn
   ·exact hw.dec k b hb
  ·next hn=>
   refine Tree.BZ e hc.2 ⟨hw.len,hw.node,fun k b hb=>?_⟩ hd
   rcases List.mem_cons.1 hb with hb | hb
   ·cases hb;exact hn
   ·exact hw.dec k b hb
  ·cases hd
 | .ret l,ns,ds,env,out,hc,hw,hd=>⟨ns,ds,env,.ret l,hc,hw,⟨[],by simp⟩,hd⟩
 | .tail f l,ns,ds,env,out,hc,hw,hd=>by
  simp only [Tree.den] at hd
  split at hd
  ·next gs hg=>exact ⟨ns,ds,env,.tail f l,hc,hw,⟨[],by simp⟩,gs,hg,hd⟩
  ·cases hd
 | .dead,_,_,_,_,_,_,hd=>by simp [Tree.den] at hd
inductive nU where
 | sc
 | ag (n:Nat)
def lC:List nU→List GV→Bool
 | [],[]=>true
 | .sc::l,g::m=>g.scalar&&lC l m
 | .ag n::l,g::m=>!g.scalar&&Nat.beq g.cells.length n&&lC l m
 | _,_=>false
inductive aF where
 | tree (n:Nat) (t:Tree)
 | fn (uZ zh:List nU) (t:Tree)
 | wX (f:List GV→Option (List GV))
def aF.den (I:fH):aF→List GV→Option (List GV)
 | .tree n t,gs=>if gs.length=n then t.den I gs else none
 | .fn uZ zh t,gs=>if lC uZ gs=true then match t.den I gs with
  | some out=>if lC zh out=true then some out else none
  | none=>none
  else none
 | .wX f,gs=>f gs
abbrev fG:=Nat→Option aF
def fG.run (TT:fG):Nat→fH
 | 0,_,_=>none
 | n+1,k,gs=>match TT k with
  | some d=>d.den (fG.run TT n) gs
  | none=>none
def fH.le (I J:fH):Prop:=∀k gs out,I k gs=some out→J k gs=some out
theorem Nd.sG {I J:fH} (h:I.le J) {val:Nat→Option GV} {nd:Nd} {g:GV} (hd:nd.den I val=some g):nd.den J val=some g:=by
 cases nd with
 | call f l j=>
  simp only [Nd.den] at hd ⊢
  split at hd
  ·next gs hg=>
   split at hd
   ·next r hr=>rw [h f gs r hr];exact hd
   ·cases hd
  ·cases hd
 | _=>exact hd
theorem Tree.sG {I J:fH} (h:I.le J):∀ (t:Tree) {env out:List GV},t.den I env=some out→t.den J env=some out
 | .step nd t,env,out,hd=>by
  simp only [Tree.den] at hd ⊢
  split at hd
  ·next g hg=>rw [Nd.sG h hg];exact Tree.sG h t hd
  ·cases hd
 | .ite n t e,env,out,hd=>by
  simp only [Tree.den] at hd ⊢
  split at hd
  ·exact Tree.sG h t hd
  ·exact Tree.sG h e hd
  ·cases hd
 | .ret l,env,out,hd=>hd
 | .tail f l,env,out,hd=>by
  simp only [Tree.den] at hd ⊢
  split at hd
  ·exact h _ _ _ hd
  ·cases hd
 | .dead,_,_,hd=>by simp [Tree.den] at hd
theorem aF.sG {I J:fH} (h:I.le J) (d:aF) {gs out:List GV} (hd:d.den I gs=some out):d.den J gs=some out:=by
 cases d with
 | tree n t=>
  simp only [aF.den] at hd ⊢
  split at hd
  ·next hn=>rw [if_pos hn];exact t.sG h hd
  ·cases hd
 | fn sh so t=>
  simp only [aF.den] at hd ⊢
  split at hd
  ·next hf=>
   split at hd
   ·next o ho=>rw [if_pos hf,t.sG h ho];exact hd
   ·cases hd
  ·cases hd
 | wX f=>exact hd
theorem fG.adB (TT:fG):∀n,(TT.run n).le (TT.run (n+1))
 | 0,k,gs,out,h=>by simp [fG.run] at h
 | n+1,k,gs,out,h=>by
  simp only [fG.run] at h
  rw [fG.run]
  split at h
  ·next d hd=>exact d.sG (fG.adB TT n) h
  ·cases h
theorem fG.JO (TT:fG) {n m:Nat} (h:n≤m):(TT.run n).le (TT.run m):=by
 induction h with
 | refl=>exact fun _ _ _ h=>h
 | step _ ih=>exact fun k gs out hh=>fG.adB TT _ k gs out (ih k gs out hh)
open Classical in
def fG.lim (TT:fG):fH:=fun k gs=>if h:∃out n,TT.run n k gs=some out then some (Classical.choose h) else none
theorem fG.Ai {TT:fG} {n k:Nat} {gs out:List GV} (h:TT.run n k gs=some out):TT.lim k gs=some out:=by
 unfold fG.lim
 have hex:∃out n,TT.run n k gs=some out:=⟨out,n,h⟩
 rw [dif_pos hex]
 obtain ⟨m,hm⟩:=Classical.choose_spec hex
 have h1:=TT.JO (Nat.le_max_left n m) k gs out h
 have h2:=TT.JO (Nat.le_max_right n m) k gs _ hm
 rw [h1] at h2
 exact h2.symm
theorem fG.QO {TT:fG} {k:Nat} {gs out:List GV} (h:TT.lim k gs=some out):∃n,TT.run n k gs=some out:=by
 unfold fG.lim at h
 split at h
 ·next hex=>
  cases h
  exact Classical.choose_spec hex
 ·cases h
theorem Nd.zQ {TT:fG} {val:Nat→Option GV} {nd:Nd} {g:GV} (hd:nd.den TT.lim val=some g):∃n,nd.den (TT.run n) val=some g:=by
 cases nd with
 | call f l j=>
  simp only [Nd.den] at hd ⊢
  split at hd
  ·next gs hg=>
   split at hd
   ·next r hr=>
    obtain ⟨n,hn⟩:=fG.QO hr
    exact ⟨n,by rw [hn];exact hd⟩
   ·cases hd
  ·cases hd
 | _=>exact ⟨0,hd⟩
theorem Tree.zQ {TT:fG}:∀ (t:Tree) {env out:List GV},t.den TT.lim env=some out→∃n,t.den (TT.run n) env=some out
 | .step nd t,env,out,hd=>by
  simp only [Tree.den] at hd
  split at hd
  ·next g hg=>
   obtain ⟨n,hn⟩:=Nd.zQ hg
   obtain ⟨m,hm⟩:=Tree.zQ t hd
   refine ⟨max n m, ?_⟩
   simp only [Tree.den]
   rw [Nd.sG (TT.JO (Nat.le_max_left n m)) hn]
   exact t.sG (TT.JO (Nat.le_max_right n m)) hm
  ·cases hd
 | .ite n t e,env,out,hd=>by
  simp only [Tree.den] at hd ⊢
  split at hd
  ·next h=>obtain ⟨m,hm⟩:=Tree.zQ t hd;exact ⟨m,hm⟩
  ·next h=>obtain ⟨m,hm⟩:=Tree.zQ e hd;exact ⟨m,hm⟩
  ·cases hd
 | .ret l,env,out,hd=>⟨0,hd⟩
 | .tail f l,env,out,hd=>by
  simp only [Tree.den] at hd ⊢
  split at hd
  ·exact fG.QO hd
  ·cases hd
 | .dead,_,_,hd=>by simp [Tree.den] at hd
theorem fG.ajM {TT:fG} {k:Nat} {d:aF} (hk:TT k=some d) {gs out:List GV} (h:d.den TT.lim gs=some out):TT.lim k gs=some out:=by
 cases d with
 | tree m t=>
  simp only [aF.den] at h
  split at h
  ·next hm=>
   obtain ⟨n,hn⟩:=Tree.zQ t h
   exact fG.Ai (n:=n+1) (by simp only [fG.run,hk,aF.den,if_pos hm];exact hn)
  ·cases h
 | fn sh so t=>
  simp only [aF.den] at h
  split at h
  ·next hf=>
   split at h
   ·next o ho=>
    obtain ⟨n,hn⟩:=Tree.zQ t ho
    exact fG.Ai (n:=n+1) (by simp only [fG.run,hk,aF.den,hf,if_true,hn];exact h)
   ·cases h
  ·cases h
 | wX f=>exact fG.Ai (n:=1) (by simp only [fG.run,hk];exact h)
theorem fG.ajO {TT:fG} {C:Nat→List GV→List GV→Prop} (h:∀k d,TT k=some d→∀I:fH,(∀k gs out,I k gs=some out→C k gs out)→∀gs out,d.den I gs=some out→C k gs out):∀k gs out,TT.lim k gs=some out→C k gs out:=by
 have:∀n k gs out,TT.run n k gs=some out→C k gs out:=by
  intro n
  induction n with
  | zero=>intro k gs out hh;simp [fG.run] at hh
  | succ n ih=>
   intro k gs out hh
   simp only [fG.run] at hh
   split at hh
   ·next d hd=>exact h k d hd _ ih gs out hh
   ·cases hh
 intro k gs out hh
 obtain ⟨n,hn⟩:=fG.QO hh
 exact this n k gs out hn
end
end Go.aP
namespace Go.aP
noncomputable section
set_option linter.unusedSectionVars false
set_option linter.unusedVariables false
variable {P:Program}
def uf (P:Program) (c:Code) (Q:Exit→Act→World→Prop) (a:Act) (w:World):Prop:=∀b k cs,∃e a' w',Q e a' w'∧Arrives P (lone (b.at a (.code c::.inLoop c::k)) cs w) b k cs e a' w'
theorem uf.step {c:Code} {Q:Exit→Act→World→Prop} {a:Act} {w:World} (h:c.wp P (Exit.then (uf P c Q) Q) a w):uf P c Q a w:=by
 intro b k cs
 obtain ⟨e,a₁,w₁,hq,harr⟩:=h b (.inLoop c::k) cs
 cases e with
 | normal=>
  obtain ⟨e₂,a₂,w₂,hq₂,harr₂⟩:=hq b k cs
  exact ⟨e₂,a₂,w₂,hq₂,.of_steps (Steps.trans harr (.one step_inLoop)) harr₂⟩
 | exit id=>exact ⟨_,a₁,w₁,hq,.pass (x:=.inLoop c) rfl (fun _ _=>.inl (by simp)) harr⟩
 | goto l=>exact ⟨_,a₁,w₁,hq,.pass (x:=.inLoop c) rfl (fun _ _=>.inl (by simp)) harr⟩
 | ret=>exact ⟨_,a₁,w₁,hq,.pass (x:=.inLoop c) rfl (fun _ _=>.inl (by simp)) harr⟩
 | panic ch=>exact ⟨_,a₁,w₁,hq,.pass (x:=.inLoop c) rfl (fun _ _=>.inl (by simp)) harr⟩
 | outgrown=>exact ⟨_,a₁,w₁,hq,.pass (x:=.inLoop c) rfl (fun _ _=>.inl (by simp)) harr⟩
theorem uf.loop {c:Code} {Q:Exit→Act→World→Prop} {a:Act} {w:World} (h:uf P c Q a w):(Code.loop c).wp P Q a w:=by
 intro b k cs
 obtain ⟨e,a',w',hq,harr⟩:=h b k cs
 exact ⟨e,a',w',hq,.of_steps (.one step_loop) harr⟩
section
variable [aC]
def AT (P:Program) (c:Code) (a:aY) (σ:ah) (Q:dw→aY→ah→Prop):Prop:=
 ∀w0 bY η w A K,ig P w0 bY η σ w→σ.lock=0→TR P η a A→(∀e a' σ' η' A' w',Q e a' σ'→ig P w0 bY η' σ' w'→σ'.lock=0→TR P η' a' A'→K e.toExit A' w')→c.wp P K A w
variable {c b x y z:Code} {a a' a2:aY} {σ σ' σ2:ah} {Q R:dw→aY→ah→Prop}
theorem AT.mono (h:AT P c a σ R) (hq:∀e a' σ',R e a' σ'→Q e a' σ'):AT P c a σ Q:=
 fun w0 bY η w A K hF hl ht hK=>h w0 bY η w A K hF hl ht fun e a' σ' η' A' w' hr=>hK e a' σ' η' A' w' (hq _ _ _ hr)
def SB (P:Program) (y:Code) (Q:dw→aY→ah→Prop):dw→aY→ah→Prop
 | .normal,a,σ=>AT P y a σ Q
 | e,a,σ=>Q e a σ
theorem AT.seq (h:AT P x a σ (SB P y Q)):AT P (.seq x y) a σ Q:=by
 intro w0 bY η w A K hF hl ht hK
 refine wp_seq ?_
 refine h w0 bY η w A _ hF hl ht ?_
 intro e a' σ' η' A' w' hq hF' hl' ht'
 cases e with
 | normal=>exact hq w0 bY η' w' A' K hF' hl' ht' hK
 | exit id=>exact hK _ a' σ' η' A' w' hq hF' hl' ht'
 | ret=>exact hK _ a' σ' η' A' w' hq hF' hl' ht'
theorem AT.cond {o:Operand} {t:Bool} (ho:dB (a.eval o)=some (.b t)) (h:AT P (if t then y else z) a σ Q):AT P (.cond o y z) a σ Q:=by
 intro w0 bY η w A K hF hl ht hK
 obtain ⟨vd,ho,himp⟩:=zO ho
 have hv:=himp _ _ (EO hF.rel ht o _ ho)
 simp only [VR] at hv
 exact wp_cond hv (h w0 bY η w A K hF hl ht hK)
def zH (id:Nat) (Q:dw→aY→ah→Prop):dw→aY→ah→Prop
 | .exit id',a,σ=>if id'=id then Q .normal a σ else Q (.exit id') a σ
 | e,a,σ=>Q e a σ
theorem AT.block {id:Nat} (h:AT P b a σ (zH id Q)):AT P (.block id b) a σ Q:=by
 intro w0 bY η w A K hF hl ht hK
 refine wp_block ?_
 refine h w0 bY η w A _ hF hl ht ?_
 intro e a' σ' η' A' w' hq hF' hl' ht'
 cases e with
 | normal=>exact hK .normal a' σ' η' A' w' hq hF' hl' ht'
 | ret=>exact hK .ret a' σ' η' A' w' hq hF' hl' ht'
 | exit id'=>
  simp only [zH] at hq
  simp only [dw.toExit,Exit.inBlock]
  split at hq
  ·next e=>rw [if_pos e];exact hK .normal a' σ' η' A' w' hq hF' hl' ht'
  ·next e=>rw [if_neg e];exact hK (.exit id') a' σ' η' A' w' hq hF' hl' ht'
def vw (P:Program) (b:Code) (a:aY) (σ:ah) (Q:dw→aY→ah→Prop):Prop:=
 ∀w0 bY η w A K,ig P w0 bY η σ w→σ.lock=0→TR P η a A→(∀e a' σ' η' A' w',Q e a' σ'→ig P w0 bY η' σ' w'→σ'.lock=0→TR P η' a' A'→K e.toExit A' w')→uf P b K A w
theorem vw.at (h:vw P b a σ Q):AT P (.loop b) a σ Q:=
 fun w0 bY η w A K hF hl ht hK=>(h w0 bY η w A K hF hl ht hK).loop
def Qw (P:Program) (b:Code) (Q:dw→aY→ah→Prop):dw→aY→ah→Prop
 | .normal,a,σ=>vw P b a σ Q
 | e,a,σ=>Q e a σ
theorem vw.step (h:AT P b a σ (Qw P b Q)):vw P b a σ Q:=by
 intro w0 bY η w A K hF hl ht hK
 refine uf.step ?_
 refine h w0 bY η w A _ hF hl ht ?_
 intro e a' σ' η' A' w' hq hF' hl' ht'
 cases e with
 | normal=>exact hq w0 bY η' w' A' K hF' hl' ht' hK
 | exit id=>exact hK _ a' σ' η' A' w' hq hF' hl' ht'
 | ret=>exact hK _ a' σ' η' A' w' hq hF' hl' ht'
theorem AT.run {run:Code→aY→ah→Option (dw×aY×ah)} (hr:D9 P run) {e:dw} (h:run c a σ=some (e,a',σ')) (hq:Q e a' σ'):AT P c a σ Q:=by
 intro w0 bY η w A K hF hl ht hK
 refine hr c a σ e a' σ' h η w A K hF.rel ht ?_
 intro η' A' w' hst ht'
 exact hK e a' σ' η' A' w' hq (hF.step hl hst) (hst.lock.trans hl) ht'
end
inductive AC where
 | plain (c:Code)
 | seq (x y:AC)
 | cond (o:Operand) (y z:AC)
 | block (id:Nat) (b:AC)
 | loop (k:Nat) (b:Code)
 | peel (x:AC) (k:Nat) (b:Code)
def AC.erase:AC→Code
 | .plain c=>c
 | .seq x y=>.seq x.erase y.erase
 | .cond o y z=>.cond o y.erase z.erase
 | .block id b=>.block id b.erase
 | .loop _ b=>.loop b
 | .peel _ _ b=>.loop b
def AC.Good:AC→Prop
 | .plain _=>True
 | .seq x y=>x.Good∧y.Good
 | .cond _ y z=>y.Good∧z.Good
 | .block _ b=>b.Good
 | .loop _ _=>True
 | .peel x _ b=>x.erase=b∧x.Good
def iU (ps:List Nat):Code→Nat→AC×Nat
 | .seq x y,n=>match iU ps x n with
  | (a,n1)=>match iU ps y n1 with
   | (b,n2)=>(.seq a b,n2)
 | .cond o y z,n=>match iU ps y n with
  | (a,n1)=>match iU ps z n1 with
   | (b,n2)=>(.cond o a b,n2)
 | .block id b,n=>match iU ps b n with
  | (a,n1)=>(.block id a,n1)
 | .loop b,n=>if ps.contains (2 * n+1) then (.plain (.loop b),n+1) else match iU ps b (n+1) with
  | (x,n1)=>if ps.contains (2 * n) then (.peel x n b,n1) else (.loop n b,n+1)
 | c,n=>(.plain c,n)
def lG (ps:List Nat) (c:Code):AC:=(iU ps c 0).1
theorem ru (ps:List Nat):∀ (c:Code) (n:Nat),(iU ps c n).1.erase=c∧(iU ps c n).1.Good
 | .seq x y,n=>by
  have h1:=ru ps x n
  have h2:=ru ps y (iU ps x n).2
  simp only [iU,AC.erase,AC.Good]
  exact ⟨by rw [h1.1,h2.1],h1.2,h2.2⟩
 | .cond o y z,n=>by
  have h1:=ru ps y n
  have h2:=ru ps z (iU ps y n).2
  simp only [iU,AC.erase,AC.Good]
  exact ⟨by rw [h1.1,h2.1],h1.2,h2.2⟩
 | .block id b,n=>by
  have h1:=ru ps b n
  simp only [iU,AC.erase,AC.Good]
  exact ⟨by rw [h1.1],h1.2⟩
 | .loop b,n=>by
  have h1:=ru ps b (n+1)
  simp only [iU]
  split
  ·exact ⟨rfl,trivial⟩
  ·split
   ·exact ⟨rfl,h1.1,h1.2⟩
   ·exact ⟨rfl,trivial⟩
 | .skip,_ | .region _ _ _,_ | .rangeFunc _ _ _ _,_ | .exit _,_ | .scope _,_ | .label _,_ | .goto _,_ | .ret,_ | .refuse _,_=>⟨rfl,trivial⟩
def AC.kU (k:Nat) (b:Code):AC→Prop
 | .plain _=>False
 | .seq x y=>x.kU k b∨y.kU k b
 | .cond _ y z=>y.kU k b∨z.kU k b
 | .block _ x=>x.kU k b
 | .loop k' b'=>k'=k∧b'=b
 | .peel x k' b'=>(k'=k∧b'=b)∨x.kU k b
abbrev Ns:=Nat→aY→ah→Option (dw×aY×ah)
def pO [fF] (ls:Ns) (run:Code→aY→ah→Option (dw×aY×ah)):AC→aY→ah→Option (dw×aY×ah)
 | .plain c,a,σ=>run c a σ
 | .seq x y,a,σ=>match pO ls run x a σ with
  | some (.normal,a',σ')=>pO ls run y a' σ'
  | r=>r
 | .cond o y z,a,σ=>match dB (a.eval o) with
  | some (.b t)=>if t then pO ls run y a σ else pO ls run z a σ
  | _=>none
 | .block id b,a,σ=>match pO ls run b a σ with
  | some (.exit id',a',σ')=>if id'=id then some (.normal,a',σ') else some (.exit id',a',σ')
  | r=>r
 | .loop k _,a,σ=>ls k a σ
 | .peel x k _,a,σ=>match pO ls run x a σ with
  | some (.normal,a',σ')=>ls k a' σ'
  | r=>r
theorem NC [aC] {ls:Ns} {run:Code→aY→ah→Option (dw×aY×ah)} (hr:D9 P run):∀ (ac:AC),ac.Good→(∀k b,ac.kU k b→∀a σ e a' σ',ls k a σ=some (e,a',σ')→∀Q:dw→aY→ah→Prop,Q e a' σ'→vw P b a σ Q)→
 ∀ (a:aY) (σ:ah) (e:dw) (a':aY) (σ':ah),pO ls run ac a σ=some (e,a',σ')→∀Q:dw→aY→ah→Prop,Q e a' σ'→AT P ac.erase a σ Q:=by
 intro ac
 induction ac with
 | plain c=>intro hg hl a σ e a' σ' h Q hq;exact AT.run hr h hq
 | loop k b=>intro hg hl a σ e a' σ' h Q hq;exact (hl k b ⟨rfl,rfl⟩ a σ e a' σ' h Q hq).at
 | peel x k b ih=>
  intro hg hl a σ e a' σ' h Q hq
  simp only [pO] at h
  refine vw.at (vw.step ?_)
  obtain ⟨rfl,hg⟩:=hg
  split at h
  ·next a1 σ1 h1=>
   exact ih hg (fun k' b' hk=>hl k' b' (.inr hk)) a σ _ a1 σ1 h1 (Qw P x.erase Q) (hl k _ (.inl ⟨rfl,rfl⟩) a1 σ1 e a' σ' h Q hq)
  ·next hne=>
   refine ih hg (fun k' b' hk=>hl k' b' (.inr hk)) a σ e a' σ' h (Qw P x.erase Q) ?_
   cases e with
   | normal=>exact absurd h (by intro e';exact hne _ _ e')
   | exit id=>exact hq
   | ret=>exact hq
 | seq x y ihx ihy=>
  intro hg hl a σ e a' σ' h Q hq
  simp only [pO] at h
  split at h
  ·next a1 σ1 h1=>
   exact AT.seq (ihx hg.1 (fun k b hk=>hl k b (.inl hk)) a σ _ a1 σ1 h1 (SB P y.erase Q) (ihy hg.2 (fun k b hk=>hl k b (.inr hk)) a1 σ1 e a' σ' h Q hq))
  ·next hne=>
   refine AT.seq (ihx hg.1 (fun k b hk=>hl k b (.inl hk)) a σ e a' σ' h (SB P y.erase Q) ?_)
   cases e with
   | normal=>exact absurd h (by intro e';exact hne _ _ e')
   | exit id=>exact hq
   | ret=>exact hq
 | cond o y z ihy ihz=>
  intro hg hl a σ e a' σ' h Q hq
  simp only [pO] at h
  split at h
  ·next t ho=>
   refine AT.cond ho ?_
   cases t with
   | true=>exact ihy hg.1 (fun k b hk=>hl k b (.inl hk)) a σ e a' σ' h Q hq
   | false=>exact ihz hg.2 (fun k b hk=>hl k b (.inr hk)) a σ e a' σ' h Q hq
  ·cases h
 | block id b ih=>
  intro hg hl a σ e a' σ' h Q hq
  simp only [pO] at h
  split at h
  ·next id' a1 σ1 h1=>
   split at h
   ·next e1=>
    cases h
    exact AT.block (ih hg (fun k b hk=>hl k b hk) a σ _ _ _ h1 (zH id Q) (by simp only [zH];rw [if_pos e1];exact hq))
   ·next e1=>
    cases h
    exact AT.block (ih hg (fun k b hk=>hl k b hk) a σ _ _ _ h1 (zH id Q) (by simp only [zH];rw [if_neg e1];exact hq))
  ·next hne=>
   refine AT.block (ih hg (fun k b hk=>hl k b hk) a σ e a' σ' h (zH id Q) ?_)
   cases e with
   | normal=>exact hq
   | exit id'=>exact absurd h (by intro e';exact hne _ _ _ e')
   | ret=>exact hq
end
end Go.aP
namespace Go.aP
noncomputable section
set_option linter.unusedSectionVars false
set_option linter.unusedVariables false
set_option linter.unusedSimpArgs false
variable {P:Program}
def xE:List Value→Value
 | [v]=>v
 | l=>.tuple ⟨l⟩
structure qY (tabs:List (Nat×List AV)) (ro:Nat→Option Obj) (w:World):Prop where
 at':∀b o,ro b=some o→w.heap[b]? = some o
 tab:∀p∈tabs,∃cs elem fr,ro p.1=some (.cells cs elem fr)∧p.2.length≤cs.size∧∀ (k:Nat) a,p.2[k]? = some a→∃x,cs[k]? = some x∧a.toVal 4=some x
structure D8 (ro ro':Nat→Option Obj) (w w':World):Prop where
 kept:Kept w w'
 le:∀b o,ro b=some o→ro' b=some o
 new:∀b,ro' b≠none→ro b≠none∨w.heap.size≤b
 at':∀b o,ro' b=some o→w'.heap[b]? = some o
def qQ:List (Option FuncId)→List Value→List Value
 | none::st,v::vs=>v::qQ st vs
 | none::_,[]=>[]
 | some g::st,vs=>.func (.func g) ⟨[]⟩ ⟨[]⟩::qQ st vs
 | [],vs=>vs
def qA:List (Option FuncId)→List AV→List AV
 | none::st,v::vs=>v::qA st vs
 | none::_,[]=>[]
 | some g::st,vs=>.fn g [] []::qA st vs
 | [],vs=>vs
def vk:List (Option FuncId)→List AV→Option (List AV)
 | [],l=>some l
 | none::st,a::l=>(vk st l).map (a::·)
 | some g::st,.fn g' [] []::l=>if g'=g then vk st l else none
 | _,_=>none
def ae4 (P:Program) (tabs:List (Nat×List AV)) (f:FuncId) (st:List (Option FuncId)) (gs out:List GV):Prop:=∀ro w vs,qY tabs ro w→aS ro gs vs→iZ P f ⟨qQ st vs⟩ w fun v w'=>∃ro',D8 ro ro' w w'∧∃us,v=xE us∧aS ro' out us
section
variable [aC]
theorem MP {η:Env}:∀ {st:List (Option FuncId)} {l r:List AV} {vs:List Value},vk st l=some r→aj η l vs→∃vs',vs=qQ st vs'∧aj η r vs'
 | [],l,r,vs,h,hv=>by
  simp only [vk,Option.some.injEq] at h;subst h
  exact ⟨vs,rfl,hv⟩
 | none::st,[],r,vs,h,hv=>by simp [vk] at h
 | none::st,a::l,r,vs,h,hv=>by
  simp only [vk,Option.map_eq_some_iff] at h
  obtain ⟨r',h1,rfl⟩:=h
  obtain ⟨x,xs,rfl,hx,hxs⟩:=hv
  obtain ⟨vs',rfl,h2⟩:=MP h1 hxs
  exact ⟨x::vs',rfl,aj.cons hx h2⟩
 | some g::st,[],r,vs,h,hv=>by simp [vk] at h
 | some g::st,a::l,r,vs,h,hv=>by
  unfold vk at h
  split at h
  ·next e=>cases e
  ·next e _=>cases e
  ·next g0 st0 g' l0 e1 e2=>
   cases e1;cases e2
   split at h
   ·next e=>
    subst e
    obtain ⟨x,xs,rfl,hx,hxs⟩:=hv
    obtain ⟨vs',rfl,h2⟩:=MP h hxs
    simp only [VR] at hx
    obtain ⟨us,ws,rfl,h3,h4⟩:=hx
    simp only [aj] at h3 h4
    subst h3;subst h4
    exact ⟨vs',rfl,h2⟩
   ·cases h
  ·cases h
theorem JG {η:Env}:∀ {st:List (Option FuncId)} {l:List AV} {vs:List Value},aj η l vs→aj η (qA st l) (qQ st vs)
 | [],l,vs,hv=>hv
 | none::st,[],vs,hv=>by simp only [aj] at hv;subst hv;simp [qA,qQ,aj]
 | none::st,a::l,vs,hv=>by
  obtain ⟨x,xs,rfl,hx,hxs⟩:=hv
  exact aj.cons hx (JG hxs)
 | some g::st,l,vs,hv=>aj.cons (by simp only [VR];exact ⟨[],[],rfl,by simp [aj],by simp [aj]⟩) (JG hv)
theorem SR.JL {η:Env} {σ:ah} {w:World} (h:SR P η σ w):qY aC.tabs η.ro w:=⟨h.fP,h.tabs⟩
theorem St.akT {η:Env} {σ:ah} {w w':World} {ro':Nat→Option Obj} (h:SR P η σ w) (k:D8 η.ro ro' w w'):St P η σ w ⟨η.pl,ro',η.gh⟩ σ w':=by
 have hle:(η:Env).le ⟨η.pl,ro',η.gh⟩:=⟨fun _ _ h=>h,k.le,fun _ h=>h⟩
 refine ⟨hle,⟨h.jr,h.dom,fun id o ho=>?_,h.gW,h.sep,k.at',fun id o q a1 a2 a3=>?_,fun p hp=>(h.tabs p hp).mono hle⟩,k.kept.size,fun bl hb _=>k.kept.keep bl hb,fun id o q h1 h2 h3 h4=>.inr ⟨id,o,q,h1,h2,h3,h4,rfl⟩,k.kept.os,k.kept.tape,k.kept.output,rfl,Nat.le_refl _,fun _ h=>.inl h,fun b hb=>?_⟩
 ·exact ((h.live id o ho).heap fun q _ hr=>k.kept.keep _ hr.lt).mono hle
 ·have hr:=h.at a1 (show η id=some q from a3)
  cases hro:ro' q.bl with
  | none=>exact hro
  | some o2=>
   rcases k.new q.bl (by rw [hro];simp) with h1 | h1
   ·exact absurd (h.iW id o q a1 a2 a3) h1
   ·have:=hr.lt;omega
 ·rcases k.new b hb with h1 | h1
  ·exact .inl h1
  ·exact .inr (.inl h1)
end
end
end Go.aP
namespace Go.aP
noncomputable section
set_option linter.unusedSectionVars false
set_option linter.unusedVariables false
set_option linter.unusedSimpArgs false
variable {P:Program}
@[reducible] def Tg (tabs:List (Nat×List AV)) (gs:List GV) (ka:Nat):aC:={ nodes:=[],dec:=[],ka:=ka,tabs:=tabs,I:=fun _ _=>none,val:=fun n=>gs[n]?,l7:=by intro n nd h;simp at h,uI:=by intro n b h;simp at h }
def lu {α:Type}:List (Nat×α)→Tr α
 | []=>.nil
 | (k,v)::l=>(lu l).set k (some v)
theorem FK {α:Type}:∀ {l:List (Nat×α)} {k:Nat} {v:α},(lu l).get k=some v→(k,v)∈l
 | [],k,v,h=>by simp [lu] at h
 | (j,u)::l,k,v,h=>by
  rw [lu,Tr.qg] at h
  split at h
  ·next e=>cases h;subst e;simp
  ·exact List.mem_cons_of_mem _ (FK h)
structure fB where
 np:Nat
 n:Nat
 gn:Nat
 next:Nat
 slots:List (Nat×AV)
 objs:List (Nat×aZ)
 ka:Nat:=0
 al:List (Option Nat):=[]
def pq (tabs:List (Nat×List AV)):List (Nat×aZ):=tabs.map fun p=>(p.1,.cells p.2 0 false false)
def fB.act (s:fB):aY:=⟨lu s.slots,s.n,s.gn⟩
def fB.st (tabs:List (Nat×List AV)) (s:fB):ah:=⟨lu (s.objs++pq tabs),s.next,0⟩
def GH (P:Program) (tabs:List (Nat×List AV)) (s:fB) (gs:List GV) (w0:Base) (bY:Nat→Option Obj) (A:Act) (w:World):Prop:=∃η,@ig (Tg tabs gs s.ka) P w0 bY η (s.st tabs) w∧@TR (Tg tabs gs s.ka) P η s.act A
def bM {α:Type} (k:Nat):List (Nat×α)→Option α
 | []=>none
 | p::l=>bif Nat.beq k p.1 then some p.2 else bM k l
theorem IK {α:Type} {k:Nat} {v:α}:∀ {l:List (Nat×α)},bM k l=some v→(k,v)∈l
 | [],h=>by simp [bM] at h
 | p::l,h=>by
  simp only [bM] at h
  cases hb:Nat.beq k p.1 with
  | true=>rw [hb] at h;simp only [cond_true,Option.some.injEq] at h;rw [Nat.eq_of_beq_eq_true hb,← h];simp
  | false=>rw [hb] at h;simp only [cond_false] at h;exact List.mem_cons_of_mem _ (IK h)
def wZ (r:List (Nat×Option Nat)) (i:Nat) (x:Option Nat):Bool:=
 match bM i r,x with
 | some (some a),some b=>Nat.beq a b
 | some none,none=>true
 | _,_=>false
section
variable [fF]
def Dk (m:Nat):Bool:=match fF.nodes[m]? with
 | some (.ml [])=>true
 | _=>false
def IJ (P:Program) (σ:ah) (fz:List Nat) (a:AV) (m:Nat):Bool:=
 match a with
 | .sv id n=>fz.contains id&&match σ.get id with
  | some (.vec m' _ _)=>Nat.beq m' m&&oW 100 m' n
  | _=>false
 | .sl id off len cap=>fz.contains id&&match σ.get id with
  | some (.cells c et true opn)=>(match listOf P σ et (.sl id off len cap),sizeT P et with
   | some m',some size=>Nat.beq m' m&&Nat.blt 0 size
   | _,_=>false)
  | _=>false
 | _=>false
mutual
def mV (P:Program) (G:Nat) (σ:ah) (fz:List Nat) (r:List (Nat×Option Nat)) (ps:List Nat):AV→AV→Bool
 | .nd j,a=>match ps[j]? with
  | some m=>(match fK a with
   | some m'=>Nat.beq m m'
   | none=>false) || IJ P σ fz a m
  | none=>false
 | .sv i j,a=>match ps[j]? with
  | some m=>match a with
   | .sv id n=>Nat.blt G i&&wZ r i (some id)&&oW 100 m n
   | .dM=>Nat.blt G i&&wZ r i none&&Dk m
   | _=>false
  | none=>false
 | .p i off,a=>match a with
  | .p id off'=>Nat.beq off off'&&(if i≤G then Nat.beq i id else wZ r i (some id))
  | _=>false
 | .rx j off,a=>match a with
  | .rx m off'=>Nat.beq off off'&&(match ps[j]? with | some m'=>Nat.beq m m' | none=>false)
  | _=>false
 | .fn f fi cs,a=>match a with
  | .fn f' fi' cs'=>Nat.beq f f'&&uQ P G σ fz r ps fi fi'&&uQ P G σ fz r ps cs cs'
  | _=>false
 | .agg l,a=>match a with
  | .agg l'=>uQ P G σ fz r ps l l'
  | _=>false
 | .bV l,a=>match a with
  | .bV l'=>uQ P G σ fz r ps l l'
  | _=>false
 | .dD t x,a=>match a with
  | .dD t' x'=>Nat.beq t t'&&mV P G σ fz r ps x x'
  | _=>false
 | .b x,a=>match a with | .b y=>(bif x then y else !y) | _=>false
 | .i k n,a=>match a with | .i k' n'=>Nat.beq (kc k) (kc k')&&Ae n n' | _=>false
 | .s x,a=>match a with | .s y=>uF x y | _=>false
 | .iC,a=>match a with | .iC=>true | _=>false
 | .dM,a=>match a with | .dM=>true | _=>false
 | .sZ,a=>match a with | .sZ=>true | _=>false
 | .nO,a=>match a with | .nO=>true | _=>false
 | .lQ,a=>match a with | .lQ=>true | _=>false
 | .mp i,a=>match a with
  | .mp id=>Nat.blt G i&&wZ r i (some id)
  | _=>false
 | _,_=>false
def uQ (P:Program) (G:Nat) (σ:ah) (fz:List Nat) (r:List (Nat×Option Nat)) (ps:List Nat):List AV→List AV→Bool
 | [],l=>match l with | []=>true | _=>false
 | a::l,m=>match m with
  | b::m'=>mV P G σ fz r ps a b&&uQ P G σ fz r ps l m'
  | []=>false
end
def mO (P:Program) (G:Nat) (σ:ah) (fz:List Nat) (r:List (Nat×Option Nat)) (ps:List Nat) (i:Nat) (o:aZ):Bool:=
 match bM i r with
 | some (some id)=>!(fz.contains id)&&match o with
  | .cells l et oD opn=>match σ.get id with
   | some (.cells c zS rw' FM)=>Nat.beq et zS&&(bif oD then rw' else !rw')&&(bif opn then FM else !FM)&&uQ P G σ fz r ps l c
   | _=>false
  | .vec j et f=>match σ.get id with
   | some (.vec m zS f')=>Nat.beq et zS&&(!f || f')&&(match ps[j]? with | some m'=>Nat.beq m m' | none=>false)
   | _=>false
  | .smap j kk sz=>match σ.get id with
   | some (.smap m wI sz')=>Fj kk wI&&Gl sz sz'&&(match ps[j]? with | some m'=>Nat.beq m m' | none=>false)
   | some (.map [])=>(match ps[j]? with | some m=>Dk m | none=>false)
   | _=>false
  | .map []=>(match σ.get id with
   | some (.map [])=>true
   | _=>false)
  | _=>false
 | some none=>match o with
  | .vec j _ _=>(match ps[j]? with | some m=>Dk m | none=>false)
  | _=>false
 | none=>false
def Jr (P:Program) (G:Nat) (σ:ah) (fz:List Nat) (r:List (Nat×Option Nat)) (ps:List Nat) (t:Tr AV):List (Nat×AV)→Bool
 | []=>true
 | p::l=>(match t.get p.1 with | some v=>mV P G σ fz r ps p.2 v | none=>false)&&Jr P G σ fz r ps t l
def Di (P:Program) (G next:Nat) (σ:ah) (fz:List Nat) (r:List (Nat×Option Nat)) (ps:List Nat):List (Nat×aZ)→Bool
 | []=>true
 | p::l=>Nat.blt G p.1&&Nat.blt p.1 next&&mO P G σ fz r ps p.1 p.2&&Di P G next σ fz r ps l
def Ed (r:List (Nat×Option Nat)):Nat→Nat→Bool
 | _,0=>true
 | i,n+1=>wZ r (i+1) (some (i+1))&&Ed r (i+1) n
def AU:List (Nat×Option Nat)→Bool
 | []=>true
 | p::l=>(match p.2 with
  | some a=>l.all fun q=>match q.2 with | some b=>!(Nat.beq a b) | none=>true
  | none=>true)&&AU l
def Qy (P:Program) (s:fB) (a:aY) (σ:ah) (fz:List Nat) (r:List (Nat×Option Nat)) (ps:List Nat):Bool:=
 Nat.beq s.ka fF.ka&&Nat.blt (s.gn+s.ka) s.next&&Ed r s.gn s.ka&&Nat.beq s.n a.n&&Nat.beq s.gn a.gn&&Nat.blt s.gn s.next&&AU r&&Jr P s.gn σ fz r ps a.t s.slots&&Di P s.gn s.next σ fz r ps s.objs
end
def kills (σ:ah):List Nat→ah
 | []=>σ
 | id::l=>(kills σ l).kill id
theorem wH {σ:ah} {k:Nat}:∀ {l:List Nat},(kills σ l).get k=if k∈l then none else σ.get k
 | []=>by simp [kills]
 | id::l=>by
  rw [kills,ah.rF,wH]
  by_cases h:k=id
  ·simp [h]
  ·simp [h]
theorem Dc {σ:ah}:∀l:List Nat,(kills σ l).lock=σ.lock
 | []=>rfl
 | _::l=>Dc l
theorem Qb {σ:ah}:∀l:List Nat,(kills σ l).next=σ.next
 | []=>rfl
 | _::l=>Qb l
section
variable [aC]
theorem IB {w0:Base} {bY:Nat→Option Obj} {η:Env} {σ:ah} {w:World} (hF:ig P w0 bY η σ w) (hl:σ.lock=0):∀fz:List Nat,∃bI,(∀b o,η.ro b=some o→bI b=some o)∧ig P w0 bY ⟨η.pl,bI,η.gh⟩ (kills σ fz) w∧
 (∀id∈fz,∀o q,σ.get id=some o→o.own=true→η id=some q→bI q.bl=w.heap[q.bl]?)
 | []=>⟨η.ro,fun _ _ h=>h,hF,by simp⟩
 | id::fz=>by
  obtain ⟨bI,h1,h2,h3⟩:=IB hF hl fz
  by_cases hx:∃o q,(kills σ fz).get id=some o∧o.own=true∧η id=some q
  ·obtain ⟨o,q,ho,hown,hq⟩:=hx
   have hst:=St.freeze h2.rel ho hown (by rw [Dc,hl];exact Nat.zero_le _) (show (⟨η.pl,bI,η.gh⟩:Env) id=some q from hq)
   have hF2:=h2.step (by rw [Dc,hl]) hst
   refine ⟨y8 bI w q.bl,fun b o hb=>JK h2.rel.fP q.bl b o (h1 b o hb),hF2, ?_⟩
   intro id' gQ o' q' ho' hown' hq'
   show (if q'.bl=q.bl then w.heap[q.bl]? else bI q'.bl)=_
   split
   ·next e=>rw [e]
   ·next e=>
    rcases List.mem_cons.1 gQ with rfl | gQ
    ·rw [hq] at hq';cases hq';exact absurd rfl e
    ·exact h3 id' gQ o' q' ho' hown' hq'
  ·refine ⟨bI,h1,⟨h2.rel.sub (fun k u hk=>?_) (Nat.le_refl _),h2.kept,fun k u q a1 a2 a3=>?_,h2.oC,h2.lU,h2.mD⟩, ?_⟩
   ·rw [kills,ah.rF] at hk;split at hk;cases hk;exact hk
   ·rw [kills,ah.rF] at a1;split at a1;cases a1;exact h2.own k u q a1 a2 a3
   ·intro id' gQ o' q' ho' hown' hq'
    rcases List.mem_cons.1 gQ with rfl | gQ
    ·by_cases hm:id'∈fz
     ·exact h3 id' hm o' q' ho' hown' hq'
     ·exact absurd ⟨o',q',by rw [wH,if_neg hm];exact ho',hown',hq'⟩ hx
    ·exact h3 id' gQ o' q' ho' hown' hq'
end
theorem zl {val:Nat→Option GV}:∀ {ps:List Nat} {gs:List GV},valsOf val ps=some gs→∀ {j m:Nat},ps[j]? = some m→gs[j]? = val m∧∃g,val m=some g
 | [],gs,h,j,m,hj=>by simp at hj
 | p::ps,gs,h,j,m,hj=>by
  simp only [valsOf] at h
  split at h
  ·next g r h1 h2=>
   cases h
   cases j with
   | zero=>simp at hj;subst hj;exact ⟨by simp [h1],g,h1⟩
   | succ j=>simpa using zl h2 (j:=j) (by simpa using hj)
  ·cases h
theorem JH {r:List (Nat×Option Nat)} {i id:Nat} (h:wZ r i (some id)=true):bM i r=some (some id):=by
 unfold wZ at h
 split at h
 ·next a b e1 e2=>cases e2;rw [e1,Nat.eq_of_beq_eq_true h]
 ·next e1 e2=>cases e2
 ·cases h
theorem alO {r:List (Nat×Option Nat)} {i:Nat} (h:wZ r i none=true):bM i r=some none:=by
 unfold wZ at h
 split at h
 ·next a b e1 e2=>cases e2
 ·next e1 e2=>exact e1
 ·cases h
def tY (tabs:List (Nat×List AV)) (i:Nat):Nat:=match bM i tabs with
 | some c=>c.length
 | none=>0
def nN (tabs:List (Nat×List AV)) (G next:Nat) (r:List (Nat×Option Nat)) (η:Env) (bI:Nat→Option Obj):Env where
 pl:=fun i=>if i≤G then some ⟨i,0,tY tabs i,0⟩ else if i < next then match bM i r with
  | some (some id)=>η id
  | _=>none
  else none
 ro:=bI
 gh:=fun i=>decide (G < i)&&decide (i < next)&&match bM i r with
  | some (some id)=>η.gh id
  | some none=>true
  | none=>false
end
end Go.aP
namespace Go.aP
noncomputable section
set_option linter.unusedSectionVars false
set_option linter.unusedVariables false
set_option linter.unusedSimpArgs false
variable {P:Program}
structure pG (T:aC) (P:Program) (tabs:List (Nat×List AV)) (G next:Nat) (η:Env) (σ:ah) (w:World) (fz:List Nat) (r:List (Nat×Option Nat)) (ps:List Nat) (gs:List GV) (bI:Nat→Option Obj):Prop where
 rel:@SR T P η σ w
 vals:valsOf T.val ps=some gs
 oC:∀b o,η.ro b=some o→bI b=some o
 nI:∀id∈fz,∀o q,σ.get id=some o→o.own=true→η id=some q→bI q.bl=w.heap[q.bl]?
 gn:G=P.globals.size
 lt:G < next
variable {T:aC} {ka:Nat} {tabs:List (Nat×List AV)} {G next:Nat} {η:Env} {σ:ah} {w:World} {fz:List Nat} {r:List (Nat×Option Nat)} {ps:List Nat} {gs:List GV} {bI:Nat→Option Obj}
theorem Ak {i id:Nat} (hG:G < i) (hn:i < next) (hr:bM i r=some (some id)):(nN tabs G next r η bI) i=η id:=by
 show (if i≤G then some (⟨i,0,tY tabs i,0⟩:Place) else if i < next then _ else none)=_
 rw [if_neg (by omega),if_pos hn,hr]
theorem Jq {i:Nat} (hG:i≤G):(nN tabs G next r η bI) i=some ⟨i,0,tY tabs i,0⟩:=by
 show (if i≤G then some (⟨i,0,tY tabs i,0⟩:Place) else _)=_
 rw [if_pos hG]
theorem ab8 {i id:Nat} (hG:G < i) (hn:i < next) (hr:bM i r=some (some id)):(nN tabs G next r η bI).gh i=η.gh id:=by
 show (decide (G < i)&&decide (i < next)&&_)=_
 rw [hr];simp [hG,hn]
theorem ab9 {i:Nat} (hG:G < i) (hn:i < next) (hr:bM i r=some none):(nN tabs G next r η bI).gh i=true:=by
 show (decide (G < i)&&decide (i < next)&&_)=_
 rw [hr];simp [hG,hn]
theorem aaY (C:pG T P tabs G next η σ w fz r ps gs bI) {a:AV} {m:Nat} {v:Value} (h:@IJ T.tofF P σ fz a m=true) (hv:@VR T η a v) {g:GV} (hm:T.val m=some g):g.scalar=true∧GR bI g v:=by
 letI:=T
 unfold IJ at h
 split at h
 ·next id n=>
  rw [Bool.and_eq_true] at h
  obtain ⟨h1,h⟩:=h
  have hid:id∈fz:=by simpa using h1
  split at h
  ·next m' et f hg=>
   rw [Bool.and_eq_true] at h
   have e:=Nat.eq_of_beq_eq_true h.1
   subst e
   simp only [VR] at hv
   obtain ⟨ys,k1,hv⟩:=hv
   rcases hv with ⟨q,hq,hle,rfl⟩ | ⟨hgh,rfl,rfl⟩
   ·have hor:=C.rel.at hg hq
    obtain ⟨xs,x1,x2,x3,x4,x5,x6,x7,x8⟩:=hor.Dl
    have x1':T.val m'=some (.l xs):=x1
    rw [hm] at x1';cases x1'
    have hlen:=rP 100 h.2 x1 k1
    refine ⟨rfl, ?_⟩
    have hcl:=zM x2
    have:=GR.QL (ro':=bI) (off:=0) (n:=ys.length) (size:=q.es) (cap:=q.sz / q.es) (cs:=bg xs) (gs:=xs) x8 C.oC (C.nI id hid _ q hg rfl hq) (by
     unfold takeN
     rw [List.drop_zero,← hlen,List.take_of_length_le (by omega),if_pos hcl]) hlen hle x4 (fun x hx=>⟨x2 x hx,x7 x hx⟩) (fun η' vs hro hvs=>by
      unfold bg at hvs ⊢
      exact (kT _ _).1 (aS.mono hro _ _ ((kT _ _).2 hvs)))
    simpa using this
   ·rcases C.rel.live id _ hg with ⟨q,hq,_⟩ | ⟨_,n2,OE,f2,e2,hv0⟩
    ·rw [(C.rel.gW id hgh).1] at hq;cases hq
    ·cases e2
     have I8:T.val m'=some (.l []):=hv0
     rw [hm] at I8;cases I8
     exact ⟨rfl,by simp [GR]⟩
  ·cases h
 ·next id off len cap=>
  rw [Bool.and_eq_true] at h
  obtain ⟨h1,h⟩:=h
  have hid:id∈fz:=by simpa using h1
  split at h
  ·next c et opn hg=>
   split at h
   ·next m' size hl hsz=>
    rw [Bool.and_eq_true] at h
    have e:=Nat.eq_of_beq_eq_true h.1
    subst e
    have h0:0 < size:=by have:=h.2;rwa [Nat.blt_eq] at this
    simp only [VR] at hv
    obtain ⟨q,hq,hle,rfl⟩:=hv
    unfold listOf at hl
    simp only [hg,hsz] at hl
    split at hl
    ·next c' zS rw' FM size' agg e1 e2 ha=>
     cases e1;cases e2
     split at hl
     ·next hc=>
      rw [Bool.and_eq_true,Bool.or_eq_true,Bool.and_eq_true] at hc
      split at hl
      ·next cs hcs=>
       split at hl
       ·next ns hns=>
        have hagg:agg=false→size=1:=by
         intro e;subst e
         rcases hc.2 with h1 | h1
         ·simp at h1
         ·exact Nat.eq_of_beq_eq_true h1
        obtain ⟨g',g1,g2⟩:=dZ hl
        have g1':T.val m'=some g':=g1
        rw [hm] at g1';cases g1'
        have hor:=C.rel.at hg hq
        obtain ⟨ws,elem,fr,hb,rr⟩:=hor
        have hlc:=(mY hcs).2.1
        have ajm:=rr.rU hcs
        obtain ⟨gl,k1,k2,k3,k4,hsize⟩:=xY (η:=η) hagg len hns ajm hlc
        simp only [Nd.den,k1,Option.map_some,Option.some.injEq] at g2
        subst g2
        refine ⟨rfl, ?_⟩
        have:=GR.QL (ro':=bI) (off:=off) (n:=len) (size:=size) (cap:=cap.getD ((q.sz - off) / q.es)) (cs:=cs) (gs:=gl) (C.rel.at hg hq) C.oC (C.nI id hid _ q hg rfl hq) hcs k2 hle h0 hsize (fun η' vs hro hvs=>by
         obtain ⟨gl',k1',k2',Jd,_⟩:=xY (η:=η) hagg len hns hvs hlc
         rw [k1] at k1';cases k1'
         unfold bg at Jd ⊢
         exact (kT _ _).1 (aS.mono hro _ _ ((kT _ _).2 Jd)))
        exact this
       ·cases hl
      ·cases hl
     ·cases hl
    ·cases hl
   ·cases h
  ·cases h
 ·cases h
mutual
theorem Qz (C:pG T P tabs G next η σ w fz r ps gs bI):∀ (p a:AV) (v:Value),p.under next=true→@mV T.tofF P G σ fz r ps p a=true→@VR T η a v→@VR (Tg tabs gs ka) (nN tabs G next r η bI) p v
 | .nd j,a,v,hu,h,hv=>by
  letI:=T
  simp only [mV] at h
  split at h
  ·next m hm=>
   obtain ⟨e1,g,e2⟩:=zl C.vals hm
   simp only [VR]
   refine ⟨g,by show gs[j]? = _;rw [e1,e2], ?_⟩
   rw [Bool.or_eq_true] at h
   rcases h with h | h
   ·split at h
    ·next m' hm'=>
     have e:=Nat.eq_of_beq_eq_true h
     subst e
     obtain ⟨g',k1,k2,k3⟩:=jf hm' hv
     have k1':T.val m=some g':=k1
     rw [e2] at k1';cases k1'
     exact ⟨k2,GR.mono C.oC _ _ k3⟩
    ·cases h
   ·exact aaY C h hv e2
  ·cases h
 | .sv i j,a,v,hu,h,hv=>by
  letI:=T
  simp only [AV.under,Nat.blt_eq] at hu
  simp only [mV] at h
  split at h
  ·next m hm=>
   obtain ⟨e1,g,e2⟩:=zl C.vals hm
   split at h
   ·next id n=>
    rw [Bool.and_eq_true,Bool.and_eq_true,Nat.blt_eq] at h
    obtain ⟨⟨h1,h2⟩,h3⟩:=h
    have hr:=JH h2
    simp only [VR] at hv ⊢
    obtain ⟨xs,k1,hv⟩:=hv
    have hx:∃ys,g=.l ys∧ys.length=xs.length:=by
     obtain ⟨ys,rfl⟩:=anp 100 h3 e2 k1
     exact ⟨ys,rfl,rP 100 h3 e2 k1⟩
    obtain ⟨ys,rfl,hlen⟩:=hx
    refine ⟨ys,by show gs[j]? = _;rw [e1,e2], ?_⟩
    rcases hv with ⟨q,hq,hle,rfl⟩ | ⟨hgh,rfl,rfl⟩
    ·exact .inl ⟨q,by rw [Ak h1 hu hr];exact hq,by rw [hlen];exact hle,by rw [hlen]⟩
    ·exact .inr ⟨by rw [ab8 h1 hu hr];exact hgh,List.eq_nil_of_length_eq_zero (by simpa using hlen),rfl⟩
   ·rw [Bool.and_eq_true,Bool.and_eq_true,Nat.blt_eq] at h
    obtain ⟨⟨h1,h2⟩,h3⟩:=h
    have hr:=alO h2
    simp only [VR] at hv ⊢
    unfold Dk at h3
    split at h3
    ·next hn=>
     obtain ⟨g',k1,k2⟩:=T.l7 m _ hn (by simp)
     rw [e2] at k1;cases k1
     simp only [Nd.den,valsOf,Option.map_some,Option.some.injEq] at k2
     subst k2
     exact ⟨[],by show gs[j]? = _;rw [e1,e2],.inr ⟨ab9 h1 hu hr,rfl,hv⟩⟩
    ·cases h3
   ·cases h
  ·cases h
 | .p i off,a,v,hu,h,hv=>by
  letI:=T
  simp only [AV.under,Nat.blt_eq] at hu
  simp only [mV] at h
  split at h
  ·next id off'=>
   rw [Bool.and_eq_true] at h
   have e:=Nat.eq_of_beq_eq_true h.1
   subst e
   simp only [VR] at hv ⊢
   obtain ⟨q,hq,rfl⟩:=hv
   split at h
   ·next hle=>
    have e:=Nat.eq_of_beq_eq_true h.2
    subst e
    obtain ⟨sz,es,hg⟩:=C.rel.jr i (by rw [← C.gn];exact hle)
    rw [hq] at hg;cases hg
    exact ⟨_,Jq hle,rfl⟩
   ·next hle=>exact ⟨q,by rw [Ak (by omega) hu (JH h.2)];exact hq,rfl⟩
  ·cases h
 | .rx j off,a,v,hu,h,hv=>by
  letI:=T
  simp only [mV] at h
  split at h
  ·next m off'=>
   rw [Bool.and_eq_true] at h
   have e:=Nat.eq_of_beq_eq_true h.1
   subst e
   split at h
   ·next m' hm=>
    have e:=Nat.eq_of_beq_eq_true h.2
    subst e
    obtain ⟨e1,g,e2⟩:=zl C.vals hm
    simp only [VR] at hv ⊢
    obtain ⟨g',bl,base,cs,elem,fr,x,k1,k2,k3,k4,k5⟩:=hv
    have k1':T.val m=some g':=k1
    rw [e2] at k1';cases k1'
    exact ⟨g,bl,base,cs,elem,fr,x,by show gs[j]? = _;rw [e1,e2],C.oC _ _ k2,GR.mono C.oC _ _ k3,k4,k5⟩
   ·simp at h
  ·cases h
 | .fn f fi cs,a,v,hu,h,hv=>by
  letI:=T
  simp only [AV.under,Bool.and_eq_true] at hu
  simp only [mV] at h
  split at h
  ·next f' fi' cs'=>
   rw [Bool.and_eq_true,Bool.and_eq_true] at h
   obtain ⟨⟨h1,h2⟩,h3⟩:=h
   have e:=Nat.eq_of_beq_eq_true h1
   subst e
   simp only [VR] at hv ⊢
   obtain ⟨us,vs,rfl,k1,k2⟩:=hv
   exact ⟨us,vs,rfl,yF C fi fi' us hu.1 h2 k1,yF C cs cs' vs hu.2 h3 k2⟩
  ·cases h
 | .agg l,a,v,hu,h,hv=>by
  letI:=T
  simp only [AV.under] at hu
  simp only [mV] at h
  split at h
  ·next l'=>simp only [VR] at hv ⊢;obtain ⟨vs,rfl,k1⟩:=hv;exact ⟨vs,rfl,yF C l l' vs hu h k1⟩
  ·cases h
 | .bV l,a,v,hu,h,hv=>by
  letI:=T
  simp only [AV.under] at hu
  simp only [mV] at h
  split at h
  ·next l'=>simp only [VR] at hv ⊢;obtain ⟨vs,rfl,k1⟩:=hv;exact ⟨vs,rfl,yF C l l' vs hu h k1⟩
  ·cases h
 | .dD t x,a,v,hu,h,hv=>by
  letI:=T
  simp only [AV.under] at hu
  simp only [mV] at h
  split at h
  ·next t' x'=>
   rw [Bool.and_eq_true] at h
   have e:=Nat.eq_of_beq_eq_true h.1
   subst e
   simp only [VR] at hv ⊢;obtain ⟨y,rfl,k1⟩:=hv;exact ⟨y,rfl,Qz C x x' y hu h.2 k1⟩
  ·cases h
 | .b x,a,v,hu,h,hv=>by
  letI:=T
  simp only [mV] at h
  split at h
  ·next y=>have:=Ht.1 h;subst this;simp only [VR] at hv ⊢;exact hv
  ·cases h
 | .i k n,a,v,hu,h,hv=>by
  letI:=T
  simp only [mV] at h
  split at h
  ·next k' n'=>
   rw [Bool.and_eq_true] at h
   have e1:=Je h.1
   have e2:=abt h.2
   subst e1;subst e2
   simp only [VR] at hv ⊢;exact hv
  ·cases h
 | .s x,a,v,hu,h,hv=>by
  letI:=T
  simp only [mV] at h
  split at h
  ·next y=>have:=Ob h;subst this;simp only [VR] at hv ⊢;exact hv
  ·cases h
 | .iC,a,v,hu,h,hv=>by letI:=T;simp only [mV] at h;split at h;(simp only [VR] at hv ⊢;exact hv);cases h
 | .dM,a,v,hu,h,hv=>by letI:=T;simp only [mV] at h;split at h;(simp only [VR] at hv ⊢;exact hv);cases h
 | .sZ,a,v,hu,h,hv=>by letI:=T;simp only [mV] at h;split at h;(simp only [VR] at hv ⊢;exact hv);cases h
 | .nO,a,v,hu,h,hv=>by letI:=T;simp only [mV] at h;split at h;(simp only [VR] at hv ⊢;exact hv);cases h
 | .lQ,a,v,hu,h,hv=>by letI:=T;simp only [mV] at h;split at h;(simp only [VR] at hv ⊢;exact hv);cases h
 | .sl _ _ _ _,_,_,_,h,_=>by simp [mV] at h
 | .mp i,a,v,hu,h,hv=>by
  letI:=T
  simp only [AV.under,Nat.blt_eq] at hu
  simp only [mV] at h
  split at h
  ·next id=>
   rw [Bool.and_eq_true,Nat.blt_eq] at h
   simp only [VR] at hv ⊢
   obtain ⟨q,hq,rfl⟩:=hv
   exact ⟨q,by rw [Ak h.1 hu (JH h.2)];exact hq,rfl⟩
  ·cases h
 | .z _ _ _,_,_,_,h,_=>by simp [mV] at h
 | .ro _,_,_,_,h,_=>by simp [mV] at h
 | .rp _ _,_,_,_,h,_=>by simp [mV] at h
 | .pv _ _ _,_,_,_,h,_=>by simp [mV] at h
 | .pd _ _,_,_,_,h,_=>by simp [mV] at h
theorem yF (C:pG T P tabs G next η σ w fz r ps gs bI):∀ (p a:List AV) (v:List Value),AV.lD next p=true→@uQ T.tofF P G σ fz r ps p a=true→@aj T η a v→@aj (Tg tabs gs ka) (nN tabs G next r η bI) p v
 | [],a,v,hu,h,hv=>by
  letI:=T
  simp only [uQ] at h
  split at h
  ·simp only [aj] at hv ⊢;exact hv
  ·cases h
 | p::l,a,v,hu,h,hv=>by
  letI:=T
  simp only [AV.lD,Bool.and_eq_true] at hu
  simp only [uQ] at h
  split at h
  ·next b m'=>
   rw [Bool.and_eq_true] at h
   simp only [aj] at hv ⊢
   obtain ⟨x,xs,rfl,k1,k2⟩:=hv
   exact ⟨x,xs,rfl,Qz C p b x hu.1 h.1 k1,yF C l m' xs hu.2 h.2 k2⟩
  ·cases h
end
theorem ace {t:Tr AV} [fF]:∀ {l:List (Nat×AV)},Jr P G σ fz r ps t l=true→∀k p,(k,p)∈l→∃v,t.get k=some v∧mV P G σ fz r ps p v=true
 | [],_,k,p,hk=>by simp at hk
 | q::l,h,k,p,hk=>by
  simp only [Jr,Bool.and_eq_true] at h
  rcases List.mem_cons.1 hk with e | hk
  ·subst e
   have h1:=h.1
   split at h1
   ·next v hv=>exact ⟨v,hv,h1⟩
   ·cases h1
  ·exact ace h.2 k p hk
theorem acd [fF]:∀ {l:List (Nat×aZ)},Di P G next σ fz r ps l=true→∀i o,(i,o)∈l→G < i∧i < next∧mO P G σ fz r ps i o=true
 | [],_,i,o,hk=>by simp at hk
 | q::l,h,i,o,hk=>by
  simp only [Di,Bool.and_eq_true,Nat.blt_eq] at h
  rcases List.mem_cons.1 hk with e | hk
  ·subst e;exact ⟨h.1.1.1,h.1.1.2,h.1.2⟩
  ·exact acd h.2 i o hk
theorem RQ:∀ {r:List (Nat×Option Nat)},AU r=true→∀i j a,bM i r=some (some a)→bM j r=some (some a)→i=j
 | [],_,i,j,a,h1,_=>by simp [bM] at h1
 | p::l,h,i,j,a,h1,h2=>by
  simp only [AU,Bool.and_eq_true] at h
  simp only [bM] at h1 h2
  cases hb1:Nat.beq i p.1<;>cases hb2:Nat.beq j p.1<;>rw [hb1] at h1<;>rw [hb2] at h2<;>simp only [cond_true,cond_false,Option.some.injEq] at h1 h2
  ·exact RQ h.2 i j a h1 h2
  ·have hm:=IK h1
   have h3:=h.1
   rw [h2] at h3
   have:=List.all_eq_true.1 h3 _ hm
   simp at this
  ·have hm:=IK h2
   have h3:=h.1
   rw [h1] at h3
   have:=List.all_eq_true.1 h3 _ hm
   simp at this
  ·rw [Nat.eq_of_beq_eq_true hb1,Nat.eq_of_beq_eq_true hb2]
theorem aj1 (C:pG T P tabs G next η σ w fz r ps gs bI) {i:Nat} {o:aZ} (hG:G < i) (hn:i < next) (hb:vK next o=true) (h:@mO T.tofF P G σ fz r ps i o=true) :
 @Live (Tg tabs gs ka) P (nN tabs G next r η bI) w i o∧(∀id,bM i r=some (some id)→id∉fz∧∃o',σ.get id=some o'∧o'.own=o.own):=by
 letI:=T
 unfold mO at h
 split at h
 ·next id hr=>
  rw [Bool.and_eq_true] at h
  obtain ⟨h1,h⟩:=h
  have hnf:id∉fz:=by intro hm;rw [List.contains_iff_mem.2 hm] at h1;simp at h1
  have hpl:(nN tabs G next r η bI) i=η id:=Ak hG hn hr
  split at h
  ·next l et oD opn=>
   split at h
   ·next c zS rw' FM hg=>
    rw [Bool.and_eq_true,Bool.and_eq_true,Bool.and_eq_true] at h
    obtain ⟨⟨⟨h2,h3⟩,h4⟩,h5⟩:=h
    have e1:=Nat.eq_of_beq_eq_true h2
    have e2:=Ht.1 h3
    have e3:=Ht.1 h4
    subst e1;subst e2;subst e3
    refine ⟨?_,fun id' gQ=>by rw [hr] at gQ;cases gQ;exact ⟨hnf,_,hg,rfl⟩⟩
    obtain ⟨q,hq,cs,elem,fr,hb0,rr⟩:=C.rel.obj _ _ hg rfl
    refine .inl ⟨q,by rw [hpl];exact hq,cs,elem,fr,hb0, ?_⟩
    have hvs:@aj T η c ((cs.toList.drop q.ba).take c.length):=by
     have hfit:=rr.fits;have hle:=rr.le
     refine aj.of (by simp;omega) fun k a hk=>?_
     obtain ⟨x,hx,hv⟩:=rr.cell k a hk
     have hlt:=(List.getElem?_eq_some_iff.1 hk).1
     exact ⟨x,by rw [List.getElem?_take,if_pos hlt,List.getElem?_drop];simpa using hx,hv⟩
    have hvl:=yF (ka:=ka) C l c _ hb h5 hvs
    have hlen:l.length=c.length:=by
     have h6:=@aj.length (Tg tabs gs ka) _ _ _ hvl
     have h7:=hvs.length
     omega
    exact @ng.mk (Tg tabs gs ka) P (nN tabs G next r η bI) q l et oD opn cs elem fr rr.fits (by rw [hlen];exact rr.le) (fun e=>by rw [hlen];exact rr.shut e) (fun k a hk=>by
     obtain ⟨x,hx,hv⟩:=@aj.at (Tg tabs gs ka) _ _ _ hvl k a hk
     have hlt:=(List.getElem?_eq_some_iff.1 hk).1
     rw [List.getElem?_take,if_pos (by omega),List.getElem?_drop] at hx
     exact ⟨x,by simpa using hx,hv⟩) rr.free rr.whole rr.room
   ·cases h
  ·next j et f=>
   split at h
   ·next m zS f' hg=>
    rw [Bool.and_eq_true,Bool.and_eq_true] at h
    obtain ⟨⟨h2,h3⟩,h4⟩:=h
    have e1:=Nat.eq_of_beq_eq_true h2
    subst e1
    refine ⟨?_,fun id' gQ=>by rw [hr] at gQ;cases gQ;exact ⟨hnf,_,hg,rfl⟩⟩
    split at h4
    ·next m' hm=>
     have e:=Nat.eq_of_beq_eq_true h4
     subst e
     obtain ⟨e1,g,e2⟩:=zl C.vals hm
     rcases C.rel.live id _ hg with ⟨q,hq,hor⟩ | ⟨hgh,n2,OE,f2,e3,hv0⟩
     ·obtain ⟨xs,cs,elem,fr,ys,k1,k2,k3,k4,k5,k6,k7,k8,k9⟩:=hor
      have k1':T.val m=some (.l xs):=k1
      refine .inl ⟨q,by rw [hpl];exact hq,xs,cs,elem,fr,ys,by show gs[j]? = _;rw [e1,k1'],k2,aS.mono C.oC _ _ k3,k4,k5,k6,@ng.mk (Tg tabs gs ka) P (nN tabs G next r η bI) q [] et true true cs elem fr k7.fits k7.le k7.shut (fun k a hk=>by simp at hk) k7.free k7.whole k7.room,k8,fun e=>k9 ?_⟩
      rw [e] at h3;simpa using h3
     ·cases e3
      have I8:T.val m=some (.l []):=hv0
      exact .inr ⟨by rw [ab8 hG hn hr];exact hgh,j,et,f,rfl,by show gs[j]? = _;rw [e1,I8]⟩
    ·simp at h4
   ·cases h
  ·next j kk sz=>
   split at h
   ·next m wI sz' hg=>
    rw [Bool.and_eq_true,Bool.and_eq_true] at h
    obtain ⟨⟨h2,h3⟩,h4⟩:=h
    have e1:=Qc h2
    have e2:=Tq h3
    subst e1;subst e2
    refine ⟨?_,fun id' gQ=>by rw [hr] at gQ;cases gQ;exact ⟨hnf,_,hg,rfl⟩⟩
    split at h4
    ·next m' hm=>
     have e:=Nat.eq_of_beq_eq_true h4
     subst e
     obtain ⟨e1,g,e2⟩:=zl C.vals hm
     obtain ⟨q,hq,xs,ms,clock,k1,k2,k3⟩:=C.rel.obj _ _ hg rfl
     have k1':T.val m=some (.l xs):=k1
     exact .inl ⟨q,by rw [hpl];exact hq,xs,ms,clock,by show gs[j]? = _;rw [e1,k1'],k2,k3.mono C.oC⟩
    ·simp at h4
   ·next hg=>
    refine ⟨?_,fun id' gQ=>by rw [hr] at gQ;cases gQ;exact ⟨hnf,_,hg,rfl⟩⟩
    split at h
    ·next m hm=>
     obtain ⟨e1,g,e2⟩:=zl C.vals hm
     unfold Dk at h
     split at h
     ·next hnn=>
      obtain ⟨g',k1,k2⟩:=T.l7 m _ hnn (by simp)
      rw [e2] at k1;cases k1
      simp only [Nd.den,valsOf,Option.map_some,Option.some.injEq] at k2
      subst k2
      obtain ⟨q,hq,ms,clock,hb,hsz,_⟩:=C.rel.obj _ _ hg rfl
      refine .inl ⟨q,by rw [hpl];exact hq,[],ms,clock,by show gs[j]? = _;rw [e1,e2],hb, ?_⟩
      simp only [ny]
      have:ms.size=0:=by simpa using hsz
      simpa using Array.eq_empty_of_size_eq_zero this
     ·cases h
    ·simp at h
   ·cases h
  ·split at h
   ·next hg=>
    refine ⟨?_,fun id' gQ=>by rw [hr] at gQ;cases gQ;exact ⟨hnf,_,hg,rfl⟩⟩
    obtain ⟨q,hq,ms,clock,hb,hsz,_⟩:=C.rel.obj _ _ hg rfl
    exact .inl ⟨q,by rw [hpl];exact hq,ms,clock,hb,hsz,fun k e hk=>by simp at hk⟩
   ·cases h
  ·cases h
 ·next hr=>
  refine ⟨?_,fun id hid=>by rw [hr] at hid;cases hid⟩
  split at h
  ·next j et f=>
   split at h
   ·next m hm=>
    obtain ⟨e1,g,e2⟩:=zl C.vals hm
    unfold Dk at h
    split at h
    ·next hnn=>
     obtain ⟨g',k1,k2⟩:=T.l7 m _ hnn (by simp)
     rw [e2] at k1;cases k1
     simp only [Nd.den,valsOf,Option.map_some,Option.some.injEq] at k2
     subst k2
     exact .inr ⟨ab9 hG hn hr,j,et,f,rfl,by show gs[j]? = _;rw [e1,e2]⟩
    ·cases h
   ·cases h
  ·cases h
 ·cases h
end
end Go.aP
namespace Go.aP
noncomputable section
set_option linter.unusedSectionVars false
set_option linter.unusedVariables false
set_option linter.unusedSimpArgs false
variable {P:Program}
variable {T:aC} {tabs:List (Nat×List AV)} {G next:Nat} {η:Env} {σ:ah} {w:World} {fz:List Nat} {r:List (Nat×Option Nat)} {ps:List Nat} {gs:List GV} {bI:Nat→Option Obj}
def xP (n:Nat):List (Nat×AV)→Bool
 | []=>true
 | p::l=>p.2.under n&&xP n l
theorem Vd {n:Nat}:∀ {l:List (Nat×AV)},xP n l=true→∀k p,(k,p)∈l→p.under n=true
 | [],_,k,p,h=>by simp at h
 | q::l,h,k,p,hk=>by
  simp only [xP,Bool.and_eq_true] at h
  rcases List.mem_cons.1 hk with e | hk
  ·subst e;exact h.1
  ·exact Vd h.2 k p hk
def fB.ok (s:fB):Bool:=Nat.blt s.gn s.next&&xP s.next s.slots&&s.objs.all fun p=>vK s.next p.2
structure uo (tabs:List (Nat×List AV)) (G:Nat):Prop where
 low:∀p∈tabs,p.1≤G
 one:∀p∈tabs,bM p.1 tabs=some p.2
theorem aeA (T:aC) {η:Env} {a:AV} {v:Value} (h:a.toVal 4=some v):@VR T η a v:=@aez T η 4 a v h
theorem QC {ka:Nat} {s:fB} (oq:T.tabs=tabs) (hlow:uo tabs P.globals.size) (Aa:s.objs.all (fun p=>vK s.next p.2)=true) (h3:s.gn < s.next) (hgn:s.gn=P.globals.size)
 (C:pG T P tabs s.gn s.next η σ w fz r ps gs bI) (f1:∀b o,bI b=some o→w.heap[b]? = some o) (f2:∀id o q,id∉fz→σ.get id=some o→o.own=true→η id=some q→bI q.bl=none) (h4:AU r=true) (h6:@Di T.tofF P s.gn s.next σ fz r ps s.objs=true) :
 @SR (Tg tabs gs ka) P (nN tabs s.gn s.next r η bI) (s.st tabs) w∧(∀i o q,(s.st tabs).get i=some o→o.own=true→(nN tabs s.gn s.next r η bI) i=some q→∃id o',bM i r=some (some id)∧id∉fz∧σ.get id=some o'∧o'.own=true∧η id=some q):=by
 letI:=T
 have obj:∀i o,(s.st tabs).get i=some o→(s.gn < i∧i < s.next∧@Live (Tg tabs gs ka) P (nN tabs s.gn s.next r η bI) w i o∧(∀id,bM i r=some (some id)→id∉fz∧∃o',σ.get id=some o'∧o'.own=o.own))∨
  (i≤s.gn∧∃c,o=.cells c 0 false false∧(i,c)∈tabs):=by
  intro i o hi
  have hmem:=FK hi
  rcases List.mem_append.1 hmem with hmem | hmem
  ·obtain ⟨g1,g2,g3⟩:=acd h6 i o hmem
   have hb:=List.all_eq_true.1 Aa _ hmem
   obtain ⟨g4,g5⟩:=aj1 C g1 g2 hb g3
   exact .inl ⟨g1,g2,g4,g5⟩
  ·obtain ⟨p,hp,e⟩:=List.mem_map.1 hmem
   cases e
   exact .inr ⟨by rw [hgn];exact hlow.low p hp,p.2,rfl,hp⟩
 have own:∀i o q,(s.st tabs).get i=some o→o.own=true→(nN tabs s.gn s.next r η bI) i=some q→∃id o',bM i r=some (some id)∧id∉fz∧σ.get id=some o'∧o'.own=true∧η id=some q:=by
  intro i o q hi ho hq
  rcases obj i o hi with ⟨g1,g2,_,g4⟩ | ⟨_,c,rfl,_⟩
  ·have hq':(if i≤s.gn then some ⟨i,0,tY tabs i,0⟩ else if i < s.next then (match bM i r with | some (some id)=>η id | _=>none) else none)=some q:=hq
   rw [if_neg (by omega),if_pos g2] at hq'
   split at hq'
   ·next id hid=>
    obtain ⟨k1,o',k2,k3⟩:=g4 id hid
    exact ⟨id,o',hid,k1,k2,k3.trans ho,hq'⟩
   ·cases hq'
  ·cases ho
 have aqi:∀p∈tabs,@xH (nN tabs s.gn s.next r η bI) p.1 p.2:=by
  intro p hp
  obtain ⟨cs,elem,fr,k1,k2⟩:=C.rel.tabs p (by rw [oq];exact hp)
  exact ⟨cs,elem,fr,C.oC _ _ k1,k2⟩
 refine ⟨@SR.mk (Tg tabs gs ka) P _ _ w ?_ ?_ ?_ ?_ ?_ ?_ ?_ ?_,own⟩
 ·intro g hg
  exact ⟨_,_,Jq (by omega)⟩
 ·intro i q hq
  have hq':(if i≤s.gn then some ⟨i,0,tY tabs i,0⟩ else if i < s.next then (match bM i r with | some (some id)=>η id | _=>none) else none)=some q:=hq
  show i < s.next
  split at hq'
  ·omega
  ·split at hq'
   ·next h=>exact h
   ·cases hq'
 ·intro i o hi
  rcases obj i o hi with ⟨_,_,g3,_⟩ | ⟨hle,c,rfl,hmem⟩
  ·exact g3
  ·obtain ⟨cs,elem,fr,k1,k2,k3⟩:=C.rel.tabs (i,c) (by rw [oq];exact hmem)
   have hb:=C.rel.fP _ _ k1
   have hsz:tY tabs i=c.length:=by unfold tY;rw [hlow.one (i,c) hmem]
   refine .inl ⟨⟨i,0,tY tabs i,0⟩,Jq hle,cs,elem,fr,hb, ?_⟩
   refine @ng.mk (Tg tabs gs ka) P _ _ c 0 false false cs elem fr (by simp only at k2 ⊢;omega) (by simp only;omega) (fun _=>by simp only;omega) (fun k a hk=>?_) (fun h=>by cases h) (fun h=>absurd rfl h) (fun h=>by cases h)
   obtain ⟨x,hx,hv⟩:=k3 k a hk
   exact ⟨x,by simpa using hx,aeA (Tg tabs gs ka) hv⟩
 ·intro i hg
  have hg':(decide (s.gn < i)&&decide (i < s.next)&&(match bM i r with | some (some id)=>η.gh id | some none=>true | none=>false))=true:=hg
  rw [Bool.and_eq_true,Bool.and_eq_true,decide_eq_true_iff,decide_eq_true_iff] at hg'
  obtain ⟨⟨k1,k2⟩,k3⟩:=hg'
  refine ⟨?_,k2⟩
  show (if i≤s.gn then some ⟨i,0,tY tabs i,0⟩ else if i < s.next then (match bM i r with | some (some id)=>η id | _=>none) else none)=none
  rw [if_neg (by omega),if_pos k2]
  split at k3
  ·next id hid=>rw [hid];exact (C.rel.gW id k3).1
  ·next hid=>rw [hid]
  ·cases k3
 ·intro i o i' o' q q' a1 a2 a3 a4 a5 a6
  obtain ⟨id,u,b1,b2,b3,b4,b5⟩:=own i o q a1 a2 a5
  rcases obj i' o' a3 with ⟨g1,g2,_,g4⟩ | ⟨hle,c,rfl,hmem⟩
  ·have hq':(if i'≤s.gn then some ⟨i',0,tY tabs i',0⟩ else if i' < s.next then (match bM i' r with | some (some id)=>η id | _=>none) else none)=some q':=a6
   rw [if_neg (by omega),if_pos g2] at hq'
   split at hq'
   ·next id' gQ=>
    obtain ⟨k1,u',k2,k3⟩:=g4 id' gQ
    exact C.rel.sep id u id' u' q q' b3 b4 k2 (fun e=>a4 (by subst e;exact RQ h4 i i' id b1 gQ)) b5 hq'
   ·cases hq'
  ·intro e
   rw [Jq hle] at a6
   cases a6
   obtain ⟨cs,elem,fr,k1,_⟩:=C.rel.tabs (i',c) (by rw [oq];exact hmem)
   have:=C.rel.iW id u q b3 b4 b5
   simp only at e
   rw [e] at this
   rw [k1] at this;cases this
 ·exact f1
 ·intro i o q a1 a2 a3
  obtain ⟨id,u,b1,b2,b3,b4,b5⟩:=own i o q a1 a2 a3
  exact f2 id u q b2 b3 b4 b5
 ·exact aqi
theorem NJ {r:List (Nat×Option Nat)}:∀ {n i:Nat},Ed r i n=true→∀j,i < j→j≤i+n→bM j r=some (some j)
 | 0,i,_,j,h1,h2=>by omega
 | n+1,i,h,j,h1,h2=>by
  simp only [Ed,Bool.and_eq_true] at h
  by_cases e:j=i+1
  ·subst e;exact JH h.1
  ·exact NJ h.2 j (by omega) (by omega)
theorem QB {w0:Base} {bY:Nat→Option Obj} {a:aY} {A:Act} {s:fB} (oq:T.tabs=tabs) (hlow:uo tabs P.globals.size) (hok:s.ok=true) (hF:@ig T P w0 bY η σ w) (hl:σ.lock=0) (ht:@TR T P η a A) (hm:@Qy T.tofF P s a σ fz r ps=true) (hps:valsOf T.val ps=some gs):GH P tabs s gs w0 bY A w:=by
 letI:=T
 unfold Qy at hm
 simp only [Bool.and_eq_true,Nat.blt_eq] at hm
 obtain ⟨⟨⟨⟨⟨⟨⟨⟨k1,k2⟩,k3⟩,h1⟩,h2⟩,h3⟩,h4⟩,h5⟩,h6⟩:=hm
 have k1:=Nat.eq_of_beq_eq_true k1
 have e1:=Nat.eq_of_beq_eq_true h1
 have e2:=Nat.eq_of_beq_eq_true h2
 unfold fB.ok at hok
 rw [Bool.and_eq_true,Bool.and_eq_true] at hok
 obtain ⟨⟨_,hbs⟩,Aa⟩:=hok
 have hgn:s.gn=P.globals.size:=by rw [e2];exact ht.gn
 obtain ⟨bI,f1,f2,f3⟩:=IB hF hl fz
 have C:pG T P tabs s.gn s.next η σ w fz r ps gs bI:=⟨hF.rel,hps,f1,f3,hgn,h3⟩
 obtain ⟨hS,own⟩:=QC (ka:=s.ka) oq hlow Aa h3 hgn C f2.rel.fP (fun id o q b2 b3 b4 b5=>f2.rel.iW id o q (by rw [wH,if_neg b2];exact b3) b4 b5) h4 h6
 refine ⟨nN tabs s.gn s.next r η bI, ?_, ?_⟩
 ·refine @ig.mk (Tg tabs gs s.ka) P w0 bY _ _ w hS hF.kept ?_ ?_ ?_ ?_
  ·intro i o q a1 a2 a3
   obtain ⟨id,u,b1,b2,b3,b4,b5⟩:=own i o q a1 a2 a3
   exact hF.own id u q b3 b4 b5
  ·exact f2.oC
  ·exact f2.lU
  ·intro i q hi
   obtain ⟨a1,a2,a3⟩:=hF.mD i q hi
   have a3':i≤P.globals.size+s.ka:=by rw [k1];exact a3
   refine ⟨?_,a2,a3'⟩
   rw [Ak (by omega) (by omega) (NJ k3 i (by omega) (by omega))]
   exact a1
 ·refine @TR.mk (Tg tabs gs s.ka) P _ _ A ?_ ?_ ht.none ?_
  ·exact hgn
  ·show A.tmps.size=s.n
   rw [e1];exact ht.size
  ·intro k p hk
   obtain ⟨v,v1,v2⟩:=ace h5 k p (FK hk)
   obtain ⟨x,hx,hv⟩:=ht.slot k v v1
   exact ⟨x,hx,Qz C p v x (Vd hbs k p (FK hk)) v2 hv⟩
end
end Go.aP
namespace Go.aP
noncomputable section
set_option linter.unusedSectionVars false
set_option linter.unusedVariables false
set_option linter.unusedSimpArgs false
variable {P:Program}
mutual
def AV.cZ (f:Nat→Nat):AV→AV
 | .nd j=>.nd (f j)
 | .rx j off=>.rx (f j) off
 | .sv id j=>.sv id (f j)
 | .pv id j off=>.pv id (f j) off
 | .pd id j=>.pd id (f j)
 | .fn g fi cs=>.fn g (AV.lM f fi) (AV.lM f cs)
 | .dD t a=>.dD t (a.cZ f)
 | .agg l=>.agg (AV.lM f l)
 | .bV l=>.bV (AV.lM f l)
 | .ro l=>.ro (AV.lM f l)
 | .rp a off=>.rp (a.cZ f) off
 | a=>a
def AV.lM (f:Nat→Nat):List AV→List AV
 | []=>[]
 | a::l=>a.cZ f::AV.lM f l
end
theorem Js (f:Nat→Nat):∀l:List AV,AV.lM f l=l.map (AV.cZ f)
 | []=>rfl
 | a::l=>by simp [AV.lM,Js f l]
def aZ.cZ (f:Nat→Nat):aZ→aZ
 | .cells c et rw opn=>.cells (AV.lM f c) et rw opn
 | .iter s pos=>.iter s pos
 | .map es=>.map (es.map fun e=>(e.1.cZ f,e.2.cZ f))
 | .iterM m=>.iterM m
 | .vec j et b=>.vec (f j) et b
 | .smap j kk sz=>.smap (f j) kk sz
theorem aZ.ake (f:Nat→Nat) (o:aZ):(o.cZ f).own=o.own:=by cases o<;>rfl
section
variable {S T:aC} {f:Nat→Nat} {η:Env}
mutual
theorem VR.cZ (h:∀j g,S.val j=some g→T.val (f j)=some g):∀ (a:AV) (v:Value),@VR S η a v→@VR T η (a.cZ f) v
 | .b _,_,hv=>by simpa only [VR,AV.cZ] using hv
 | .i _ _,_,hv=>by simpa only [VR,AV.cZ] using hv
 | .s _,_,hv=>by simpa only [VR,AV.cZ] using hv
 | .iC,_,hv=>by simpa only [VR,AV.cZ] using hv
 | .p _ _,_,hv=>by simpa only [VR,AV.cZ] using hv
 | .dM,_,hv=>by simpa only [VR,AV.cZ] using hv
 | .sl _ _ _ _,_,hv=>by simpa only [VR,AV.cZ] using hv
 | .lQ,_,hv=>by simpa only [VR,AV.cZ] using hv
 | .mp _,_,hv=>by simpa only [VR,AV.cZ] using hv
 | .sZ,_,hv=>by simpa only [VR,AV.cZ] using hv
 | .fn _ fi cs,_,hv=>by
  simp only [VR,AV.cZ] at hv ⊢
  obtain ⟨us,vs,e,h1,h2⟩:=hv
  exact ⟨us,vs,e,aj.cZ h fi us h1,aj.cZ h cs vs h2⟩
 | .nO,_,hv=>by simpa only [VR,AV.cZ] using hv
 | .dD _ a,_,hv=>by simp only [VR,AV.cZ] at hv ⊢;obtain ⟨x,e,h1⟩:=hv;exact ⟨x,e,VR.cZ h a x h1⟩
 | .agg l,_,hv=>by simp only [VR,AV.cZ] at hv ⊢;obtain ⟨x,e,h1⟩:=hv;exact ⟨x,e,aj.cZ h l x h1⟩
 | .bV l,_,hv=>by simp only [VR,AV.cZ] at hv ⊢;obtain ⟨x,e,h1⟩:=hv;exact ⟨x,e,aj.cZ h l x h1⟩
 | .z _ _ _,_,hv=>by simpa only [VR,AV.cZ] using hv
 | .ro l,_,hv=>by
  simp only [VR,AV.cZ] at hv ⊢
  have hl:(AV.lM f l).length=l.length:=by rw [Js];simp
  rcases hv with ⟨rfl,hv⟩ | ⟨bl,off,c,xs,sz,e,hc,h1,h2,h3⟩
  ·exact .inl ⟨rfl,hv⟩
  ·rw [hl]
   exact .inr ⟨bl,off,c,xs,sz,e,hc,aj.cZ h l xs h1,h2,fun hn=>h3 (by intro e';apply hn;rw [e'];rfl)⟩
 | .rp a _,_,hv=>by
  simp only [VR,AV.cZ] at hv ⊢
  obtain ⟨bl,base,cs,elem,fr,x,h1,h2,h3⟩:=hv
  exact ⟨bl,base,cs,elem,fr,x,h1,VR.cZ h a x h2,h3⟩
 | .nd _,_,hv=>by simp only [VR,AV.cZ] at hv ⊢;obtain ⟨g,h1,h2⟩:=hv;exact ⟨g,h _ _ h1,h2⟩
 | .rx _ _,_,hv=>by simp only [VR,AV.cZ] at hv ⊢;obtain ⟨g,bl,base,cs,elem,fr,x,h1,h2⟩:=hv;exact ⟨g,bl,base,cs,elem,fr,x,h _ _ h1,h2⟩
 | .sv _ _,_,hv=>by simp only [VR,AV.cZ] at hv ⊢;obtain ⟨xs,h1,h2⟩:=hv;exact ⟨xs,h _ _ h1,h2⟩
 | .pv _ _ _,_,hv=>by simp only [VR,AV.cZ] at hv ⊢;obtain ⟨q,k,i,h1,h2,h3⟩:=hv;exact ⟨q,k,i,h1,h _ _ h2,h3⟩
 | .pd _ _,_,hv=>by simp only [VR,AV.cZ] at hv ⊢;obtain ⟨xs,p,h1,h2⟩:=hv;exact ⟨xs,p,h _ _ h1,h2⟩
theorem aj.cZ (h:∀j g,S.val j=some g→T.val (f j)=some g):∀ (l:List AV) (vs:List Value),@aj S η l vs→@aj T η (AV.lM f l) vs
 | [],_,hv=>by simpa only [aj,AV.lM] using hv
 | a::l,_,hv=>by
  simp only [aj,AV.lM] at hv ⊢
  obtain ⟨x,xs,e,h1,h2⟩:=hv
  exact ⟨x,xs,e,VR.cZ h a x h1,aj.cZ h l xs h2⟩
end
theorem OR.cZ (h:∀j g,S.val j=some g→T.val (f j)=some g) {q:Place} {w:World} {o:aZ} (r:@OR S P η q w o):@OR T P η q w (o.cZ f):=by
 cases o with
 | cells c et oD opn=>
  obtain ⟨cs,elem,fr,h1,⟨r1,r2,r3,r4,r5,r6,r7⟩⟩:=r
  have hl:(AV.lM f c).length=c.length:=by rw [Js];simp
  refine ⟨cs,elem,fr,h1,@ng.mk T P η q _ et oD opn cs elem fr r1 (by rw [hl];exact r2) (fun e=>by rw [hl];exact r3 e) (fun k a hk=>?_) r5 r6 r7⟩
  rw [Js,List.getElem?_map] at hk
  obtain ⟨a0,h2,rfl⟩:=Option.map_eq_some_iff.1 hk
  obtain ⟨x,hx,hv⟩:=r4 k a0 h2
  exact ⟨x,hx,VR.cZ h a0 x hv⟩
 | iter s pos=>exact r
 | map es=>
  obtain ⟨ms,clock,h1,h2,h3⟩:=r
  refine ⟨ms,clock,h1,by simpa using h2,fun k e hk=>?_⟩
  rw [List.getElem?_map] at hk
  obtain ⟨e0,h4,rfl⟩:=Option.map_eq_some_iff.1 hk
  obtain ⟨m,hm,ha,hb⟩:=h3 k e0 h4
  exact ⟨m,hm,VR.cZ h _ _ ha,VR.cZ h _ _ hb⟩
 | iterM m=>cases m<;>exact r
 | smap j kk sz=>
  obtain ⟨xs,ms,clock,k1,k2,k3⟩:=r
  exact ⟨xs,ms,clock,h _ _ k1,k2,k3⟩
 | vec j et b=>
  obtain ⟨xs,cs,elem,fr,ys,k1,k2,k3,k4,k5,k6,⟨r1,r2,r3,r4,r5,r6,r7⟩,k8⟩:=r
  exact ⟨xs,cs,elem,fr,ys,h _ _ k1,k2,k3,k4,k5,k6,@ng.mk T P η q [] et true true cs elem fr r1 r2 r3 (fun k a hk=>by simp at hk) r5 r6 r7,k8⟩
theorem Live.cZ (h:∀j g,S.val j=some g→T.val (f j)=some g) {w:World} {i:Nat} {o:aZ} (r:@Live S P η w i o):@Live T P η w i (o.cZ f):=by
 rcases r with ⟨q,hq,hr⟩ | ⟨hg,n,et,b,rfl,hv⟩
 ·exact .inl ⟨q,hq,OR.cZ h hr⟩
 ·exact .inr ⟨hg,f n,et,b,rfl,h _ _ hv⟩
end
theorem Aq {α:Type}:∀ (l:List (Nat×α)) (k:Nat),(lu l).get k=bM k l
 | [],k=>by simp [lu,bM]
 | (j,u)::l,k=>by
  rw [lu,Tr.qg,bM]
  cases hb:Nat.beq k j with
  | true=>rw [if_pos (Nat.eq_of_beq_eq_true hb)];rfl
  | false=>rw [if_neg (fun e=>by rw [e,Nat.beq_refl] at hb;cases hb)];exact Aq l k
theorem O0 {α β:Type} (g:α→β):∀ (l:List (Nat×α)) (m:List (Nat×β)) (m':List (Nat×α)) (k:Nat) (o:β),bM k (l.map (fun p=>(p.1,g p.2))++m)=some o→(∃o0,bM k (l++m')=some o0∧o=g o0)∨(bM k m=some o∧(∀o',bM k m'=some o'→bM k (l++m')=some o'))
 | [],m,m',k,o,h=>.inr ⟨h,fun o' h'=>h'⟩
 | p::l,m,m',k,o,h=>by
  simp only [List.map_cons,List.cons_append,bM] at h ⊢
  cases hb:Nat.beq k p.1 with
  | true=>rw [hb] at h;simp only [cond_true,Option.some.injEq] at h ⊢;exact .inl ⟨p.2,rfl,h.symm⟩
  | false=>rw [hb] at h;simp only [cond_false] at h ⊢;exact O0 g l m m' k o h
def fB.Hg (s:fB) (f:Nat→Nat):aY:=⟨lu (s.slots.map fun p=>(p.1,p.2.cZ f)),s.n,s.gn⟩
def fB.xA (tabs:List (Nat×List AV)) (s:fB) (f:Nat→Nat):ah:=⟨lu (s.objs.map (fun p=>(p.1,p.2.cZ f))++pq tabs),s.next,0⟩
theorem aaW {T:aC} {tabs:List (Nat×List AV)} {s:fB} {gs:List GV} {f:Nat→Nat} {w0:Base} {w:World} {bY:Nat→Option Obj} {η:Env} (oq:T.tabs=tabs) (hka:T.ka=s.ka) (hf:∀j g,gs[j]? = some g→T.val (f j)=some g) (h:@ig (Tg tabs gs s.ka) P w0 bY η (s.st tabs) w) :
 @ig T P w0 bY η (s.xA tabs f) w:=by
 obtain ⟨⟨aiX,hdom,hlive,Pq,hsep,ai9,ajb,htab⟩,hkept,hown,PE,aja,O9⟩:=h
 have hf':∀j g,(Tg tabs gs s.ka).val j=some g→T.val (f j)=some g:=hf
 have obj:∀i o,(s.xA tabs f).get i=some o→(∃o0,(s.st tabs).get i=some o0∧o=o0.cZ f)∨(∃c,o=.cells c 0 false false∧(i,c)∈tabs∧(s.st tabs).get i=some o):=by
  intro i o hi
  have hi':bM i (s.objs.map (fun p=>(p.1,p.2.cZ f))++pq tabs)=some o:=(Aq _ i).symm.trans hi
  rcases O0 (aZ.cZ f) s.objs (pq tabs) (pq tabs) i o hi' with ⟨o0,h1,h2⟩ | ⟨h1,h2⟩
  ·exact .inl ⟨o0,(Aq _ i).trans h1,h2⟩
  ·have hm:=IK h1
   obtain ⟨p,hp,e⟩:=List.mem_map.1 hm
   cases e
   exact .inr ⟨p.2,rfl,hp,(Aq _ _).trans (h2 _ h1)⟩
 have own:∀i o,(s.xA tabs f).get i=some o→∃o0,(s.st tabs).get i=some o0∧o0.own=o.own:=by
  intro i o hi
  rcases obj i o hi with ⟨o0,h1,rfl⟩ | ⟨c,rfl,_,h1⟩
  ·exact ⟨o0,h1,(aZ.ake f o0).symm⟩
  ·exact ⟨_,h1,rfl⟩
 refine @ig.mk T P w0 bY _ _ w (@SR.mk T P _ _ w aiX hdom ?_ Pq ?_ ai9 ?_ ?_) hkept ?_ PE aja (by rw [hka];exact O9)
 ·intro i o hi
  rcases obj i o hi with ⟨o0,h1,rfl⟩ | ⟨c,rfl,hm,h1⟩
  ·exact Live.cZ hf' (hlive i o0 h1)
  ·rcases hlive i _ h1 with ⟨q,hq,cs,elem,fr,hb,⟨r1,r2,r3,r4,r5,r6,r7⟩⟩ | ⟨_,_,_,_,e,_⟩
   rotate_left
   ·cases e
   obtain ⟨cs2,Cj,CU,k1,k2,k3⟩:=htab (i,c) hm
   refine .inl ⟨q,hq,cs,elem,fr,hb,@ng.mk T P _ _ c 0 false false cs elem fr r1 r2 r3 (fun k a hk=>?_) r5 r6 r7⟩
   obtain ⟨x,hx,hv⟩:=r4 k a hk
   obtain ⟨y,hy,hv2⟩:=k3 k a hk
   have:x=y:=@aeB (Tg tabs gs s.ka) _ 4 a y x hv2 hv
   subst this
   exact ⟨x,hx,aeA T hv2⟩
 ·intro i o i' o' q q' a1 a2 a3 a4 a5 a6
  obtain ⟨u,u1,u2⟩:=own i o a1
  obtain ⟨u',u1',u2'⟩:=own i' o' a3
  exact hsep i u i' u' q q' u1 (u2.trans a2) u1' a4 a5 a6
 ·intro i o q a1 a2 a3
  obtain ⟨u,u1,u2⟩:=own i o a1
  exact ajb i u q u1 (u2.trans a2) a3
 ·rw [oq];exact htab
 ·intro i o q a1 a2 a3
  obtain ⟨u,u1,u2⟩:=own i o a1
  exact hown i u q u1 (u2.trans a2) a3
theorem SG {T:aC} {tabs:List (Nat×List AV)} {s:fB} {gs:List GV} {f:Nat→Nat} {w0:Base} {w:World} {bY:Nat→Option Obj} {A:Act} (oq:T.tabs=tabs) (hka:T.ka=s.ka) (hf:∀j g,gs[j]? = some g→T.val (f j)=some g) (h:GH P tabs s gs w0 bY A w) :
 ∃η,@ig T P w0 bY η (s.xA tabs f) w∧@TR T P η (s.Hg f) A:=by
 obtain ⟨η,hF,⟨tgn,aqs,aqn,aqt⟩⟩:=h
 have hf':∀j g,(Tg tabs gs s.ka).val j=some g→T.val (f j)=some g:=hf
 refine ⟨η,aaW oq hka hf hF,@TR.mk T P _ _ A tgn aqs aqn ?_⟩
 ·intro k v hk
  have hk':bM k (s.slots.map (fun p=>(p.1,p.2.cZ f))++[])=some v:=by rw [List.append_nil];exact (Aq _ k).symm.trans hk
  rcases O0 (AV.cZ f) s.slots [] [] k v hk' with ⟨v0,h1,rfl⟩ | ⟨h1,_⟩
  ·rw [List.append_nil] at h1
   obtain ⟨x,hx,hv⟩:=aqt k v0 ((Aq _ k).trans h1)
   exact ⟨x,hx,VR.cZ hf' v0 x hv⟩
  ·simp [bM] at h1
end
end Go.aP
