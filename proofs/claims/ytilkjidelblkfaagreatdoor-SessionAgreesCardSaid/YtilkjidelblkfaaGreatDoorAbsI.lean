/- Pure programs: trees of nodes; what they compute; how a check of all their ways serves all values. -/
import Derived.Test.YtilkjidelblkfaaGreatDoorAbsH
import Derived.Control
namespace Go.aJ
set_option linter.unusedSimpArgs false
noncomputable section
inductive Tree where
 | step (nd:Nd) (t:Tree)
 | ite (n:Nat) (t e:Tree)
 | ret (l:List Nat)
 | tail (f:Nat) (l:List Nat)
 | dead
 deriving Inhabited
abbrev gK:=Nat->List GV->Option (List GV)
def Tree.den (I:gK):Tree->List GV->Option (List GV)
 | .step nd t,env=>match nd.den I (λn=>env[n]?) with
   | some g=>t.den I (env++[g])
   | none=>none
 | .ite n t e,env=>match env[n]? with
   | some (.b true)=>t.den I env
   | some (.b false)=>e.den I env
   | _=>none
 | .ret l,env=>valsOf (λn=>env[n]?) l
 | .tail f l,env=>match valsOf (λn=>env[n]?) l with
   | some gs=>I f gs
   | none=>none
 | .dead,_=>none
inductive Leaf where
 | ret (l:List Nat)
 | tail (f:Nat) (l:List Nat)
def Tree.chk (p:List Nd->List (Nat×Bool)->Leaf->Bool):Tree->List Nd->List (Nat×Bool)->Bool
 | .step nd t,ns,ds=>t.chk p (ns++[nd]) ds
 | .ite n t e,ns,ds=>t.chk p ns ((n,true)::ds)&&e.chk p ns ((n,false)::ds)
 | .ret l,ns,ds=>p ns ds (.ret l)
 | .tail f l,ns,ds=>p ns ds (.tail f l)
 | .dead,_,_=>true
theorem Nq {val val':Nat->Option GV} (h:∀n g,val n=some g->val' n=some g):∀ {l:List Nat} {gs:List GV},valsOf val l=some gs->valsOf val' l=some gs
 | [],gs,hv=>hv
 | n::l,gs,hv=>by
   simp only [valsOf] at hv ⊢;split at hv
   ·next g r h1 h2=>rw [h n g h1,Nq h h2];exact hv
   ·cases hv
theorem Nd.aa9 {I:gK} {val val':Nat->Option GV} (h:∀n g,val n=some g->val' n=some g) {nd:Nd} {g:GV} (hd:nd.den I val=some g):nd.den I val'=some g:=by
 cases nd<;>simp only [Nd.den] at hd ⊢
 case ci=>exact hd
 case cb=>exact hd
 case cs=>exact hd
 case arg=>exact hd
 case mk l=>
  split at hd
  ·next gs hg=>rw [Nq h hg];exact hd
  ·cases hd
 case ml l=>
  obtain ⟨gs,hg,e⟩:=aX.1 hd;rw [Nq h hg];simpa using e
 case call f l j=>
  split at hd
  ·next gs hg=>rw [Nq h hg];exact hd
  ·cases hd
 case upd size off a i vs=>
  split at hd
  ·next xs k j gs h1 h2 h3=>rw [h _ _ h1,h _ _ h2,Nq h h3];exact hd
  ·cases hd
 all_goals
  split at hd
  all_goals first
   | (cases hd;done)
   | (simp only [h _ _ (by assumption)];exact hd)
   | (rename_i h1 h2 h3;rw [h _ _ h1,h _ _ h2,h _ _ h3];exact hd)
   | (rename_i h1 h2;rw [h _ _ h1,h _ _ h2];exact hd)
   | (rename_i h1;rw [h _ _ h1];exact hd)
structure Ag (I:gK) (ns:List Nd) (ds:List (Nat×Bool)) (env:List GV):Prop where
 len:ns.length=env.length
 node:∀ (n:Nat) nd,ns[n]? = some nd->nd≠.arg->∃g,env[n]? = some g/\nd.den I (λk=>env[k]?)=some g
 dec:∀ (n:Nat) (b:Bool),(n,b)∈ds->env[n]? = some (.b b)
theorem PW {α:Type} {l:List α} {x a:α} {n:Nat} (h:l[n]? = some a):(l++[x])[n]? = some a:=by
 have:=(dX.1 h).1;rw [lV this];exact h
theorem Tree.H6 {I:gK} {p:List Nd->List (Nat×Bool)->Leaf->Bool}:∀ (t:Tree) {ns:List Nd} {ds:List (Nat×Bool)} {env out:List GV},t.chk p ns ds=true->Ag I ns ds env->t.den I env=some out->
 ∃ns' ds' env' lf,p ns' ds' lf=true/\Ag I ns' ds' env'/\(∃more,env'=env++more)/\(match lf with | .ret l=>valsOf (λn=>env'[n]?) l=some out | .tail f l=>∃gs,valsOf (λn=>env'[n]?) l=some gs/\I f gs=some out)
 | .step nd t,ns,ds,env,out,hc,hw,hd=>by
   simp only [Tree.den] at hd;split at hd
   ·next g hg=>
    have hw':Ag I (ns++[nd]) ds (env++[g]):=by
     refine ⟨by simp [hw.len],λn x hn hx=>?_,λn b hb=>PW (hw.dec n b hb)⟩;by_cases hlt:n < ns.length
     ·rw [lV hlt] at hn
      obtain ⟨g',h1,h2⟩:=hw.node n x hn hx;exact ⟨g',PW h1,Nd.aa9 (λk a ha=>PW ha) h2⟩
     ·have hlen:n=ns.length:=by
       have:=(dX.1 hn).1;simp at this;omega
      subst hlen;simp at hn;subst hn;exact ⟨g,by rw [hw.len];simp,Nd.aa9 (λk a ha=>PW ha) hg⟩
    obtain ⟨ns',ds',env',lf,h1,h2,⟨more,h3⟩,h4⟩:=Tree.H6 t hc hw' hd;exact ⟨ns',ds',env',lf,h1,h2,⟨[g]++more,by rw [h3,List.append_assoc]⟩,h4⟩
   ·cases hd
 | .ite n t e,ns,ds,env,out,hc,hw,hd=>by
   simp only [Tree.chk,aI] at hc;simp only [Tree.den] at hd;split at hd
   ·next hn=>
    refine Tree.H6 t hc.1 ⟨hw.len,hw.node,λk b hb=>?_⟩ hd;rcases bC.1 hb with hb | hb
    ·cases hb;exact hn
    ·exact hw.dec k b hb
   ·next hn=>
    refine Tree.H6 e hc.2 ⟨hw.len,hw.node,λk b hb=>?_⟩ hd;rcases bC.1 hb with hb | hb
    ·cases hb;exact hn
    ·exact hw.dec k b hb
   ·cases hd
 | .ret l,ns,ds,env,out,hc,hw,hd=>⟨ns,ds,env,.ret l,hc,hw,⟨[],by simp⟩,hd⟩
 | .tail f l,ns,ds,env,out,hc,hw,hd=>by
   simp only [Tree.den] at hd;split at hd
   ·next gs hg=>exact ⟨ns,ds,env,.tail f l,hc,hw,⟨[],by simp⟩,gs,hg,hd⟩
   ·cases hd
 | .dead,_,_,_,_,_,_,hd=>by simp [Tree.den] at hd
inductive mX where
 | sc
 | ag (n:Nat)
def oI:List mX->List GV->Bool
 | [],[]=>true
 | .sc::l,g::m=>g.scalar&&oI l m
 | .ag n::l,g::m=>!g.scalar&&Nat.beq g.cells.length n&&oI l m
 | _,_=>false
inductive aF where
 | tree (n:Nat) (t:Tree)
 | fn (uZ xu:List mX) (t:Tree)
 | jc (f:List GV->Option (List GV))
def aF.den (I:gK):aF->List GV->Option (List GV)
 | .tree n t,gs=>if gs.length=n then t.den I gs else none
 | .fn uZ xu t,gs=>if oI uZ gs=true then match t.den I gs with
   | some out=>if oI xu out=true then some out else none
   | none=>none
   else none
 | .jc f,gs=>f gs
abbrev gW:=Nat->Option aF
def gW.run (TT:gW):Nat->gK
 | 0,_,_=>none
 | n+1,k,gs=>match TT k with
   | some d=>d.den (gW.run TT n) gs
   | none=>none
def gK.le (I J:gK):Prop:=∀k gs out,I k gs=some out->J k gs=some out
theorem Nd.xP {I J:gK} (h:I.le J) {val:Nat->Option GV} {nd:Nd} {g:GV} (hd:nd.den I val=some g):nd.den J val=some g:=by
 cases nd with
 | call f l j=>
   simp only [Nd.den] at hd ⊢;split at hd
   ·next gs hg=>
    split at hd
    ·next r hr=>rw [h f gs r hr];exact hd
    ·cases hd
   ·cases hd
 | _=>exact hd
theorem Tree.xP {I J:gK} (h:I.le J):∀ (t:Tree) {env out:List GV},t.den I env=some out->t.den J env=some out
 | .step nd t,env,out,hd=>by
   simp only [Tree.den] at hd ⊢;split at hd
   ·next g hg=>rw [Nd.xP h hg];exact Tree.xP h t hd
   ·cases hd
 | .ite n t e,env,out,hd=>by
   simp only [Tree.den] at hd ⊢;split at hd
   ·exact Tree.xP h t hd
   ·exact Tree.xP h e hd
   ·cases hd
 | .ret l,env,out,hd=>hd
 | .tail f l,env,out,hd=>by
   simp only [Tree.den] at hd ⊢;split at hd
   ·exact h _ _ _ hd
   ·cases hd
 | .dead,_,_,hd=>by simp [Tree.den] at hd
theorem aF.xP {I J:gK} (h:I.le J) (d:aF) {gs out:List GV} (hd:d.den I gs=some out):d.den J gs=some out:=by
 cases d with
 | tree n t=>
   simp only [aF.den] at hd ⊢;split at hd
   ·next hn=>rw [aj hn];exact t.xP h hd
   ·cases hd
 | fn sh so t=>
   simp only [aF.den] at hd ⊢;split at hd
   ·next hf=>
    split at hd
    ·next o ho=>rw [aj hf,t.xP h ho];exact hd
    ·cases hd
   ·cases hd
 | jc f=>exact hd
theorem gW.ae9 (TT:gW):∀n,(TT.run n).le (TT.run (n+1))
 | 0,k,gs,out,h=>by simp [gW.run] at h
 | n+1,k,gs,out,h=>by
   simp only [gW.run] at h;rw [gW.run];split at h
   ·next d hd=>exact d.xP (gW.ae9 TT n) h
   ·cases h
theorem gW.Rx (TT:gW) {n m:Nat} (h:n<=m):(TT.run n).le (TT.run m):=by
 induction h with
 | refl=>exact λ_ _ _ h=>h
 | step _ ih=>exact λk gs out hh=>gW.ae9 TT _ k gs out (ih k gs out hh)
open Classical in
def gW.lim (TT:gW):gK:=λk gs=>if h:∃out n,TT.run n k gs=some out then some (Classical.choose h) else none
theorem gW.EU {TT:gW} {n k:Nat} {gs out:List GV} (h:TT.run n k gs=some out):TT.lim k gs=some out:=by
 unfold gW.lim;have hex:∃out n,TT.run n k gs=some out:=⟨out,n,h⟩
 rw [dif_pos hex];obtain ⟨m,hm⟩:=agp hex;have h1:=TT.Rx (Nat.le_max_left n m) k gs out h;have h2:=TT.Rx (Nat.le_max_right n m) k gs _ hm;rw [h1] at h2;exact h2.symm
theorem gW.WZ {TT:gW} {k:Nat} {gs out:List GV} (h:TT.lim k gs=some out):∃n,TT.run n k gs=some out:=by
 unfold gW.lim at h;split at h
 ·next hex=>
  cases h;exact agp hex
 ·cases h
theorem Nd.EF {TT:gW} {val:Nat->Option GV} {nd:Nd} {g:GV} (hd:nd.den TT.lim val=some g):∃n,nd.den (TT.run n) val=some g:=by
 cases nd with
 | call f l j=>
   simp only [Nd.den] at hd ⊢;split at hd
   ·next gs hg=>
    split at hd
    ·next r hr=>
     obtain ⟨n,hn⟩:=gW.WZ hr;exact ⟨n,by rw [hn];exact hd⟩
    ·cases hd
   ·cases hd
 | _=>exact ⟨0,hd⟩
theorem Tree.EF {TT:gW}:∀ (t:Tree) {env out:List GV},t.den TT.lim env=some out->∃n,t.den (TT.run n) env=some out
 | .step nd t,env,out,hd=>by
   simp only [Tree.den] at hd;split at hd
   ·next g hg=>
    obtain ⟨n,hn⟩:=Nd.EF hg;obtain ⟨m,hm⟩:=Tree.EF t hd;refine ⟨max n m, ?_⟩;simp only [Tree.den];rw [Nd.xP (TT.Rx (Nat.le_max_left n m)) hn];exact t.xP (TT.Rx (Nat.le_max_right n m)) hm
   ·cases hd
 | .ite n t e,env,out,hd=>by
   simp only [Tree.den] at hd ⊢;split at hd
   ·next h=>obtain ⟨m,hm⟩:=Tree.EF t hd;exact ⟨m,hm⟩
   ·next h=>obtain ⟨m,hm⟩:=Tree.EF e hd;exact ⟨m,hm⟩
   ·cases hd
 | .ret l,env,out,hd=>⟨0,hd⟩
 | .tail f l,env,out,hd=>by
   simp only [Tree.den] at hd ⊢;split at hd
   ·exact gW.WZ hd
   ·cases hd
 | .dead,_,_,hd=>by simp [Tree.den] at hd
theorem gW.amK {TT:gW} {k:Nat} {d:aF} (hk:TT k=some d) {gs out:List GV} (h:d.den TT.lim gs=some out):TT.lim k gs=some out:=by
 cases d with
 | tree m t=>
   simp only [aF.den] at h;split at h
   ·next hm=>
    obtain ⟨n,hn⟩:=Tree.EF t h;exact gW.EU (n:=n+1) (by simp only [gW.run,hk,aF.den,aj hm];exact hn)
   ·cases h
 | fn sh so t=>
   simp only [aF.den] at h;split at h
   ·next hf=>
    split at h
    ·next o ho=>
     obtain ⟨n,hn⟩:=Tree.EF t ho;exact gW.EU (n:=n+1) (by simp only [gW.run,hk,aF.den,hf,if_true,hn];exact h)
    ·cases h
   ·cases h
 | jc f=>exact gW.EU (n:=1) (by simp only [gW.run,hk];exact h)
theorem gW.amM {TT:gW} {C:Nat->List GV->List GV->Prop} (h:∀k d,TT k=some d->∀I:gK,(∀k gs out,I k gs=some out->C k gs out)->∀gs out,d.den I gs=some out->C k gs out):∀k gs out,TT.lim k gs=some out->C k gs out:=by
 have:∀n k gs out,TT.run n k gs=some out->C k gs out:=by
  intro n;induction n with
  | zero=>intro k gs out hh;simp [gW.run] at hh
  | succ n ih=>
    intro k gs out hh;simp only [gW.run] at hh;split at hh
    ·next d hd=>exact h k d hd _ ih gs out hh
    ·cases hh
 intro k gs out hh;obtain ⟨n,hn⟩:=gW.WZ hh;exact this n k gs out hn
end
end Go.aJ
namespace Go.aJ
set_option linter.unusedSimpArgs false
open Go
def Gm (R w:Nat):Nat->Nat->List Nat->List Nat
 | 0,_,l=>l
 | f+1,s,l=>match Nat.blt s 256 with
   | true=>s::l
   | false=>Gm R w f ((R >>> (2 * w * (s - 256))) % 2 ^ w) (Gm R w f ((R >>> (2 * w * (s - 256)+w)) % 2 ^ w) l)
def toks (R w b:Nat):Nat->Nat->List Nat
 | 0,_=>[]
 | n+1,x=>Gm R w 1000 (x % b) (toks R w b n (x / b))
def rN:List Nat->Nat×List Nat
 | t::u::l=>match Nat.blt t 224 with
   | true=>(t,u::l)
   | false=>((t - 224) * 256+u,l)
 | [t]=>(t,[])
 | []=>(0,[])
def rR (n:Nat) (l:List Nat):Nat×List Nat:=match rN l with | (a,l)=>(n - a,l)
def rL (n:Nat):Nat->Nat->List Nat->List Nat×List Nat
 | 0,_,l=>([],l)
 | k+1,p,t::l=>match Nat.blt t 128 with
   | true=>match rL n k (p+t - 64) l with
     | (x,l)=>((p+t - 64)::x,l)
   | false=>match rR n l with
     | (a,l)=>match rL n k a l with
       | (x,l)=>(a::x,l)
 | _,_,[]=>([],[])
def wo (n:Nat) (l:List Nat):List Nat×List Nat:=match rN l with | (k,l)=>rL n k n l
def rK:Nat->IntKind
 | 0=>.i64 | 1=>.u64 | 2=>.u8 | 3=>.i32 | 4=>.u32 | 5=>.i16 | 6=>.u16 | _=>.i8
def rO:Nat->BinOp
 | 0=>.eql | 1=>.add | 2=>.neq | 3=>.lss | 4=>.gtr | 5=>.sub | 6=>.geq | 7=>.leq
 | 8=>.and | 9=>.quo | 10=>.shr | 11=>.mul | 12=>.rem | 13=>.xor | 14=>.or | _=>.shl
def r1 (n:Nat) (f:Nat->Nd) (l:List Nat):Nd×List Nat:=match rR n l with | (a,l)=>(f a,l)
def r2 (n:Nat) (f:Nat->Nat->Nd) (l:List Nat):Nd×List Nat:=match rR n l with | (a,l)=>r1 n (f a) l
def r3 (n:Nat) (f:Nat->Nat->Nat->Nd) (l:List Nat):Nd×List Nat:=match rR n l with | (a,l)=>r2 n (f a) l
def r0 (f:Nat->Nd) (l:List Nat):Nd×List Nat:=match rN l with | (a,l)=>(f a,l)
def jE (g:Nat->List Nat->Nd×List Nat) (l:List Nat):Nd×List Nat:=match rN l with | (a,l)=>g a l
def F6 (n:Nat) (f:List Nat->Nd) (l:List Nat):Nd×List Nat:=match wo n l with | (a,l)=>(f a,l)
def X8 (cI:Nat->Int) (cT:Nat->List UInt8) (n t:Nat) (l:List Nat):Nd×List Nat:=
 if t=4 then (jE λo=>r2 n (.bin (rO o))) l else
 if t=5 then (jE λk=>r0 λa=>.ci (rK k) (cI a)) l else
 if t=6 then (jE λo=>r1 n (.cell o)) l else
 if t=7 then (jE λf l=>match wo n l with | (a,l)=>r0 (λj=>.call f a j) l) l else
 if t=8 then (r0 λa=>.cs (cT a)) l else
 if t=9 then F6 n .mk l else
 if t=10 then F6 n .ml l else
 if t=11 then (r0 λb=>.cb (Nat.beq b 1)) l else
 if t=12 then r1 n .len l else
 if t=13 then (jE λk=>r1 n (.conv (rK k))) l else
 if t=14 then r1 n .slen l else
 if t=15 then (jE λs=>r2 n (.at s)) l else
 if t=16 then r3 n .BQ l else
 if t=17 then r1 n (.un .not) l else
 if t=18 then (jE λs=>jE λz=>r2 n (.app s z)) l else
 if t=19 then r2 n .BJ l else
 if t=20 then (jE λo l=>match wo 0 l with | (ks,l)=>r2 n (.Ap (rO o) ks) l) l else
 if t=21 then r2 n .idx l else
 if t=22 then r1 n .str l else
 if t=23 then r1 n .bytes l else
 if t=24 then (jE λs=>jE λz=>r3 n (.rep s z)) l else
 if t=25 then r3 n .Bd l else
 if t=26 then (jE λs=>r3 n (.zl s)) l else
 if t=27 then (jE λs=>jE λo l=>match rR n l with | (a,l)=>match rR n l with | (b,l)=>F6 n (.upd s o a b) l) l else
 if t=28 then r2 n (.mm false) l else
 if t=29 then r2 n (.mm true) l else
 if t=30 then r3 n .yj l else
 if t=31 then r2 n .Bf l else
 if t=32 then r1 n (.un .neg) l else
 if t=33 then r2 n .wY l else
 if t=37 then r1 n (.un .xor) l else
 if t=34 then r2 n .same l else
 if t=35 then r1 n .BI l else
 (jE λo=>r2 n (.Am (rO o))) l
def rT (cI:Nat->Int) (cT:Nat->List UInt8) (h:Tree):Nat->Nat->List Nat->Tree×List Nat
 | 0,_,l=>(.dead,l)
 | _,_,[]=>(.dead,[])
 | f+1,n,t::l=>match t with
   | 0=>(h,l)
   | 1=>match rR n l with | (a,l)=>match rT cI cT h f n l with | (x,l)=>match rT cI cT h f n l with | (y,l)=>(.ite a x y,l)
   | 2=>match wo n l with | (a,l)=>(.ret a,l)
   | 3=>match rN l with | (g,l)=>match wo n l with | (a,l)=>(.tail g a,l)
   | 38=>(.dead,l)
   | _=>match X8 cI cT n t l with | (d,l)=>match rT cI cT h f (n+1) l with | (x,l)=>(.step d x,l)
def rS (l:List Nat):List mX×List Nat:=match wo 0 l with | (a,l)=>(a.map λk=>match k with
 | 0=>.sc
 | k+1=>.ag (k+1),l)
def rP (cI:Nat->Int) (cT:Nat->List UInt8) (h:Tree):List Nat->aF
 | 0::l=>match rS l with | (a,l)=>match rS l with | (b,l)=>.fn a b (rT cI cT h 2000 a.length l).1
 | _::l=>match rN l with | (n,l)=>.tree n (rT cI cT h 2000 n l).1
 | []=>.tree 0 .dead
end Go.aJ
namespace Go.aJ
set_option linter.unusedSimpArgs false
noncomputable section
set_option linter.unusedSectionVars false
set_option linter.unusedVariables false
variable {P:Program}
def yD (P:Program) (c:Code) (Q:Exit->Act->World->Prop) (a:Act) (w:World):Prop:=∀b k cs,∃e a' w',Q e a' w'/\Arrives P (lone (b.at a (.code c::.inLoop c::k)) cs w) b k cs e a' w'
theorem yD.step {c:Code} {Q:Exit->Act->World->Prop} {a:Act} {w:World} (h:c.wp P (Exit.then (yD P c Q) Q) a w):yD P c Q a w:=by
 intro b k cs;obtain ⟨e,a₁,w₁,hq,harr⟩:=h b (.inLoop c::k) cs;cases e with
 | normal=>
   obtain ⟨e₂,a₂,w₂,hq₂,harr₂⟩:=hq b k cs;exact ⟨e₂,a₂,w₂,hq₂,.of_steps (Steps.trans harr (.one step_inLoop)) harr₂⟩
 | exit id=>exact ⟨_,a₁,w₁,hq,.pass (x:=.inLoop c) rfl (λ_ _=>.inl (by simp)) harr⟩
 | goto l=>exact ⟨_,a₁,w₁,hq,.pass (x:=.inLoop c) rfl (λ_ _=>.inl (by simp)) harr⟩
 | ret=>exact ⟨_,a₁,w₁,hq,.pass (x:=.inLoop c) rfl (λ_ _=>.inl (by simp)) harr⟩
 | panic ch=>exact ⟨_,a₁,w₁,hq,.pass (x:=.inLoop c) rfl (λ_ _=>.inl (by simp)) harr⟩
 | outgrown=>exact ⟨_,a₁,w₁,hq,.pass (x:=.inLoop c) rfl (λ_ _=>.inl (by simp)) harr⟩
theorem yD.loop {c:Code} {Q:Exit->Act->World->Prop} {a:Act} {w:World} (h:yD P c Q a w):(Code.loop c).wp P Q a w:=by
 intro b k cs;obtain ⟨e,a',w',hq,harr⟩:=h b k cs;exact ⟨e,a',w',hq,.of_steps (.one step_loop) harr⟩
section
variable [aG]
def AT (P:Program) (c:Code) (a:aV) (σ:au) (Q:dW->aV->au->Prop):Prop:=
 ∀w0 dw η w A K,jr P w0 dw η σ w->σ.lock=0->TR P η a A->(∀e a' σ' η' A' w',Q e a' σ'->jr P w0 dw η' σ' w'->σ'.lock=0->TR P η' a' A'->K e.toExit A' w')->c.wp P K A w
variable {c b x y z:Code} {a a' a2:aV} {σ σ' σ2:au} {Q R:dW->aV->au->Prop}
theorem AT.mono (h:AT P c a σ R) (hq:∀e a' σ',R e a' σ'->Q e a' σ'):AT P c a σ Q:=
 λw0 dw η w A K hF hl ht hK=>h w0 dw η w A K hF hl ht λe a' σ' η' A' w' hr=>hK e a' σ' η' A' w' (hq _ _ _ hr)
def Yn (P:Program) (y:Code) (Q:dW->aV->au->Prop):dW->aV->au->Prop
 | .normal,a,σ=>AT P y a σ Q
 | e,a,σ=>Q e a σ
theorem AT.seq (h:AT P x a σ (Yn P y Q)):AT P (.seq x y) a σ Q:=by
 intro w0 dw η w A K hF hl ht hK;refine wp_seq ?_;refine h w0 dw η w A _ hF hl ht ?_;intro e a' σ' η' A' w' hq hF' hl' ht';cases e with
 | normal=>exact hq w0 dw η' w' A' K hF' hl' ht' hK
 | exit id=>exact hK _ a' σ' η' A' w' hq hF' hl' ht'
 | ret=>exact hK _ a' σ' η' A' w' hq hF' hl' ht'
theorem AT.cond {o:Operand} {t:Bool} (ho:dB (a.eval o)=some (.b t)) (h:AT P (if t then y else z) a σ Q):AT P (.cond o y z) a σ Q:=by
 intro w0 dw η w A K hF hl ht hK;obtain ⟨vd,ho,himp⟩:=ED ho;have hv:=himp _ _ (KQ hF.rel ht o _ ho);simp only [VR] at hv;exact wp_cond hv (h w0 dw η w A K hF hl ht hK)
def Ej (id:Nat) (Q:dW->aV->au->Prop):dW->aV->au->Prop
 | .exit id',a,σ=>if id'=id then Q .normal a σ else Q (.exit id') a σ
 | e,a,σ=>Q e a σ
theorem AT.block {id:Nat} (h:AT P b a σ (Ej id Q)):AT P (.block id b) a σ Q:=by
 intro w0 dw η w A K hF hl ht hK;refine wp_block ?_;refine h w0 dw η w A _ hF hl ht ?_;intro e a' σ' η' A' w' hq hF' hl' ht';cases e with
 | normal=>exact hK .normal a' σ' η' A' w' hq hF' hl' ht'
 | ret=>exact hK .ret a' σ' η' A' w' hq hF' hl' ht'
 | exit id'=>
   simp only [Ej] at hq;simp only [dW.toExit,Exit.inBlock];split at hq
   ·next e=>rw [aj e];exact hK .normal a' σ' η' A' w' hq hF' hl' ht'
   ·next e=>rw [ah e];exact hK (.exit id') a' σ' η' A' w' hq hF' hl' ht'
def zQ (P:Program) (b:Code) (a:aV) (σ:au) (Q:dW->aV->au->Prop):Prop:=
 ∀w0 dw η w A K,jr P w0 dw η σ w->σ.lock=0->TR P η a A->(∀e a' σ' η' A' w',Q e a' σ'->jr P w0 dw η' σ' w'->σ'.lock=0->TR P η' a' A'->K e.toExit A' w')->yD P b K A w
theorem zQ.at (h:zQ P b a σ Q):AT P (.loop b) a σ Q:=
 λw0 dw η w A K hF hl ht hK=>(h w0 dw η w A K hF hl ht hK).loop
def WC (P:Program) (b:Code) (Q:dW->aV->au->Prop):dW->aV->au->Prop
 | .normal,a,σ=>zQ P b a σ Q
 | e,a,σ=>Q e a σ
theorem zQ.step (h:AT P b a σ (WC P b Q)):zQ P b a σ Q:=by
 intro w0 dw η w A K hF hl ht hK;refine yD.step ?_;refine h w0 dw η w A _ hF hl ht ?_;intro e a' σ' η' A' w' hq hF' hl' ht';cases e with
 | normal=>exact hq w0 dw η' w' A' K hF' hl' ht' hK
 | exit id=>exact hK _ a' σ' η' A' w' hq hF' hl' ht'
 | ret=>exact hK _ a' σ' η' A' w' hq hF' hl' ht'
theorem AT.run {run:Code->aV->au->Option (dW×aV×au)} (hr:JZ P run) {e:dW} (h:run c a σ=some (e,a',σ')) (hq:Q e a' σ'):AT P c a σ Q:=by
 intro w0 dw η w A K hF hl ht hK;refine hr c a σ e a' σ' h η w A K hF.rel ht ?_;intro η' A' w' hst ht';exact hK e a' σ' η' A' w' hq (hF.step hl hst) (hst.lock.trans hl) ht'
end
inductive AC where
 | plain (c:Code)
 | seq (x y:AC)
 | cond (o:Operand) (y z:AC)
 | block (id:Nat) (b:AC)
 | loop (k:Nat) (b:Code)
 | peel (x:AC) (k:Nat) (b:Code)
def AC.erase:AC->Code
 | .plain c=>c
 | .seq x y=>.seq x.erase y.erase
 | .cond o y z=>.cond o y.erase z.erase
 | .block id b=>.block id b.erase
 | .loop _ b=>.loop b
 | .peel _ _ b=>.loop b
def AC.Good:AC->Prop
 | .plain _=>True
 | .seq x y=>x.Good/\y.Good
 | .cond _ y z=>y.Good/\z.Good
 | .block _ b=>b.Good
 | .loop _ _=>True
 | .peel x _ b=>x.erase=b/\x.Good
def jU (ps:List Nat):Code->Nat->AC×Nat
 | .seq x y,n=>match jU ps x n with
   | (a,n1)=>match jU ps y n1 with
     | (b,n2)=>(.seq a b,n2)
 | .cond o y z,n=>match jU ps y n with
   | (a,n1)=>match jU ps z n1 with
     | (b,n2)=>(.cond o a b,n2)
 | .block id b,n=>match jU ps b n with
   | (a,n1)=>(.block id a,n1)
 | .loop b,n=>if ps.contains (2 * n+1) then (.plain (.loop b),n+1) else match jU ps b (n+1) with
   | (x,n1)=>if ps.contains (2 * n) then (.peel x n b,n1) else (.loop n b,n+1)
 | c,n=>(.plain c,n)
def kV (ps:List Nat) (c:Code):AC:=(jU ps c 0).1
theorem wW (ps:List Nat):∀ (c:Code) (n:Nat),(jU ps c n).1.erase=c/\(jU ps c n).1.Good
 | .seq x y,n=>by
   have h1:=wW ps x n;have h2:=wW ps y (jU ps x n).2;simp only [jU,AC.erase,AC.Good];exact ⟨by rw [h1.1,h2.1],h1.2,h2.2⟩
 | .cond o y z,n=>by
   have h1:=wW ps y n;have h2:=wW ps z (jU ps y n).2;simp only [jU,AC.erase,AC.Good];exact ⟨by rw [h1.1,h2.1],h1.2,h2.2⟩
 | .block id b,n=>by
   have h1:=wW ps b n;simp only [jU,AC.erase,AC.Good];exact ⟨by rw [h1.1],h1.2⟩
 | .loop b,n=>by
   have h1:=wW ps b (n+1);simp only [jU];split
   ·exact ⟨rfl,trivial⟩
   ·split
    ·exact ⟨rfl,h1.1,h1.2⟩
    ·exact ⟨rfl,trivial⟩
 | .skip,_ | .region _ _ _,_ | .rangeFunc _ _ _ _,_ | .exit _,_ | .scope _,_ | .label _,_ | .goto _,_ | .ret,_ | .refuse _,_=>⟨rfl,trivial⟩
def AC.mJ (k:Nat) (b:Code):AC->Prop
 | .plain _=>False
 | .seq x y=>x.mJ k b\/y.mJ k b
 | .cond _ y z=>y.mJ k b\/z.mJ k b
 | .block _ x=>x.mJ k b
 | .loop k' b'=>k'=k/\b'=b
 | .peel x k' b'=>(k'=k/\b'=b)\/x.mJ k b
abbrev TM:=Nat->aV->au->Option (dW×aV×au)
def uw [fZ] (ls:TM) (run:Code->aV->au->Option (dW×aV×au)):AC->aV->au->Option (dW×aV×au)
 | .plain c,a,σ=>run c a σ
 | .seq x y,a,σ=>match uw ls run x a σ with
   | some (.normal,a',σ')=>uw ls run y a' σ'
   | r=>r
 | .cond o y z,a,σ=>match dB (a.eval o) with
   | some (.b t)=>if t then uw ls run y a σ else uw ls run z a σ
   | _=>none
 | .block id b,a,σ=>match uw ls run b a σ with
   | some (.exit id',a',σ')=>if id'=id then some (.normal,a',σ') else some (.exit id',a',σ')
   | r=>r
 | .loop k _,a,σ=>ls k a σ
 | .peel x k _,a,σ=>match uw ls run x a σ with
   | some (.normal,a',σ')=>ls k a' σ'
   | r=>r
theorem Ud [aG] {ls:TM} {run:Code->aV->au->Option (dW×aV×au)} (hr:JZ P run):∀ (ac:AC),ac.Good->(∀k b,ac.mJ k b->∀a σ e a' σ',ls k a σ=some (e,a',σ')->∀Q:dW->aV->au->Prop,Q e a' σ'->zQ P b a σ Q)->
 ∀ (a:aV) (σ:au) (e:dW) (a':aV) (σ':au),uw ls run ac a σ=some (e,a',σ')->∀Q:dW->aV->au->Prop,Q e a' σ'->AT P ac.erase a σ Q:=by
 intro ac;induction ac with
 | plain c=>intro hg hl a σ e a' σ' h Q hq;exact AT.run hr h hq
 | loop k b=>intro hg hl a σ e a' σ' h Q hq;exact (hl k b ⟨rfl,rfl⟩ a σ e a' σ' h Q hq).at
 | peel x k b ih=>
   intro hg hl a σ e a' σ' h Q hq;simp only [uw] at h;refine zQ.at (zQ.step ?_);obtain ⟨rfl,hg⟩:=hg;split at h
   ·next a1 σ1 h1=>
    exact ih hg (λk' b' hk=>hl k' b' (.inr hk)) a σ _ a1 σ1 h1 (WC P x.erase Q) (hl k _ (.inl ⟨rfl,rfl⟩) a1 σ1 e a' σ' h Q hq)
   ·next hne=>
    refine ih hg (λk' b' hk=>hl k' b' (.inr hk)) a σ e a' σ' h (WC P x.erase Q) ?_;cases e with
    | normal=>exact absurd h (by intro e';exact hne _ _ e')
    | exit id=>exact hq
    | ret=>exact hq
 | seq x y ihx ihy=>
   intro hg hl a σ e a' σ' h Q hq;simp only [uw] at h;split at h
   ·next a1 σ1 h1=>
    exact AT.seq (ihx hg.1 (λk b hk=>hl k b (.inl hk)) a σ _ a1 σ1 h1 (Yn P y.erase Q) (ihy hg.2 (λk b hk=>hl k b (.inr hk)) a1 σ1 e a' σ' h Q hq))
   ·next hne=>
    refine AT.seq (ihx hg.1 (λk b hk=>hl k b (.inl hk)) a σ e a' σ' h (Yn P y.erase Q) ?_);cases e with
    | normal=>exact absurd h (by intro e';exact hne _ _ e')
    | exit id=>exact hq
    | ret=>exact hq
 | cond o y z ihy ihz=>
   intro hg hl a σ e a' σ' h Q hq;simp only [uw] at h;split at h
   ·next t ho=>
    refine AT.cond ho ?_;cases t with
    | true=>exact ihy hg.1 (λk b hk=>hl k b (.inl hk)) a σ e a' σ' h Q hq
    | false=>exact ihz hg.2 (λk b hk=>hl k b (.inr hk)) a σ e a' σ' h Q hq
   ·cases h
 | block id b ih=>
   intro hg hl a σ e a' σ' h Q hq;simp only [uw] at h;split at h
   ·next id' a1 σ1 h1=>
    split at h
    ·next e1=>
     cases h;exact AT.block (ih hg (λk b hk=>hl k b hk) a σ _ _ _ h1 (Ej id Q) (by simp only [Ej];rw [aj e1];exact hq))
    ·next e1=>
     cases h;exact AT.block (ih hg (λk b hk=>hl k b hk) a σ _ _ _ h1 (Ej id Q) (by simp only [Ej];rw [ah e1];exact hq))
   ·next hne=>
    refine AT.block (ih hg (λk b hk=>hl k b hk) a σ e a' σ' h (Ej id Q) ?_);cases e with
    | normal=>exact hq
    | exit id'=>exact absurd h (by intro e';exact hne _ _ _ e')
    | ret=>exact hq
end
end Go.aJ
namespace Go.aJ
set_option linter.unusedSimpArgs false
noncomputable section
set_option linter.unusedSectionVars false
set_option linter.unusedVariables false
variable {P:Program}
def zL:List Value->Value
 | [v]=>v
 | l=>.tuple ⟨l⟩
structure wR (tabs:List (Nat×List AV)) (ro:Nat->Option Obj) (w:World):Prop where
 at':∀b o,ro b=some o->w.heap[b]? = some o
 tab:∀p∈tabs,∃cs elem fr,ro p.1=some (.cells cs elem fr)/\p.2.length<=cs.size/\TV p.2 cs
structure He (ro ro':Nat->Option Obj) (w w':World):Prop where
 kept:Kept w w'
 le:∀b o,ro b=some o->ro' b=some o
 new:∀b,ro' b≠none->ro b≠none\/w.heap.size<=b
 at':∀b o,ro' b=some o->w'.heap[b]? = some o
def uU:List (Option FuncId)->List Value->List Value
 | none::st,v::vs=>v::uU st vs
 | none::_,[]=>[]
 | some g::st,vs=>.func (.func g) ⟨[]⟩ ⟨[]⟩::uU st vs
 | [],vs=>vs
def uT:List (Option FuncId)->List AV->List AV
 | none::st,v::vs=>v::uT st vs
 | none::_,[]=>[]
 | some g::st,vs=>.fn g [] []::uT st vs
 | [],vs=>vs
def zJ:List (Option FuncId)->List AV->Option (List AV)
 | [],l=>some l
 | none::st,a::l=>(zJ st l).map (a::·)
 | some g::st,.fn g' [] []::l=>if g'=g then zJ st l else none
 | _,_=>none
def agC (P:Program) (tabs:List (Nat×List AV)) (f:FuncId) (st:List (Option FuncId)) (gs out:List GV):Prop:=∀ro w vs,wR tabs ro w->aK ro gs vs->kE P f ⟨uU st vs⟩ w λv w'=>∃ro',He ro ro' w w'/\∃us,v=zL us/\aK ro' out us
section
variable [aG]
theorem SE {η:Env}:∀ {st:List (Option FuncId)} {l r:List AV} {vs:List Value},zJ st l=some r->aA η l vs->∃vs',vs=uU st vs'/\aA η r vs'
 | [],l,r,vs,h,hv=>by
   simp only [zJ,aT] at h;subst h;exact ⟨vs,rfl,hv⟩
 | none::st,[],r,vs,h,hv=>by simp [zJ] at h
 | none::st,a::l,r,vs,h,hv=>by
   simp only [zJ,aX] at h;obtain ⟨r',h1,rfl⟩:=h;obtain ⟨x,xs,rfl,hx,hxs⟩:=hv;obtain ⟨vs',rfl,h2⟩:=SE h1 hxs;exact ⟨x::vs',rfl,aA.cons hx h2⟩
 | some g::st,[],r,vs,h,hv=>by simp [zJ] at h
 | some g::st,a::l,r,vs,h,hv=>by
   unfold zJ at h;split at h
   ·next e=>cases e
   ·next e _=>cases e
   ·next g0 st0 g' l0 e1 e2=>
    cases e1;cases e2;split at h
    ·next e=>
     subst e;obtain ⟨x,xs,rfl,hx,hxs⟩:=hv;obtain ⟨vs',rfl,h2⟩:=SE h hxs;simp only [VR] at hx;obtain ⟨us,ws,rfl,h3,h4⟩:=hx;simp only [aA] at h3 h4;subst h3;subst h4;exact ⟨vs',rfl,h2⟩
    ·cases h
   ·cases h
theorem Rk {η:Env}:∀ {st:List (Option FuncId)} {l:List AV} {vs:List Value},aA η l vs->aA η (uT st l) (uU st vs)
 | [],l,vs,hv=>hv
 | none::st,[],vs,hv=>by simp only [aA] at hv;subst hv;simp [uT,uU,aA]
 | none::st,a::l,vs,hv=>by
   obtain ⟨x,xs,rfl,hx,hxs⟩:=hv;exact aA.cons hx (Rk hxs)
 | some g::st,l,vs,hv=>aA.cons (by simp only [VR];exact ⟨[],[],rfl,by simp [aA],by simp [aA]⟩) (Rk hv)
theorem SR.Rt {η:Env} {σ:au} {w:World} (h:SR P η σ w):wR aG.tabs η.ro w:=⟨h.iP,h.tabs⟩
theorem St.an7 {η:Env} {σ:au} {w w':World} {ro':Nat->Option Obj} (h:SR P η σ w) (k:He η.ro ro' w w'):St P η σ w ⟨η.pl,ro',η.gh⟩ σ w':=by
 have hle:(η:Env).le ⟨η.pl,ro',η.gh⟩:=⟨λ_ _ h=>h,k.le,λ_ h=>h⟩
 refine ⟨hle,⟨h.kY,h.dom,λid o ho=>?_,h.jq,h.sep,k.at',λid o q a1 a2 a3=>?_,λp hp=>(h.tabs p hp).mono hle⟩,k.kept.size,λbl hb _=>k.kept.keep bl hb,λid o q h1 h2 h3 h4=>.inr ⟨id,o,q,h1,h2,h3,h4,rfl⟩,k.kept.os,k.kept.tape,k.kept.output,rfl,dH _,λ_ h=>.inl h,λb hb=>?_⟩
 ·exact ((h.live id o ho).heap λq _ hr=>k.kept.keep _ hr.lt).mono hle
 ·have hr:=h.at a1 (show η id=some q from a3)
  cases hro:ro' q.bl with
  | none=>exact hro
  | some o2=>
    rcases k.new q.bl (by rw [hro];simp) with h1 | h1
    ·exact absurd (h.ku id o q a1 a2 a3) h1
    ·have:=hr.lt;omega
 ·rcases k.new b hb with h1 | h1
  ·exact .inl h1
  ·exact .inr (.inl h1)
end
end
end Go.aJ
namespace Go.aJ
set_option linter.unusedSimpArgs false
noncomputable section
set_option linter.unusedSectionVars false
set_option linter.unusedVariables false
variable {P:Program}
@[reducible] def Tg (tabs:List (Nat×List AV)) (gs:List GV) (ka:Nat):aG:={ nodes:=[],dec:=[],ka:=ka,tabs:=tabs,I:=λ_ _=>none,val:=λn=>gs[n]?,oV:=by intro n nd h;simp at h,yY:=by intro n b h;simp at h }
def nI {α:Type}:List (Nat×α)->Tr α
 | []=>.nil
 | (k,v)::l=>(nI l).set k (some v)
theorem LZ {α:Type}:∀ {l:List (Nat×α)} {k:Nat} {v:α},(nI l).get k=some v->(k,v)∈l
 | [],k,v,h=>by simp [nI] at h
 | (j,u)::l,k,v,h=>by
   rw [nI,Tr.uM] at h;split at h
   ·next e=>cases h;subst e;simp
   ·exact zX _ (LZ h)
structure fQ where
 np:Nat
 n:Nat
 gn:Nat
 next:Nat
 slots:List (Nat×AV)
 objs:List (Nat×aY)
 ka:Nat:=0
 al:List (Option Nat):=[]
def tN (tabs:List (Nat×List AV)):List (Nat×aY):=tabs.map λp=>(p.1,.cells p.2 0 false false)
def fQ.act (s:fQ):aV:=⟨nI s.slots,s.n,s.gn⟩
def fQ.st (tabs:List (Nat×List AV)) (s:fQ):au:=⟨nI (s.objs++tN tabs),s.next,0⟩
def NW (P:Program) (tabs:List (Nat×List AV)) (s:fQ) (gs:List GV) (w0:Base) (dw:Nat->Option Obj) (A:Act) (w:World):Prop:=∃η,@jr (Tg tabs gs s.ka) P w0 dw η (s.st tabs) w/\@TR (Tg tabs gs s.ka) P η s.act A
def bV {α:Type} (k:Nat):List (Nat×α)->Option α
 | []=>none
 | p::l=>bif Nat.beq k p.1 then some p.2 else bV k l
theorem PV {α:Type} {k:Nat} {v:α}:∀ {l:List (Nat×α)},bV k l=some v->(k,v)∈l
 | [],h=>by simp [bV] at h
 | p::l,h=>by
   simp only [bV] at h;cases hb:Nat.beq k p.1 with
   | true=>rw [hb] at h;simp only [cond_true,aT] at h;rw [bf hb,<- h];simp
   | false=>rw [hb] at h;simp only [cond_false] at h;exact zX _ (PV h)
def zG (r:List (Nat×Option Nat)) (i:Nat) (x:Option Nat):Bool:=
 match bV i r,x with
 | some (some a),some b=>Nat.beq a b
 | some none,none=>true
 | _,_=>false
section
variable [fZ]
def I8 (m:Nat):Bool:=match fZ.nodes[m]? with
 | some (.ml [])=>true
 | _=>false
def PU (P:Program) (σ:au) (fz:List Nat) (a:AV) (m:Nat):Bool:=
 match a with
 | .sv id n=>fz.contains id&&match σ.get id with
   | some (.vec m' _ _)=>Nat.beq m' m&&tJ 100 m' n
   | _=>false
 | .sl id off len cap=>fz.contains id&&match σ.get id with
   | some (.cells c et true opn)=>(match listOf P σ et (.sl id off len cap),sizeT P et with
     | some m',some size=>Nat.beq m' m&&Nat.blt 0 size
     | _,_=>false)
   | _=>false
 | _=>false
def capEq:Option Nat->Option Nat->Bool
 | none,none=>true
 | some a,some b=>Nat.beq a b
 | _,_=>false
mutual
def mV (P:Program) (G:Nat) (σ:au) (fz:List Nat) (r:List (Nat×Option Nat)) (ps:List Nat):AV->AV->Bool
 | .nd j,a=>match ps[j]? with
   | some m=>(match iD a with
     | some m'=>Nat.beq m m'
     | none=>false) || PU P σ fz a m
   | none=>false
 | .sv i j,a=>match ps[j]? with
   | some m=>match a with
     | .sv id n=>Nat.blt G i&&zG r i (some id)&&tJ 100 m n
     | .bT=>Nat.blt G i&&zG r i none&&I8 m
     | _=>false
   | none=>false
 | .p i off,a=>match a with
   | .p id off'=>Nat.beq off off'&&(if i<=G then Nat.beq i id else zG r i (some id))
   | _=>false
 | .rx j off,a=>match a with
   | .rx m off'=>Nat.beq off off'&&(match ps[j]? with | some m'=>Nat.beq m m' | none=>false)
   | _=>false
 | .fn f fi cs,a=>match a with
   | .fn f' fi' cs'=>Nat.beq f f'&&zo P G σ fz r ps fi fi'&&zo P G σ fz r ps cs cs'
   | _=>false
 | .agg l,a=>match a with
   | .agg l'=>zo P G σ fz r ps l l'
   | _=>false
 | .bY l,a=>match a with
   | .bY l'=>zo P G σ fz r ps l l'
   | _=>false
 | .dY t x,a=>match a with
   | .dY t' x'=>Nat.beq t t'&&mV P G σ fz r ps x x'
   | _=>false
 | .b x,a=>match a with | .b y=>(bif x then y else !y) | _=>false
 | .i k n,a=>match a with | .i k' n'=>Nat.beq (kc k) (kc k')&&EP n n' | _=>false
 | .s x,a=>match a with | .s y=>yT x y | _=>false
 | .jB,a=>match a with | .jB=>true | _=>false
 | .bT,a=>match a with | .bT=>true | _=>false
 | .yw,a=>match a with | .yw=>true | _=>false
 | .qM,a=>match a with | .qM=>true | _=>false
 | .oC,a=>match a with | .oC=>true | _=>false
 | .mp i,a=>match a with
   | .mp id=>Nat.blt G i&&zG r i (some id)
   | _=>false
 | .sl i off len cap,a=>match a with
   | .sl id off' len' cap'=>Nat.blt G i&&zG r i (some id)&&(Nat.beq off off'&&(Nat.beq len len'&&capEq cap cap'))
   | _=>false
 | _,_=>false
def zo (P:Program) (G:Nat) (σ:au) (fz:List Nat) (r:List (Nat×Option Nat)) (ps:List Nat):List AV->List AV->Bool
 | [],l=>match l with | []=>true | _=>false
 | a::l,m=>match m with
   | b::m'=>mV P G σ fz r ps a b&&zo P G σ fz r ps l m'
   | []=>false
end
def mO (P:Program) (G:Nat) (σ:au) (fz:List Nat) (r:List (Nat×Option Nat)) (ps:List Nat) (i:Nat) (o:aY):Bool:=
 match bV i r with
 | some (some id)=>!(fz.contains id)&&match o with
   | .cells l et rZ opn=>match σ.get id with
     | some (.cells c EG rw' L8)=>Nat.beq et EG&&(bif rZ then rw' else !rw')&&(bif opn then L8 else !L8)&&zo P G σ fz r ps l c
     | _=>false
   | .vec j et f=>match σ.get id with
     | some (.vec m EG f')=>Nat.beq et EG&&(!f || f')&&(match ps[j]? with | some m'=>Nat.beq m m' | none=>false)
     | _=>false
   | .smap j kk sz=>match σ.get id with
     | some (.smap m A8 sz')=>IY kk A8&&Nb sz sz'&&(match ps[j]? with | some m'=>Nat.beq m m' | none=>false)
     | some (.map [])=>(match ps[j]? with | some m=>I8 m | none=>false)
     | _=>false
   | .map []=>(match σ.get id with
     | some (.map [])=>true
     | _=>false)
   | _=>false
 | some none=>match o with
   | .vec j _ _=>(match ps[j]? with | some m=>I8 m | none=>false)
   | _=>false
 | none=>false
def QK (P:Program) (G:Nat) (σ:au) (fz:List Nat) (r:List (Nat×Option Nat)) (ps:List Nat) (t:Tr AV):List (Nat×AV)->Bool
 | []=>true
 | p::l=>(match t.get p.1 with | some v=>mV P G σ fz r ps p.2 v | none=>false)&&QK P G σ fz r ps t l
def I4 (P:Program) (G next:Nat) (σ:au) (fz:List Nat) (r:List (Nat×Option Nat)) (ps:List Nat):List (Nat×aY)->Bool
 | []=>true
 | p::l=>Nat.blt G p.1&&Nat.blt p.1 next&&mO P G σ fz r ps p.1 p.2&&I4 P G next σ fz r ps l
def J5 (r:List (Nat×Option Nat)):Nat->Nat->Bool
 | _,0=>true
 | i,n+1=>zG r (i+1) (some (i+1))&&J5 r (i+1) n
def F5:List (Nat×Option Nat)->Bool
 | []=>true
 | p::l=>(match p.2 with
   | some a=>l.all λq=>match q.2 with | some b=>!(Nat.beq a b) | none=>true
   | none=>true)&&F5 l
def WG (P:Program) (s:fQ) (a:aV) (σ:au) (fz:List Nat) (r:List (Nat×Option Nat)) (ps:List Nat):Bool:=
 Nat.beq s.ka fZ.ka&&Nat.blt (s.gn+s.ka) s.next&&J5 r s.gn s.ka&&Nat.beq s.n a.n&&Nat.beq s.gn a.gn&&Nat.blt s.gn s.next&&F5 r&&QK P s.gn σ fz r ps a.t s.slots&&I4 P s.gn s.next σ fz r ps s.objs
end
def kills (σ:au):List Nat->au
 | []=>σ
 | id::l=>(kills σ l).kill id
theorem AZ {σ:au} {k:Nat}:∀ {l:List Nat},(kills σ l).get k=if k∈l then none else σ.get k
 | []=>by simp [kills]
 | id::l=>by
   rw [kills,au.wX,AZ];by_cases h:k=id
   ·simp [h]
   ·simp [h]
theorem IX {σ:au}:∀l:List Nat,(kills σ l).lock=σ.lock
 | []=>rfl
 | _::l=>IX l
theorem Wi {σ:au}:∀l:List Nat,(kills σ l).next=σ.next
 | []=>rfl
 | _::l=>Wi l
section
variable [aG]
theorem PS {w0:Base} {dw:Nat->Option Obj} {η:Env} {σ:au} {w:World} (hF:jr P w0 dw η σ w) (hl:σ.lock=0):∀fz:List Nat,∃bQ,(∀b o,η.ro b=some o->bQ b=some o)/\jr P w0 dw ⟨η.pl,bQ,η.gh⟩ (kills σ fz) w/\
 (∀id∈fz,∀o q,σ.get id=some o->o.own=true->η id=some q->bQ q.bl=w.heap[q.bl]?)
 | []=>⟨η.ro,λ_ _ h=>h,hF,by simp⟩
 | id::fz=>by
   obtain ⟨bQ,h1,h2,h3⟩:=PS hF hl fz;by_cases hx:∃o q,(kills σ fz).get id=some o/\o.own=true/\η id=some q
   ·obtain ⟨o,q,ho,hown,hq⟩:=hx
    have hst:=St.freeze h2.rel ho hown (by rw [IX,hl];exact uj _) (show (⟨η.pl,bQ,η.gh⟩:Env) id=some q from hq);have hF2:=h2.step (by rw [IX,hl]) hst;refine ⟨DL bQ w q.bl,λb o hb=>Ro h2.rel.iP q.bl b o (h1 b o hb),hF2, ?_⟩;intro id' jf o' q' ho' hown' hq';show (if q'.bl=q.bl then w.heap[q.bl]? else bQ q'.bl)=_
    split
    ·next e=>rw [e]
    ·next e=>
     rcases bC.1 jf with rfl | jf
     ·rw [hq] at hq';cases hq';exact absurd rfl e
     ·exact h3 id' jf o' q' ho' hown' hq'
   ·refine ⟨bQ,h1,⟨h2.rel.sub (λk u hk=>?_) (dH _),h2.kept,λk u q a1 a2 a3=>?_,h2.rY,h2.oZ,h2.nS⟩, ?_⟩
    ·rw [kills,au.wX] at hk;split at hk;cases hk;exact hk
    ·rw [kills,au.wX] at a1;split at a1;cases a1;exact h2.own k u q a1 a2 a3
    ·intro id' jf o' q' ho' hown' hq'
     rcases bC.1 jf with rfl | jf
     ·by_cases hm:id'∈fz
      ·exact h3 id' hm o' q' ho' hown' hq'
      ·exact absurd ⟨o',q',by rw [AZ,ah hm];exact ho',hown',hq'⟩ hx
     ·exact h3 id' jf o' q' ho' hown' hq'
end
theorem DW {val:Nat->Option GV}:∀ {ps:List Nat} {gs:List GV},valsOf val ps=some gs->∀ {j m:Nat},ps[j]? = some m->gs[j]? = val m/\∃g,val m=some g
 | [],gs,h,j,m,hj=>by simp at hj
 | p::ps,gs,h,j,m,hj=>by
   simp only [valsOf] at h;split at h
   ·next g r h1 h2=>
    cases h;cases j with
    | zero=>simp at hj;subst hj;exact ⟨by simp [h1],g,h1⟩
    | succ j=>simpa using DW h2 (j:=j) (by simpa using hj)
   ·cases h
theorem MG {r:List (Nat×Option Nat)} {i id:Nat} (h:zG r i (some id)=true):bV i r=some (some id):=by
 unfold zG at h;split at h
 ·next a b e1 e2=>cases e2;rw [e1,bf h]
 ·next e1 e2=>cases e2
 ·cases h
theorem apF {r:List (Nat×Option Nat)} {i:Nat} (h:zG r i none=true):bV i r=some none:=by
 unfold zG at h;split at h
 ·next a b e1 e2=>cases e2
 ·next e1 e2=>exact e1
 ·cases h
def yB (tabs:List (Nat×List AV)) (i:Nat):Nat:=match bV i tabs with
 | some c=>c.length
 | none=>0
def qK (tabs:List (Nat×List AV)) (G next:Nat) (r:List (Nat×Option Nat)) (η:Env) (bQ:Nat->Option Obj):Env where
 pl:=λi=>if i<=G then some ⟨i,0,yB tabs i,0⟩ else if i < next then match bV i r with
  | some (some id)=>η id
  | _=>none
  else none
 ro:=bQ
 gh:=λi=>decide (G < i)&&decide (i < next)&&match bV i r with
  | some (some id)=>η.gh id
  | some none=>true
  | none=>false
end
end Go.aJ
namespace Go.aJ
set_option linter.unusedSimpArgs false
noncomputable section
set_option linter.unusedSectionVars false
set_option linter.unusedVariables false
variable {P:Program}
structure uf (T:aG) (P:Program) (tabs:List (Nat×List AV)) (G next:Nat) (η:Env) (σ:au) (w:World) (fz:List Nat) (r:List (Nat×Option Nat)) (ps:List Nat) (gs:List GV) (bQ:Nat->Option Obj):Prop where
 rel:@SR T P η σ w
 vals:valsOf T.val ps=some gs
 rY:∀b o,η.ro b=some o->bQ b=some o
 sV:∀id∈fz,∀o q,σ.get id=some o->o.own=true->η id=some q->bQ q.bl=w.heap[q.bl]?
 gn:G=P.globals.size
 lt:G < next
variable {T:aG} {ka:Nat} {tabs:List (Nat×List AV)} {G next:Nat} {η:Env} {σ:au} {w:World} {fz:List Nat} {r:List (Nat×Option Nat)} {ps:List Nat} {gs:List GV} {bQ:Nat->Option Obj}
theorem DC {i id:Nat} (hG:G < i) (hn:i < next) (hr:bV i r=some (some id)):(qK tabs G next r η bQ) i=η id:=by
 show (if i<=G then some (⟨i,0,yB tabs i,0⟩:Place) else if i < next then _ else none)=_
 rw [ah (by omega),aj hn,hr]
theorem QJ {i:Nat} (hG:i<=G):(qK tabs G next r η bQ) i=some ⟨i,0,yB tabs i,0⟩:=by
 show (if i<=G then some (⟨i,0,yB tabs i,0⟩:Place) else _)=_
 rw [aj hG]
theorem adl {i id:Nat} (hG:G < i) (hn:i < next) (hr:bV i r=some (some id)):(qK tabs G next r η bQ).gh i=η.gh id:=by
 show (decide (G < i)&&decide (i < next)&&_)=_
 rw [hr];simp [hG,hn]
theorem adn {i:Nat} (hG:G < i) (hn:i < next) (hr:bV i r=some none):(qK tabs G next r η bQ).gh i=true:=by
 show (decide (G < i)&&decide (i < next)&&_)=_
 rw [hr];simp [hG,hn]
theorem abV (C:uf T P tabs G next η σ w fz r ps gs bQ) {a:AV} {m:Nat} {v:Value} (h:@PU T.tofZ P σ fz a m=true) (hv:@VR T η a v) {g:GV} (hm:T.val m=some g):g.scalar=true/\GR bQ g v:=by
 letI:=T
 unfold PU at h;split at h
 ·next id n=>
  rw [aI] at h;obtain ⟨h1,h⟩:=h;have hid:id∈fz:=by simpa using h1
  split at h
  ·next m' et f hg=>
   rw [aI] at h;have e:=bf h.1;subst e;simp only [VR] at hv;obtain ⟨ys,k1,hv⟩:=hv;rcases hv with ⟨q,hq,hle,rfl⟩ | ⟨hgh,rfl,rfl⟩
   ·have hor:=C.rel.at hg hq
    obtain ⟨xs,x1,x2,x3,x4,x5,x6,x7,x8⟩:=hor.I9;have x1':T.val m'=some (.l xs):=x1;rw [hm] at x1';cases x1';have hlen:=xq 100 h.2 x1 k1;refine ⟨rfl, ?_⟩;have hcl:=Ey x2;have:=GR.WX (ro':=bQ) (off:=0) (n:=ys.length) (size:=q.es) (cap:=q.sz / q.es) (cs:=bD xs) (gs:=xs) x8 C.rY (C.sV id hid _ q hg rfl hq) (by
     unfold takeN;rw [dO,<- hlen,lu (by omega),aj hcl]) hlen hle x4 (λx hx=>⟨x2 x hx,x7 x hx⟩) (λη' vs hro hvs=>by
      unfold bD at hvs ⊢;exact (mG _ _).1 (aK.mono hro _ _ ((mG _ _).2 hvs)))
    simpa using this
   ·rcases C.rel.live id _ hg with ⟨q,hq,_⟩ | ⟨_,n2,U0,f2,e2,hv0⟩
    ·rw [(C.rel.jq id hgh).1] at hq;cases hq
    ·cases e2
     have Qi:T.val m'=some (.l []):=hv0;rw [hm] at Qi;cases Qi;exact ⟨rfl,by simp [GR]⟩
  ·cases h
 ·next id off len cap=>
  rw [aI] at h;obtain ⟨h1,h⟩:=h;have hid:id∈fz:=by simpa using h1
  split at h
  ·next c et opn hg=>
   split at h
   ·next m' size hl hsz=>
    rw [aI] at h;have e:=bf h.1;subst e;have h0:0 < size:=by have:=h.2;rwa [iK] at this
    simp only [VR] at hv;obtain ⟨q,hq,hle,rfl⟩:=hv;unfold listOf at hl;simp only [hg,hsz] at hl;split at hl
    ·next c' EG rw' L8 size' agg e1 e2 ha=>
     cases e1;cases e2;split at hl
     ·next hc=>
      rw [aI,lU,aI] at hc;split at hl
      ·next cs hcs=>
       split at hl
       ·next ns hns=>
        have hagg:agg=false->size=1:=by
         intro e;subst e;rcases hc.2 with h1 | h1
         ·simp at h1
         ·exact bf h1
        obtain ⟨g',g1,g2⟩:=fM hl;have g1':T.val m'=some g':=g1;rw [hm] at g1';cases g1';have hor:=C.rel.at hg hq;obtain ⟨ws,elem,fr,hb,rr⟩:=hor;have hlc:=(qg hcs).2.1;have al4:=rr.xA hcs;obtain ⟨gl,k1,k2,k3,k4,hsize⟩:=Dc (η:=η) hagg len hns al4 hlc;simp only [Nd.den,k1,fK,aT] at g2;subst g2;refine ⟨rfl, ?_⟩;have:=GR.WX (ro':=bQ) (off:=off) (n:=len) (size:=size) (cap:=cap.getD ((q.sz - off) / q.es)) (cs:=cs) (gs:=gl) (C.rel.at hg hq) C.rY (C.sV id hid _ q hg rfl hq) hcs k2 hle h0 hsize (λη' vs hro hvs=>by
         obtain ⟨gl',k1',k2',Qk,_⟩:=Dc (η:=η) hagg len hns hvs hlc;rw [k1] at k1';cases k1';unfold bD at Qk ⊢;exact (mG _ _).1 (aK.mono hro _ _ ((mG _ _).2 Qk)))
        exact this
       ·cases hl
      ·cases hl
     ·cases hl
    ·cases hl
   ·cases h
  ·cases h
 ·cases h
theorem aht:∀ {a b:Option Nat},capEq a b=true->a=b
 | none,none,_=>rfl
 | some _,some _,h=>rE some (bf h)
 | none,some _,h=>by cases h
 | some _,none,h=>by cases h
mutual
theorem WH (C:uf T P tabs G next η σ w fz r ps gs bQ):∀ (p a:AV) (v:Value),p.under next=true->@mV T.tofZ P G σ fz r ps p a=true->@VR T η a v->@VR (Tg tabs gs ka) (qK tabs G next r η bQ) p v
 | .nd j,a,v,hu,h,hv=>by
   letI:=T
   simp only [mV] at h;split at h
   ·next m hm=>
    obtain ⟨e1,g,e2⟩:=DW C.vals hm;simp only [VR];refine ⟨g,by show gs[j]? = _;rw [e1,e2], ?_⟩;rw [lU] at h;rcases h with h | h
    ·split at h
     ·next m' hm'=>
      have e:=bf h;subst e;obtain ⟨g',k1,k2,k3⟩:=kM hm' hv;have k1':T.val m=some g':=k1;rw [e2] at k1';cases k1';exact ⟨k2,GR.mono C.rY _ _ k3⟩
     ·cases h
    ·exact abV C h hv e2
   ·cases h
 | .sv i j,a,v,hu,h,hv=>by
   letI:=T
   simp only [AV.under,iK] at hu;simp only [mV] at h;split at h
   ·next m hm=>
    obtain ⟨e1,g,e2⟩:=DW C.vals hm;split at h
    ·next id n=>
     rw [aI,aI,iK] at h;obtain ⟨⟨h1,h2⟩,h3⟩:=h;have hr:=MG h2;simp only [VR] at hv ⊢;obtain ⟨xs,k1,hv⟩:=hv;have hx:∃ys,g=.l ys/\ys.length=xs.length:=by
      obtain ⟨ys,rfl⟩:=ars 100 h3 e2 k1;exact ⟨ys,rfl,xq 100 h3 e2 k1⟩
     obtain ⟨ys,rfl,hlen⟩:=hx;refine ⟨ys,by show gs[j]? = _;rw [e1,e2], ?_⟩;rcases hv with ⟨q,hq,hle,rfl⟩ | ⟨hgh,rfl,rfl⟩
     ·exact .inl ⟨q,by rw [DC h1 hu hr];exact hq,by rw [hlen];exact hle,by rw [hlen]⟩
     ·exact .inr ⟨by rw [adl h1 hu hr];exact hgh,jh (by simpa using hlen),rfl⟩
    ·rw [aI,aI,iK] at h
     obtain ⟨⟨h1,h2⟩,h3⟩:=h;have hr:=apF h2;simp only [VR] at hv ⊢;unfold I8 at h3;split at h3
     ·next hn=>
      obtain ⟨g',k1,k2⟩:=T.oV m _ hn (by simp);rw [e2] at k1;cases k1;simp only [Nd.den,valsOf,fK,aT] at k2;subst k2;exact ⟨[],by show gs[j]? = _;rw [e1,e2],.inr ⟨adn h1 hu hr,rfl,hv⟩⟩
     ·cases h3
    ·cases h
   ·cases h
 | .p i off,a,v,hu,h,hv=>by
   letI:=T
   simp only [AV.under,iK] at hu;simp only [mV] at h;split at h
   ·next id off'=>
    rw [aI] at h;have e:=bf h.1;subst e;simp only [VR] at hv ⊢;obtain ⟨q,hq,rfl⟩:=hv;split at h
    ·next hle=>
     have e:=bf h.2;subst e;obtain ⟨sz,es,hg⟩:=C.rel.kY i (by rw [<- C.gn];exact hle);rw [hq] at hg;cases hg;exact ⟨_,QJ hle,rfl⟩
    ·next hle=>exact ⟨q,by rw [DC (by omega) hu (MG h.2)];exact hq,rfl⟩
   ·cases h
 | .rx j off,a,v,hu,h,hv=>by
   letI:=T
   simp only [mV] at h;split at h
   ·next m off'=>
    rw [aI] at h;have e:=bf h.1;subst e;split at h
    ·next m' hm=>
     have e:=bf h.2;subst e;obtain ⟨e1,g,e2⟩:=DW C.vals hm;simp only [VR] at hv ⊢;obtain ⟨g',bl,base,cs,elem,fr,x,k1,k2,k3,k4,k5⟩:=hv;have k1':T.val m=some g':=k1;rw [e2] at k1';cases k1';exact ⟨g,bl,base,cs,elem,fr,x,by show gs[j]? = _;rw [e1,e2],C.rY _ _ k2,GR.mono C.rY _ _ k3,k4,k5⟩
    ·simp at h
   ·cases h
 | .fn f fi cs,a,v,hu,h,hv=>by
   letI:=T
   simp only [AV.under,aI] at hu;simp only [mV] at h;split at h
   ·next f' fi' cs'=>
    rw [aI,aI] at h;obtain ⟨⟨h1,h2⟩,h3⟩:=h;have e:=bf h1;subst e;simp only [VR] at hv ⊢;obtain ⟨us,vs,rfl,k1,k2⟩:=hv;exact ⟨us,vs,rfl,DF C fi fi' us hu.1 h2 k1,DF C cs cs' vs hu.2 h3 k2⟩
   ·cases h
 | .agg l,a,v,hu,h,hv=>by
   letI:=T
   simp only [AV.under] at hu;simp only [mV] at h;split at h
   ·next l'=>simp only [VR] at hv ⊢;obtain ⟨vs,rfl,k1⟩:=hv;exact ⟨vs,rfl,DF C l l' vs hu h k1⟩
   ·cases h
 | .bY l,a,v,hu,h,hv=>by
   letI:=T
   simp only [AV.under] at hu;simp only [mV] at h;split at h
   ·next l'=>simp only [VR] at hv ⊢;obtain ⟨vs,rfl,k1⟩:=hv;exact ⟨vs,rfl,DF C l l' vs hu h k1⟩
   ·cases h
 | .dY t x,a,v,hu,h,hv=>by
   letI:=T
   simp only [AV.under] at hu;simp only [mV] at h;split at h
   ·next t' x'=>
    rw [aI] at h;have e:=bf h.1;subst e;simp only [VR] at hv ⊢;obtain ⟨y,rfl,k1⟩:=hv;exact ⟨y,rfl,WH C x x' y hu h.2 k1⟩
   ·cases h
 | .b x,a,v,hu,h,hv=>by
   letI:=T
   simp only [mV] at h;split at h
   ·next y=>have:=OB.1 h;subst this;simp only [VR] at hv ⊢;exact hv
   ·cases h
 | .i k n,a,v,hu,h,hv=>by
   letI:=T
   simp only [mV] at h;split at h
   ·next k' n'=>
    rw [aI] at h;have e1:=Qm h.1;have e2:=acF h.2;subst e1;subst e2;simp only [VR] at hv ⊢;exact hv
   ·cases h
 | .s x,a,v,hu,h,hv=>by
   letI:=T
   simp only [mV] at h;split at h
   ·next y=>have:=Ur h;subst this;simp only [VR] at hv ⊢;exact hv
   ·cases h
 | .jB,a,v,hu,h,hv=>by letI:=T;simp only [mV] at h;split at h;(simp only [VR] at hv ⊢;exact hv);cases h
 | .bT,a,v,hu,h,hv=>by letI:=T;simp only [mV] at h;split at h;(simp only [VR] at hv ⊢;exact hv);cases h
 | .yw,a,v,hu,h,hv=>by letI:=T;simp only [mV] at h;split at h;(simp only [VR] at hv ⊢;exact hv);cases h
 | .qM,a,v,hu,h,hv=>by letI:=T;simp only [mV] at h;split at h;(simp only [VR] at hv ⊢;exact hv);cases h
 | .oC,a,v,hu,h,hv=>by letI:=T;simp only [mV] at h;split at h;(simp only [VR] at hv ⊢;exact hv);cases h
 | .sl i off len cap,a,v,hu,h,hv=>by
   letI:=T
   simp only [AV.under,iK] at hu;simp only [mV] at h;split at h
   ·next id off' len' cap'=>
    simp only [aI,iK] at h;obtain ⟨⟨h1,h2⟩,h3,h4,h5⟩:=h;have e1:=bf h3;have e2:=bf h4;have e3:=aht h5;subst e1;subst e2;subst e3;simp only [VR] at hv ⊢;obtain ⟨q,hq,k1,rfl⟩:=hv;exact ⟨q,by rw [DC h1 hu (MG h2)];exact hq,k1,rfl⟩
   ·cases h
 | .mp i,a,v,hu,h,hv=>by
   letI:=T
   simp only [AV.under,iK] at hu;simp only [mV] at h;split at h
   ·next id=>
    rw [aI,iK] at h;simp only [VR] at hv ⊢;obtain ⟨q,hq,rfl⟩:=hv;exact ⟨q,by rw [DC h.1 hu (MG h.2)];exact hq,rfl⟩
   ·cases h
 | .z _ _ _,_,_,_,h,_=>by simp [mV] at h
 | .ro _,_,_,_,h,_=>by simp [mV] at h
 | .rp _ _,_,_,_,h,_=>by simp [mV] at h
 | .pv _ _ _,_,_,_,h,_=>by simp [mV] at h
 | .pd _ _,_,_,_,h,_=>by simp [mV] at h
theorem DF (C:uf T P tabs G next η σ w fz r ps gs bQ):∀ (p a:List AV) (v:List Value),AV.nK next p=true->@zo T.tofZ P G σ fz r ps p a=true->@aA T η a v->@aA (Tg tabs gs ka) (qK tabs G next r η bQ) p v
 | [],a,v,hu,h,hv=>by
   letI:=T
   simp only [zo] at h;split at h
   ·simp only [aA] at hv ⊢;exact hv
   ·cases h
 | p::l,a,v,hu,h,hv=>by
   letI:=T
   simp only [AV.nK,aI] at hu;simp only [zo] at h;split at h
   ·next b m'=>
    rw [aI] at h;simp only [aA] at hv ⊢;obtain ⟨x,xs,rfl,k1,k2⟩:=hv;exact ⟨x,xs,rfl,WH C p b x hu.1 h.1 k1,DF C l m' xs hu.2 h.2 k2⟩
   ·cases h
end
theorem adp {t:Tr AV} [fZ]:∀ {l:List (Nat×AV)},QK P G σ fz r ps t l=true->∀k p,(k,p)∈l->∃v,t.get k=some v/\mV P G σ fz r ps p v=true
 | [],_,k,p,hk=>by simp at hk
 | q::l,h,k,p,hk=>by
   simp only [QK,aI] at h;rcases bC.1 hk with e | hk
   ·subst e
    have h1:=h.1;split at h1
    ·next v hv=>exact ⟨v,hv,h1⟩
    ·cases h1
   ·exact adp h.2 k p hk
theorem ado [fZ]:∀ {l:List (Nat×aY)},I4 P G next σ fz r ps l=true->∀i o,(i,o)∈l->G < i/\i < next/\mO P G σ fz r ps i o=true
 | [],_,i,o,hk=>by simp at hk
 | q::l,h,i,o,hk=>by
   simp only [I4,aI,iK] at h;rcases bC.1 hk with e | hk
   ·subst e;exact ⟨h.1.1.1,h.1.1.2,h.1.2⟩
   ·exact ado h.2 i o hk
theorem X7:∀ {r:List (Nat×Option Nat)},F5 r=true->∀i j a,bV i r=some (some a)->bV j r=some (some a)->i=j
 | [],_,i,j,a,h1,_=>by simp [bV] at h1
 | p::l,h,i,j,a,h1,h2=>by
   simp only [F5,aI] at h;simp only [bV] at h1 h2;cases hb1:Nat.beq i p.1<;>cases hb2:Nat.beq j p.1<;>rw [hb1] at h1<;>rw [hb2] at h2<;>simp only [cond_true,cond_false,aT] at h1 h2
   ·exact X7 h.2 i j a h1 h2
   ·have hm:=PV h1
    have h3:=h.1;rw [h2] at h3;have:=List.all_eq_true.1 h3 _ hm;simp at this
   ·have hm:=PV h2
    have h3:=h.1;rw [h1] at h3;have:=List.all_eq_true.1 h3 _ hm;simp at this
   ·rw [bf hb1,bf hb2]
theorem amY (C:uf T P tabs G next η σ w fz r ps gs bQ) {i:Nat} {o:aY} (hG:G < i) (hn:i < next) (hb:yS next o=true) (h:@mO T.tofZ P G σ fz r ps i o=true) :
 @Live (Tg tabs gs ka) P (qK tabs G next r η bQ) w i o/\(∀id,bV i r=some (some id)->id∉fz/\∃o',σ.get id=some o'/\o'.own=o.own):=by
 letI:=T
 unfold mO at h;split at h
 ·next id hr=>
  rw [aI] at h;obtain ⟨h1,h⟩:=h;have hnf:id∉fz:=by intro hm;rw [Zn.2 hm] at h1;simp at h1
  have hpl:(qK tabs G next r η bQ) i=η id:=DC hG hn hr;split at h
  ·next l et rZ opn=>
   split at h
   ·next c EG rw' L8 hg=>
    rw [aI,aI,aI] at h;obtain ⟨⟨⟨h2,h3⟩,h4⟩,h5⟩:=h;have e1:=bf h2;have e2:=OB.1 h3;have e3:=OB.1 h4;subst e1;subst e2;subst e3;refine ⟨?_,λid' jf=>by rw [hr] at jf;cases jf;exact ⟨hnf,_,hg,rfl⟩⟩;obtain ⟨q,hq,cs,elem,fr,hb0,rr⟩:=C.rel.obj _ _ hg rfl;refine .inl ⟨q,by rw [hpl];exact hq,cs,elem,fr,hb0, ?_⟩;have hvs:@aA T η c ((cs.toList.drop q.ba).take c.length):=by
     have hfit:=rr.fits;have hle:=rr.le;refine aA.of (by simp;omega) λk a hk=>?_;obtain ⟨x,hx,hv⟩:=rr.cell k a hk;have hlt:=(dX.1 hk).1;exact ⟨x,by rw [kQ,aj hlt,qw];simpa using hx,hv⟩
    have hvl:=DF (ka:=ka) C l c _ hb h5 hvs;have hlen:l.length=c.length:=by
     have h6:=@aA.length (Tg tabs gs ka) _ _ _ hvl;have h7:=hvs.length;omega
    exact @ql.mk (Tg tabs gs ka) P (qK tabs G next r η bQ) q l et rZ opn cs elem fr rr.fits (by rw [hlen];exact rr.le) (λe=>by rw [hlen];exact rr.shut e) (λk a hk=>by
           obtain ⟨x,hx,hv⟩:=@aA.at (Tg tabs gs ka) _ _ _ hvl k a hk;have hlt:=(dX.1 hk).1;rw [kQ,aj (by omega),qw] at hx;exact ⟨x,by simpa using hx,hv⟩) rr.free rr.whole rr.room
   ·cases h
  ·next j et f=>
   split at h
   ·next m EG f' hg=>
    rw [aI,aI] at h;obtain ⟨⟨h2,h3⟩,h4⟩:=h;have e1:=bf h2;subst e1;refine ⟨?_,λid' jf=>by rw [hr] at jf;cases jf;exact ⟨hnf,_,hg,rfl⟩⟩;split at h4
    ·next m' hm=>
     have e:=bf h4;subst e;obtain ⟨e1,g,e2⟩:=DW C.vals hm;rcases C.rel.live id _ hg with ⟨q,hq,hor⟩ | ⟨hgh,n2,U0,f2,e3,hv0⟩
     ·obtain ⟨xs,cs,elem,fr,ys,k1,k2,k3,k4,k5,k6,k7,k8,k9⟩:=hor
      have k1':T.val m=some (.l xs):=k1;refine .inl ⟨q,by rw [hpl];exact hq,xs,cs,elem,fr,ys,by show gs[j]? = _;rw [e1,k1'],k2,aK.mono C.rY _ _ k3,k4,k5,k6,@ql.mk (Tg tabs gs ka) P (qK tabs G next r η bQ) q [] et true true cs elem fr k7.fits k7.le k7.shut (λk a hk=>by simp at hk) k7.free k7.whole k7.room,k8,λe=>k9 ?_⟩;rw [e] at h3;simpa using h3
     ·cases e3
      have Qi:T.val m=some (.l []):=hv0;exact .inr ⟨by rw [adl hG hn hr];exact hgh,j,et,f,rfl,by show gs[j]? = _;rw [e1,Qi]⟩
    ·simp at h4
   ·cases h
  ·next j kk sz=>
   split at h
   ·next m A8 sz' hg=>
    rw [aI,aI] at h;obtain ⟨⟨h2,h3⟩,h4⟩:=h;have e1:=Qs h2;have e2:=YF h3;subst e1;subst e2;refine ⟨?_,λid' jf=>by rw [hr] at jf;cases jf;exact ⟨hnf,_,hg,rfl⟩⟩;split at h4
    ·next m' hm=>
     have e:=bf h4;subst e;obtain ⟨e1,g,e2⟩:=DW C.vals hm;obtain ⟨q,hq,xs,ms,clock,k1,k2,k3⟩:=C.rel.obj _ _ hg rfl;have k1':T.val m=some (.l xs):=k1;exact .inl ⟨q,by rw [hpl];exact hq,xs,ms,clock,by show gs[j]? = _;rw [e1,k1'],k2,k3.mono C.rY⟩
    ·simp at h4
   ·next hg=>
    refine ⟨?_,λid' jf=>by rw [hr] at jf;cases jf;exact ⟨hnf,_,hg,rfl⟩⟩;split at h
    ·next m hm=>
     obtain ⟨e1,g,e2⟩:=DW C.vals hm;unfold I8 at h;split at h
     ·next hnn=>
      obtain ⟨g',k1,k2⟩:=T.oV m _ hnn (by simp);rw [e2] at k1;cases k1;simp only [Nd.den,valsOf,fK,aT] at k2;subst k2;obtain ⟨q,hq,ms,clock,hb,hsz,_⟩:=C.rel.obj _ _ hg rfl;refine .inl ⟨q,by rw [hpl];exact hq,[],ms,clock,by show gs[j]? = _;rw [e1,e2],hb, ?_⟩;simp only [qA];have:ms.size=0:=by simpa using hsz
      simpa using Y6 this
     ·cases h
    ·simp at h
   ·cases h
  ·split at h
   ·next hg=>
    refine ⟨?_,λid' jf=>by rw [hr] at jf;cases jf;exact ⟨hnf,_,hg,rfl⟩⟩;obtain ⟨q,hq,ms,clock,hb,hsz,_⟩:=C.rel.obj _ _ hg rfl;exact .inl ⟨q,by rw [hpl];exact hq,ms,clock,hb,hsz,λk e hk=>by simp at hk⟩
   ·cases h
  ·cases h
 ·next hr=>
  refine ⟨?_,λid hid=>by rw [hr] at hid;cases hid⟩;split at h
  ·next j et f=>
   split at h
   ·next m hm=>
    obtain ⟨e1,g,e2⟩:=DW C.vals hm;unfold I8 at h;split at h
    ·next hnn=>
     obtain ⟨g',k1,k2⟩:=T.oV m _ hnn (by simp);rw [e2] at k1;cases k1;simp only [Nd.den,valsOf,fK,aT] at k2;subst k2;exact .inr ⟨adn hG hn hr,j,et,f,rfl,by show gs[j]? = _;rw [e1,e2]⟩
    ·cases h
   ·cases h
  ·cases h
 ·cases h
end
end Go.aJ
namespace Go.aJ
set_option linter.unusedSimpArgs false
noncomputable section
set_option linter.unusedSectionVars false
set_option linter.unusedVariables false
variable {P:Program}
variable {T:aG} {tabs:List (Nat×List AV)} {G next:Nat} {η:Env} {σ:au} {w:World} {fz:List Nat} {r:List (Nat×Option Nat)} {ps:List Nat} {gs:List GV} {bQ:Nat->Option Obj}
def CU (n:Nat):List (Nat×AV)->Bool
 | []=>true
 | p::l=>p.2.under n&&CU n l
theorem aal {n:Nat}:∀ {l:List (Nat×AV)},CU n l=true->∀k p,(k,p)∈l->p.under n=true
 | [],_,k,p,h=>by simp at h
 | q::l,h,k,p,hk=>by
   simp only [CU,aI] at h;rcases bC.1 hk with e | hk
   ·subst e;exact h.1
   ·exact aal h.2 k p hk
def fQ.ok (s:fQ):Bool:=Nat.blt s.gn s.next&&CU s.next s.slots&&s.objs.all λp=>yS s.next p.2
structure sN (tabs:List (Nat×List AV)) (G:Nat):Prop where
 low:∀p∈tabs,p.1<=G
 one:∀p∈tabs,bV p.1 tabs=some p.2
theorem asA (T:aG) {η:Env} {a:AV} {v:Value} (h:a.toVal 4=some v):@VR T η a v:=@afO T η 4 a v h
theorem WM {ka:Nat} {s:fQ} (rQ:T.tabs=tabs) (hlow:sN tabs P.globals.size) (EL:s.objs.all (λp=>yS s.next p.2)=true) (h3:s.gn < s.next) (hgn:s.gn=P.globals.size)
 (C:uf T P tabs s.gn s.next η σ w fz r ps gs bQ) (f1:∀b o,bQ b=some o->w.heap[b]? = some o) (f2:∀id o q,id∉fz->σ.get id=some o->o.own=true->η id=some q->bQ q.bl=none) (h4:F5 r=true) (h6:@I4 T.tofZ P s.gn s.next σ fz r ps s.objs=true) :
 @SR (Tg tabs gs ka) P (qK tabs s.gn s.next r η bQ) (s.st tabs) w/\(∀i o q,(s.st tabs).get i=some o->o.own=true->(qK tabs s.gn s.next r η bQ) i=some q->∃id o',bV i r=some (some id)/\id∉fz/\σ.get id=some o'/\o'.own=true/\η id=some q):=by
 letI:=T
 have obj:∀i o,(s.st tabs).get i=some o->(s.gn < i/\i < s.next/\@Live (Tg tabs gs ka) P (qK tabs s.gn s.next r η bQ) w i o/\(∀id,bV i r=some (some id)->id∉fz/\∃o',σ.get id=some o'/\o'.own=o.own))\/
  (i<=s.gn/\∃c,o=.cells c 0 false false/\(i,c)∈tabs):=by
  intro i o hi;have hmem:=LZ hi;rcases jO.1 hmem with hmem | hmem
  ·obtain ⟨g1,g2,g3⟩:=ado h6 i o hmem
   have hb:=List.all_eq_true.1 EL _ hmem;obtain ⟨g4,g5⟩:=amY C g1 g2 hb g3;exact .inl ⟨g1,g2,g4,g5⟩
  ·obtain ⟨p,hp,e⟩:=nO.1 hmem
   cases e;exact .inr ⟨by rw [hgn];exact hlow.low p hp,p.2,rfl,hp⟩
 have own:∀i o q,(s.st tabs).get i=some o->o.own=true->(qK tabs s.gn s.next r η bQ) i=some q->∃id o',bV i r=some (some id)/\id∉fz/\σ.get id=some o'/\o'.own=true/\η id=some q:=by
  intro i o q hi ho hq;rcases obj i o hi with ⟨g1,g2,_,g4⟩ | ⟨_,c,rfl,_⟩
  ·have hq':(if i<=s.gn then some ⟨i,0,yB tabs i,0⟩ else if i < s.next then (match bV i r with | some (some id)=>η id | _=>none) else none)=some q:=hq
   rw [ah (by omega),aj g2] at hq';split at hq'
   ·next id hid=>
    obtain ⟨k1,o',k2,k3⟩:=g4 id hid;exact ⟨id,o',hid,k1,k2,k3.trans ho,hq'⟩
   ·cases hq'
  ·cases ho
 have asn:∀p∈tabs,@CG (qK tabs s.gn s.next r η bQ) p.1 p.2:=by
  intro p hp;obtain ⟨cs,elem,fr,k1,k2⟩:=C.rel.tabs p (by rw [rQ];exact hp);exact ⟨cs,elem,fr,C.rY _ _ k1,k2⟩
 refine ⟨@SR.mk (Tg tabs gs ka) P _ _ w ?_ ?_ ?_ ?_ ?_ ?_ ?_ ?_,own⟩
 ·intro g hg
  exact ⟨_,_,QJ (by omega)⟩
 ·intro i q hq
  have hq':(if i<=s.gn then some ⟨i,0,yB tabs i,0⟩ else if i < s.next then (match bV i r with | some (some id)=>η id | _=>none) else none)=some q:=hq;show i < s.next
  split at hq'
  ·omega
  ·split at hq'
   ·next h=>exact h
   ·cases hq'
 ·intro i o hi
  rcases obj i o hi with ⟨_,_,g3,_⟩ | ⟨hle,c,rfl,hmem⟩
  ·exact g3
  ·obtain ⟨cs,elem,fr,k1,k2,k3⟩:=C.rel.tabs (i,c) (by rw [rQ];exact hmem)
   have hb:=C.rel.iP _ _ k1;have hsz:yB tabs i=c.length:=by unfold yB;rw [hlow.one (i,c) hmem]
   refine .inl ⟨⟨i,0,yB tabs i,0⟩,QJ hle,cs,elem,fr,hb, ?_⟩;refine @ql.mk (Tg tabs gs ka) P _ _ c 0 false false cs elem fr (by simp only at k2 ⊢;omega) (by simp only;omega) (λ_=>by simp only;omega) (λk a hk=>?_) (λh=>by cases h) (λh=>absurd rfl h) (λh=>by cases h);obtain ⟨x,hx,hv⟩:=k3.1 k a hk;exact ⟨x,by simpa using hx,@NY.vr (Tg tabs gs ka) _ _ _ hv⟩
 ·intro i hg
  have hg':(decide (s.gn < i)&&decide (i < s.next)&&(match bV i r with | some (some id)=>η.gh id | some none=>true | none=>false))=true:=hg;rw [aI,aI,decide_eq_true_iff,decide_eq_true_iff] at hg';obtain ⟨⟨k1,k2⟩,k3⟩:=hg';refine ⟨?_,k2⟩;show (if i<=s.gn then some ⟨i,0,yB tabs i,0⟩ else if i < s.next then (match bV i r with | some (some id)=>η id | _=>none) else none)=none
  rw [ah (by omega),aj k2];split at k3
  ·next id hid=>rw [hid];exact (C.rel.jq id k3).1
  ·next hid=>rw [hid]
  ·cases k3
 ·intro i o i' o' q q' a1 a2 a3 a4 a5 a6
  obtain ⟨id,u,b1,b2,b3,b4,b5⟩:=own i o q a1 a2 a5;rcases obj i' o' a3 with ⟨g1,g2,_,g4⟩ | ⟨hle,c,rfl,hmem⟩
  ·have hq':(if i'<=s.gn then some ⟨i',0,yB tabs i',0⟩ else if i' < s.next then (match bV i' r with | some (some id)=>η id | _=>none) else none)=some q':=a6
   rw [ah (by omega),aj g2] at hq';split at hq'
   ·next id' jf=>
    obtain ⟨k1,u',k2,k3⟩:=g4 id' jf;exact C.rel.sep id u id' u' q q' b3 b4 k2 (λe=>a4 (by subst e;exact X7 h4 i i' id b1 jf)) b5 hq'
   ·cases hq'
  ·intro e
   rw [QJ hle] at a6;cases a6;obtain ⟨cs,elem,fr,k1,_⟩:=C.rel.tabs (i',c) (by rw [rQ];exact hmem);have:=C.rel.ku id u q b3 b4 b5;simp only at e;rw [e] at this;rw [k1] at this;cases this
 ·exact f1
 ·intro i o q a1 a2 a3
  obtain ⟨id,u,b1,b2,b3,b4,b5⟩:=own i o q a1 a2 a3;exact f2 id u q b2 b3 b4 b5
 ·exact asn
theorem Uh {r:List (Nat×Option Nat)}:∀ {n i:Nat},J5 r i n=true->∀j,i < j->j<=i+n->bV j r=some (some j)
 | 0,i,_,j,h1,h2=>by omega
 | n+1,i,h,j,h1,h2=>by
   simp only [J5,aI] at h;by_cases e:j=i+1
   ·subst e;exact MG h.1
   ·exact Uh h.2 j (by omega) (by omega)
theorem WJ {w0:Base} {dw:Nat->Option Obj} {a:aV} {A:Act} {s:fQ} (rQ:T.tabs=tabs) (hlow:sN tabs P.globals.size) (hok:s.ok=true) (hF:@jr T P w0 dw η σ w) (hl:σ.lock=0) (ht:@TR T P η a A) (hm:@WG T.tofZ P s a σ fz r ps=true) (hps:valsOf T.val ps=some gs):NW P tabs s gs w0 dw A w:=by
 letI:=T
 unfold WG at hm;simp only [aI,iK] at hm;obtain ⟨⟨⟨⟨⟨⟨⟨⟨k1,k2⟩,k3⟩,h1⟩,h2⟩,h3⟩,h4⟩,h5⟩,h6⟩:=hm;have k1:=bf k1;have e1:=bf h1;have e2:=bf h2;unfold fQ.ok at hok;rw [aI,aI] at hok;obtain ⟨⟨_,hbs⟩,EL⟩:=hok;have hgn:s.gn=P.globals.size:=by rw [e2];exact ht.gn
 obtain ⟨bQ,f1,f2,f3⟩:=PS hF hl fz;have C:uf T P tabs s.gn s.next η σ w fz r ps gs bQ:=⟨hF.rel,hps,f1,f3,hgn,h3⟩
 obtain ⟨hS,own⟩:=WM (ka:=s.ka) rQ hlow EL h3 hgn C f2.rel.iP (λid o q b2 b3 b4 b5=>f2.rel.ku id o q (by rw [AZ,ah b2];exact b3) b4 b5) h4 h6;refine ⟨qK tabs s.gn s.next r η bQ, ?_, ?_⟩
 ·refine @jr.mk (Tg tabs gs s.ka) P w0 dw _ _ w hS hF.kept ?_ ?_ ?_ ?_
  ·intro i o q a1 a2 a3
   obtain ⟨id,u,b1,b2,b3,b4,b5⟩:=own i o q a1 a2 a3;exact hF.own id u q b3 b4 b5
  ·exact f2.rY
  ·exact f2.oZ
  ·intro i q hi
   obtain ⟨a1,a2,a3⟩:=hF.nS i q hi;have a3':i<=P.globals.size+s.ka:=by rw [k1];exact a3
   refine ⟨?_,a2,a3'⟩;rw [DC (by omega) (by omega) (Uh k3 i (by omega) (by omega))];exact a1
 ·refine @TR.mk (Tg tabs gs s.ka) P _ _ A ?_ ?_ ht.none ?_
  ·exact hgn
  ·show A.tmps.size=s.n
   rw [e1];exact ht.size
  ·intro k p hk
   obtain ⟨v,v1,v2⟩:=adp h5 k p (LZ hk);obtain ⟨x,hx,hv⟩:=ht.slot k v v1;exact ⟨x,hx,WH C p v x (aal hbs k p (LZ hk)) v2 hv⟩
end
end Go.aJ
namespace Go.aJ
set_option linter.unusedSimpArgs false
noncomputable section
set_option linter.unusedSectionVars false
set_option linter.unusedVariables false
variable {P:Program}
mutual
def AV.dL (f:Nat->Nat):AV->AV
 | .nd j=>.nd (f j)
 | .rx j off=>.rx (f j) off
 | .sv id j=>.sv id (f j)
 | .pv id j off=>.pv id (f j) off
 | .pd id j=>.pd id (f j)
 | .fn g fi cs=>.fn g (AV.ou f fi) (AV.ou f cs)
 | .dY t a=>.dY t (a.dL f)
 | .agg l=>.agg (AV.ou f l)
 | .bY l=>.bY (AV.ou f l)
 | .ro l=>.ro (AV.ou f l)
 | .rp a off=>.rp (a.dL f) off
 | a=>a
def AV.ou (f:Nat->Nat):List AV->List AV
 | []=>[]
 | a::l=>a.dL f::AV.ou f l
end
theorem QL (f:Nat->Nat):∀l:List AV,AV.ou f l=l.map (AV.dL f)
 | []=>rfl
 | a::l=>by simp [AV.ou,QL f l]
def aY.dL (f:Nat->Nat):aY->aY
 | .cells c et rw opn=>.cells (AV.ou f c) et rw opn
 | .iter s pos=>.iter s pos
 | .map es=>.map (es.map λe=>(e.1.dL f,e.2.dL f))
 | .iterM m=>.iterM m
 | .vec j et b=>.vec (f j) et b
 | .smap j kk sz=>.smap (f j) kk sz
 | .pmap es=>.pmap (es.map λe=>(e.1,e.2.dL f))
theorem aY.am4 (f:Nat->Nat) (o:aY):(o.dL f).own=o.own:=by cases o<;>rfl
section
variable {S T:aG} {f:Nat->Nat} {η:Env}
mutual
theorem VR.dL (h:∀j g,S.val j=some g->T.val (f j)=some g):∀ (a:AV) (v:Value),@VR S η a v->@VR T η (a.dL f) v
 | .b _,_,hv=>by simpa only [VR,AV.dL] using hv
 | .i _ _,_,hv=>by simpa only [VR,AV.dL] using hv
 | .s _,_,hv=>by simpa only [VR,AV.dL] using hv
 | .jB,_,hv=>by simpa only [VR,AV.dL] using hv
 | .p _ _,_,hv=>by simpa only [VR,AV.dL] using hv
 | .bT,_,hv=>by simpa only [VR,AV.dL] using hv
 | .sl _ _ _ _,_,hv=>by simpa only [VR,AV.dL] using hv
 | .oC,_,hv=>by simpa only [VR,AV.dL] using hv
 | .mp _,_,hv=>by simpa only [VR,AV.dL] using hv
 | .yw,_,hv=>by simpa only [VR,AV.dL] using hv
 | .fn _ fi cs,_,hv=>by
   simp only [VR,AV.dL] at hv ⊢;obtain ⟨us,vs,e,h1,h2⟩:=hv;exact ⟨us,vs,e,aA.dL h fi us h1,aA.dL h cs vs h2⟩
 | .qM,_,hv=>by simpa only [VR,AV.dL] using hv
 | .dY _ a,_,hv=>by simp only [VR,AV.dL] at hv ⊢;obtain ⟨x,e,h1⟩:=hv;exact ⟨x,e,VR.dL h a x h1⟩
 | .agg l,_,hv=>by simp only [VR,AV.dL] at hv ⊢;obtain ⟨x,e,h1⟩:=hv;exact ⟨x,e,aA.dL h l x h1⟩
 | .bY l,_,hv=>by simp only [VR,AV.dL] at hv ⊢;obtain ⟨x,e,h1⟩:=hv;exact ⟨x,e,aA.dL h l x h1⟩
 | .z _ _ _,_,hv=>by simpa only [VR,AV.dL] using hv
 | .ro l,_,hv=>by
   simp only [VR,AV.dL] at hv ⊢;have hl:(AV.ou f l).length=l.length:=by rw [QL];simp
   rcases hv with ⟨rfl,hv⟩ | ⟨bl,off,c,xs,sz,e,hc,h1,h2,h3⟩
   ·exact .inl ⟨rfl,hv⟩
   ·rw [hl]
    exact .inr ⟨bl,off,c,xs,sz,e,hc,aA.dL h l xs h1,h2,λhn=>h3 (by intro e';apply hn;rw [e'];rfl)⟩
 | .rp a _,_,hv=>by
   simp only [VR,AV.dL] at hv ⊢;obtain ⟨bl,base,cs,elem,fr,x,h1,h2,h3⟩:=hv;exact ⟨bl,base,cs,elem,fr,x,h1,VR.dL h a x h2,h3⟩
 | .nd _,_,hv=>by simp only [VR,AV.dL] at hv ⊢;obtain ⟨g,h1,h2⟩:=hv;exact ⟨g,h _ _ h1,h2⟩
 | .rx _ _,_,hv=>by simp only [VR,AV.dL] at hv ⊢;obtain ⟨g,bl,base,cs,elem,fr,x,h1,h2⟩:=hv;exact ⟨g,bl,base,cs,elem,fr,x,h _ _ h1,h2⟩
 | .sv _ _,_,hv=>by simp only [VR,AV.dL] at hv ⊢;obtain ⟨xs,h1,h2⟩:=hv;exact ⟨xs,h _ _ h1,h2⟩
 | .pv _ _ _,_,hv=>by simp only [VR,AV.dL] at hv ⊢;obtain ⟨q,k,i,h1,h2,h3⟩:=hv;exact ⟨q,k,i,h1,h _ _ h2,h3⟩
 | .pd _ _,_,hv=>by simp only [VR,AV.dL] at hv ⊢;obtain ⟨xs,p,h1,h2⟩:=hv;exact ⟨xs,p,h _ _ h1,h2⟩
theorem aA.dL (h:∀j g,S.val j=some g->T.val (f j)=some g):∀ (l:List AV) (vs:List Value),@aA S η l vs->@aA T η (AV.ou f l) vs
 | [],_,hv=>by simpa only [aA,AV.ou] using hv
 | a::l,_,hv=>by
   simp only [aA,AV.ou] at hv ⊢;obtain ⟨x,xs,e,h1,h2⟩:=hv;exact ⟨x,xs,e,VR.dL h a x h1,aA.dL h l xs h2⟩
end
theorem OR.dL (h:∀j g,S.val j=some g->T.val (f j)=some g) {q:Place} {w:World} {o:aY} (r:@OR S P η q w o):@OR T P η q w (o.dL f):=by
 cases o with
 | cells c et rZ opn=>
   obtain ⟨cs,elem,fr,h1,⟨r1,r2,r3,r4,r5,r6,r7⟩⟩:=r;have hl:(AV.ou f c).length=c.length:=by rw [QL];simp
   refine ⟨cs,elem,fr,h1,@ql.mk T P η q _ et rZ opn cs elem fr r1 (by rw [hl];exact r2) (λe=>by rw [hl];exact r3 e) (λk a hk=>?_) r5 r6 r7⟩;rw [QL,iF] at hk;obtain ⟨a0,h2,rfl⟩:=aX.1 hk;obtain ⟨x,hx,hv⟩:=r4 k a0 h2;exact ⟨x,hx,VR.dL h a0 x hv⟩
 | iter s pos=>exact r
 | map es=>
   obtain ⟨ms,clock,h1,h2,h3⟩:=r;refine ⟨ms,clock,h1,by simpa using h2,λk e hk=>?_⟩;rw [iF] at hk;obtain ⟨e0,h4,rfl⟩:=aX.1 hk;obtain ⟨m,hm,ha,hb⟩:=h3 k e0 h4;exact ⟨m,hm,VR.dL h _ _ ha,VR.dL h _ _ hb⟩
 | iterM m=>cases m<;>exact r
 | smap j kk sz=>
   obtain ⟨xs,ms,clock,k1,k2,k3⟩:=r;exact ⟨xs,ms,clock,h _ _ k1,k2,k3⟩
 | pmap es=>
   obtain ⟨hn,ms,clock,ms',h1,hp,h2,h3⟩:=r;refine ⟨by simpa [List.map_map,Function.comp_def] using hn,ms,clock,ms',h1,hp,by simpa using h2,λk e hk=>?_⟩;rw [iF] at hk;obtain ⟨e0,h4,rfl⟩:=aX.1 hk;obtain ⟨m,hm,ha,hb⟩:=h3 k e0 h4;exact ⟨m,hm,ha,VR.dL h _ _ hb⟩
 | vec j et b=>
   obtain ⟨xs,cs,elem,fr,ys,k1,k2,k3,k4,k5,k6,⟨r1,r2,r3,r4,r5,r6,r7⟩,k8⟩:=r;exact ⟨xs,cs,elem,fr,ys,h _ _ k1,k2,k3,k4,k5,k6,@ql.mk T P η q [] et true true cs elem fr r1 r2 r3 (λk a hk=>by simp at hk) r5 r6 r7,k8⟩
theorem Live.dL (h:∀j g,S.val j=some g->T.val (f j)=some g) {w:World} {i:Nat} {o:aY} (r:@Live S P η w i o):@Live T P η w i (o.dL f):=by
 rcases r with ⟨q,hq,hr⟩ | ⟨hg,n,et,b,rfl,hv⟩
 ·exact .inl ⟨q,hq,OR.dL h hr⟩
 ·exact .inr ⟨hg,f n,et,b,rfl,h _ _ hv⟩
end
theorem FK {α:Type}:∀ (l:List (Nat×α)) (k:Nat),(nI l).get k=bV k l
 | [],k=>by simp [nI,bV]
 | (j,u)::l,k=>by
   rw [nI,Tr.uM,bV];cases hb:Nat.beq k j with
   | true=>rw [aj (bf hb)];rfl
   | false=>rw [ah (λe=>by rw [e,Nat.beq_refl] at hb;cases hb)];exact FK l k
theorem Vf {α β:Type} (g:α->β):∀ (l:List (Nat×α)) (m:List (Nat×β)) (m':List (Nat×α)) (k:Nat) (o:β),bV k (l.map (λp=>(p.1,g p.2))++m)=some o->(∃o0,bV k (l++m')=some o0/\o=g o0)\/(bV k m=some o/\(∀o',bV k m'=some o'->bV k (l++m')=some o'))
 | [],m,m',k,o,h=>.inr ⟨h,λo' h'=>h'⟩
 | p::l,m,m',k,o,h=>by
   simp only [gV,bJ,bV] at h ⊢;cases hb:Nat.beq k p.1 with
   | true=>rw [hb] at h;simp only [cond_true,aT] at h ⊢;exact .inl ⟨p.2,rfl,h.symm⟩
   | false=>rw [hb] at h;simp only [cond_false] at h ⊢;exact Vf g l m m' k o h
def fQ.Oo (s:fQ) (f:Nat->Nat):aV:=⟨nI (s.slots.map λp=>(p.1,p.2.dL f)),s.n,s.gn⟩
def fQ.BR (tabs:List (Nat×List AV)) (s:fQ) (f:Nat->Nat):au:=⟨nI (s.objs.map (λp=>(p.1,p.2.dL f))++tN tabs),s.next,0⟩
theorem abT {T:aG} {tabs:List (Nat×List AV)} {s:fQ} {gs:List GV} {f:Nat->Nat} {w0:Base} {w:World} {dw:Nat->Option Obj} {η:Env} (rQ:T.tabs=tabs) (hka:T.ka=s.ka) (hf:∀j g,gs[j]? = some g->T.val (f j)=some g) (h:@jr (Tg tabs gs s.ka) P w0 dw η (s.st tabs) w) :
 @jr T P w0 dw η (s.BR tabs f) w:=by
 obtain ⟨⟨aly,hdom,hlive,VF,hsep,alN,alP,htab⟩,hkept,hown,VL,alO,Vr⟩:=h;have hf':∀j g,(Tg tabs gs s.ka).val j=some g->T.val (f j)=some g:=hf;have obj:∀i o,(s.BR tabs f).get i=some o->(∃o0,(s.st tabs).get i=some o0/\o=o0.dL f)\/(∃c,o=.cells c 0 false false/\(i,c)∈tabs/\(s.st tabs).get i=some o):=by
  intro i o hi;have hi':bV i (s.objs.map (λp=>(p.1,p.2.dL f))++tN tabs)=some o:=(FK _ i).symm.trans hi;rcases Vf (aY.dL f) s.objs (tN tabs) (tN tabs) i o hi' with ⟨o0,h1,h2⟩ | ⟨h1,h2⟩
  ·exact .inl ⟨o0,(FK _ i).trans h1,h2⟩
  ·have hm:=PV h1
   obtain ⟨p,hp,e⟩:=nO.1 hm;cases e;exact .inr ⟨p.2,rfl,hp,(FK _ _).trans (h2 _ h1)⟩
 have own:∀i o,(s.BR tabs f).get i=some o->∃o0,(s.st tabs).get i=some o0/\o0.own=o.own:=by
  intro i o hi;rcases obj i o hi with ⟨o0,h1,rfl⟩ | ⟨c,rfl,_,h1⟩
  ·exact ⟨o0,h1,(aY.am4 f o0).symm⟩
  ·exact ⟨_,h1,rfl⟩
 refine @jr.mk T P w0 dw _ _ w (@SR.mk T P _ _ w aly hdom ?_ VF ?_ alN ?_ ?_) hkept ?_ VL alO (by rw [hka];exact Vr)
 ·intro i o hi
  rcases obj i o hi with ⟨o0,h1,rfl⟩ | ⟨c,rfl,hm,h1⟩
  ·exact Live.dL hf' (hlive i o0 h1)
  ·rcases hlive i _ h1 with ⟨q,hq,cs,elem,fr,hb,⟨r1,r2,r3,r4,r5,r6,r7⟩⟩ | ⟨_,_,_,_,e,_⟩
   rotate_left
   ·cases e
   obtain ⟨cs2,Ie,Iu,k1,k2,k3⟩:=htab (i,c) hm;refine .inl ⟨q,hq,cs,elem,fr,hb,@ql.mk T P _ _ c 0 false false cs elem fr r1 r2 r3 (λk a hk=>?_) r5 r6 r7⟩;obtain ⟨x,hx,hv⟩:=r4 k a hk;obtain ⟨y,hy,hv2⟩:=k3.1 k a hk;rcases hv2 with hv2 | ⟨_,_,_,_,rfl,rfl,_,_⟩
   ·have:x=y:=@afP (Tg tabs gs s.ka) _ 4 a y x hv2 hv
    subst this;exact ⟨x,hx,asA T hv2⟩
   ·exact ⟨x,hx,by simpa only [VR] using hv⟩
 ·intro i o i' o' q q' a1 a2 a3 a4 a5 a6
  obtain ⟨u,u1,u2⟩:=own i o a1;obtain ⟨u',u1',u2'⟩:=own i' o' a3;exact hsep i u i' u' q q' u1 (u2.trans a2) u1' a4 a5 a6
 ·intro i o q a1 a2 a3
  obtain ⟨u,u1,u2⟩:=own i o a1;exact alP i u q u1 (u2.trans a2) a3
 ·rw [rQ];exact htab
 ·intro i o q a1 a2 a3
  obtain ⟨u,u1,u2⟩:=own i o a1;exact hown i u q u1 (u2.trans a2) a3
theorem Yq {T:aG} {tabs:List (Nat×List AV)} {s:fQ} {gs:List GV} {f:Nat->Nat} {w0:Base} {w:World} {dw:Nat->Option Obj} {A:Act} (rQ:T.tabs=tabs) (hka:T.ka=s.ka) (hf:∀j g,gs[j]? = some g->T.val (f j)=some g) (h:NW P tabs s gs w0 dw A w) :
 ∃η,@jr T P w0 dw η (s.BR tabs f) w/\@TR T P η (s.Oo f) A:=by
 obtain ⟨η,hF,⟨tgn,asH,asx,asI⟩⟩:=h;have hf':∀j g,(Tg tabs gs s.ka).val j=some g->T.val (f j)=some g:=hf;refine ⟨η,abT rQ hka hf hF,@TR.mk T P _ _ A tgn asH asx ?_⟩
 ·intro k v hk
  have hk':bV k (s.slots.map (λp=>(p.1,p.2.dL f))++[])=some v:=by rw [pI];exact (FK _ k).symm.trans hk
  rcases Vf (AV.dL f) s.slots [] [] k v hk' with ⟨v0,h1,rfl⟩ | ⟨h1,_⟩
  ·rw [pI] at h1
   obtain ⟨x,hx,hv⟩:=asI k v0 ((FK _ k).trans h1);exact ⟨x,hx,VR.dL hf' v0 x hv⟩
  ·simp [bV] at h1
end
end Go.aJ
