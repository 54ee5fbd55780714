/- Pure programs: trees of nodes; what they compute; how a check of all their ways serves all values. -/
import Derived.Test.YteenmipdepcibaaGreatDoorAbsH
import Derived.Control
set_option linter.unusedSimpArgs false
set_option linter.unusedSectionVars false
set_option linter.unusedVariables false
namespace Go.aN
noncomputable section
inductive Tree where
 |step (nd:Nd) (t:Tree)
 |ite (n:Nat) (t e:Tree)
 |ret (l:Q2)
 |tail (f:Nat) (l:Q2)
 |dead
 deriving Inhabited
abbrev iC:=Nat->List GV->Option Q1
def Tree.den(I:iC):Tree->List GV->Option Q1
 |.step nd t,env=>match nd.den I (λn=>env[n]?)with
  |some g=>t.den I (env++[g])
  |none=>none
 |.ite n t e,env=>match env[n]? with
  |some (.b true)=>t.den I env
  |some (.b false)=>e.den I env
  |_=>none
 |.ret l,env=>valsOf (λn=>env[n]?) l
 |.tail f l,env=>match valsOf (λn=>env[n]?) l with
  |some gs=>I f gs
  |none=>none
 |.dead,_=>none
inductive Leaf where
 |ret (l:Q2)
 |tail (f:Nat) (l:Q2)
def Tree.chk(p:List Nd->List (Nat×Bool)->Leaf->Bool):Tree->List Nd->List (Nat×Bool)->Bool
 |.step nd t,ns,ds=>t.chk p (ns++[nd]) ds
 |.ite n t e,ns,ds=>t.chk p ns ((n,true)::ds)&&e.chk p ns ((n,false)::ds)
 |.ret l,ns,ds=>p ns ds (.ret l)
 |.tail f l,ns,ds=>p ns ds (.tail f l)
 |.dead,_,_=>true
theorem Ql{val val':W6}(h:∀n g,val n=some g->val' n=some g):∀{l:Q2}{gs:Q1},valsOf val l=some gs->valsOf val' l=some gs
 |[],gs,hv=>hv
 |n::l,gs,hv=>by
  simp only[valsOf]at hv⊢;split at hv
  ·next g r h1 h2=>rw[h n g h1,Ql h h2];exact hv
  ·cases hv
theorem Nd.ad9{I:iC}{val val':W6}(h:∀n g,val n=some g->val' n=some g){nd:Nd}{g:GV}(hd:nd.den I val=some g):nd.den I val'=some g:=by
 cases nd<;>simp only[Nd.den]at hd⊢
 case ci=>exact hd
 case cb=>exact hd
 case cs=>exact hd
 case arg=>exact hd
 case mk l=>
  split at hd
  ·next gs hg=>rw[Ql h hg];exact hd
  ·cases hd
 case ml l=>obtain⟨gs,hg,e⟩:=aZ.1 hd;rw[Ql h hg];simpa using e
 case call f l j=>
  split at hd
  ·next gs hg=>rw[Ql h hg];exact hd
  ·cases hd
 case upd size off a i vs=>
  split at hd
  ·next xs k j gs h1 h2 h3=>rw[h _ _ h1,h _ _ h2,Ql h h3];exact hd
  ·cases hd
 all_goals
  split at hd
  all_goals first
   |(cases hd;done)
   |(simp only[h _ _ (by assumption)];exact hd)
   |(rename_i h1 h2 h3;rw[h _ _ h1,h _ _ h2,h _ _ h3];exact hd)
   |(rename_i h1 h2;rw[h _ _ h1,h _ _ h2];exact hd)
   |(rename_i h1;rw[h _ _ h1];exact hd)
structure BQ(I:iC)(ns:List Nd)(ds:Wd)(env:Q1):Prop where
 len:ns.length=env.length
 node:∀(n:Nat) nd,ns[n]? =some nd->nd≠.arg->∃g,env[n]? =some g/\nd.den I (λk=>env[k]?)=some g
 dec:∀(n:Nat)(b:Bool),(n,b)∈ds->env[n]? =some (.b b)
theorem Tv{α:Type}{l:List α}{x a:α}{n:Nat}(h:l[n]? =some a):(l++[x])[n]? =some a:=by have:=(eU.1 h).1;rw[mP this];exact h
theorem Tree.Ku{I:iC}{p:List Nd->List (Nat×Bool)->Leaf->Bool}:∀(t:Tree){ns:List Nd}{ds:Wd}{env out:Q1},t.chk p ns ds=true->BQ I ns ds env->t.den I env=some out->
 ∃ns' ds' env' lf,p ns' ds' lf=true/\BQ I ns' ds' env'/\(∃more,env'=env++more)/\(match lf with|.ret l=>valsOf (λn=>env'[n]?) l=some out|.tail f l=>∃gs,valsOf (λn=>env'[n]?) l=some gs/\I f gs=some out)
 |.step nd t,ns,ds,env,out,hc,hw,hd=>by
  simp only[Tree.den]at hd;split at hd
  ·next g hg=>
   have hw':BQ I (ns++[nd]) ds (env++[g]):=by
    refine⟨by simp[hw.len],λn x hn hx=>?_,λn b hb=>Tv (hw.dec n b hb)⟩;by_cases hlt:n<ns.length
    ·rw[mP hlt]at hn;obtain⟨g',h1,h2⟩:=hw.node n x hn hx;exact⟨g',Tv h1,Nd.ad9 (λk a ha=>Tv ha) h2⟩
    ·have hlen:n=ns.length:=by have:=(eU.1 hn).1;simp at this;omega
     subst hlen;simp at hn;subst hn;exact⟨g,by rw[hw.len];simp,Nd.ad9 (λk a ha=>Tv ha) hg⟩
   obtain⟨ns',ds',env',lf,h1,h2,⟨more,h3⟩,h4⟩:=Tree.Ku t hc hw' hd;exact⟨ns',ds',env',lf,h1,h2,⟨[g]++more,by rw[h3,List.append_assoc]⟩,h4⟩
  ·cases hd
 |.ite n t e,ns,ds,env,out,hc,hw,hd=>by
  simp only[Tree.chk,aK]at hc;simp only[Tree.den]at hd;split at hd
  ·next hn=>
   refine Tree.Ku t hc.1 ⟨hw.len,hw.node,λk b hb=>?_⟩ hd;rcases bG.1 hb with hb|hb
   ·cases hb;exact hn
   ·exact hw.dec k b hb
  ·next hn=>
   refine Tree.Ku e hc.2 ⟨hw.len,hw.node,λk b hb=>?_⟩ hd;rcases bG.1 hb with hb|hb
   ·cases hb;exact hn
   ·exact hw.dec k b hb
  ·cases hd
 |.ret l,ns,ds,env,out,hc,hw,hd=>⟨ns,ds,env,.ret l,hc,hw,⟨[],by simp⟩,hd⟩
 |.tail f l,ns,ds,env,out,hc,hw,hd=>by
  simp only[Tree.den]at hd;split at hd
  ·next gs hg=>exact⟨ns,ds,env,.tail f l,hc,hw,⟨[],by simp⟩,gs,hg,hd⟩
  ·cases hd
 |.dead,_,_,_,_,_,_,hd=>by simp[Tree.den]at hd
inductive oG where
 |sc
 |ag (n:Nat)
abbrev WK:=List oG
def oW:WK->List GV->Bool
 |[],[]=>true
 |.sc::l,g::m=>g.scalar&&oW l m
 |.ag n::l,g::m=>!g.scalar&&Nat.beq g.cells.length n&&oW l m
 |_,_=>false
inductive aF where
 |tree (n:Nat) (t:Tree)
 |fn (wK yD:WK) (t:Tree)
 |eH (f:Q1->Option Q1)
abbrev W7:=List aF
def aF.den(I:iC):aF->List GV->Option Q1
 |.tree n t,gs=>if gs.length=n then t.den I gs else none
 |.fn wK yD t,gs=>if oW wK gs=true then match t.den I gs with
  |some out=>if oW yD out=true then some out else none
  |none=>none
  else none
 |.eH f,gs=>f gs
abbrev iI:=Nat->Option aF
def iI.run(TT:iI):Nat->iC
 |0,_,_=>none
 |n+1,k,gs=>match TT k with
  |some d=>d.den (iI.run TT n) gs
  |none=>none
def iC.le(I Jx:iC):Prop:=∀k gs out,I k gs=some out->Jx k gs=some out
theorem Nd.yY{I Jx:iC}(h:I.le Jx){val:W6}{nd:Nd}{g:GV}(hd:nd.den I val=some g):nd.den Jx val=some g:=by
 cases nd with
 |call f l j=>
  simp only[Nd.den]at hd⊢;split at hd
  ·next gs hg=>
   split at hd
   ·next r hr=>rw[h f gs r hr];exact hd
   ·cases hd
  ·cases hd
 |_=>exact hd
theorem Tree.yY{I Jx:iC}(h:I.le Jx):∀(t:Tree){env out:Q1},t.den I env=some out->t.den Jx env=some out
 |.step nd t,env,out,hd=>by
  simp only[Tree.den]at hd⊢;split at hd
  ·next g hg=>rw[Nd.yY h hg];exact Tree.yY h t hd
  ·cases hd
 |.ite n t e,env,out,hd=>by
  simp only[Tree.den]at hd⊢;split at hd
  ·exact Tree.yY h t hd
  ·exact Tree.yY h e hd
  ·cases hd
 |.ret l,env,out,hd=>hd
 |.tail f l,env,out,hd=>by
  simp only[Tree.den]at hd⊢;split at hd
  ·exact h _ _ _ hd
  ·cases hd
 |.dead,_,_,hd=>by simp[Tree.den]at hd
theorem aF.yY{I Jx:iC}(h:I.le Jx)(d:aF){gs out:Q1}(hd:d.den I gs=some out):d.den Jx gs=some out:=by
 cases d with
 |tree n t=>
  simp only[aF.den]at hd⊢;split at hd
  ·next hn=>rw[aj hn];exact t.yY h hd
  ·cases hd
 |fn sh so t=>
  simp only[aF.den]at hd⊢;split at hd
  ·next hf=>
   split at hd
   ·next o ho=>rw[aj hf,t.yY h ho];exact hd
   ·cases hd
  ·cases hd
 |eH f=>exact hd
theorem iI.ail(TT:iI):∀n,(TT.run n).le (TT.run (n+1))
 |0,k,gs,out,h=>by simp[iI.run]at h
 |n+1,k,gs,out,h=>by
  simp only[iI.run]at h;rw[iI.run];split at h
  ·next d hd=>exact d.yY (iI.ail TT n) h
  ·cases h
theorem iI.Vh(TT:iI){n m:Nat}(h:n<=m):(TT.run n).le (TT.run m):=by
 induction h with
 |refl=>exact λ_ _ _ h=>h
 |step _ ih=>exact λk gs out hh=>iI.ail TT _ k gs out (ih k gs out hh)
open Classical in
def iI.lim(TT:iI):iC:=λk gs=>if h:∃out n,TT.run n k gs=some out then some (Classical.choose h)else none
theorem iI.Ie{TT:iI}{n k:Nat}{gs out:Q1}(h:TT.run n k gs=some out):TT.lim k gs=some out:=by
 unfold iI.lim;have hex:∃out n,TT.run n k gs=some out:=⟨out,n,h⟩
 rw[dif_pos hex];obtain⟨m,hm⟩:=ajP hex;have h1:=TT.Vh (Nat.le_max_left n m) k gs out h;have h2:=TT.Vh (Nat.le_max_right n m) k gs _ hm;rw[h1]at h2;exact h2.symm
theorem iI.ZM{TT:iI}{k:Nat}{gs out:Q1}(h:TT.lim k gs=some out):∃n,TT.run n k gs=some out:=by
 unfold iI.lim at h;split at h
 ·next hex=>
  cases h;exact ajP hex
 ·cases h
theorem Nd.G8{TT:iI}{val:W6}{nd:Nd}{g:GV}(hd:nd.den TT.lim val=some g):∃n,nd.den (TT.run n) val=some g:=by
 cases nd with
 |call f l j=>
  simp only[Nd.den]at hd⊢;split at hd
  ·next gs hg=>
   split at hd
   ·next r hr=>
    obtain⟨n,hn⟩:=iI.ZM hr;exact⟨n,by rw[hn];exact hd⟩
   ·cases hd
  ·cases hd
 |_=>exact⟨0,hd⟩
theorem Tree.G8{TT:iI}:∀(t:Tree){env out:Q1},t.den TT.lim env=some out->∃n,t.den (TT.run n) env=some out
 |.step nd t,env,out,hd=>by
  simp only[Tree.den]at hd;split at hd
  ·next g hg=>
   obtain⟨n,hn⟩:=Nd.G8 hg;obtain⟨m,hm⟩:=Tree.G8 t hd;refine⟨max n m,?_⟩;simp only[Tree.den];rw[Nd.yY (TT.Vh (Nat.le_max_left n m)) hn];exact t.yY (TT.Vh (Nat.le_max_right n m)) hm
  ·cases hd
 |.ite n t e,env,out,hd=>by
  simp only[Tree.den]at hd⊢;split at hd
  ·next h=>obtain⟨m,hm⟩:=Tree.G8 t hd;exact⟨m,hm⟩
  ·next h=>obtain⟨m,hm⟩:=Tree.G8 e hd;exact⟨m,hm⟩
  ·cases hd
 |.ret l,env,out,hd=>⟨0,hd⟩
 |.tail f l,env,out,hd=>by
  simp only[Tree.den]at hd⊢;split at hd
  ·exact iI.ZM hd
  ·cases hd
 |.dead,_,_,hd=>by simp[Tree.den]at hd
theorem iI.as3{TT:iI}{k:Nat}{d:aF}(hk:TT k=some d){gs out:Q1}(h:d.den TT.lim gs=some out):TT.lim k gs=some out:=by
 cases d with
 |tree m t=>
  simp only[aF.den]at h;split at h
  ·next hm=>
   obtain⟨n,hn⟩:=Tree.G8 t h;exact iI.Ie (n:=n+1) (by simp only[iI.run,hk,aF.den,aj hm];exact hn)
  ·cases h
 |fn sh so t=>
  simp only[aF.den]at h;split at h
  ·next hf=>
   split at h
   ·next o ho=>
    obtain⟨n,hn⟩:=Tree.G8 t ho;exact iI.Ie (n:=n+1) (by simp only[iI.run,hk,aF.den,hf,if_true,hn];exact h)
   ·cases h
  ·cases h
 |eH f=>exact iI.Ie (n:=1) (by simp only[iI.run,hk];exact h)
theorem iI.as5{TT:iI}{C:Nat->List GV->List GV->Prop}(h:∀k d,TT k=some d->∀I:iC,(∀k gs out,I k gs=some out->C k gs out)->∀gs out,d.den I gs=some out->C k gs out):∀k gs out,TT.lim k gs=some out->C k gs out:=by
 have:∀n k gs out,TT.run n k gs=some out->C k gs out:=by
  intro n;induction n with
  |zero=>intro k gs out hh;simp[iI.run]at hh
  |succ n ih=>
   intro k gs out hh;simp only[iI.run]at hh;split at hh
   ·next d hd=>exact h k d hd _ ih gs out hh
   ·cases hh
 intro k gs out hh;obtain⟨n,hn⟩:=iI.ZM hh;exact this n k gs out hn
end
open Go
def abv(R w:Nat):Nat->Nat->List Nat->List Nat
 |0,_,l=>l
 |f+1,s,l=>match Nat.blt s 256 with
  |true=>s::l
  |false=>abv R w f ((R >>>(2*w*(s-256)))%2^w) (abv R w f ((R >>>(2*w*(s-256)+w))%2^w) l)
def toks(R w b:Nat):Nat->Nat->List Nat
 |0,_=>[]
 |n+1,x=>abv R w 1000 (x%b) (toks R w b n (x/b))
def dg(c:Nat):Nat:=match Nat.blt c 58 with
 |true=>c-48
 |false=>match Nat.blt c 91 with
  |true=>c-55
  |false=>match Nat.beq c 95 with
   |true=>62
   |false=>c-61
def sN(s:String):Nat:=s.toList.foldl (λa c=>a*63+dg c.toNat) 0
def rN:Q2->Nat×Q2
 |t::u::l=>match Nat.blt t 224 with
  |true=>(t,u::l)
  |false=>((t-224)*256+u,l)
 |[t]=>(t,[])
 |[]=>(0,[])
def rR(n:Nat)(l:Q2):Nat×Q2:=match rN l with|(a,l)=>(n-a,l)
def rL(n:Nat):Nat->Nat->List Nat->List Nat×Q2
 |0,_,l=>([],l)
 |k+1,p,t::l=>match Nat.blt t 128 with
  |true=>match rL n k (p+t-64) l with
   |(x,l)=>((p+t-64)::x,l)
  |false=>match rR n l with
   |(a,l)=>match rL n k a l with
    |(x,l)=>(a::x,l)
 |_,_,[]=>([],[])
def L6(n:Nat)(l:Q2):Q2×Q2:=match rN l with|(k,l)=>rL n k n l
def rK:Nat->IntKind
 |0=>.i64|1=>.u64|2=>.u8|3=>.i32|4=>.u32|5=>.i16|6=>.u16|_=>.i8
def rO:Nat->BinOp
 |0=>.eql|1=>.add|2=>.neq|3=>.lss|4=>.gtr|5=>.sub|6=>.geq|7=>.leq
 |8=>.and|9=>.quo|10=>.shr|11=>.mul|12=>.rem|13=>.xor|14=>.or|_=>.shl
def r1(n:Nat)(f:Nat->Nd)(l:Q2):Nd×Q2:=match rR n l with|(a,l)=>(f a,l)
def r2(n:Nat)(f:Nat->Nat->Nd)(l:Q2):Nd×Q2:=match rR n l with|(a,l)=>r1 n (f a) l
def r3(n:Nat)(f:Nat->Nat->Nat->Nd)(l:Q2):Nd×Q2:=match rR n l with|(a,l)=>r2 n (f a) l
def r0(f:Nat->Nd)(l:Q2):Nd×Q2:=match rN l with|(a,l)=>(f a,l)
def uY(g:Nat->List Nat->Nd×Q2)(l:Q2):Nd×Q2:=match rN l with|(a,l)=>g a l
def rLs(n:Nat)(f:Q2->Nd)(l:Q2):Nd×Q2:=match L6 n l with|(a,l)=>(f a,l)
def rNd(cI:Nat->Int)(cT:Nat->List UInt8)(n t:Nat)(l:Q2):Nd×Q2:=
 if t=4 then(uY λo=>r2 n (.bin (rO o))) l else
 if t=5 then(uY λk=>r0 λa=>.ci (rK k) (cI a)) l else
 if t=6 then(uY λo=>r1 n (.cell o)) l else
 if t=7 then(uY λf l=>match L6 n l with|(a,l)=>r0 (λj=>.call f a j) l) l else
 if t=8 then(r0 λa=>.cs (cT a)) l else
 if t=9 then rLs n .mk l else
 if t=10 then rLs n .ml l else
 if t=11 then(r0 λb=>.cb (Nat.beq b 1)) l else
 if t=12 then r1 n .len l else
 if t=13 then(uY λk=>r1 n (.conv (rK k))) l else
 if t=14 then r1 n .slen l else
 if t=15 then(uY λs=>r2 n (.at s)) l else
 if t=16 then r3 n .FP l else
 if t=17 then r1 n (.un .not) l else
 if t=18 then(uY λs=>uY λz=>r2 n (.app s z)) l else
 if t=19 then r2 n .FN l else
 if t=20 then(uY λo l=>match L6 0 l with|(ks,l)=>r2 n (.Eu (rO o) ks) l) l else
 if t=21 then r2 n .idx l else
 if t=22 then r1 n .str l else
 if t=23 then r1 n .bytes l else
 if t=24 then(uY λs=>uY λz=>r3 n (.rep s z)) l else
 if t=25 then r3 n .Fe l else
 if t=26 then(uY λs=>r3 n (.Dk s)) l else
 if t=27 then(uY λs=>uY λo l=>match rR n l with|(a,l)=>match rR n l with|(b,l)=>rLs n (.upd s o a b) l) l else
 if t=28 then r2 n (.mm false) l else
 if t=29 then r2 n (.mm true) l else
 if t=30 then r3 n .AY l else
 if t=31 then r2 n .Fg l else
 if t=32 then r1 n (.un .neg) l else
 if t=33 then r2 n .zq l else
 if t=37 then r1 n (.un .xor) l else
 if t=34 then r2 n .same l else
 if t=35 then r1 n .FM l else
 (uY λo=>r2 n (.Et (rO o))) l
def rT(cI:Nat->Int)(cT:Nat->List UInt8)(h:Tree):Nat->Nat->List Nat->Tree×Q2
 |0,_,l=>(.dead,l)
 |_,_,[]=>(.dead,[])
 |f+1,n,t::l=>match t with
  |0=>(h,l)
  |1=>match rR n l with|(a,l)=>match rT cI cT h f n l with|(x,l)=>match rT cI cT h f n l with|(y,l)=>(.ite a x y,l)
  |2=>match L6 n l with|(a,l)=>(.ret a,l)
  |3=>match rN l with|(g,l)=>match L6 n l with|(a,l)=>(.tail g a,l)
  |38=>(.dead,l)
  |_=>match rNd cI cT n t l with|(d,l)=>match rT cI cT h f (n+1) l with|(x,l)=>(.step d x,l)
def rS(l:Q2):WK×Q2:=match L6 0 l with|(a,l)=>(a.map λk=>match k with
 |0=>.sc
 |k+1=>.ag (k+1),l)
def rP(cI:Nat->Int)(cT:Nat->List UInt8)(h:Tree):Q2->aF
 |0::l=>match rS l with|(a,l)=>match rS l with|(b,l)=>.fn a b (rT cI cT h 2000 a.length l).1
 |_::l=>match rN l with|(n,l)=>.tree n (rT cI cT h 2000 n l).1
 |[]=>.tree 0 .dead
def gT:W7->Nat->aF
 |a::_,0=>a
 |_::l,n+1=>gT l n
 |[],_=>.tree 0 .dead
noncomputable section
variable{P:Program}
def zL(P:Program)(c:Code)(Q:Exit->Act->World->Prop)(a:Act)(w:World):Prop:=∀b k cs,∃e a' w',Q e a' w'/\Arrives P (lone (b.at a (.code c::.inLoop c::k)) cs w) b k cs e a' w'
theorem zL.step{c:Code}{Q:Exit->Act->World->Prop}{a:Act}{w:World}(h:c.wp P (Exit.then (zL P c Q) Q) a w):zL P c Q a w:=by
 intro b k cs;obtain⟨e,a₁,w₁,hq,harr⟩:=h b (.inLoop c::k) cs;cases e with
 |normal=>obtain⟨e₂,a₂,w₂,hq₂,harr₂⟩:=hq b k cs;exact⟨e₂,a₂,w₂,hq₂,.of_steps (Steps.trans harr (.one step_inLoop)) harr₂⟩
 |exit id=>exact⟨_,a₁,w₁,hq,.pass (x:=.inLoop c) rfl (λ_ _=>.inl (by simp)) harr⟩
 |goto l=>exact⟨_,a₁,w₁,hq,.pass (x:=.inLoop c) rfl (λ_ _=>.inl (by simp)) harr⟩
 |ret=>exact⟨_,a₁,w₁,hq,.pass (x:=.inLoop c) rfl (λ_ _=>.inl (by simp)) harr⟩
 |panic ch=>exact⟨_,a₁,w₁,hq,.pass (x:=.inLoop c) rfl (λ_ _=>.inl (by simp)) harr⟩
 |outgrown=>exact⟨_,a₁,w₁,hq,.pass (x:=.inLoop c) rfl (λ_ _=>.inl (by simp)) harr⟩
theorem zL.loop{c:Code}{Q:Exit->Act->World->Prop}{a:Act}{w:World}(h:zL P c Q a w):(Code.loop c).wp P Q a w:=by intro b k cs;obtain⟨e,a',w',hq,harr⟩:=h b k cs;exact⟨e,a',w',hq,.of_steps (.one step_loop) harr⟩
section
variable[aH]
def AT(P:Program)(c:Code)(a:bg)(J:aA)(Q:dZ->bg->aA->Prop):Prop:=
 ∀w0 dK F w A K,jK P w0 dK F J w->J.lock=0->TR P F a A->(∀e a' J' F' A' w',Q e a' J'->jK P w0 dK F' J' w'->J'.lock=0->TR P F' a' A'->K e.toExit A' w')->c.wp P K A w
variable{c b x y z:Code}{a a' a2:bg}{J J' J2:aA}{Q R:dZ->bg->aA->Prop}
theorem AT.mono(h:AT P c a J R)(hq:∀e a' J',R e a' J'->Q e a' J'):AT P c a J Q:=
 λw0 dK F w A K hF hl ht hK=>h w0 dK F w A K hF hl ht λe a' J' F' A' w' hr=>hK e a' J' F' A' w' (hq _ _ _ hr)
def aa2(P:Program)(y:Code)(Q:dZ->bg->aA->Prop):dZ->bg->aA->Prop
 |.normal,a,J=>AT P y a J Q
 |e,a,J=>Q e a J
theorem AT.seq(h:AT P x a J (aa2 P y Q)):AT P (.seq x y) a J Q:=by
 intro w0 dK F w A K hF hl ht hK;refine wp_seq ?_;refine h w0 dK F w A _ hF hl ht ?_;intro e a' J' F' A' w' hq hF' hl' ht';cases e with
 |normal=>exact hq w0 dK F' w' A' K hF' hl' ht' hK
 |exit id=>exact hK _ a' J' F' A' w' hq hF' hl' ht'
 |ret=>exact hK _ a' J' F' A' w' hq hF' hl' ht'
theorem AT.cond{o:Operand}{t:Bool}(ho:dB (a.eval o)=some (.b t))(h:AT P (if t then y else z) a J Q):AT P (.cond o y z) a J Q:=by intro w0 dK F w A K hF hl ht hK;obtain⟨vd,ho,himp⟩:=G5 ho;have hv:=himp _ _ (Ot hF.rel ht o _ ho);simp only[VR]at hv;exact wp_cond hv (h w0 dK F w A K hF hl ht hK)
def Gw(id:Nat)(Q:dZ->bg->aA->Prop):dZ->bg->aA->Prop
 |.exit id',a,J=>if id'=id then Q .normal a J else Q (.exit id') a J
 |e,a,J=>Q e a J
theorem AT.block{id:Nat}(h:AT P b a J (Gw id Q)):AT P (.block id b) a J Q:=by
 intro w0 dK F w A K hF hl ht hK;refine wp_block ?_;refine h w0 dK F w A _ hF hl ht ?_;intro e a' J' F' A' w' hq hF' hl' ht';cases e with
 |normal=>exact hK .normal a' J' F' A' w' hq hF' hl' ht'
 |ret=>exact hK .ret a' J' F' A' w' hq hF' hl' ht'
 |exit id'=>
  simp only[Gw]at hq;simp only[dZ.toExit,Exit.inBlock];split at hq
  ·next e=>rw[aj e];exact hK .normal a' J' F' A' w' hq hF' hl' ht'
  ·next e=>rw[ah e];exact hK (.exit id') a' J' F' A' w' hq hF' hl' ht'
def BD(P:Program)(b:Code)(a:bg)(J:aA)(Q:dZ->bg->aA->Prop):Prop:=
 ∀w0 dK F w A K,jK P w0 dK F J w->J.lock=0->TR P F a A->(∀e a' J' F' A' w',Q e a' J'->jK P w0 dK F' J' w'->J'.lock=0->TR P F' a' A'->K e.toExit A' w')->zL P b K A w
theorem BD.at(h:BD P b a J Q):AT P (.loop b) a J Q:=
 λw0 dK F w A K hF hl ht hK=>(h w0 dK F w A K hF hl ht hK).loop
def Zv(P:Program)(b:Code)(Q:dZ->bg->aA->Prop):dZ->bg->aA->Prop
 |.normal,a,J=>BD P b a J Q
 |e,a,J=>Q e a J
theorem BD.step(h:AT P b a J (Zv P b Q)):BD P b a J Q:=by
 intro w0 dK F w A K hF hl ht hK;refine zL.step ?_;refine h w0 dK F w A _ hF hl ht ?_;intro e a' J' F' A' w' hq hF' hl' ht';cases e with
 |normal=>exact hq w0 dK F' w' A' K hF' hl' ht' hK
 |exit id=>exact hK _ a' J' F' A' w' hq hF' hl' ht'
 |ret=>exact hK _ a' J' F' A' w' hq hF' hl' ht'
theorem AT.run{run:Code->bg->aA->Option (dZ×bg×aA)}(hr:NG P run){e:dZ}(h:run c a J=some (e,a',J'))(hq:Q e a' J'):AT P c a J Q:=by intro w0 dK F w A K hF hl ht hK;refine hr c a J e a' J' h F w A K hF.rel ht ?_;intro F' A' w' hst ht';exact hK e a' J' F' A' w' hq (hF.step hl hst) (hst.lock.trans hl) ht'
end
inductive AC where
 |plain (c:Code)
 |seq (x y:AC)
 |cond (o:Operand) (y z:AC)
 |block (id:Nat) (b:AC)
 |loop (k:Nat) (b:Code)
 |peel (x:AC) (k:Nat) (b:Code)
def AC.erase:AC->Code
 |.plain c=>c
 |.seq x y=>.seq x.erase y.erase
 |.cond o y z=>.cond o y.erase z.erase
 |.block id b=>.block id b.erase
 |.loop _ b=>.loop b
 |.peel _ _ b=>.loop b
def AC.Good:AC->Prop
 |.plain _=>True
 |.seq x y=>x.Good/\y.Good
 |.cond _ y z=>y.Good/\z.Good
 |.block _ b=>b.Good
 |.loop _ _=>True
 |.peel x _ b=>x.erase=b/\x.Good
def kX(ps:Q2):Code->Nat->AC×Nat
 |.seq x y,n=>match kX ps x n with
  |(a,n1)=>match kX ps y n1 with
   |(b,n2)=>(.seq a b,n2)
 |.cond o y z,n=>match kX ps y n with
  |(a,n1)=>match kX ps z n1 with
   |(b,n2)=>(.cond o a b,n2)
 |.block id b,n=>match kX ps b n with
  |(a,n1)=>(.block id a,n1)
 |.loop b,n=>if ps.contains (2*n+1)then(.plain (.loop b),n+1)else match kX ps b (n+1)with
  |(x,n1)=>if ps.contains (2*n)then(.peel x n b,n1)else(.loop n b,n+1)
 |c,n=>(.plain c,n)
def mW(ps:Q2)(c:Code):AC:=(kX ps c 0).1
theorem x9(ps:Q2):∀(c:Code)(n:Nat),(kX ps c n).1.erase=c/\(kX ps c n).1.Good
 |.seq x y,n=>by have h1:=x9 ps x n;have h2:=x9 ps y (kX ps x n).2;simp only[kX,AC.erase,AC.Good];exact⟨by rw[h1.1,h2.1],h1.2,h2.2⟩
 |.cond o y z,n=>by have h1:=x9 ps y n;have h2:=x9 ps z (kX ps y n).2;simp only[kX,AC.erase,AC.Good];exact⟨by rw[h1.1,h2.1],h1.2,h2.2⟩
 |.block id b,n=>by have h1:=x9 ps b n;simp only[kX,AC.erase,AC.Good];exact⟨by rw[h1.1],h1.2⟩
 |.loop b,n=>by
  have h1:=x9 ps b (n+1);simp only[kX];split
  ·exact⟨rfl,trivial⟩
  ·split
   ·exact⟨rfl,h1.1,h1.2⟩
   ·exact⟨rfl,trivial⟩
 |.skip,_|.region _ _ _,_|.rangeFunc _ _ _ _,_|.exit _,_|.scope _,_|.label _,_|.goto _,_|.ret,_|.refuse _,_=>⟨rfl,trivial⟩
def AC.oz(k:Nat)(b:Code):AC->Prop
 |.plain _=>False
 |.seq x y=>x.oz k b\/y.oz k b
 |.cond _ y z=>y.oz k b\/z.oz k b
 |.block _ x=>x.oz k b
 |.loop k' b'=>k'=k/\b'=b
 |.peel x k' b'=>(k'=k/\b'=b)\/x.oz k b
abbrev WU:=Nat->bg->aA->Option (dZ×bg×aA)
def vO[gG](ls:WU)(run:Code->bg->aA->Option (dZ×bg×aA)):AC->bg->aA->Option (dZ×bg×aA)
 |.plain c,a,J=>run c a J
 |.seq x y,a,J=>match vO ls run x a J with
  |some (.normal,a',J')=>vO ls run y a' J'
  |r=>r
 |.cond o y z,a,J=>match dB (a.eval o)with
  |some (.b t)=>if t then vO ls run y a J else vO ls run z a J
  |_=>none
 |.block id b,a,J=>match vO ls run b a J with
  |some (.exit id',a',J')=>if id'=id then some (.normal,a',J')else some (.exit id',a',J')
  |r=>r
 |.loop k _,a,J=>ls k a J
 |.peel x k _,a,J=>match vO ls run x a J with
  |some (.normal,a',J')=>ls k a' J'
  |r=>r
theorem Xi[aH]{ls:WU}{run:Code->bg->aA->Option (dZ×bg×aA)}(hr:NG P run):∀(ac:AC),ac.Good->(∀k b,ac.oz k b->∀a J e a' J',ls k a J=some (e,a',J')->∀Q:dZ->bg->aA->Prop,Q e a' J'->BD P b a J Q)->
 ∀(a:bg)(J:aA)(e:dZ)(a':bg)(J':aA),vO ls run ac a J=some (e,a',J')->∀Q:dZ->bg->aA->Prop,Q e a' J'->AT P ac.erase a J Q:=by
 intro ac;induction ac with
 |plain c=>intro hg hl a J e a' J' h Q hq;exact AT.run hr h hq
 |loop k b=>intro hg hl a J e a' J' h Q hq;exact(hl k b ⟨rfl,rfl⟩ a J e a' J' h Q hq).at
 |peel x k b ih=>
  intro hg hl a J e a' J' h Q hq;simp only[vO]at h;refine BD.at (BD.step ?_);obtain⟨rfl,hg⟩:=hg;split at h
  ·next a1 J1 h1=>
   exact ih hg (λk' b' hk=>hl k' b' (.inr hk)) a J _ a1 J1 h1 (Zv P x.erase Q) (hl k _ (.inl ⟨rfl,rfl⟩) a1 J1 e a' J' h Q hq)
  ·next hne=>
   refine ih hg (λk' b' hk=>hl k' b' (.inr hk)) a J e a' J' h (Zv P x.erase Q) ?_;cases e with
   |normal=>exact absurd h (by intro e';exact hne _ _ e')
   |exit id=>exact hq
   |ret=>exact hq
 |seq x y ihx ihy=>
  intro hg hl a J e a' J' h Q hq;simp only[vO]at h;split at h
  ·next a1 J1 h1=>
   exact AT.seq (ihx hg.1 (λk b hk=>hl k b (.inl hk)) a J _ a1 J1 h1 (aa2 P y.erase Q) (ihy hg.2 (λk b hk=>hl k b (.inr hk)) a1 J1 e a' J' h Q hq))
  ·next hne=>
   refine AT.seq (ihx hg.1 (λk b hk=>hl k b (.inl hk)) a J e a' J' h (aa2 P y.erase Q) ?_);cases e with
   |normal=>exact absurd h (by intro e';exact hne _ _ e')
   |exit id=>exact hq
   |ret=>exact hq
 |cond o y z ihy ihz=>
  intro hg hl a J e a' J' h Q hq;simp only[vO]at h;split at h
  ·next t ho=>
   refine AT.cond ho ?_;cases t with
   |true=>exact ihy hg.1 (λk b hk=>hl k b (.inl hk)) a J e a' J' h Q hq
   |false=>exact ihz hg.2 (λk b hk=>hl k b (.inr hk)) a J e a' J' h Q hq
  ·cases h
 |block id b ih=>
  intro hg hl a J e a' J' h Q hq;simp only[vO]at h;split at h
  ·next id' a1 J1 h1=>
   split at h
   ·next e1=>
    cases h;exact AT.block (ih hg (λk b hk=>hl k b hk) a J _ _ _ h1 (Gw id Q) (by simp only[Gw];rw[aj e1];exact hq))
   ·next e1=>
    cases h;exact AT.block (ih hg (λk b hk=>hl k b hk) a J _ _ _ h1 (Gw id Q) (by simp only[Gw];rw[ah e1];exact hq))
  ·next hne=>
   refine AT.block (ih hg (λk b hk=>hl k b hk) a J e a' J' h (Gw id Q) ?_);cases e with
   |normal=>exact hq
   |exit id'=>exact absurd h (by intro e';exact hne _ _ _ e')
   |ret=>exact hq
def Bv:Q6->Value
 |[v]=>v
 |l=>.tuple ⟨l⟩
structure xk(tabs:Qt)(ro:Qf)(w:World):Prop where
 at':∀b o,ro b=some o->w.heap[b]? =some o
 tab:∀p∈tabs,∃cs elem fr,ro p.1=some (.cells cs elem fr)/\p.2.length<=cs.size/\W9 p.2 cs
structure Gl(ro ro':Qf)(w w':World):Prop where
 kept:Kept w w'
 le:∀b o,ro b=some o->ro' b=some o
 new:∀b,ro' b≠none->ro b≠none\/w.heap.size<=b
 at':∀b o,ro' b=some o->w'.heap[b]? =some o
def wG:W4->List Value->List Value
 |none::st,v::vs=>v::wG st vs
 |none::_,[]=>[]
 |some g::st,vs=>.func (.func g) ⟨[]⟩ ⟨[]⟩::wG st vs
 |[],vs=>vs
def wE:W4->List AV->List AV
 |none::st,v::vs=>v::wE st vs
 |none::_,[]=>[]
 |some g::st,vs=>.fn g [] []::wE st vs
 |[],vs=>vs
def Bq:W4->List AV->Option Q3
 |[],l=>some l
 |none::st,a::l=>(Bq st l).map (a::·)
 |some g::st,.fn g' [] []::l=>if g'=g then Bq st l else none
 |_,_=>none
def aj1(P:Program)(tabs:Qt)(f:FuncId)(st:W4)(gs out:Q1):Prop:=∀ro w vs,xk tabs ro w->aO ro gs vs->kQ P f ⟨wG st vs⟩ w λv w'=>∃ro',Gl ro ro' w w'/\∃us,v=Bv us/\aO ro' out us
section
variable[aH]
theorem V3{F:Env}:∀{st:W4}{l r:Q3}{vs:Q6},Bq st l=some r->aC F l vs->∃vs',vs=wG st vs'/\aC F r vs'
 |[],l,r,vs,h,hv=>by simp only[Bq,aW]at h;subst h;exact⟨vs,rfl,hv⟩
 |none::st,[],r,vs,h,hv=>by simp[Bq]at h
 |none::st,a::l,r,vs,h,hv=>by simp only[Bq,aZ]at h;obtain⟨r',h1,rfl⟩:=h;obtain⟨x,xs,rfl,hx,hxs⟩:=hv;obtain⟨vs',rfl,h2⟩:=V3 h1 hxs;exact⟨x::vs',rfl,aC.cons hx h2⟩
 |some g::st,[],r,vs,h,hv=>by simp[Bq]at h
 |some g::st,a::l,r,vs,h,hv=>by
  unfold Bq at h;split at h
  ·next e=>cases e
  ·next e _=>cases e
  ·next g0 st0 g' l0 e1 e2=>
   cases e1;cases e2;split at h
   ·next e=>
    subst e;obtain⟨x,xs,rfl,hx,hxs⟩:=hv;obtain⟨vs',rfl,h2⟩:=V3 h hxs;simp only[VR]at hx;obtain⟨us,ws,rfl,h3,h4⟩:=hx;simp only[aC]at h3 h4;subst h3;subst h4;exact⟨vs',rfl,h2⟩
   ·cases h
  ·cases h
theorem U7{F:Env}:∀{st:W4}{l:Q3}{vs:Q6},aC F l vs->aC F (wE st l) (wG st vs)
 |[],l,vs,hv=>hv
 |none::st,[],vs,hv=>by simp only[aC]at hv;subst hv;simp[wE,wG,aC]
 |none::st,a::l,vs,hv=>by obtain⟨x,xs,rfl,hx,hxs⟩:=hv;exact aC.cons hx (U7 hxs)
 |some g::st,l,vs,hv=>aC.cons (by simp only[VR];exact⟨[],[],rfl,by simp[aC],by simp[aC]⟩) (U7 hv)
theorem SR.Ve{F:Env}{J:aA}{w:World}(h:SR P F J w):xk aH.tabs F.ro w:=⟨h.iT,h.tabs⟩
theorem St.auz{F:Env}{J:aA}{w w':World}{ro':Qf}(h:SR P F J w)(k:Gl F.ro ro' w w'):St P F J w ⟨F.pl,ro',F.gh⟩ J w':=by
 have hle:(F:Env).le ⟨F.pl,ro',F.gh⟩:=⟨λ_ _ h=>h,k.le,λ_ h=>h⟩
 refine⟨hle,⟨h.mg,h.dom,λid o ho=>?_,h.jH,h.sep,k.at',λid o q a1 a2 a3=>?_,λp hp=>(h.tabs p hp).mono hle⟩,k.kept.size,λbl hb _=>k.kept.keep bl hb,λid o q h1 h2 h3 h4=>.inr ⟨id,o,q,h1,h2,h3,h4,rfl⟩,k.kept.os,k.kept.tape,k.kept.output,rfl,bV _,λ_ h=>.inl h,λb hb=>?_⟩
 ·exact((h.live id o ho).heap λq _ hr=>k.kept.keep _ hr.lt).mono hle
 ·have hr:=h.at a1 (show F id=some q from a3);cases hro:ro' q.bl with
  |none=>exact hro
  |some o2=>
   rcases k.new q.bl (by rw[hro];simp)with h1|h1
   ·exact absurd (h.kN id o q a1 a2 a3) h1
   ·have:=hr.lt;omega
 ·rcases k.new b hb with h1|h1
  ·exact .inl h1
  ·exact .inr (.inl h1)
end
@[reducible] def Tg(tabs:Qt)(gs:Q1)(ka:Nat):aH:={nodes:=[],dec:=[],ka:=ka,tabs:=tabs,I:=λ_ _=>none,val:=λn=>gs[n]?,qE:=by intro n nd h;simp at h,Ak:=by intro n b h;simp at h}
def oV{α:Type}:List (Nat×α)->Tr α
 |[]=>.nil
 |(k,v)::l=>(oV l).set k (some v)
theorem Pj{α:Type}:∀{l:List (Nat×α)}{k:Nat}{v:α},(oV l).get k=some v->(k,v)∈l
 |[],k,v,h=>by simp[oV]at h
 |(j,u)::l,k,v,h=>by
  rw[oV,Tr.vY]at h;split at h
  ·next e=>cases h;subst e;simp
  ·exact wY _ (Pj h)
structure gU where
 np:Nat
 n:Nat
 gn:Nat
 next:Nat
 slots:Wf
 objs:WP
 ka:Nat:=0
 al:List QR:=[]
abbrev XN:=List (dZ×gU)
def vk(tabs:Qt):WP:=tabs.map λp=>(p.1,.cells p.2 0 false false)
def gU.act(s:gU):bg:=⟨oV s.slots,s.n,s.gn⟩
def gU.st(tabs:Qt)(s:gU):aA:=⟨oV (s.objs++vk tabs),s.next,0⟩
def QJ(P:Program)(tabs:Qt)(s:gU)(gs:Q1)(w0:Base)(dK:Qf)(A:Act)(w:World):Prop:=∃F,@jK (Tg tabs gs s.ka) P w0 dK F (s.st tabs) w/\@TR (Tg tabs gs s.ka) P F s.act A
def cZ{α:Type}(k:Nat):List (Nat×α)->Option α
 |[]=>none
 |p::l=>bif Nat.beq k p.1 then some p.2 else cZ k l
theorem Tq{α:Type}{k:Nat}{v:α}:∀{l:List (Nat×α)},cZ k l=some v->(k,v)∈l
 |[],h=>by simp[cZ]at h
 |p::l,h=>by
  simp only[cZ]at h;cases hb:Nat.beq k p.1 with
  |true=>rw[hb]at h;simp only[cond_true,aW]at h;rw[bD hb,<-h];simp
  |false=>rw[hb]at h;simp only[cond_false]at h;exact wY _ (Tq h)
def Bg(r:W5)(i:Nat)(x:QR):Bool:=
 match cZ i r,x with
 |some (some a),some b=>Nat.beq a b
 |some none,none=>true
 |_,_=>false
section
variable[gG]
def Lp(m:Nat):Bool:=match gG.nodes[m]? with
 |some (.ml [])=>true
 |_=>false
def Tn(P:Program)(J:aA)(fz:Q2)(a:AV)(m:Nat):Bool:=
 match a with
 |.sv id n=>fz.contains id&&match J.get id with
  |some (.vec m' _ _)=>Nat.beq m' m&&uZ 100 m' n
  |_=>false
 |.sl id off len cap=>fz.contains id&&match J.get id with
  |some (.cells c et true opn)=>(match listOf P J et (.sl id off len cap),sizeT P et with
   |some m',some size=>Nat.beq m' m&&Nat.blt 0 size
   |_,_=>false)
  |_=>false
 |_=>false
def capEq:QR->Option Nat->Bool
 |none,none=>true
 |some a,some b=>Nat.beq a b
 |_,_=>false
mutual
def mV(P:Program)(G:Nat)(J:aA)(fz:Q2)(r:W5)(ps:Q2):AV->AV->Bool
 |.nd j,a=>match ps[j]? with
  |some m=>(match iQ a with
   |some m'=>Nat.beq m m'
   |none=>false) ||Tn P J fz a m
  |none=>false
 |.sv i j,a=>match ps[j]? with
  |some m=>match a with
   |.sv id n=>Nat.blt G i&&Bg r i (some id)&&uZ 100 m n
   |.fV=>Nat.blt G i&&Bg r i none&&Lp m
   |_=>false
  |none=>false
 |.p i off,a=>match a with
  |.p id off'=>Nat.beq off off'&&(if i<=G then Nat.beq i id else Bg r i (some id))
  |_=>false
 |.rx j off,a=>match a with
  |.rx m off'=>Nat.beq off off'&&(match ps[j]? with|some m'=>Nat.beq m m'|none=>false)
  |_=>false
 |.fn f fi cs,a=>match a with
  |.fn f' fi' cs'=>Nat.beq f f'&&AU P G J fz r ps fi fi'&&AU P G J fz r ps cs cs'
  |_=>false
 |.agg l,a=>match a with
  |.agg l'=>AU P G J fz r ps l l'
  |_=>false
 |.dP l,a=>match a with
  |.dP l'=>AU P G J fz r ps l l'
  |_=>false
 |.iW t x,a=>match a with
  |.iW t' x'=>Nat.beq t t'&&mV P G J fz r ps x x'
  |_=>false
 |.b x,a=>match a with|.b y=>(bif x then y else !y)|_=>false
 |.i k n,a=>match a with|.i k' n'=>Nat.beq (kc k) (kc k')&&H9 n n'|_=>false
 |.s x,a=>match a with|.s y=>Ad x y|_=>false
 |.jr,a=>match a with|.jr=>true|_=>false
 |.fV,a=>match a with|.fV=>true|_=>false
 |.yw,a=>match a with|.yw=>true|_=>false
 |.rW,a=>match a with|.rW=>true|_=>false
 |.oU,a=>match a with|.oU=>true|_=>false
 |.mp i,a=>match a with
  |.mp id=>Nat.blt G i&&Bg r i (some id)
  |_=>false
 |.sl i off len cap,a=>match a with
  |.sl id off' len' cap'=>Nat.blt G i&&Bg r i (some id)&&(Nat.beq off off'&&(Nat.beq len len'&&capEq cap cap'))
  |_=>false
 |_,_=>false
def AU(P:Program)(G:Nat)(J:aA)(fz:Q2)(r:W5)(ps:Q2):Q3->List AV->Bool
 |[],l=>match l with|[]=>true|_=>false
 |a::l,m=>match m with
  |b::m'=>mV P G J fz r ps a b&&AU P G J fz r ps l m'
  |[]=>false
end
def mO(P:Program)(G:Nat)(J:aA)(fz:Q2)(r:W5)(ps:Q2)(i:Nat)(o:bn):Bool:=
 match cZ i r with
 |some (some id)=>!(fz.contains id)&&match o with
  |.cells l et um opn=>match J.get id with
   |some (.cells c Hf rw' Po)=>Nat.beq et Hf&&(bif um then rw' else !rw')&&(bif opn then Po else !Po)&&AU P G J fz r ps l c
   |_=>false
  |.vec j et f=>match J.get id with
   |some (.vec m Hf f')=>Nat.beq et Hf&&(!f ||f')&&(match ps[j]? with|some m'=>Nat.beq m m'|none=>false)
   |_=>false
  |.smap j kk sz=>match J.get id with
   |some (.smap m Di sz')=>Ld kk Di&&Qd sz sz'&&(match ps[j]? with|some m'=>Nat.beq m m'|none=>false)
   |some (.map [])=>(match ps[j]? with|some m=>Lp m|none=>false)
   |_=>false
  |.map []=>(match J.get id with
   |some (.map [])=>true
   |_=>false)
  |_=>false
 |some none=>match o with
  |.vec j _ _=>(match ps[j]? with|some m=>Lp m|none=>false)
  |_=>false
 |none=>false
def UE(P:Program)(G:Nat)(J:aA)(fz:Q2)(r:W5)(ps:Q2)(t:Tr AV):Wf->Bool
 |[]=>true
 |p::l=>(match t.get p.1 with|some v=>mV P G J fz r ps p.2 v|none=>false)&&UE P G J fz r ps t l
def Ll(P:Program)(G next:Nat)(J:aA)(fz:Q2)(r:W5)(ps:Q2):WP->Bool
 |[]=>true
 |p::l=>Nat.blt G p.1&&Nat.blt p.1 next&&mO P G J fz r ps p.1 p.2&&Ll P G next J fz r ps l
def NK(r:W5):Nat->Nat->Bool
 |_,0=>true
 |i,n+1=>Bg r (i+1) (some (i+1))&&NK r (i+1) n
def I9:W5->Bool
 |[]=>true
 |p::l=>(match p.2 with
  |some a=>l.all λq=>match q.2 with|some b=>!(Nat.beq a b)|none=>true
  |none=>true)&&I9 l
def Zx(P:Program)(s:gU)(a:bg)(J:aA)(fz:Q2)(r:W5)(ps:Q2):Bool:=
 Nat.beq s.ka gG.ka&&Nat.blt (s.gn+s.ka) s.next&&NK r s.gn s.ka&&Nat.beq s.n a.n&&Nat.beq s.gn a.gn&&Nat.blt s.gn s.next&&I9 r&&UE P s.gn J fz r ps a.t s.slots&&Ll P s.gn s.next J fz r ps s.objs
end
def kills(J:aA):Q2->aA
 |[]=>J
 |id::l=>(kills J l).kill id
theorem Dh{J:aA}{k:Nat}:∀{l:Q2},(kills J l).get k=if k∈l then none else J.get k
 |[]=>by simp[kills]
 |id::l=>by
  rw[kills,aA.yh,Dh];by_cases h:k=id
  ·simp[h]
  ·simp[h]
theorem Lc{J:aA}:∀l:Q2,(kills J l).lock=J.lock
 |[]=>rfl
 |_::l=>Lc l
theorem Zh{J:aA}:∀l:Q2,(kills J l).next=J.next
 |[]=>rfl
 |_::l=>Zh l
section
variable[aH]
theorem Tj{w0:Base}{dK:Qf}{F:Env}{J:aA}{w:World}(hF:jK P w0 dK F J w)(hl:J.lock=0):∀fz:Q2,∃bW,(∀b o,F.ro b=some o->bW b=some o)/\jK P w0 dK ⟨F.pl,bW,F.gh⟩ (kills J fz) w/\
 (∀id∈fz,∀o q,J.get id=some o->o.own=true->F id=some q->bW q.bl=w.heap[q.bl]?)
 |[]=>⟨F.ro,λ_ _ h=>h,hF,by simp⟩
 |id::fz=>by
  obtain⟨bW,h1,h2,h3⟩:=Tj hF hl fz;by_cases hx:∃o q,(kills J fz).get id=some o/\o.own=true/\F id=some q
  ·obtain⟨o,q,ho,hown,hq⟩:=hx;have hst:=St.freeze h2.rel ho hown (by rw[Lc,hl];exact ql _) (show(⟨F.pl,bW,F.gh⟩:Env) id=some q from hq);have hF2:=h2.step (by rw[Lc,hl]) hst;refine⟨FH bW w q.bl,λb o hb=>Vb h2.rel.iT q.bl b o (h1 b o hb),hF2,?_⟩;intro id' jy o' q' ho' hown' hq';show(if q'.bl=q.bl then w.heap[q.bl]? else bW q'.bl)=_
   split
   ·next e=>rw[e]
   ·next e=>
    rcases bG.1 jy with rfl|jy
    ·rw[hq]at hq';cases hq';exact absurd rfl e
    ·exact h3 id' jy o' q' ho' hown' hq'
  ·refine⟨bW,h1,⟨h2.rel.sub (λk u hk=>?_) (bV _),h2.kept,λk u q a1 a2 a3=>?_,h2.uj,h2.qg,h2.qO⟩,?_⟩
   ·rw[kills,aA.yh]at hk;split at hk;cases hk;exact hk
   ·rw[kills,aA.yh]at a1;split at a1;cases a1;exact h2.own k u q a1 a2 a3
   ·intro id' jy o' q' ho' hown' hq';rcases bG.1 jy with rfl|jy
    ·by_cases hm:id'∈fz
     ·exact h3 id' hm o' q' ho' hown' hq'
     ·exact absurd ⟨o',q',by rw[Dh,ah hm];exact ho',hown',hq'⟩ hx
    ·exact h3 id' jy o' q' ho' hown' hq'
end
theorem FU{val:W6}:∀{ps:Q2}{gs:Q1},valsOf val ps=some gs->∀{j m:Nat},ps[j]? =some m->gs[j]? =val m/\∃g,val m=some g
 |[],gs,h,j,m,hj=>by simp at hj
 |p::ps,gs,h,j,m,hj=>by
  simp only[valsOf]at h;split at h
  ·next g r h1 h2=>
   cases h;cases j with
   |zero=>simp at hj;subst hj;exact⟨by simp[h1],g,h1⟩
   |succ j=>simpa using FU h2 (j:=j) (by simpa using hj)
  ·cases h
theorem PN{r:W5}{i id:Nat}(h:Bg r i (some id)=true):cZ i r=some (some id):=by
 unfold Bg at h;split at h
 ·next a b e1 e2=>cases e2;rw[e1,bD h]
 ·next e1 e2=>cases e2
 ·cases h
theorem awu{r:W5}{i:Nat}(h:Bg r i none=true):cZ i r=some none:=by
 unfold Bg at h;split at h
 ·next a b e1 e2=>cases e2
 ·next e1 e2=>exact e1
 ·cases h
def zH(tabs:Qt)(i:Nat):Nat:=match cZ i tabs with
 |some c=>c.length
 |none=>0
def rU(tabs:Qt)(G next:Nat)(r:W5)(F:Env)(bW:Qf):Env where
 pl:=λi=>if i<=G then some ⟨i,0,zH tabs i,0⟩else if i<next then match cZ i r with
  |some (some id)=>F id
  |_=>none
  else none
 ro:=bW
 gh:=λi=>decide (G<i)&&decide (i<next)&&match cZ i r with
  |some (some id)=>F.gh id
  |some none=>true
  |none=>false
structure vH(T:aH)(P:Program)(tabs:Qt)(G next:Nat)(F:Env)(J:aA)(w:World)(fz:Q2)(r:W5)(ps:Q2)(gs:Q1)(bW:Qf):Prop where
 rel:@SR T P F J w
 vals:valsOf T.val ps=some gs
 uj:∀b o,F.ro b=some o->bW b=some o
 rJ:∀id∈fz,∀o q,J.get id=some o->o.own=true->F id=some q->bW q.bl=w.heap[q.bl]?
 gn:G=P.globals.size
 lt:G<next
variable{T:aH}{ka:Nat}{tabs:Qt}{G next:Nat}{F:Env}{J:aA}{w:World}{fz:Q2}{r:W5}{ps:Q2}{gs:Q1}{bW:Qf}
theorem E9{i id:Nat}(hG:G<i)(hn:i<next)(hr:cZ i r=some (some id)):(rU tabs G next r F bW) i=F id:=by
 show(if i<=G then some (⟨i,0,zH tabs i,0⟩:Place)else if i<next then _ else none)=_
 rw[ah (by omega),aj hn,hr]
theorem UD{i:Nat}(hG:i<=G):(rU tabs G next r F bW) i=some ⟨i,0,zH tabs i,0⟩:=by
 show(if i<=G then some (⟨i,0,zH tabs i,0⟩:Place)else _)=_
 rw[aj hG]
theorem agB{i id:Nat}(hG:G<i)(hn:i<next)(hr:cZ i r=some (some id)):(rU tabs G next r F bW).gh i=F.gh id:=by
 show(decide (G<i)&&decide (i<next)&&_)=_
 rw[hr];simp[hG,hn]
theorem agC{i:Nat}(hG:G<i)(hn:i<next)(hr:cZ i r=some none):(rU tabs G next r F bW).gh i=true:=by
 show(decide (G<i)&&decide (i<next)&&_)=_
 rw[hr];simp[hG,hn]
theorem ae3(C:vH T P tabs G next F J w fz r ps gs bW){a:AV}{m:Nat}{v:Value}(h:@Tn T.togG P J fz a m=true)(hv:@VR T F a v){g:GV}(hm:T.val m=some g):g.scalar=true/\GR bW g v:=by
 letI:=T
 unfold Tn at h;split at h
 ·next id n=>
  rw[aK]at h;obtain⟨h1,h⟩:=h;have hid:id∈fz:=by simpa using h1
  split at h
  ·next m' et f hg=>
   rw[aK]at h;have e:=bD h.1;subst e;simp only[VR]at hv;obtain⟨ys,k1,hv⟩:=hv;rcases hv with⟨q,hq,hle,rfl⟩|⟨hgh,rfl,rfl⟩
   ·have hor:=C.rel.at hg hq;obtain⟨xs,x1,x2,x3,x4,x5,x6,x7,x8⟩:=hor.Lr;have x1':T.val m'=some (.l xs):=x1;rw[hm]at x1';cases x1';have hlen:=yB 100 h.2 x1 k1;refine⟨rfl,?_⟩;have hcl:=GY x2;have:=GR.ZJ (ro':=bW) (off:=0) (n:=ys.length) (size:=q.es) (cap:=q.sz/q.es) (cs:=bI xs) (gs:=xs) x8 C.uj (C.rJ id hid _ q hg rfl hq) (by unfold takeN;rw[dD,<-hlen,jZ (by omega),aj hcl]) hlen hle x4 (λx hx=>⟨x2 x hx,x7 x hx⟩) (λF' vs hro hvs=>by unfold bI at hvs⊢;exact(ou _ _).1 (aO.mono hro _ _ ((ou _ _).2 hvs)))
    simpa using this
   ·rcases C.rel.live id _ hg with⟨q,hq,_⟩|⟨_,n2,Yg,f2,e2,hv0⟩
    ·rw[(C.rel.jH id hgh).1]at hq;cases hq
    ·cases e2;have Ua:T.val m'=some (.l []):=hv0;rw[hm]at Ua;cases Ua;exact⟨rfl,by simp[GR]⟩
  ·cases h
 ·next id off len cap=>
  rw[aK]at h;obtain⟨h1,h⟩:=h;have hid:id∈fz:=by simpa using h1
  split at h
  ·next c et opn hg=>
   split at h
   ·next m' size hl hsz=>
    rw[aK]at h;have e:=bD h.1;subst e;have h0:0<size:=by have:=h.2;rwa [jd]at this
    simp only[VR]at hv;obtain⟨q,hq,hle,rfl⟩:=hv;unfold listOf at hl;simp only[hg,hsz]at hl;split at hl
    ·next c' Hf rw' Po size' agg e1 e2 ha=>
     cases e1;cases e2;split at hl
     ·next hc=>
      rw[aK,nO,aK]at hc;split at hl
      ·next cs hcs=>
       split at hl
       ·next ns hns=>
        have hagg:agg=false->size=1:=by
         intro e;subst e;rcases hc.2 with h1|h1
         ·simp at h1
         ·exact bD h1
        obtain⟨g',g1,g2⟩:=gB hl;have g1':T.val m'=some g':=g1;rw[hm]at g1';cases g1';have hor:=C.rel.at hg hq;obtain⟨ws,elem,fr,hb,rr⟩:=hor;have hlc:=(qV hcs).2.1;have ase:=rr.yF hcs;obtain⟨gl,k1,k2,k3,k4,hsize⟩:=EJ (F:=F) hagg len hns ase hlc;simp only[Nd.den,k1,gI,aW]at g2;subst g2;refine⟨rfl,?_⟩;have:=GR.ZJ (ro':=bW) (off:=off) (n:=len) (size:=size) (cap:=cap.getD ((q.sz-off)/q.es)) (cs:=cs) (gs:=gl) (C.rel.at hg hq) C.uj (C.rJ id hid _ q hg rfl hq) hcs k2 hle h0 hsize (λF' vs hro hvs=>by obtain⟨gl',k1',k2',Ud,_⟩:=EJ (F:=F) hagg len hns hvs hlc;rw[k1]at k1';cases k1';unfold bI at Ud⊢;exact(ou _ _).1 (aO.mono hro _ _ ((ou _ _).2 Ud)))
        exact this
       ·cases hl
      ·cases hl
     ·cases hl
    ·cases hl
   ·cases h
  ·cases h
 ·cases h
theorem ak2:∀{a b:QR},capEq a b=true->a=b
 |none,none,_=>rfl
 |some _,some _,h=>uK some (bD h)
 |none,some _,h=>by cases h
 |some _,none,h=>by cases h
mutual
theorem Zy(C:vH T P tabs G next F J w fz r ps gs bW):∀(p a:AV)(v:Value),p.under next=true->@mV T.togG P G J fz r ps p a=true->@VR T F a v->@VR (Tg tabs gs ka) (rU tabs G next r F bW) p v
 |.nd j,a,v,hu,h,hv=>by
  letI:=T
  simp only[mV]at h;split at h
  ·next m hm=>
   obtain⟨e1,g,e2⟩:=FU C.vals hm;simp only[VR];refine⟨g,by show gs[j]? =_;rw[e1,e2],?_⟩;rw[nO]at h;rcases h with h|h
   ·split at h
    ·next m' hm'=>
     have e:=bD h;subst e;obtain⟨g',k1,k2,k3⟩:=lF hm' hv;have k1':T.val m=some g':=k1;rw[e2]at k1';cases k1';exact⟨k2,GR.mono C.uj _ _ k3⟩
    ·cases h
   ·exact ae3 C h hv e2
  ·cases h
 |.sv i j,a,v,hu,h,hv=>by
  letI:=T
  simp only[AV.under,jd]at hu;simp only[mV]at h;split at h
  ·next m hm=>
   obtain⟨e1,g,e2⟩:=FU C.vals hm;split at h
   ·next id n=>
    rw[aK,aK,jd]at h;obtain⟨⟨h1,h2⟩,h3⟩:=h;have hr:=PN h2;simp only[VR]at hv⊢;obtain⟨xs,k1,hv⟩:=hv;have hx:∃ys,g=.l ys/\ys.length=xs.length:=by obtain⟨ys,rfl⟩:=ayV 100 h3 e2 k1;exact⟨ys,rfl,yB 100 h3 e2 k1⟩
    obtain⟨ys,rfl,hlen⟩:=hx;refine⟨ys,by show gs[j]? =_;rw[e1,e2],?_⟩;rcases hv with⟨q,hq,hle,rfl⟩|⟨hgh,rfl,rfl⟩
    ·exact .inl ⟨q,by rw[E9 h1 hu hr];exact hq,by rw[hlen];exact hle,by rw[hlen]⟩
    ·exact .inr ⟨by rw[agB h1 hu hr];exact hgh,jw (by simpa using hlen),rfl⟩
   ·rw[aK,aK,jd]at h;obtain⟨⟨h1,h2⟩,h3⟩:=h;have hr:=awu h2;simp only[VR]at hv⊢;unfold Lp at h3;split at h3
    ·next hn=>
     obtain⟨g',k1,k2⟩:=T.qE m _ hn (by simp);rw[e2]at k1;cases k1;simp only[Nd.den,valsOf,gI,aW]at k2;subst k2;exact⟨[],by show gs[j]? =_;rw[e1,e2],.inr ⟨agC h1 hu hr,rfl,hv⟩⟩
    ·cases h3
   ·cases h
  ·cases h
 |.p i off,a,v,hu,h,hv=>by
  letI:=T
  simp only[AV.under,jd]at hu;simp only[mV]at h;split at h
  ·next id off'=>
   rw[aK]at h;have e:=bD h.1;subst e;simp only[VR]at hv⊢;obtain⟨q,hq,rfl⟩:=hv;split at h
   ·next hle=>
    have e:=bD h.2;subst e;obtain⟨sz,es,hg⟩:=C.rel.mg i (by rw[<-C.gn];exact hle);rw[hq]at hg;cases hg;exact⟨_,UD hle,rfl⟩
   ·next hle=>exact⟨q,by rw[E9 (by omega) hu (PN h.2)];exact hq,rfl⟩
  ·cases h
 |.rx j off,a,v,hu,h,hv=>by
  letI:=T
  simp only[mV]at h;split at h
  ·next m off'=>
   rw[aK]at h;have e:=bD h.1;subst e;split at h
   ·next m' hm=>
    have e:=bD h.2;subst e;obtain⟨e1,g,e2⟩:=FU C.vals hm;simp only[VR]at hv⊢;obtain⟨g',bl,base,cs,elem,fr,x,k1,k2,k3,k4,k5⟩:=hv;have k1':T.val m=some g':=k1;rw[e2]at k1';cases k1';exact⟨g,bl,base,cs,elem,fr,x,by show gs[j]? =_;rw[e1,e2],C.uj _ _ k2,GR.mono C.uj _ _ k3,k4,k5⟩
   ·simp at h
  ·cases h
 |.fn f fi cs,a,v,hu,h,hv=>by
  letI:=T
  simp only[AV.under,aK]at hu;simp only[mV]at h;split at h
  ·next f' fi' cs'=>
   rw[aK,aK]at h;obtain⟨⟨h1,h2⟩,h3⟩:=h;have e:=bD h1;subst e;simp only[VR]at hv⊢;obtain⟨us,vs,rfl,k1,k2⟩:=hv;exact⟨us,vs,rfl,Fb C fi fi' us hu.1 h2 k1,Fb C cs cs' vs hu.2 h3 k2⟩
  ·cases h
 |.agg l,a,v,hu,h,hv=>by
  letI:=T
  simp only[AV.under]at hu;simp only[mV]at h;split at h
  ·next l'=>simp only[VR]at hv⊢;obtain⟨vs,rfl,k1⟩:=hv;exact⟨vs,rfl,Fb C l l' vs hu h k1⟩
  ·cases h
 |.dP l,a,v,hu,h,hv=>by
  letI:=T
  simp only[AV.under]at hu;simp only[mV]at h;split at h
  ·next l'=>simp only[VR]at hv⊢;obtain⟨vs,rfl,k1⟩:=hv;exact⟨vs,rfl,Fb C l l' vs hu h k1⟩
  ·cases h
 |.iW t x,a,v,hu,h,hv=>by
  letI:=T
  simp only[AV.under]at hu;simp only[mV]at h;split at h
  ·next t' x'=>
   rw[aK]at h;have e:=bD h.1;subst e;simp only[VR]at hv⊢;obtain⟨y,rfl,k1⟩:=hv;exact⟨y,rfl,Zy C x x' y hu h.2 k1⟩
  ·cases h
 |.b x,a,v,hu,h,hv=>by
  letI:=T
  simp only[mV]at h;split at h
  ·next y=>have:=Rl.1 h;subst this;simp only[VR]at hv⊢;exact hv
  ·cases h
 |.i k n,a,v,hu,h,hv=>by
  letI:=T
  simp only[mV]at h;split at h
  ·next k' n'=>
   rw[aK]at h;have e1:=Uf h.1;have e2:=afT h.2;subst e1;subst e2;simp only[VR]at hv⊢;exact hv
  ·cases h
 |.s x,a,v,hu,h,hv=>by
  letI:=T
  simp only[mV]at h;split at h
  ·next y=>have:=Xx h;subst this;simp only[VR]at hv⊢;exact hv
  ·cases h
 |.jr,a,v,hu,h,hv=>by letI:=T;simp only[mV]at h;split at h;(simp only[VR]at hv⊢;exact hv);cases h
 |.fV,a,v,hu,h,hv=>by letI:=T;simp only[mV]at h;split at h;(simp only[VR]at hv⊢;exact hv);cases h
 |.yw,a,v,hu,h,hv=>by letI:=T;simp only[mV]at h;split at h;(simp only[VR]at hv⊢;exact hv);cases h
 |.rW,a,v,hu,h,hv=>by letI:=T;simp only[mV]at h;split at h;(simp only[VR]at hv⊢;exact hv);cases h
 |.oU,a,v,hu,h,hv=>by letI:=T;simp only[mV]at h;split at h;(simp only[VR]at hv⊢;exact hv);cases h
 |.sl i off len cap,a,v,hu,h,hv=>by
  letI:=T
  simp only[AV.under,jd]at hu;simp only[mV]at h;split at h
  ·next id off' len' cap'=>
   simp only[aK,jd]at h;obtain⟨⟨h1,h2⟩,h3,h4,h5⟩:=h;have e1:=bD h3;have e2:=bD h4;have e3:=ak2 h5;subst e1;subst e2;subst e3;simp only[VR]at hv⊢;obtain⟨q,hq,k1,rfl⟩:=hv;exact⟨q,by rw[E9 h1 hu (PN h2)];exact hq,k1,rfl⟩
  ·cases h
 |.mp i,a,v,hu,h,hv=>by
  letI:=T
  simp only[AV.under,jd]at hu;simp only[mV]at h;split at h
  ·next id=>
   rw[aK,jd]at h;simp only[VR]at hv⊢;obtain⟨q,hq,rfl⟩:=hv;exact⟨q,by rw[E9 h.1 hu (PN h.2)];exact hq,rfl⟩
  ·cases h
 |.z _ _ _,_,_,_,h,_=>by simp[mV]at h
 |.ro _,_,_,_,h,_=>by simp[mV]at h
 |.rp _ _,_,_,_,h,_=>by simp[mV]at h
 |.pv _ _ _,_,_,_,h,_=>by simp[mV]at h
 |.pd _ _,_,_,_,h,_=>by simp[mV]at h
theorem Fb(C:vH T P tabs G next F J w fz r ps gs bW):∀(p a:Q3)(v:Q6),AV.oZ next p=true->@AU T.togG P G J fz r ps p a=true->@aC T F a v->@aC (Tg tabs gs ka) (rU tabs G next r F bW) p v
 |[],a,v,hu,h,hv=>by
  letI:=T
  simp only[AU]at h;split at h
  ·simp only[aC]at hv⊢;exact hv
  ·cases h
 |p::l,a,v,hu,h,hv=>by
  letI:=T
  simp only[AV.oZ,aK]at hu;simp only[AU]at h;split at h
  ·next b m'=>
   rw[aK]at h;simp only[aC]at hv⊢;obtain⟨x,xs,rfl,k1,k2⟩:=hv;exact⟨x,xs,rfl,Zy C p b x hu.1 h.1 k1,Fb C l m' xs hu.2 h.2 k2⟩
  ·cases h
end
theorem agE{t:Tr AV}[gG]:∀{l:Wf},UE P G J fz r ps t l=true->∀k p,(k,p)∈l->∃v,t.get k=some v/\mV P G J fz r ps p v=true
 |[],_,k,p,hk=>by simp at hk
 |q::l,h,k,p,hk=>by
  simp only[UE,aK]at h;rcases bG.1 hk with e|hk
  ·subst e;have h1:=h.1;split at h1
   ·next v hv=>exact⟨v,hv,h1⟩
   ·cases h1
  ·exact agE h.2 k p hk
theorem agD[gG]:∀{l:WP},Ll P G next J fz r ps l=true->∀i o,(i,o)∈l->G<i/\i<next/\mO P G J fz r ps i o=true
 |[],_,i,o,hk=>by simp at hk
 |q::l,h,i,o,hk=>by
  simp only[Ll,aK,jd]at h;rcases bG.1 hk with e|hk
  ·subst e;exact⟨h.1.1.1,h.1.1.2,h.1.2⟩
  ·exact agD h.2 i o hk
theorem aaP:∀{r:W5},I9 r=true->∀i j a,cZ i r=some (some a)->cZ j r=some (some a)->i=j
 |[],_,i,j,a,h1,_=>by simp[cZ]at h1
 |p::l,h,i,j,a,h1,h2=>by
  simp only[I9,aK]at h;simp only[cZ]at h1 h2;cases hb1:Nat.beq i p.1<;>cases hb2:Nat.beq j p.1<;>rw[hb1]at h1<;>rw[hb2]at h2<;>simp only[cond_true,cond_false,aW]at h1 h2
  ·exact aaP h.2 i j a h1 h2
  ·have hm:=Tq h1;have h3:=h.1;rw[h2]at h3;have:=List.all_eq_true.1 h3 _ hm;simp at this
  ·have hm:=Tq h2;have h3:=h.1;rw[h1]at h3;have:=List.all_eq_true.1 h3 _ hm;simp at this
  ·rw[bD hb1,bD hb2]
theorem atf(C:vH T P tabs G next F J w fz r ps gs bW){i:Nat}{o:bn}(hG:G<i)(hn:i<next)(hb:Ac next o=true)(h:@mO T.togG P G J fz r ps i o=true):
 @Live (Tg tabs gs ka) P (rU tabs G next r F bW) w i o/\(∀id,cZ i r=some (some id)->id∉fz/\∃o',J.get id=some o'/\o'.own=o.own):=by
 letI:=T
 unfold mO at h;split at h
 ·next id hr=>
  rw[aK]at h;obtain⟨h1,h⟩:=h;have hnf:id∉fz:=by intro hm;rw[acd.2 hm]at h1;simp at h1
  have hpl:(rU tabs G next r F bW) i=F id:=E9 hG hn hr;split at h
  ·next l et um opn=>
   split at h
   ·next c Hf rw' Po hg=>
    rw[aK,aK,aK]at h;obtain⟨⟨⟨h2,h3⟩,h4⟩,h5⟩:=h;have e1:=bD h2;have e2:=Rl.1 h3;have e3:=Rl.1 h4;subst e1;subst e2;subst e3;refine⟨?_,λid' jy=>by rw[hr]at jy;cases jy;exact⟨hnf,_,hg,rfl⟩⟩;obtain⟨q,hq,cs,elem,fr,hb0,rr⟩:=C.rel.obj _ _ hg rfl;refine .inl ⟨q,by rw[hpl];exact hq,cs,elem,fr,hb0,?_⟩;have hvs:@aC T F c ((cs.toList.drop q.ba).take c.length):=by have hfit:=rr.fits;have hle:=rr.le;refine aC.of (by simp;omega) λk a hk=>?_;obtain⟨x,hx,hv⟩:=rr.cell k a hk;have hlt:=(eU.1 hk).1;exact⟨x,by rw[kS,aj hlt,ru];simpa using hx,hv⟩
    have hvl:=Fb (ka:=ka) C l c _ hb h5 hvs;have hlen:l.length=c.length:=by have h6:=@aC.length (Tg tabs gs ka) _ _ _ hvl;have h7:=hvs.length;omega
    exact @qY.mk (Tg tabs gs ka) P (rU tabs G next r F bW) q l et um opn cs elem fr rr.fits (by rw[hlen];exact rr.le) (λe=>by rw[hlen];exact rr.shut e) (λk a hk=>by obtain⟨x,hx,hv⟩:=@aC.at (Tg tabs gs ka) _ _ _ hvl k a hk;have hlt:=(eU.1 hk).1;rw[kS,aj (by omega),ru]at hx;exact⟨x,by simpa using hx,hv⟩) rr.free rr.whole rr.room
   ·cases h
  ·next j et f=>
   split at h
   ·next m Hf f' hg=>
    rw[aK,aK]at h;obtain⟨⟨h2,h3⟩,h4⟩:=h;have e1:=bD h2;subst e1;refine⟨?_,λid' jy=>by rw[hr]at jy;cases jy;exact⟨hnf,_,hg,rfl⟩⟩;split at h4
    ·next m' hm=>
     have e:=bD h4;subst e;obtain⟨e1,g,e2⟩:=FU C.vals hm;rcases C.rel.live id _ hg with⟨q,hq,hor⟩|⟨hgh,n2,Yg,f2,e3,hv0⟩
     ·obtain⟨xs,cs,elem,fr,ys,k1,k2,k3,k4,k5,k6,k7,k8,k9⟩:=hor;have k1':T.val m=some (.l xs):=k1;refine .inl ⟨q,by rw[hpl];exact hq,xs,cs,elem,fr,ys,by show gs[j]? =_;rw[e1,k1'],k2,aO.mono C.uj _ _ k3,k4,k5,k6,@qY.mk (Tg tabs gs ka) P (rU tabs G next r F bW) q [] et true true cs elem fr k7.fits k7.le k7.shut (λk a hk=>by simp at hk) k7.free k7.whole k7.room,k8,λe=>k9 ?_⟩;rw[e]at h3;simpa using h3
     ·cases e3;have Ua:T.val m=some (.l []):=hv0;exact .inr ⟨by rw[agB hG hn hr];exact hgh,j,et,f,rfl,by show gs[j]? =_;rw[e1,Ua]⟩
    ·simp at h4
   ·cases h
  ·next j kk sz=>
   split at h
   ·next m Di sz' hg=>
    rw[aK,aK]at h;obtain⟨⟨h2,h3⟩,h4⟩:=h;have e1:=Ul h2;have e2:=abp h3;subst e1;subst e2;refine⟨?_,λid' jy=>by rw[hr]at jy;cases jy;exact⟨hnf,_,hg,rfl⟩⟩;split at h4
    ·next m' hm=>
     have e:=bD h4;subst e;obtain⟨e1,g,e2⟩:=FU C.vals hm;obtain⟨q,hq,xs,ms,clock,k1,k2,k3⟩:=C.rel.obj _ _ hg rfl;have k1':T.val m=some (.l xs):=k1;exact .inl ⟨q,by rw[hpl];exact hq,xs,ms,clock,by show gs[j]? =_;rw[e1,k1'],k2,k3.mono C.uj⟩
    ·simp at h4
   ·next hg=>
    refine⟨?_,λid' jy=>by rw[hr]at jy;cases jy;exact⟨hnf,_,hg,rfl⟩⟩;split at h
    ·next m hm=>
     obtain⟨e1,g,e2⟩:=FU C.vals hm;unfold Lp at h;split at h
     ·next hnn=>
      obtain⟨g',k1,k2⟩:=T.qE m _ hnn (by simp);rw[e2]at k1;cases k1;simp only[Nd.den,valsOf,gI,aW]at k2;subst k2;obtain⟨q,hq,ms,clock,hb,hsz,_⟩:=C.rel.obj _ _ hg rfl;refine .inl ⟨q,by rw[hpl];exact hq,[],ms,clock,by show gs[j]? =_;rw[e1,e2],hb,?_⟩;simp only[rD];have:ms.size=0:=by simpa using hsz
      simpa using abQ this
     ·cases h
    ·simp at h
   ·cases h
  ·split at h
   ·next hg=>
    refine⟨?_,λid' jy=>by rw[hr]at jy;cases jy;exact⟨hnf,_,hg,rfl⟩⟩;obtain⟨q,hq,ms,clock,hb,hsz,_⟩:=C.rel.obj _ _ hg rfl;exact .inl ⟨q,by rw[hpl];exact hq,ms,clock,hb,hsz,λk e hk=>by simp at hk⟩
   ·cases h
  ·cases h
 ·next hr=>
  refine⟨?_,λid hid=>by rw[hr]at hid;cases hid⟩;split at h
  ·next j et f=>
   split at h
   ·next m hm=>
    obtain⟨e1,g,e2⟩:=FU C.vals hm;unfold Lp at h;split at h
    ·next hnn=>
     obtain⟨g',k1,k2⟩:=T.qE m _ hnn (by simp);rw[e2]at k1;cases k1;simp only[Nd.den,valsOf,gI,aW]at k2;subst k2;exact .inr ⟨agC hG hn hr,j,et,f,rfl,by show gs[j]? =_;rw[e1,e2]⟩
    ·cases h
   ·cases h
  ·cases h
 ·cases h
end
noncomputable section
variable{P:Program}
variable{T:aH}{tabs:Qt}{G next:Nat}{F:Env}{J:aA}{w:World}{fz:Q2}{r:W5}{ps:Q2}{gs:Q1}{bW:Qf}
def Es(n:Nat):Wf->Bool
 |[]=>true
 |p::l=>p.2.under n&&Es n l
theorem ac2{n:Nat}:∀{l:Wf},Es n l=true->∀k p,(k,p)∈l->p.under n=true
 |[],_,k,p,h=>by simp at h
 |q::l,h,k,p,hk=>by
  simp only[Es,aK]at h;rcases bG.1 hk with e|hk
  ·subst e;exact h.1
  ·exact ac2 h.2 k p hk
def gU.ok(s:gU):Bool:=Nat.blt s.gn s.next&&Es s.next s.slots&&s.objs.all λp=>Ac s.next p.2
structure uH(tabs:Qt)(G:Nat):Prop where
 low:∀p∈tabs,p.1<=G
 one:∀p∈tabs,cZ p.1 tabs=some p.2
theorem aAo(T:aH){F:Env}{a:AV}{v:Value}(h:a.toVal 4=some v):@VR T F a v:=@aje T F 4 a v h
theorem ZB{ka:Nat}{s:gU}(tV:T.tabs=tabs)(hlow:uH tabs P.globals.size)(H6:s.objs.all (λp=>Ac s.next p.2)=true)(h3:s.gn<s.next)(hgn:s.gn=P.globals.size)
 (C:vH T P tabs s.gn s.next F J w fz r ps gs bW) (f1:∀b o,bW b=some o->w.heap[b]? =some o) (f2:∀id o q,id∉fz->J.get id=some o->o.own=true->F id=some q->bW q.bl=none) (h4:I9 r=true) (h6:@Ll T.togG P s.gn s.next J fz r ps s.objs=true):
 @SR (Tg tabs gs ka) P (rU tabs s.gn s.next r F bW) (s.st tabs) w/\(∀i o q,(s.st tabs).get i=some o->o.own=true->(rU tabs s.gn s.next r F bW) i=some q->∃id o',cZ i r=some (some id)/\id∉fz/\J.get id=some o'/\o'.own=true/\F id=some q):=by
 letI:=T
 have obj:∀i o,(s.st tabs).get i=some o->(s.gn<i/\i<s.next/\@Live (Tg tabs gs ka) P (rU tabs s.gn s.next r F bW) w i o/\(∀id,cZ i r=some (some id)->id∉fz/\∃o',J.get id=some o'/\o'.own=o.own))\/
  (i<=s.gn/\∃c,o=.cells c 0 false false/\(i,c)∈tabs):=by
  intro i o hi;have hmem:=Pj hi;rcases kG.1 hmem with hmem|hmem
  ·obtain⟨g1,g2,g3⟩:=agD h6 i o hmem;have hb:=List.all_eq_true.1 H6 _ hmem;obtain⟨g4,g5⟩:=atf C g1 g2 hb g3;exact .inl ⟨g1,g2,g4,g5⟩
  ·obtain⟨p,hp,e⟩:=qj.1 hmem;cases e;exact .inr ⟨by rw[hgn];exact hlow.low p hp,p.2,rfl,hp⟩
 have own:∀i o q,(s.st tabs).get i=some o->o.own=true->(rU tabs s.gn s.next r F bW) i=some q->∃id o',cZ i r=some (some id)/\id∉fz/\J.get id=some o'/\o'.own=true/\F id=some q:=by
  intro i o q hi ho hq;rcases obj i o hi with⟨g1,g2,_,g4⟩|⟨_,c,rfl,_⟩
  ·have hq':(if i<=s.gn then some ⟨i,0,zH tabs i,0⟩else if i<s.next then(match cZ i r with|some (some id)=>F id|_=>none)else none)=some q:=hq;rw[ah (by omega),aj g2]at hq';split at hq'
   ·next id hid=>
    obtain⟨k1,o',k2,k3⟩:=g4 id hid;exact⟨id,o',hid,k1,k2,k3.trans ho,hq'⟩
   ·cases hq'
  ·cases ho
 have aAe:∀p∈tabs,@Ee (rU tabs s.gn s.next r F bW) p.1 p.2:=by intro p hp;obtain⟨cs,elem,fr,k1,k2⟩:=C.rel.tabs p (by rw[tV];exact hp);exact⟨cs,elem,fr,C.uj _ _ k1,k2⟩
 refine⟨@SR.mk (Tg tabs gs ka) P _ _ w ?_ ?_ ?_ ?_ ?_ ?_ ?_ ?_,own⟩
 ·intro g hg;exact⟨_,_,UD (by omega)⟩
 ·intro i q hq;have hq':(if i<=s.gn then some ⟨i,0,zH tabs i,0⟩else if i<s.next then(match cZ i r with|some (some id)=>F id|_=>none)else none)=some q:=hq;show i<s.next
  split at hq'
  ·omega
  ·split at hq'
   ·next h=>exact h
   ·cases hq'
 ·intro i o hi;rcases obj i o hi with⟨_,_,g3,_⟩|⟨hle,c,rfl,hmem⟩
  ·exact g3
  ·obtain⟨cs,elem,fr,k1,k2,k3⟩:=C.rel.tabs (i,c) (by rw[tV];exact hmem);have hb:=C.rel.iT _ _ k1;have hsz:zH tabs i=c.length:=by unfold zH;rw[hlow.one (i,c) hmem]
   refine .inl ⟨⟨i,0,zH tabs i,0⟩,UD hle,cs,elem,fr,hb,?_⟩;refine @qY.mk (Tg tabs gs ka) P _ _ c 0 false false cs elem fr (by simp only at k2⊢;omega) (by simp only;omega) (λ_=>by simp only;omega) (λk a hk=>?_) (λh=>by cases h) (λh=>absurd rfl h) (λh=>by cases h);obtain⟨x,hx,hv⟩:=k3.1 k a hk;exact⟨x,by simpa using hx,@QK.vr (Tg tabs gs ka) _ _ _ hv⟩
 ·intro i hg;have hg':(decide (s.gn<i)&&decide (i<s.next)&&(match cZ i r with|some (some id)=>F.gh id|some none=>true|none=>false))=true:=hg;rw[aK,aK,decide_eq_true_iff,decide_eq_true_iff]at hg';obtain⟨⟨k1,k2⟩,k3⟩:=hg';refine⟨?_,k2⟩;show(if i<=s.gn then some ⟨i,0,zH tabs i,0⟩else if i<s.next then(match cZ i r with|some (some id)=>F id|_=>none)else none)=none
  rw[ah (by omega),aj k2];split at k3
  ·next id hid=>rw[hid];exact(C.rel.jH id k3).1
  ·next hid=>rw[hid]
  ·cases k3
 ·intro i o i' o' q q' a1 a2 a3 a4 a5 a6;obtain⟨id,u,b1,b2,b3,b4,b5⟩:=own i o q a1 a2 a5;rcases obj i' o' a3 with⟨g1,g2,_,g4⟩|⟨hle,c,rfl,hmem⟩
  ·have hq':(if i'<=s.gn then some ⟨i',0,zH tabs i',0⟩else if i'<s.next then(match cZ i' r with|some (some id)=>F id|_=>none)else none)=some q':=a6;rw[ah (by omega),aj g2]at hq';split at hq'
   ·next id' jy=>
    obtain⟨k1,u',k2,k3⟩:=g4 id' jy;exact C.rel.sep id u id' u' q q' b3 b4 k2 (λe=>a4 (by subst e;exact aaP h4 i i' id b1 jy)) b5 hq'
   ·cases hq'
  ·intro e;rw[UD hle]at a6;cases a6;obtain⟨cs,elem,fr,k1,_⟩:=C.rel.tabs (i',c) (by rw[tV];exact hmem);have:=C.rel.kN id u q b3 b4 b5;simp only at e;rw[e]at this;rw[k1]at this;cases this
 ·exact f1
 ·intro i o q a1 a2 a3;obtain⟨id,u,b1,b2,b3,b4,b5⟩:=own i o q a1 a2 a3;exact f2 id u q b2 b3 b4 b5
 ·exact aAe
theorem Xl{r:W5}:∀{n i:Nat},NK r i n=true->∀j,i<j->j<=i+n->cZ j r=some (some j)
 |0,i,_,j,h1,h2=>by omega
 |n+1,i,h,j,h1,h2=>by
  simp only[NK,aK]at h;by_cases e:j=i+1
  ·subst e;exact PN h.1
  ·exact Xl h.2 j (by omega) (by omega)
theorem ZA{w0:Base}{dK:Qf}{a:bg}{A:Act}{s:gU}(tV:T.tabs=tabs)(hlow:uH tabs P.globals.size)(hok:s.ok=true)(hF:@jK T P w0 dK F J w)(hl:J.lock=0)(ht:@TR T P F a A)(hm:@Zx T.togG P s a J fz r ps=true)(hps:valsOf T.val ps=some gs):QJ P tabs s gs w0 dK A w:=by
 letI:=T
 unfold Zx at hm;simp only[aK,jd]at hm;obtain⟨⟨⟨⟨⟨⟨⟨⟨k1,k2⟩,k3⟩,h1⟩,h2⟩,h3⟩,h4⟩,h5⟩,h6⟩:=hm;have k1:=bD k1;have e1:=bD h1;have e2:=bD h2;unfold gU.ok at hok;rw[aK,aK]at hok;obtain⟨⟨_,hbs⟩,H6⟩:=hok;have hgn:s.gn=P.globals.size:=by rw[e2];exact ht.gn
 obtain⟨bW,f1,f2,f3⟩:=Tj hF hl fz;have C:vH T P tabs s.gn s.next F J w fz r ps gs bW:=⟨hF.rel,hps,f1,f3,hgn,h3⟩
 obtain⟨hS,own⟩:=ZB (ka:=s.ka) tV hlow H6 h3 hgn C f2.rel.iT (λid o q b2 b3 b4 b5=>f2.rel.kN id o q (by rw[Dh,ah b2];exact b3) b4 b5) h4 h6;refine⟨rU tabs s.gn s.next r F bW,?_,?_⟩
 ·refine @jK.mk (Tg tabs gs s.ka) P w0 dK _ _ w hS hF.kept ?_ ?_ ?_ ?_
  ·intro i o q a1 a2 a3;obtain⟨id,u,b1,b2,b3,b4,b5⟩:=own i o q a1 a2 a3;exact hF.own id u q b3 b4 b5
  ·exact f2.uj
  ·exact f2.qg
  ·intro i q hi;obtain⟨a1,a2,a3⟩:=hF.qO i q hi;have a3':i<=P.globals.size+s.ka:=by rw[k1];exact a3
   refine⟨?_,a2,a3'⟩;rw[E9 (by omega) (by omega) (Xl k3 i (by omega) (by omega))];exact a1
 ·refine @TR.mk (Tg tabs gs s.ka) P _ _ A ?_ ?_ ht.none ?_
  ·exact hgn
  ·show A.tmps.size=s.n
   rw[e1];exact ht.size
  ·intro k p hk;obtain⟨v,v1,v2⟩:=agE h5 k p (Pj hk);obtain⟨x,hx,hv⟩:=ht.slot k v v1;exact⟨x,hx,Zy C p v x (ac2 hbs k p (Pj hk)) v2 hv⟩
end
noncomputable section
variable{P:Program}
mutual
def AV.dV(f:Nat->Nat):AV->AV
 |.nd j=>.nd (f j)
 |.rx j off=>.rx (f j) off
 |.sv id j=>.sv id (f j)
 |.pv id j off=>.pv id (f j) off
 |.pd id j=>.pd id (f j)
 |.fn g fi cs=>.fn g (AV.pU f fi) (AV.pU f cs)
 |.iW t a=>.iW t (a.dV f)
 |.agg l=>.agg (AV.pU f l)
 |.dP l=>.dP (AV.pU f l)
 |.ro l=>.ro (AV.pU f l)
 |.rp a off=>.rp (a.dV f) off
 |a=>a
def AV.pU(f:Nat->Nat):Q3->List AV
 |[]=>[]
 |a::l=>a.dV f::AV.pU f l
end
theorem UF(f:Nat->Nat):∀l:Q3,AV.pU f l=l.map (AV.dV f)
 |[]=>rfl
 |a::l=>by simp[AV.pU,UF f l]
def bn.dV(f:Nat->Nat):bn->bn
 |.cells c et rw opn=>.cells (AV.pU f c) et rw opn
 |.iter s pos=>.iter s pos
 |.map es=>.map (es.map λe=>(e.1.dV f,e.2.dV f))
 |.iterM m=>.iterM m
 |.vec j et b=>.vec (f j) et b
 |.smap j kk sz=>.smap (f j) kk sz
 |.pmap es=>.pmap (es.map λe=>(e.1,e.2.dV f))
theorem bn.atm(f:Nat->Nat)(o:bn):(o.dV f).own=o.own:=by cases o<;>rfl
section
variable{S T:aH}{f:Nat->Nat}{F:Env}
mutual
theorem VR.dV(h:∀j g,S.val j=some g->T.val (f j)=some g):∀(a:AV)(v:Value),@VR S F a v->@VR T F (a.dV f) v
 |.b _,_,hv=>by simpa only[VR,AV.dV]using hv
 |.i _ _,_,hv=>by simpa only[VR,AV.dV]using hv
 |.s _,_,hv=>by simpa only[VR,AV.dV]using hv
 |.jr,_,hv=>by simpa only[VR,AV.dV]using hv
 |.p _ _,_,hv=>by simpa only[VR,AV.dV]using hv
 |.fV,_,hv=>by simpa only[VR,AV.dV]using hv
 |.sl _ _ _ _,_,hv=>by simpa only[VR,AV.dV]using hv
 |.oU,_,hv=>by simpa only[VR,AV.dV]using hv
 |.mp _,_,hv=>by simpa only[VR,AV.dV]using hv
 |.yw,_,hv=>by simpa only[VR,AV.dV]using hv
 |.fn _ fi cs,_,hv=>by simp only[VR,AV.dV]at hv⊢;obtain⟨us,vs,e,h1,h2⟩:=hv;exact⟨us,vs,e,aC.dV h fi us h1,aC.dV h cs vs h2⟩
 |.rW,_,hv=>by simpa only[VR,AV.dV]using hv
 |.iW _ a,_,hv=>by simp only[VR,AV.dV]at hv⊢;obtain⟨x,e,h1⟩:=hv;exact⟨x,e,VR.dV h a x h1⟩
 |.agg l,_,hv=>by simp only[VR,AV.dV]at hv⊢;obtain⟨x,e,h1⟩:=hv;exact⟨x,e,aC.dV h l x h1⟩
 |.dP l,_,hv=>by simp only[VR,AV.dV]at hv⊢;obtain⟨x,e,h1⟩:=hv;exact⟨x,e,aC.dV h l x h1⟩
 |.z _ _ _,_,hv=>by simpa only[VR,AV.dV]using hv
 |.ro l,_,hv=>by
  simp only[VR,AV.dV]at hv⊢;have hl:(AV.pU f l).length=l.length:=by rw[UF];simp
  rcases hv with⟨rfl,hv⟩|⟨bl,off,c,xs,sz,e,hc,h1,h2,h3⟩
  ·exact .inl ⟨rfl,hv⟩
  ·rw[hl];exact .inr ⟨bl,off,c,xs,sz,e,hc,aC.dV h l xs h1,h2,λhn=>h3 (by intro e';apply hn;rw[e'];rfl)⟩
 |.rp a _,_,hv=>by simp only[VR,AV.dV]at hv⊢;obtain⟨bl,base,cs,elem,fr,x,h1,h2,h3⟩:=hv;exact⟨bl,base,cs,elem,fr,x,h1,VR.dV h a x h2,h3⟩
 |.nd _,_,hv=>by simp only[VR,AV.dV]at hv⊢;obtain⟨g,h1,h2⟩:=hv;exact⟨g,h _ _ h1,h2⟩
 |.rx _ _,_,hv=>by simp only[VR,AV.dV]at hv⊢;obtain⟨g,bl,base,cs,elem,fr,x,h1,h2⟩:=hv;exact⟨g,bl,base,cs,elem,fr,x,h _ _ h1,h2⟩
 |.sv _ _,_,hv=>by simp only[VR,AV.dV]at hv⊢;obtain⟨xs,h1,h2⟩:=hv;exact⟨xs,h _ _ h1,h2⟩
 |.pv _ _ _,_,hv=>by simp only[VR,AV.dV]at hv⊢;obtain⟨q,k,i,h1,h2,h3⟩:=hv;exact⟨q,k,i,h1,h _ _ h2,h3⟩
 |.pd _ _,_,hv=>by simp only[VR,AV.dV]at hv⊢;obtain⟨xs,p,h1,h2⟩:=hv;exact⟨xs,p,h _ _ h1,h2⟩
theorem aC.dV(h:∀j g,S.val j=some g->T.val (f j)=some g):∀(l:Q3)(vs:Q6),@aC S F l vs->@aC T F (AV.pU f l) vs
 |[],_,hv=>by simpa only[aC,AV.pU]using hv
 |a::l,_,hv=>by simp only[aC,AV.pU]at hv⊢;obtain⟨x,xs,e,h1,h2⟩:=hv;exact⟨x,xs,e,VR.dV h a x h1,aC.dV h l xs h2⟩
end
theorem OR.dV(h:∀j g,S.val j=some g->T.val (f j)=some g){q:Place}{w:World}{o:bn}(r:@OR S P F q w o):@OR T P F q w (o.dV f):=by
 cases o with
 |cells c et um opn=>
  obtain⟨cs,elem,fr,h1,⟨r1,r2,r3,r4,r5,r6,r7⟩⟩:=r;have hl:(AV.pU f c).length=c.length:=by rw[UF];simp
  refine⟨cs,elem,fr,h1,@qY.mk T P F q _ et um opn cs elem fr r1 (by rw[hl];exact r2) (λe=>by rw[hl];exact r3 e) (λk a hk=>?_) r5 r6 r7⟩;rw[UF,iP]at hk;obtain⟨a0,h2,rfl⟩:=aZ.1 hk;obtain⟨x,hx,hv⟩:=r4 k a0 h2;exact⟨x,hx,VR.dV h a0 x hv⟩
 |iter s pos=>exact r
 |map es=>obtain⟨ms,clock,h1,h2,h3⟩:=r;refine⟨ms,clock,h1,by simpa using h2,λk e hk=>?_⟩;rw[iP]at hk;obtain⟨e0,h4,rfl⟩:=aZ.1 hk;obtain⟨m,hm,ha,hb⟩:=h3 k e0 h4;exact⟨m,hm,VR.dV h _ _ ha,VR.dV h _ _ hb⟩
 |iterM m=>cases m<;>exact r
 |smap j kk sz=>obtain⟨xs,ms,clock,k1,k2,k3⟩:=r;exact⟨xs,ms,clock,h _ _ k1,k2,k3⟩
 |pmap es=>obtain⟨hn,ms,clock,ms',h1,hp,h2,h3⟩:=r;refine⟨by simpa[List.map_map,Function.comp_def]using hn,ms,clock,ms',h1,hp,by simpa using h2,λk e hk=>?_⟩;rw[iP]at hk;obtain⟨e0,h4,rfl⟩:=aZ.1 hk;obtain⟨m,hm,ha,hb⟩:=h3 k e0 h4;exact⟨m,hm,ha,VR.dV h _ _ hb⟩
 |vec j et b=>obtain⟨xs,cs,elem,fr,ys,k1,k2,k3,k4,k5,k6,⟨r1,r2,r3,r4,r5,r6,r7⟩,k8⟩:=r;exact⟨xs,cs,elem,fr,ys,h _ _ k1,k2,k3,k4,k5,k6,@qY.mk T P F q [] et true true cs elem fr r1 r2 r3 (λk a hk=>by simp at hk) r5 r6 r7,k8⟩
theorem Live.dV(h:∀j g,S.val j=some g->T.val (f j)=some g){w:World}{i:Nat}{o:bn}(r:@Live S P F w i o):@Live T P F w i (o.dV f):=by
 rcases r with⟨q,hq,hr⟩|⟨hg,n,et,b,rfl,hv⟩
 ·exact .inl ⟨q,hq,OR.dV h hr⟩
 ·exact .inr ⟨hg,f n,et,b,rfl,h _ _ hv⟩
end
theorem IU{α:Type}:∀(l:List (Nat×α))(k:Nat),(oV l).get k=cZ k l
 |[],k=>by simp[oV,cZ]
 |(j,u)::l,k=>by
  rw[oV,Tr.vY,cZ];cases hb:Nat.beq k j with
  |true=>rw[aj (bD hb)];rfl
  |false=>rw[ah (λe=>by rw[e,Nat.beq_refl]at hb;cases hb)];exact IU l k
theorem Yy{α β:Type}(g:α->β):∀(l:List (Nat×α))(m:List (Nat×β))(m':List (Nat×α))(k:Nat)(o:β),cZ k (l.map (λp=>(p.1,g p.2))++m)=some o->(∃o0,cZ k (l++m')=some o0/\o=g o0)\/(cZ k m=some o/\(∀o',cZ k m'=some o'->cZ k (l++m')=some o'))
 |[],m,m',k,o,h=>.inr ⟨h,λo' h'=>h'⟩
 |p::l,m,m',k,o,h=>by
  simp only[iD,bC,cZ]at h⊢;cases hb:Nat.beq k p.1 with
  |true=>rw[hb]at h;simp only[cond_true,aW]at h⊢;exact .inl ⟨p.2,rfl,h.symm⟩
  |false=>rw[hb]at h;simp only[cond_false]at h⊢;exact Yy g l m m' k o h
def gU.Q8(s:gU)(f:Nat->Nat):bg:=⟨oV (s.slots.map λp=>(p.1,p.2.dV f)),s.n,s.gn⟩
def gU.DX(tabs:Qt)(s:gU)(f:Nat->Nat):aA:=⟨oV (s.objs.map (λp=>(p.1,p.2.dV f))++vk tabs),s.next,0⟩
theorem ae1{T:aH}{tabs:Qt}{s:gU}{gs:Q1}{f:Nat->Nat}{w0:Base}{w:World}{dK:Qf}{F:Env}(tV:T.tabs=tabs)(hka:T.ka=s.ka)(hf:∀j g,gs[j]? =some g->T.val (f j)=some g)(h:@jK (Tg tabs gs s.ka) P w0 dK F (s.st tabs) w):
 @jK T P w0 dK F (s.DX tabs f) w:=by
 obtain⟨⟨arI,hdom,hlive,YR,hsep,arU,arW,htab⟩,hkept,hown,YW,arV,YI⟩:=h;have hf':∀j g,(Tg tabs gs s.ka).val j=some g->T.val (f j)=some g:=hf;have obj:∀i o,(s.DX tabs f).get i=some o->(∃o0,(s.st tabs).get i=some o0/\o=o0.dV f)\/(∃c,o=.cells c 0 false false/\(i,c)∈tabs/\(s.st tabs).get i=some o):=by
  intro i o hi;have hi':cZ i (s.objs.map (λp=>(p.1,p.2.dV f))++vk tabs)=some o:=(IU _ i).symm.trans hi;rcases Yy (bn.dV f) s.objs (vk tabs) (vk tabs) i o hi' with⟨o0,h1,h2⟩|⟨h1,h2⟩
  ·exact .inl ⟨o0,(IU _ i).trans h1,h2⟩
  ·have hm:=Tq h1;obtain⟨p,hp,e⟩:=qj.1 hm;cases e;exact .inr ⟨p.2,rfl,hp,(IU _ _).trans (h2 _ h1)⟩
 have own:∀i o,(s.DX tabs f).get i=some o->∃o0,(s.st tabs).get i=some o0/\o0.own=o.own:=by
  intro i o hi;rcases obj i o hi with⟨o0,h1,rfl⟩|⟨c,rfl,_,h1⟩
  ·exact⟨o0,h1,(bn.atm f o0).symm⟩
  ·exact⟨_,h1,rfl⟩
 refine @jK.mk T P w0 dK _ _ w (@SR.mk T P _ _ w arI hdom ?_ YR ?_ arU ?_ ?_) hkept ?_ YW arV (by rw[hka];exact YI)
 ·intro i o hi;rcases obj i o hi with⟨o0,h1,rfl⟩|⟨c,rfl,hm,h1⟩
  ·exact Live.dV hf' (hlive i o0 h1)
  ·rcases hlive i _ h1 with⟨q,hq,cs,elem,fr,hb,⟨r1,r2,r3,r4,r5,r6,r7⟩⟩|⟨_,_,_,_,e,_⟩
   rotate_left
   ·cases e
   obtain⟨cs2,He,Ho,k1,k2,k3⟩:=htab (i,c) hm;refine .inl ⟨q,hq,cs,elem,fr,hb,@qY.mk T P _ _ c 0 false false cs elem fr r1 r2 r3 (λk a hk=>?_) r5 r6 r7⟩;obtain⟨x,hx,hv⟩:=r4 k a hk;obtain⟨y,hy,hv2⟩:=k3.1 k a hk;rcases hv2 with hv2|⟨_,_,_,_,rfl,rfl,_,_⟩
   ·have:x=y:=@ajf (Tg tabs gs s.ka) _ 4 a y x hv2 hv;subst this;exact⟨x,hx,aAo T hv2⟩
   ·exact⟨x,hx,by simpa only[VR]using hv⟩
 ·intro i o i' o' q q' a1 a2 a3 a4 a5 a6;obtain⟨u,u1,u2⟩:=own i o a1;obtain⟨u',u1',u2'⟩:=own i' o' a3;exact hsep i u i' u' q q' u1 (u2.trans a2) u1' a4 a5 a6
 ·intro i o q a1 a2 a3;obtain⟨u,u1,u2⟩:=own i o a1;exact arW i u q u1 (u2.trans a2) a3
 ·rw[tV];exact htab
 ·intro i o q a1 a2 a3;obtain⟨u,u1,u2⟩:=own i o a1;exact hown i u q u1 (u2.trans a2) a3
theorem aa6{T:aH}{tabs:Qt}{s:gU}{gs:Q1}{f:Nat->Nat}{w0:Base}{w:World}{dK:Qf}{A:Act}(tV:T.tabs=tabs)(hka:T.ka=s.ka)(hf:∀j g,gs[j]? =some g->T.val (f j)=some g)(h:QJ P tabs s gs w0 dK A w):
 ∃F,@jK T P w0 dK F (s.DX tabs f) w/\@TR T P F (s.Q8 f) A:=by
 obtain⟨F,hF,⟨tgn,aAv,aAl,aAw⟩⟩:=h;have hf':∀j g,(Tg tabs gs s.ka).val j=some g->T.val (f j)=some g:=hf;refine⟨F,ae1 tV hka hf hF,@TR.mk T P _ _ A tgn aAv aAl ?_⟩
 ·intro k v hk;have hk':cZ k (s.slots.map (λp=>(p.1,p.2.dV f))++[])=some v:=by rw[qL];exact(IU _ k).symm.trans hk
  rcases Yy (AV.dV f) s.slots [] [] k v hk' with⟨v0,h1,rfl⟩|⟨h1,_⟩
  ·rw[qL]at h1;obtain⟨x,hx,hv⟩:=aAw k v0 ((IU _ k).trans h1);exact⟨x,hx,VR.dV hf' v0 x hv⟩
  ·simp[cZ]at h1
