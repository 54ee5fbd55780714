/- Pure programs: trees of nodes; what they compute; how a check of all their ways serves all values. -/
import Derived.Test.YtmkkknckcnpljaaGreatDoorAbsH
import Derived.Control
set_option linter.all false
namespace Go.aO
noncomputable section
inductive Tree where
 |step (nd:Nd) (t:Tree)
 |ite (n:Nat) (t e:Tree)
 |ret (l:Q2)
 |tail (f:Nat) (l:Q2)
 |dead
 deriving Inhabited
abbrev iG:=Nat->List GV->Option Q1
def Tree.den(I:iG):Tree->List GV->Option Q1
 |.step nd t,d=>match nd.den I (λn=>d[n]?)with
  |some g=>t.den I (d++[g])
  |none=>none
 |.ite n t e,d=>match d[n]? with
  |some (.b true)=>t.den I d
  |some (.b false)=>e.den I d
  |_=>none
 |.ret l,d=>valsOf (λn=>d[n]?) l
 |.tail f l,d=>match valsOf (λn=>d[n]?) l with
  |some gs=>I f gs
  |none=>none
 |.dead,_=>none
inductive Leaf where
 |ret (l:Q2)
 |tail (f:Nat) (l:Q2)
def Tree.chk(p:WP->List (Nat×Bool)->Leaf->Bool):Tree->List Nd->List (Nat×Bool)->Bool
 |.step nd t,d,g=>t.chk p (d++[nd]) g
 |.ite n t e,d,g=>t.chk p d ((n,true)::g)&&e.chk p d ((n,false)::g)
 |.ret l,d,g=>p d g (.ret l)
 |.tail f l,d,g=>p d g (.tail f l)
 |.dead,_,_=>true
def Qx{val d:W8}(h:∀n g,val n=some g->d n=some g):∀{l:Q2}{gs:Q1},valsOf val l=some gs->valsOf d l=some gs
 |[],gs,e=>e
 |n::l,gs,e=>by
  simp only[valsOf]at e⊢;split at e
  ·next g r h1 i=>rw[h n g h1,Qx h i];exact e
  ·cases e
def Nd.aeu{I:iG}{val m:W8}(h:∀n g,val n=some g->m n=some g){nd:Nd}{g:GV}(d:nd.den I val=some g):nd.den I m=some g:=by
 cases nd<;>simp only[Nd.den]at d⊢
 case ci=>exact d
 case cb=>exact d
 case cs=>exact d
 case arg=>exact d
 case mk l=>
  split at d
  ·next gs p=>rw[Qx h p];exact d
  ·cases d
 case ml l=>obtain⟨gs,p,e⟩:=bg.1 d;rw[Qx h p];simpa using e
 case call f l j=>
  split at d
  ·next gs p=>rw[Qx h p];exact d
  ·cases d
 case upd size off a i vs=>
  split at d
  ·next t k j gs o q s=>rw[h _ _ o,h _ _ q,Qx h s];exact d
  ·cases d
 all_goals
  split at d
  all_goals first
   |(cases d;done)
   |(simp only[h _ _ (by assumption)];exact d)
   |(rename_i o q s;rw[h _ _ o,h _ _ q,h _ _ s];exact d)
   |(rename_i o q;rw[h _ _ o,h _ _ q];exact d)
   |(rename_i o;rw[h _ _ o];exact d)
structure CY(I:iG)(ns:WP)(ds:W7)(env:Q1):Prop where
 len:ns.length=env.length
 node:∀(n:Nat) nd,ns[n]? =some nd->nd≠.arg->∃g,env[n]? =some g/\nd.den I (λk=>env[k]?)=some g
 dec:∀(n:Nat)(b:Bool),(n,b)∈ds->env[n]? =some (.b b)
def TU{α:Type}{l:List α}{x a:α}{n:Nat}(h:l[n]? =some a):(l++[x])[n]? =some a:=by have:=(fB.1 h).1;rw[ny this];exact h
def Tree.KL{I:iG}{p:WP->List (Nat×Bool)->Leaf->Bool}:∀(t:Tree){q:WP}{u:W7}{d j:Q1},t.chk p q u=true->CY I q u d->t.den I d=some j->
 ∃v A h F,p v A F=true/\CY I v A h/\(∃s,h=d++s)/\(match F with|.ret l=>valsOf (λn=>h[n]?) l=some j|.tail f l=>∃gs,valsOf (λn=>h[n]?) l=some gs/\I f gs=some j)
 |.step nd t,q,u,d,j,B,m,i=>by
  simp only[Tree.den]at i;split at i
  ·next g L=>
   have M:CY I (q++[nd]) u (d++[g]):=by
    refine⟨by simp[m.len],λn x D W=>?_,λn b o=>TU (m.dec n b o)⟩;by_cases N:n<q.length
    ·rw[ny N]at D;obtain⟨X,O,U⟩:=m.node n x D W;exact⟨X,TU O,Nd.aeu (λk a V=>TU V) U⟩
    ·have E:n=q.length:=by have:=(fB.1 D).1;simp at this;omega
     subst E;simp at D;subst D;exact⟨g,by rw[m.len];simp,Nd.aeu (λk a V=>TU V) L⟩
   obtain⟨v,A,h,F,O,U,⟨s,Y⟩,Z⟩:=Tree.KL t B M i;exact⟨v,A,h,F,O,U,⟨[g]++s,by rw[Y,List.append_assoc]⟩,Z⟩
  ·cases i
 |.ite n t e,q,u,d,j,B,m,i=>by
  simp only[Tree.chk,aK]at B;simp only[Tree.den]at i;split at i
  ·next D=>
   refine Tree.KL t B.1 ⟨m.len,m.node,λk b o=>?_⟩ i;rcases bD.1 o with o|o
   ·cases o;exact D
   ·exact m.dec k b o
  ·next D=>
   refine Tree.KL e B.2 ⟨m.len,m.node,λk b o=>?_⟩ i;rcases bD.1 o with o|o
   ·cases o;exact D
   ·exact m.dec k b o
  ·cases i
 |.ret l,q,u,d,j,B,m,i=>⟨q,u,d,.ret l,B,m,⟨[],by simp⟩,i⟩
 |.tail f l,q,u,d,j,B,m,i=>by
  simp only[Tree.den]at i;split at i
  ·next gs L=>exact⟨q,u,d,.tail f l,B,m,⟨[],by simp⟩,gs,L,i⟩
  ·cases i
 |.dead,_,_,_,_,_,_,i=>by simp[Tree.den]at i
inductive pz where
 |sc
 |ag (n:Nat)
abbrev WN:=List pz
def qh:WN->List GV->Bool
 |[],[]=>true
 |.sc::l,g::m=>g.scalar&&qh l m
 |.ag n::l,g::m=>!g.scalar&&Nat.beq g.cells.length n&&qh l m
 |_,_=>false
inductive aB where
 |tree (n:Nat) (t:Tree)
 |fn (qL sQ:WN) (t:Tree)
 |fU (f:Q1->Option Q1)
abbrev W3:=List aB
def aB.den(I:iG):aB->List GV->Option Q1
 |.tree n t,gs=>if gs.length=n then t.den I gs else none
 |.fn e g t,gs=>if qh e gs=true then match t.den I gs with
  |some d=>if qh g d=true then some d else none
  |none=>none
  else none
 |.fU f,gs=>f gs
abbrev iL:=Nat->Option aB
def iL.run(TT:iL):Nat->iG
 |0,_,_=>none
 |n+1,k,gs=>match TT k with
  |some d=>d.den (iL.run TT n) gs
  |none=>none
def iG.le(I e:iG):Prop:=∀k gs d,I k gs=some d->e k gs=some d
def Nd.zG{I e:iG}(h:I.le e){val:W8}{nd:Nd}{g:GV}(d:nd.den I val=some g):nd.den e val=some g:=by
 cases nd with
 |call f l j=>
  simp only[Nd.den]at d⊢;split at d
  ·next gs k=>
   split at d
   ·next r i=>rw[h f gs r i];exact d
   ·cases d
  ·cases d
 |_=>exact d
def Tree.zG{I k:iG}(h:I.le k):∀(t:Tree){i j:Q1},t.den I i=some j->t.den k i=some j
 |.step nd t,i,j,d=>by
  simp only[Tree.den]at d⊢;split at d
  ·next g m=>rw[Nd.zG h m];exact Tree.zG h t d
  ·cases d
 |.ite n t e,i,j,d=>by
  simp only[Tree.den]at d⊢;split at d
  ·exact Tree.zG h t d
  ·exact Tree.zG h e d
  ·cases d
 |.ret l,i,j,d=>d
 |.tail f l,i,j,d=>by
  simp only[Tree.den]at d⊢;split at d
  ·exact h _ _ _ d
  ·cases d
 |.dead,_,_,d=>by simp[Tree.den]at d
def aB.zG{I i:iG}(h:I.le i)(d:aB){gs g:Q1}(e:d.den I gs=some g):d.den i gs=some g:=by
 cases d with
 |tree n t=>
  simp only[aB.den]at e⊢;split at e
  ·next j=>rw[aj j];exact t.zG h e
  ·cases e
 |fn m p t=>
  simp only[aB.den]at e⊢;split at e
  ·next k=>
   split at e
   ·next o l=>rw[aj k,t.zG h l];exact e
   ·cases e
  ·cases e
 |fU f=>exact e
def iL.ai0(TT:iL):∀n,(TT.run n).le (TT.run (n+1))
 |0,k,gs,e,h=>by simp[iL.run]at h
 |n+1,k,gs,e,h=>by
  simp only[iL.run]at h;rw[iL.run];split at h
  ·next d g=>exact d.zG (iL.ai0 TT n) h
  ·cases h
def iL.Vz(TT:iL){n m:Nat}(h:n<=m):(TT.run n).le (TT.run m):=by
 induction h with
 |refl=>exact λ_ _ _ h=>h
 |step _ e=>exact λk gs d g=>iL.ai0 TT _ k gs d (e k gs d g)
open Classical in
def iL.lim(TT:iL):iG:=λk gs=>if h:∃d n,TT.run n k gs=some d then some (Classical.choose h)else none
def iL.I8{TT:iL}{n k:Nat}{gs d:Q1}(h:TT.run n k gs=some d):TT.lim k gs=some d:=by
 unfold iL.lim;have e:∃d n,TT.run n k gs=some d:=⟨d,n,h⟩
 rw[dif_pos e];obtain⟨m,i⟩:=akq e;have j:=TT.Vz (Nat.le_max_left n m) k gs d h;have g:=TT.Vz (Nat.le_max_right n m) k gs _ i;rw[j]at g;exact g.symm
def iL.aag{TT:iL}{k:Nat}{gs d:Q1}(h:TT.lim k gs=some d):∃n,TT.run n k gs=some d:=by
 unfold iL.lim at h;split at h
 ·next e=>
  cases h;exact akq e
 ·cases h
def Nd.IB{TT:iL}{val:W8}{nd:Nd}{g:GV}(d:nd.den TT.lim val=some g):∃n,nd.den (TT.run n) val=some g:=by
 cases nd with
 |call f l j=>
  simp only[Nd.den]at d⊢;split at d
  ·next gs i=>
   split at d
   ·next r e=>
    obtain⟨n,h⟩:=iL.aag e;exact⟨n,by rw[h];exact d⟩
   ·cases d
  ·cases d
 |_=>exact⟨0,d⟩
def Tree.IB{TT:iL}:∀(t:Tree){i j:Q1},t.den TT.lim i=some j->∃n,t.den (TT.run n) i=some j
 |.step nd t,i,j,d=>by
  simp only[Tree.den]at d;split at d
  ·next g o=>
   obtain⟨n,p⟩:=Nd.IB o;obtain⟨m,k⟩:=Tree.IB t d;refine⟨max n m,?_⟩;simp only[Tree.den];rw[Nd.zG (TT.Vz (Nat.le_max_left n m)) p];exact t.zG (TT.Vz (Nat.le_max_right n m)) k
  ·cases d
 |.ite n t e,i,j,d=>by
  simp only[Tree.den]at d⊢;split at d
  ·next h=>obtain⟨m,k⟩:=Tree.IB t d;exact⟨m,k⟩
  ·next h=>obtain⟨m,k⟩:=Tree.IB e d;exact⟨m,k⟩
  ·cases d
 |.ret l,i,j,d=>⟨0,d⟩
 |.tail f l,i,j,d=>by
  simp only[Tree.den]at d⊢;split at d
  ·exact iL.aag d
  ·cases d
 |.dead,_,_,d=>by simp[Tree.den]at d
def iL.auL{TT:iL}{k:Nat}{d:aB}(g:TT k=some d){gs e:Q1}(h:d.den TT.lim gs=some e):TT.lim k gs=some e:=by
 cases d with
 |tree m t=>
  simp only[aB.den]at h;split at h
  ·next j=>
   obtain⟨n,i⟩:=Tree.IB t h;exact iL.I8 (n:=n+1) (by simp only[iL.run,g,aB.den,aj j];exact i)
  ·cases h
 |fn q s t=>
  simp only[aB.den]at h;split at h
  ·next l=>
   split at h
   ·next o p=>
    obtain⟨n,i⟩:=Tree.IB t p;exact iL.I8 (n:=n+1) (by simp only[iL.run,g,aB.den,l,if_true,i];exact h)
   ·cases h
  ·cases h
 |fU f=>exact iL.I8 (n:=1) (by simp only[iL.run,g];exact h)
def iL.auN{TT:iL}{C:Nat->List GV->List GV->Prop}(h:∀k d,TT k=some d->∀I:iG,(∀k gs e,I k gs=some e->C k gs e)->∀gs e,d.den I gs=some e->C k gs e):∀k gs e,TT.lim k gs=some e->C k gs e:=by
 have:∀n k gs e,TT.run n k gs=some e->C k gs e:=by
  intro n;induction n with
  |zero=>intro k gs e g;simp[iL.run]at g
  |succ n i=>
   intro k gs e g;simp only[iL.run]at g;split at g
   ·next d j=>exact h k d j _ i gs e g
   ·cases g
 intro k gs e g;obtain⟨n,l⟩:=iL.aag g;exact this n k gs e l
end
open Go
def abT(R w:Nat):Nat->Nat->List Nat->List Nat
 |0,_,l=>l
 |f+1,s,l=>match Nat.blt s 256 with
  |true=>s::l
  |false=>abT R w f ((R >>>(2*w*(s-256)))%2^w) (abT R w f ((R >>>(2*w*(s-256)+w))%2^w) l)
def toks(R w b:Nat):Nat->Nat->List Nat
 |0,_=>[]
 |n+1,x=>abT R w 1000 (x%b) (toks R w b n (x/b))
def dg(c:Nat):Nat:=match Nat.blt c 58 with
 |true=>c-48
 |false=>match Nat.blt c 91 with
  |true=>c-55
  |false=>match Nat.beq c 95 with
   |true=>62
   |false=>c-61
def sN(s:String):Nat:=s.toList.foldl (λa c=>a*63+dg c.toNat) 0
def rN:Q2->Nat×Q2
 |t::u::l=>match Nat.blt t 224 with
  |true=>(t,u::l)
  |false=>((t-224)*256+u,l)
 |[t]=>(t,[])
 |[]=>(0,[])
def rR(n:Nat)(l:Q2):Nat×Q2:=match rN l with|(a,l)=>(n-a,l)
def rL(n:Nat):Nat->Nat->List Nat->List Nat×Q2
 |0,_,l=>([],l)
 |k+1,p,t::l=>match Nat.blt t 128 with
  |true=>match rL n k (p+t-64) l with
   |(x,l)=>((p+t-64)::x,l)
  |false=>match rR n l with
   |(a,l)=>match rL n k a l with
    |(x,l)=>(a::x,l)
 |_,_,[]=>([],[])
def MG(n:Nat)(l:Q2):Q2×Q2:=match rN l with|(k,l)=>rL n k n l
def rK:Nat->IntKind
 |0=>.i64|1=>.u64|2=>.u8|3=>.i32|4=>.u32|5=>.i16|6=>.u16|_=>.i8
def rO:Nat->BinOp
 |0=>.eql|1=>.add|2=>.neq|3=>.lss|4=>.gtr|5=>.sub|6=>.geq|7=>.leq
 |8=>.and|9=>.quo|10=>.shr|11=>.mul|12=>.rem|13=>.xor|14=>.or|_=>.shl
def r1(n:Nat)(f:Nat->Nd)(l:Q2):Nd×Q2:=match rR n l with|(a,l)=>(f a,l)
def r2(n:Nat)(f:Nat->Nat->Nd)(l:Q2):Nd×Q2:=match rR n l with|(a,l)=>r1 n (f a) l
def r3(n:Nat)(f:Nat->Nat->Nat->Nd)(l:Q2):Nd×Q2:=match rR n l with|(a,l)=>r2 n (f a) l
def r0(f:Nat->Nd)(l:Q2):Nd×Q2:=match rN l with|(a,l)=>(f a,l)
def vk(g:Nat->List Nat->Nd×Q2)(l:Q2):Nd×Q2:=match rN l with|(a,l)=>g a l
def rLs(n:Nat)(f:Q2->Nd)(l:Q2):Nd×Q2:=match MG n l with|(a,l)=>(f a,l)
def rNd(cI:Nat->Int)(cT:Nat->List UInt8)(n t:Nat)(l:Q2):Nd×Q2:=
 if t=4 then(vk λo=>r2 n (.bin (rO o))) l else
 if t=5 then(vk λk=>r0 λa=>.ci (rK k) (cI a)) l else
 if t=6 then(vk λo=>r1 n (.cell o)) l else
 if t=7 then(vk λf l=>match MG n l with|(a,l)=>r0 (λj=>.call f a j) l) l else
 if t=8 then(r0 λa=>.cs (cT a)) l else
 if t=9 then rLs n .mk l else
 if t=10 then rLs n .ml l else
 if t=11 then(r0 λb=>.cb (Nat.beq b 1)) l else
 if t=12 then r1 n .len l else
 if t=13 then(vk λk=>r1 n (.conv (rK k))) l else
 if t=14 then r1 n .slen l else
 if t=15 then(vk λs=>r2 n (.at s)) l else
 if t=16 then r3 n .GL l else
 if t=17 then r1 n (.un .not) l else
 if t=18 then(vk λs=>vk λz=>r2 n (.app s z)) l else
 if t=19 then r2 n .GK l else
 if t=20 then(vk λo l=>match MG 0 l with|(d,l)=>r2 n (.EP (rO o) d) l) l else
 if t=21 then r2 n .idx l else
 if t=22 then r1 n .str l else
 if t=23 then r1 n .bytes l else
 if t=24 then(vk λs=>vk λz=>r3 n (.rep s z)) l else
 if t=25 then r3 n .FU l else
 if t=26 then(vk λs=>r3 n (.DU s)) l else
 if t=27 then(vk λs=>vk λo l=>match rR n l with|(a,l)=>match rR n l with|(b,l)=>rLs n (.upd s o a b) l) l else
 if t=28 then r2 n (.mm false) l else
 if t=29 then r2 n (.mm true) l else
 if t=30 then r3 n .BK l else
 if t=31 then r2 n .FV l else
 if t=32 then r1 n (.un .neg) l else
 if t=33 then r2 n .zQ l else
 if t=37 then r1 n (.un .xor) l else
 if t=34 then r2 n .same l else
 if t=35 then r1 n .GI l else
 (vk λo=>r2 n (.EO (rO o))) l
def rT(cI:Nat->Int)(cT:Nat->List UInt8)(h:Tree):Nat->Nat->List Nat->Tree×Q2
 |0,_,l=>(.dead,l)
 |_,_,[]=>(.dead,[])
 |f+1,n,t::l=>match t with
  |0=>(h,l)
  |1=>match rR n l with|(a,l)=>match rT cI cT h f n l with|(x,l)=>match rT cI cT h f n l with|(y,l)=>(.ite a x y,l)
  |2=>match MG n l with|(a,l)=>(.ret a,l)
  |3=>match rN l with|(g,l)=>match MG n l with|(a,l)=>(.tail g a,l)
  |38=>(.dead,l)
  |_=>match rNd cI cT n t l with|(d,l)=>match rT cI cT h f (n+1) l with|(x,l)=>(.step d x,l)
def rS(l:Q2):WN×Q2:=match MG 0 l with|(a,l)=>(a.map λk=>match k with
 |0=>.sc
 |k+1=>.ag (k+1),l)
def rP(cI:Nat->Int)(cT:Nat->List UInt8)(h:Tree):Q2->aB
 |0::l=>match rS l with|(a,l)=>match rS l with|(b,l)=>.fn a b (rT cI cT h 2000 a.length l).1
 |_::l=>match rN l with|(n,l)=>.tree n (rT cI cT h 2000 n l).1
 |[]=>.tree 0 .dead
def gT:W3->Nat->aB
 |a::_,0=>a
 |_::l,n+1=>gT l n
 |[],_=>.tree 0 .dead
noncomputable section
variable{P:Program}
def Au(P:Program)(c:Code)(Q:Exit->Act->World->Prop)(a:Act)(w:World):Prop:=∀b k d,∃e a' g,Q e a' g/\Arrives P (lone (b.at a (.code c::.inLoop c::k)) d w) b k d e a' g
def Au.step{c:Code}{Q:Exit->Act->World->Prop}{a:Act}{w:World}(h:c.wp P (Exit.then (Au P c Q) Q) a w):Au P c Q a w:=by
 intro b k o;obtain⟨e,j,m,i,d⟩:=h b (.inLoop c::k) o;cases e with
 |normal=>obtain⟨p,q,s,n,g⟩:=i b k o;exact⟨p,q,s,n,.of_steps (Steps.trans d (.one step_inLoop)) g⟩
 |exit id=>exact⟨_,j,m,i,.pass (x:=.inLoop c) rfl (λ_ _=>.inl (by simp)) d⟩
 |goto l=>exact⟨_,j,m,i,.pass (x:=.inLoop c) rfl (λ_ _=>.inl (by simp)) d⟩
 |ret=>exact⟨_,j,m,i,.pass (x:=.inLoop c) rfl (λ_ _=>.inl (by simp)) d⟩
 |panic t=>exact⟨_,j,m,i,.pass (x:=.inLoop c) rfl (λ_ _=>.inl (by simp)) d⟩
 |outgrown=>exact⟨_,j,m,i,.pass (x:=.inLoop c) rfl (λ_ _=>.inl (by simp)) d⟩
def Au.loop{c:Code}{Q:Exit->Act->World->Prop}{a:Act}{w:World}(h:Au P c Q a w):(Code.loop c).wp P Q a w:=by intro b k g;obtain⟨e,a',i,j,d⟩:=h b k g;exact⟨e,a',i,j,.of_steps (.one step_loop) d⟩
section
variable[aI]
def AT(P:Program)(c:Code)(a:bn)(J:aA)(Q:eU->bn->aA->Prop):Prop:=
 ∀d g H w A K,jU P d g H J w->J.lock=0->TR P H a A->(∀e a' J' h i j,Q e a' J'->jU P d g h J' j->J'.lock=0->TR P h a' i->K e.toExit i j)->c.wp P K A w
variable{c b x y z:Code}{a a' a2:bn}{J J' J2:aA}{Q R:eU->bn->aA->Prop}
def AT.mono(h:AT P c a J R)(d:∀e a' J',R e a' J'->Q e a' J'):AT P c a J Q:=
 λg i H w A K j k l m=>h g i H w A K j k l λe a' J' n o p q=>m e a' J' n o p (d _ _ _ q)
def abr(P:Program)(y:Code)(Q:eU->bn->aA->Prop):eU->bn->aA->Prop
 |.normal,a,J=>AT P y a J Q
 |e,a,J=>Q e a J
def AT.seq(h:AT P x a J (abr P y Q)):AT P (.seq x y) a J Q:=by
 intro o p H w A K q s t j;refine wp_seq ?_;refine h o p H w A _ q s t ?_;intro e a' J' k l m n d g i;cases e with
 |normal=>exact n o p k m l K d g i j
 |exit id=>exact j _ a' J' k l m n d g i
 |ret=>exact j _ a' J' k l m n d g i
def AT.cond{o:Operand}{t:Bool}(e:dB (a.eval o)=some (.b t))(h:AT P (if t then y else z) a J Q):AT P (.cond o y z) a J Q:=by intro k l H w A K g m i n;obtain⟨p,e,d⟩:=Iz e;have j:=d _ _ (OV g.rel i o _ e);simp only[VR]at j;exact wp_cond j (h k l H w A K g m i n)
def Ia(id:Nat)(Q:eU->bn->aA->Prop):eU->bn->aA->Prop
 |.exit d,a,J=>if d=id then Q .normal a J else Q (.exit d) a J
 |e,a,J=>Q e a J
def AT.block{id:Nat}(h:AT P b a J (Ia id Q)):AT P (.block id b) a J Q:=by
 intro p q H w A K s t u k;refine wp_block ?_;refine h p q H w A _ s t u ?_;intro e a' J' l m n j d g i;cases e with
 |normal=>exact k .normal a' J' l m n j d g i
 |ret=>exact k .ret a' J' l m n j d g i
 |exit o=>
  simp only[Ia]at j;simp only[eU.toExit,Exit.inBlock];split at j
  ·next e=>rw[aj e];exact k .normal a' J' l m n j d g i
  ·next e=>rw[ah e];exact k (.exit o) a' J' l m n j d g i
def Cm(P:Program)(b:Code)(a:bn)(J:aA)(Q:eU->bn->aA->Prop):Prop:=
 ∀d g H w A K,jU P d g H J w->J.lock=0->TR P H a A->(∀e a' J' h i j,Q e a' J'->jU P d g h J' j->J'.lock=0->TR P h a' i->K e.toExit i j)->Au P b K A w
def Cm.at(h:Cm P b a J Q):AT P (.loop b) a J Q:=
 λd e H w A K g i j k=>(h d e H w A K g i j k).loop
def ZR(P:Program)(b:Code)(Q:eU->bn->aA->Prop):eU->bn->aA->Prop
 |.normal,a,J=>Cm P b a J Q
 |e,a,J=>Q e a J
def Cm.step(h:AT P b a J (ZR P b Q)):Cm P b a J Q:=by
 intro o p H w A K q s t j;refine Au.step ?_;refine h o p H w A _ q s t ?_;intro e a' J' k l m n d g i;cases e with
 |normal=>exact n o p k m l K d g i j
 |exit id=>exact j _ a' J' k l m n d g i
 |ret=>exact j _ a' J' k l m n d g i
def AT.run{run:Code->bn->aA->Option (eU×bn×aA)}(k:NR P run){e:eU}(h:run c a J=some (e,a',J'))(l:Q e a' J'):AT P c a J Q:=by intro s t H w A K i j m n;refine k c a J e a' J' h H w A K i.rel m ?_;intro o p q d g;exact n e a' J' o p q l (i.step j d) (d.lock.trans j) g
end
inductive AC where
 |plain (c:Code)
 |seq (x y:AC)
 |cond (o:Operand) (y z:AC)
 |block (id:Nat) (b:AC)
 |loop (k:Nat) (b:Code)
 |peel (x:AC) (k:Nat) (b:Code)
def AC.erase:AC->Code
 |.plain c=>c
 |.seq x y=>.seq x.erase y.erase
 |.cond o y z=>.cond o y.erase z.erase
 |.block id b=>.block id b.erase
 |.loop _ b=>.loop b
 |.peel _ _ b=>.loop b
def AC.Good:AC->Prop
 |.plain _=>True
 |.seq x y=>x.Good/\y.Good
 |.cond _ y z=>y.Good/\z.Good
 |.block _ b=>b.Good
 |.loop _ _=>True
 |.peel x _ b=>x.erase=b/\x.Good
def lH(ps:Q2):Code->Nat->AC×Nat
 |.seq x y,n=>match lH ps x n with
  |(a,d)=>match lH ps y d with
   |(b,e)=>(.seq a b,e)
 |.cond o y z,n=>match lH ps y n with
  |(a,d)=>match lH ps z d with
   |(b,e)=>(.cond o a b,e)
 |.block id b,n=>match lH ps b n with
  |(a,d)=>(.block id a,d)
 |.loop b,n=>if ps.contains (2*n+1)then(.plain (.loop b),n+1)else match lH ps b (n+1)with
  |(x,d)=>if ps.contains (2*n)then(.peel x n b,d)else(.loop n b,n+1)
 |c,n=>(.plain c,n)
def lX(ps:Q2)(c:Code):AC:=(lH ps c 0).1
def yH(ps:Q2):∀(c:Code)(n:Nat),(lH ps c n).1.erase=c/\(lH ps c n).1.Good
 |.seq x y,n=>by have h1:=yH ps x n;have d:=yH ps y (lH ps x n).2;simp only[lH,AC.erase,AC.Good];exact⟨by rw[h1.1,d.1],h1.2,d.2⟩
 |.cond o y z,n=>by have h1:=yH ps y n;have d:=yH ps z (lH ps y n).2;simp only[lH,AC.erase,AC.Good];exact⟨by rw[h1.1,d.1],h1.2,d.2⟩
 |.block id b,n=>by have h1:=yH ps b n;simp only[lH,AC.erase,AC.Good];exact⟨by rw[h1.1],h1.2⟩
 |.loop b,n=>by
  have h1:=yH ps b (n+1);simp only[lH];split
  ·exact⟨rfl,trivial⟩
  ·split
   ·exact⟨rfl,h1.1,h1.2⟩
   ·exact⟨rfl,trivial⟩
 |.skip,_|.region _ _ _,_|.rangeFunc _ _ _ _,_|.exit _,_|.scope _,_|.label _,_|.goto _,_|.ret,_|.refuse _,_=>⟨rfl,trivial⟩
def AC.oI(k:Nat)(b:Code):AC->Prop
 |.plain _=>False
 |.seq x y=>x.oI k b\/y.oI k b
 |.cond _ y z=>y.oI k b\/z.oI k b
 |.block _ x=>x.oI k b
 |.loop d e=>d=k/\e=b
 |.peel x d e=>(d=k/\e=b)\/x.oI k b
abbrev Xa:=Nat->bn->aA->Option (eU×bn×aA)
def vZ[gY](d:Xa)(run:Code->bn->aA->Option (eU×bn×aA)):AC->bn->aA->Option (eU×bn×aA)
 |.plain c,a,J=>run c a J
 |.seq x y,a,J=>match vZ d run x a J with
  |some (.normal,a',J')=>vZ d run y a' J'
  |r=>r
 |.cond o y z,a,J=>match dB (a.eval o)with
  |some (.b t)=>if t then vZ d run y a J else vZ d run z a J
  |_=>none
 |.block id b,a,J=>match vZ d run b a J with
  |some (.exit e,a',J')=>if e=id then some (.normal,a',J')else some (.exit e,a',J')
  |r=>r
 |.loop k _,a,J=>d k a J
 |.peel x k _,a,J=>match vZ d run x a J with
  |some (.normal,a',J')=>d k a' J'
  |r=>r
def Xu[aI]{L:Xa}{run:Code->bn->aA->Option (eU×bn×aA)}(M:NR P run):∀(n:AC),n.Good->(∀k b,n.oI k b->∀a J e a' J',L k a J=some (e,a',J')->∀Q:eU->bn->aA->Prop,Q e a' J'->Cm P b a J Q)->
 ∀(a:bn)(J:aA)(e:eU)(a':bn)(J':aA),vZ L run n a J=some (e,a',J')->∀Q:eU->bn->aA->Prop,Q e a' J'->AT P n.erase a J Q:=by
 intro n;induction n with
 |plain c=>intro i j a J e a' J' h Q d;exact AT.run M h d
 |loop k b=>intro i j a J e a' J' h Q d;exact(j k b ⟨rfl,rfl⟩ a J e a' J' h Q d).at
 |peel x k b p=>
  intro i j a J e a' J' h Q d;simp only[vZ]at h;refine Cm.at (Cm.step ?_);obtain⟨rfl,i⟩:=i;split at h
  ·next q s u=>
   exact p i (λB D g=>j B D (.inr g)) a J _ q s u (ZR P x.erase Q) (j k _ (.inl ⟨rfl,rfl⟩) q s e a' J' h Q d)
  ·next l=>
   refine p i (λB D g=>j B D (.inr g)) a J e a' J' h (ZR P x.erase Q) ?_;cases e with
   |normal=>exact absurd h (by intro v;exact l _ _ v)
   |exit id=>exact d
   |ret=>exact d
 |seq x y A m=>
  intro i j a J e a' J' h Q d;simp only[vZ]at h;split at h
  ·next q s u=>
   exact AT.seq (A i.1 (λk b g=>j k b (.inl g)) a J _ q s u (abr P y.erase Q) (m i.2 (λk b g=>j k b (.inr g)) q s e a' J' h Q d))
  ·next l=>
   refine AT.seq (A i.1 (λk b g=>j k b (.inl g)) a J e a' J' h (abr P y.erase Q) ?_);cases e with
   |normal=>exact absurd h (by intro v;exact l _ _ v)
   |exit id=>exact d
   |ret=>exact d
 |cond o y z m E=>
  intro i j a J e a' J' h Q d;simp only[vZ]at h;split at h
  ·next t N=>
   refine AT.cond N ?_;cases t with
   |true=>exact m i.1 (λk b g=>j k b (.inl g)) a J e a' J' h Q d
   |false=>exact E i.2 (λk b g=>j k b (.inr g)) a J e a' J' h Q d
  ·cases h
 |block id b p=>
  intro i j a J e a' J' h Q d;simp only[vZ]at h;split at h
  ·next F q s u=>
   split at h
   ·next I=>
    cases h;exact AT.block (p i (λk b g=>j k b g) a J _ _ _ u (Ia id Q) (by simp only[Ia];rw[aj I];exact d))
   ·next I=>
    cases h;exact AT.block (p i (λk b g=>j k b g) a J _ _ _ u (Ia id Q) (by simp only[Ia];rw[ah I];exact d))
  ·next l=>
   refine AT.block (p i (λk b g=>j k b g) a J e a' J' h (Ia id Q) ?_);cases e with
   |normal=>exact d
   |exit F=>exact absurd h (by intro v;exact l _ _ _ v)
   |ret=>exact d
def Ce:Q6->Value
 |[v]=>v
 |l=>.tuple ⟨l⟩
structure xK(tabs:Qt)(ro:Qf)(w:World):Prop where
 at':∀b o,ro b=some o->w.heap[b]? =some o
 tab:∀p∈tabs,∃cs elem fr,ro p.1=some (.cells cs elem fr)/\p.2.length<=cs.size/\Xk p.2 cs
structure Ht(ro ro':Qf)(w w':World):Prop where
 kept:Kept w w'
 le:∀b o,ro b=some o->ro' b=some o
 new:∀b,ro' b≠none->ro b≠none\/w.heap.size<=b
 at':∀b o,ro' b=some o->w'.heap[b]? =some o
def xg:W5->List Value->List Value
 |none::st,v::vs=>v::xg st vs
 |none::_,[]=>[]
 |some g::st,vs=>.func (.func g) ⟨[]⟩ ⟨[]⟩::xg st vs
 |[],vs=>vs
def wZ:W5->List AV->List AV
 |none::st,v::vs=>v::wZ st vs
 |none::_,[]=>[]
 |some g::st,vs=>.fn g [] []::wZ st vs
 |[],vs=>vs
def Cc:W5->List AV->Option Q3
 |[],l=>some l
 |none::st,a::l=>(Cc st l).map (a::·)
 |some g::st,.fn d [] []::l=>if d=g then Cc st l else none
 |_,_=>none
def akC(P:Program)(tabs:Qt)(f:FuncId)(st:W5)(gs e:Q1):Prop:=∀g w h,xK tabs g w->aP g gs h->lT P f ⟨xg st h⟩ w λv j=>∃d,Ht g d w j/\∃i,v=Ce i/\aP d e i
section
variable[aI]
def V8{H:Env}:∀{st:W5}{l r:Q3}{vs:Q6},Cc st l=some r->aF H l vs->∃d,vs=xg st d/\aF H r d
 |[],l,r,vs,h,i=>by simp only[Cc,aZ]at h;subst h;exact⟨vs,rfl,i⟩
 |none::st,[],r,vs,h,i=>by simp[Cc]at h
 |none::st,a::l,r,vs,h,i=>by simp only[Cc,bg]at h;obtain⟨u,h1,rfl⟩:=h;obtain⟨x,p,rfl,k,j⟩:=i;obtain⟨d,rfl,m⟩:=V8 h1 j;exact⟨x::d,rfl,aF.cons k m⟩
 |some g::st,[],r,vs,h,i=>by simp[Cc]at h
 |some g::st,a::l,r,vs,h,i=>by
  unfold Cc at h;split at h
  ·next e=>cases e
  ·next e _=>cases e
  ·next g0 q v A s t=>
   cases s;cases t;split at h
   ·next e=>
    subst e;obtain⟨x,p,rfl,k,j⟩:=i;obtain⟨d,rfl,m⟩:=V8 h j;simp only[VR]at k;obtain⟨B,D,rfl,n,o⟩:=k;simp only[aF]at n o;subst n;subst o;exact⟨d,rfl,m⟩
   ·cases h
  ·cases h
def Vl{H:Env}:∀{st:W5}{l:Q3}{vs:Q6},aF H l vs->aF H (wZ st l) (xg st vs)
 |[],l,vs,d=>d
 |none::st,[],vs,d=>by simp only[aF]at d;subst d;simp[wZ,xg,aF]
 |none::st,a::l,vs,d=>by obtain⟨x,xs,rfl,h,e⟩:=d;exact aF.cons h (Vl e)
 |some g::st,l,vs,d=>aF.cons (by simp only[VR];exact⟨[],[],rfl,by simp[aF],by simp[aF]⟩) (Vl d)
def SR.Vw{H:Env}{J:aA}{w:World}(h:SR P H J w):xK aI.tabs H.ro w:=⟨h.ji,h.tabs⟩
def St.av6{H:Env}{J:aA}{w w':World}{ro':Qf}(h:SR P H J w)(k:Ht H.ro ro' w w'):St P H J w ⟨H.pl,ro',H.gh⟩ J w':=by
 have d:(H:Env).le ⟨H.pl,ro',H.gh⟩:=⟨λ_ _ h=>h,k.le,λ_ h=>h⟩
 refine⟨d,⟨h.nH,h.dom,λid o m=>?_,h.jT,h.sep,k.at',λid o q j a2 l=>?_,λp n=>(h.tabs p n).mono d⟩,k.kept.size,λs g _=>k.kept.keep s g,λid o q h1 t u v=>.inr ⟨id,o,q,h1,t,u,v,rfl⟩,k.kept.os,k.kept.tape,k.kept.output,rfl,dY _,λ_ h=>.inl h,λb g=>?_⟩
 ·exact((h.live id o m).heap λq _ i=>k.kept.keep _ i.lt).mono d
 ·have i:=h.at j (show H id=some q from l);cases e:ro' q.bl with
  |none=>exact e
  |some A=>
   rcases k.new q.bl (by rw[e];simp)with h1|h1
   ·exact absurd (h.lS id o q j a2 l) h1
   ·have:=i.lt;omega
 ·rcases k.new b g with h1|h1
  ·exact .inl h1
  ·exact .inr (.inl h1)
end
@[reducible] def Tg(tabs:Qt)(gs:Q1)(ka:Nat):aI:={nodes:=[],dec:=[],ka:=ka,tabs:=tabs,I:=λ_ _=>none,val:=λn=>gs[n]?,qI:=by intro n d h;simp at h,Bg:=by intro n b h;simp at h}
def oV{α:Type}:List (Nat×α)->Tr α
 |[]=>.nil
 |(k,v)::l=>(oV l).set k (some v)
def PV{α:Type}:∀{l:List (Nat×α)}{k:Nat}{v:α},(oV l).get k=some v->(k,v)∈l
 |[],k,v,h=>by simp[oV]at h
 |(j,u)::l,k,v,h=>by
  rw[oV,Tr.wP]at h;split at h
  ·next e=>cases h;subst e;simp
  ·exact zk _ (PV h)
structure gV where
 np:Nat
 n:Nat
 gn:Nat
 next:Nat
 slots:Wf
 objs:Ys
 ka:Nat:=0
 al:List QR:=[]
abbrev Xs:=List (eU×gV)
def vF(tabs:Qt):Ys:=tabs.map λp=>(p.1,.cells p.2 0 false false)
def gV.act(s:gV):bn:=⟨oV s.slots,s.n,s.gn⟩
def gV.st(tabs:Qt)(s:gV):aA:=⟨oV (s.objs++vF tabs),s.next,0⟩
def QY(P:Program)(tabs:Qt)(s:gV)(gs:Q1)(w0:Base)(d:Qf)(A:Act)(w:World):Prop:=∃H,@jU (Tg tabs gs s.ka) P w0 d H (s.st tabs) w/\@TR (Tg tabs gs s.ka) P H s.act A
def dJ{α:Type}(k:Nat):List (Nat×α)->Option α
 |[]=>none
 |p::l=>bif Nat.beq k p.1 then some p.2 else dJ k l
def TQ{α:Type}{k:Nat}{v:α}:∀{l:List (Nat×α)},dJ k l=some v->(k,v)∈l
 |[],h=>by simp[dJ]at h
 |p::l,h=>by
  simp only[dJ]at h;cases d:Nat.beq k p.1 with
  |true=>rw[d]at h;simp only[cond_true,aZ]at h;rw[bH d,<-h];simp
  |false=>rw[d]at h;simp only[cond_false]at h;exact zk _ (TQ h)
def BR(r:W6)(i:Nat)(x:QR):Bool:=
 match dJ i r,x with
 |some (some a),some b=>Nat.beq a b
 |some none,none=>true
 |_,_=>false
section
variable[gY]
def LV(m:Nat):Bool:=match gY.nodes[m]? with
 |some (.ml [])=>true
 |_=>false
def TN(P:Program)(J:aA)(fz:Q2)(a:AV)(m:Nat):Bool:=
 match a with
 |.sv id n=>fz.contains id&&match J.get id with
  |some (.vec e _ _)=>Nat.beq e m&&vw 100 e n
  |_=>false
 |.sl id g len h=>fz.contains id&&match J.get id with
  |some (.cells c i true j)=>(match listOf P J i (.sl id g len h),sizeT P i with
   |some e,some d=>Nat.beq e m&&Nat.blt 0 d
   |_,_=>false)
  |_=>false
 |_=>false
def capEq:QR->Option Nat->Bool
 |none,none=>true
 |some a,some b=>Nat.beq a b
 |_,_=>false
mutual
def mV(P:Program)(G:Nat)(J:aA)(fz:Q2)(r:W6)(ps:Q2):AV->AV->Bool
 |.nd j,a=>match ps[j]? with
  |some m=>(match iU a with
   |some h=>Nat.beq m h
   |none=>false) ||TN P J fz a m
  |none=>false
 |.sv i j,a=>match ps[j]? with
  |some m=>match a with
   |.sv id n=>Nat.blt G i&&BR r i (some id)&&vw 100 m n
   |.gu=>Nat.blt G i&&BR r i none&&LV m
   |_=>false
  |none=>false
 |.p i off,a=>match a with
  |.p id d=>Nat.beq off d&&(if i<=G then Nat.beq i id else BR r i (some id))
  |_=>false
 |.rx j off,a=>match a with
  |.rx m d=>Nat.beq off d&&(match ps[j]? with|some h=>Nat.beq m h|none=>false)
  |_=>false
 |.fn f fi cs,a=>match a with
  |.fn s o p=>Nat.beq f s&&BJ P G J fz r ps fi o&&BJ P G J fz r ps cs p
  |_=>false
 |.agg l,a=>match a with
  |.agg q=>BJ P G J fz r ps l q
  |_=>false
 |.eG l,a=>match a with
  |.eG q=>BJ P G J fz r ps l q
  |_=>false
 |.jc t x,a=>match a with
  |.jc u v=>Nat.beq t u&&mV P G J fz r ps x v
  |_=>false
 |.b x,a=>match a with|.b y=>(bif x then y else !y)|_=>false
 |.i k n,a=>match a with|.i A B=>Nat.beq (kc k) (kc A)&&IZ n B|_=>false
 |.s x,a=>match a with|.s y=>Bc x y|_=>false
 |.jD,a=>match a with|.jD=>true|_=>false
 |.gu,a=>match a with|.gu=>true|_=>false
 |.yR,a=>match a with|.yR=>true|_=>false
 |.sH,a=>match a with|.sH=>true|_=>false
 |.oU,a=>match a with|.oU=>true|_=>false
 |.mp i,a=>match a with
  |.mp id=>Nat.blt G i&&BR r i (some id)
  |_=>false
 |.sl i off len cap,a=>match a with
  |.sl id d e g=>Nat.blt G i&&BR r i (some id)&&(Nat.beq off d&&(Nat.beq len e&&capEq cap g))
  |_=>false
 |_,_=>false
def BJ(P:Program)(G:Nat)(J:aA)(fz:Q2)(r:W6)(ps:Q2):Q3->List AV->Bool
 |[],l=>match l with|[]=>true|_=>false
 |a::l,m=>match m with
  |b::d=>mV P G J fz r ps a b&&BJ P G J fz r ps l d
  |[]=>false
end
def mO(P:Program)(G:Nat)(J:aA)(fz:Q2)(r:W6)(ps:Q2)(i:Nat)(o:bC):Bool:=
 match dJ i r with
 |some (some id)=>!(fz.contains id)&&match o with
  |.cells l e q g=>match J.get id with
   |some (.cells c h d p)=>Nat.beq e h&&(bif q then d else !d)&&(bif g then p else !p)&&BJ P G J fz r ps l c
   |_=>false
  |.vec j e f=>match J.get id with
   |some (.vec m h s)=>Nat.beq e h&&(!f ||s)&&(match ps[j]? with|some k=>Nat.beq m k|none=>false)
   |_=>false
  |.smap j t u=>match J.get id with
   |some (.smap m v n)=>LK t v&&Qq u n&&(match ps[j]? with|some k=>Nat.beq m k|none=>false)
   |some (.map [])=>(match ps[j]? with|some m=>LV m|none=>false)
   |_=>false
  |.map []=>(match J.get id with
   |some (.map [])=>true
   |_=>false)
  |_=>false
 |some none=>match o with
  |.vec j _ _=>(match ps[j]? with|some m=>LV m|none=>false)
  |_=>false
 |none=>false
def UR(P:Program)(G:Nat)(J:aA)(fz:Q2)(r:W6)(ps:Q2)(t:Tr AV):Wf->Bool
 |[]=>true
 |p::l=>(match t.get p.1 with|some v=>mV P G J fz r ps p.2 v|none=>false)&&UR P G J fz r ps t l
def LP(P:Program)(G next:Nat)(J:aA)(fz:Q2)(r:W6)(ps:Q2):Ys->Bool
 |[]=>true
 |p::l=>Nat.blt G p.1&&Nat.blt p.1 next&&mO P G J fz r ps p.1 p.2&&LP P G next J fz r ps l
def NW(r:W6):Nat->Nat->Bool
 |_,0=>true
 |i,n+1=>BR r (i+1) (some (i+1))&&NW r (i+1) n
def Jt:W6->Bool
 |[]=>true
 |p::l=>(match p.2 with
  |some a=>l.all λq=>match q.2 with|some b=>!(Nat.beq a b)|none=>true
  |none=>true)&&Jt l
def ZU(P:Program)(s:gV)(a:bn)(J:aA)(fz:Q2)(r:W6)(ps:Q2):Bool:=
 Nat.beq s.ka gY.ka&&Nat.blt (s.gn+s.ka) s.next&&NW r s.gn s.ka&&Nat.beq s.n a.n&&Nat.beq s.gn a.gn&&Nat.blt s.gn s.next&&Jt r&&UR P s.gn J fz r ps a.t s.slots&&LP P s.gn s.next J fz r ps s.objs
end
def kills(J:aA):Q2->aA
 |[]=>J
 |id::l=>(kills J l).kill id
def DN{J:aA}{k:Nat}:∀{l:Q2},(kills J l).get k=if k∈l then none else J.get k
 |[]=>by simp[kills]
 |id::l=>by
  rw[kills,aA.yL,DN];by_cases h:k=id
  ·simp[h]
  ·simp[h]
def LJ{J:aA}:∀l:Q2,(kills J l).lock=J.lock
 |[]=>rfl
 |_::l=>LJ l
def Zv{J:aA}:∀l:Q2,(kills J l).next=J.next
 |[]=>rfl
 |_::l=>Zv l
section
variable[aI]
def TM{w0:Base}{F:Qf}{H:Env}{J:aA}{w:World}(I:jU P w0 F H J w)(A:J.lock=0):∀fz:Q2,∃dA,(∀b o,H.ro b=some o->dA b=some o)/\jU P w0 F ⟨H.pl,dA,H.gh⟩ (kills J fz) w/\
 (∀id∈fz,∀o q,J.get id=some o->o.own=true->H id=some q->dA q.bl=w.heap[q.bl]?)
 |[]=>⟨H.ro,λ_ _ h=>h,I,by simp⟩
 |id::fz=>by
  obtain⟨dA,h1,l,B⟩:=TM I A fz;by_cases L:∃o q,(kills J fz).get id=some o/\o.own=true/\H id=some q
  ·obtain⟨o,q,O,p,M⟩:=L;have D:=St.freeze l.rel O p (by rw[LJ,A];exact vT _) (show(⟨H.pl,dA,H.gh⟩:Env) id=some q from M);have E:=l.step (by rw[LJ,A]) D;refine⟨Gu dA w q.bl,λb o U=>Vt l.rel.ji q.bl b o (h1 b o U),E,?_⟩;intro i m s n j d g;show(if n.bl=q.bl then w.heap[q.bl]? else dA n.bl)=_
   split
   ·next e=>rw[e]
   ·next e=>
    rcases bD.1 m with rfl|m
    ·rw[M]at g;cases g;exact absurd rfl e
    ·exact B i m s n j d g
  ·refine⟨dA,h1,⟨l.rel.sub (λk u t=>?_) (dY _),l.kept,λk u q v a2 V=>?_,l.uz,l.qK,l.qQ⟩,?_⟩
   ·rw[kills,aA.yL]at t;split at t;cases t;exact t
   ·rw[kills,aA.yL]at v;split at v;cases v;exact l.own k u q v a2 V
   ·intro i m s n j d g;rcases bD.1 m with rfl|m
    ·by_cases N:i∈fz
     ·exact B i N s n j d g
     ·exact absurd ⟨s,n,by rw[DN,ah N];exact j,d,g⟩ L
    ·exact B i m s n j d g
end
def GY{val:W8}:∀{ps:Q2}{gs:Q1},valsOf val ps=some gs->∀{j m:Nat},ps[j]? =some m->gs[j]? =val m/\∃g,val m=some g
 |[],gs,h,j,m,d=>by simp at d
 |p::ps,gs,h,j,m,d=>by
  simp only[valsOf]at h;split at h
  ·next g r h1 e=>
   cases h;cases j with
   |zero=>simp at d;subst d;exact⟨by simp[h1],g,h1⟩
   |succ j=>simpa using GY e (j:=j) (by simpa using d)
  ·cases h
def Qb{r:W6}{i id:Nat}(h:BR r i (some id)=true):dJ i r=some (some id):=by
 unfold BR at h;split at h
 ·next a b e d=>cases d;rw[e,bH h]
 ·next e d=>cases d
 ·cases h
def axV{r:W6}{i:Nat}(h:BR r i none=true):dJ i r=some none:=by
 unfold BR at h;split at h
 ·next a b d e=>cases e
 ·next d e=>exact d
 ·cases h
def Ap(tabs:Qt)(i:Nat):Nat:=match dJ i tabs with
 |some c=>c.length
 |none=>0
def sF(tabs:Qt)(G next:Nat)(r:W6)(H:Env)(dA:Qf):Env where
 pl:=λi=>if i<=G then some ⟨i,0,Ap tabs i,0⟩else if i<next then match dJ i r with
  |some (some id)=>H id
  |_=>none
  else none
 ro:=dA
 gh:=λi=>decide (G<i)&&decide (i<next)&&match dJ i r with
  |some (some id)=>H.gh id
  |some none=>true
  |none=>false
structure vN(T:aI)(P:Program)(tabs:Qt)(G next:Nat)(H:Env)(J:aA)(w:World)(fz:Q2)(r:W6)(ps:Q2)(gs:Q1)(dA:Qf):Prop where
 rel:@SR T P H J w
 vals:valsOf T.val ps=some gs
 uz:∀b o,H.ro b=some o->dA b=some o
 uT:∀id∈fz,∀o q,J.get id=some o->o.own=true->H id=some q->dA q.bl=w.heap[q.bl]?
 gn:G=P.globals.size
 lt:G<next
variable{T:aI}{ka:Nat}{tabs:Qt}{G next:Nat}{H:Env}{J:aA}{w:World}{fz:Q2}{r:W6}{ps:Q2}{gs:Q1}{dA:Qf}
def FQ{i id:Nat}(g:G<i)(d:i<next)(e:dJ i r=some (some id)):(sF tabs G next r H dA) i=H id:=by
 show(if i<=G then some (⟨i,0,Ap tabs i,0⟩:Place)else if i<next then _ else none)=_
 rw[ah (by omega),aj d,e]
def UQ{i:Nat}(d:i<=G):(sF tabs G next r H dA) i=some ⟨i,0,Ap tabs i,0⟩:=by
 show(if i<=G then some (⟨i,0,Ap tabs i,0⟩:Place)else _)=_
 rw[aj d]
def agI{i id:Nat}(d:G<i)(e:i<next)(g:dJ i r=some (some id)):(sF tabs G next r H dA).gh i=H.gh id:=by
 show(decide (G<i)&&decide (i<next)&&_)=_
 rw[g];simp[d,e]
def agJ{i:Nat}(d:G<i)(e:i<next)(g:dJ i r=some none):(sF tabs G next r H dA).gh i=true:=by
 show(decide (G<i)&&decide (i<next)&&_)=_
 rw[g];simp[d,e]
def afc(C:vN T P tabs G next H J w fz r ps gs dA){a:AV}{m:Nat}{v:Value}(h:@TN T.togY P J fz a m=true)(I:@VR T H a v){g:GV}(X:T.val m=some g):g.scalar=true/\GR dA g v:=by
 letI:=T
 unfold TN at h;split at h
 ·next id n=>
  rw[aK]at h;obtain⟨h1,h⟩:=h;have t:id∈fz:=by simpa using h1
  split at h
  ·next V et f o=>
   rw[aK]at h;have e:=bH h.1;subst e;simp only[VR]at I;obtain⟨ys,W,I⟩:=I;rcases I with⟨q,j,u,rfl⟩|⟨Y,rfl,rfl⟩
   ·have A:=C.rel.at o j;obtain⟨Z,x1,x2,x3,x4,x5,x6,x7,x8⟩:=A.LW;have L:T.val V=some (.l Z):=x1;rw[X]at L;cases L;have p:=yU 100 h.2 x1 W;refine⟨rfl,?_⟩;have aa:=Ip x2;have:=GR.aae (ro':=dA) (off:=0) (n:=ys.length) (size:=q.es) (cap:=q.sz/q.es) (cs:=bM Z) (gs:=Z) x8 C.uz (C.uT id t _ q o rfl j) (by unfold takeN;rw[bK,<-p,lW (by omega),aj aa]) p u x4 (λx hx=>⟨x2 x hx,x7 x hx⟩) (λH' vs D l=>by unfold bM at l⊢;exact(oH _ _).1 (aP.mono D _ _ ((oH _ _).2 l)))
    simpa using this
   ·rcases C.rel.live id _ o with⟨q,j,_⟩|⟨_,n2,Yq,f2,e2,ab⟩
    ·rw[(C.rel.jT id Y).1]at j;cases j
    ·cases e2;have Ul:T.val V=some (.l []):=ab;rw[X]at Ul;cases Ul;exact⟨rfl,by simp[GR]⟩
  ·cases h
 ·next id k len B=>
  rw[aK]at h;obtain⟨h1,h⟩:=h;have t:id∈fz:=by simpa using h1
  split at h
  ·next c et ai o=>
   split at h
   ·next V d i ac=>
    rw[aK]at h;have e:=bH h.1;subst e;have h0:0<d:=by have:=h.2;rwa [jm]at this
    simp only[VR]at I;obtain⟨q,j,u,rfl⟩:=I;unfold listOf at i;simp only[o,ac]at i;split at i
    ·next c' IC ak PX ad ae e1 e2 ha=>
     cases e1;cases e2;split at i
     ·next hc=>
      rw[aK,mY,aK]at hc;split at i
      ·next cs E=>
       split at i
       ·next ns M=>
        have s:ae=false->d=1:=by
         intro e;subst e;rcases hc.2 with h1|h1
         ·simp at h1
         ·exact bH h1
        obtain⟨g',g1,g2⟩:=gQ i;have N:T.val V=some g':=g1;rw[X]at N;cases N;have A:=C.rel.at o j;obtain⟨ws,ag,fr,hb,rr⟩:=A;have O:=(ru E).2.1;have af:=rr.y7 E;obtain⟨gl,W,k2,k3,k4,F⟩:=E8 (H:=H) s len M af O;simp only[Nd.den,W,gB,aZ]at g2;subst g2;refine⟨rfl,?_⟩;have:=GR.aae (ro':=dA) (off:=k) (n:=len) (size:=d) (cap:=B.getD ((q.sz-k)/q.es)) (cs:=cs) (gs:=gl) (C.rel.at o j) C.uz (C.uT id t _ q o rfl j) E k2 u h0 F (λH' vs D l=>by obtain⟨al,U,am,Ur,_⟩:=E8 (H:=H) s len M l O;rw[W]at U;cases U;unfold bM at Ur⊢;exact(oH _ _).1 (aP.mono D _ _ ((oH _ _).2 Ur)))
        exact this
       ·cases i
      ·cases i
     ·cases i
    ·cases i
   ·cases h
  ·cases h
 ·cases h
def alB:∀{a b:QR},capEq a b=true->a=b
 |none,none,_=>rfl
 |some _,some _,h=>tX some (bH h)
 |none,some _,h=>by cases h
 |some _,none,h=>by cases h
mutual
def ZV(C:vN T P tabs G next H J w fz r ps gs dA):∀(p a:AV)(v:Value),p.under next=true->@mV T.togY P G J fz r ps p a=true->@VR T H a v->@VR (Tg tabs gs ka) (sF tabs G next r H dA) p v
 |.nd j,a,v,o,h,d=>by
  letI:=T
  simp only[mV]at h;split at h
  ·next m W=>
   obtain⟨E,g,u⟩:=GY C.vals W;simp only[VR];refine⟨g,by show gs[j]? =_;rw[E,u],?_⟩;rw[mY]at h;rcases h with h|h
   ·split at h
    ·next m' aa=>
     have e:=bH h;subst e;obtain⟨Z,s,I,k3⟩:=mD aa d;have A:T.val m=some Z:=s;rw[u]at A;cases A;exact⟨I,GR.mono C.uz _ _ k3⟩
    ·cases h
   ·exact afc C h d u
  ·cases h
 |.sv i j,a,v,o,h,d=>by
  letI:=T
  simp only[AV.under,jm]at o;simp only[mV]at h;split at h
  ·next m W=>
   obtain⟨E,g,u⟩:=GY C.vals W;split at h
   ·next id n=>
    rw[aK,aK,jm]at h;obtain⟨⟨L,U⟩,F⟩:=h;have hr:=Qb U;simp only[VR]at d⊢;obtain⟨xs,s,d⟩:=d;have hx:∃V,g=.l V/\V.length=xs.length:=by obtain⟨V,rfl⟩:=aA8 100 F u s;exact⟨V,rfl,yU 100 F u s⟩
    obtain⟨V,rfl,B⟩:=hx;refine⟨V,by show gs[j]? =_;rw[E,u],?_⟩;rcases d with⟨q,M,D,rfl⟩|⟨ab,rfl,rfl⟩
    ·exact .inl ⟨q,by rw[FQ L o hr];exact M,by rw[B];exact D,by rw[B]⟩
    ·exact .inr ⟨by rw[agI L o hr];exact ab,jl (by simpa using B),rfl⟩
   ·rw[aK,aK,jm]at h;obtain⟨⟨L,U⟩,F⟩:=h;have hr:=axV U;simp only[VR]at d⊢;unfold LV at F;split at F
    ·next hn=>
     obtain⟨Z,s,I⟩:=T.qI m _ hn (by simp);rw[u]at s;cases s;simp only[Nd.den,valsOf,gB,aZ]at I;subst I;exact⟨[],by show gs[j]? =_;rw[E,u],.inr ⟨agJ L o hr,rfl,d⟩⟩
    ·cases F
   ·cases h
  ·cases h
 |.p i X,a,v,o,h,d=>by
  letI:=T
  simp only[AV.under,jm]at o;simp only[mV]at h;split at h
  ·next id N=>
   rw[aK]at h;have e:=bH h.1;subst e;simp only[VR]at d⊢;obtain⟨q,M,rfl⟩:=d;split at h
   ·next D=>
    have e:=bH h.2;subst e;obtain⟨sz,es,hg⟩:=C.rel.nH i (by rw[<-C.gn];exact D);rw[M]at hg;cases hg;exact⟨_,UQ D,rfl⟩
   ·next D=>exact⟨q,by rw[FQ (by omega) o (Qb h.2)];exact M,rfl⟩
  ·cases h
 |.rx j X,a,v,o,h,d=>by
  letI:=T
  simp only[mV]at h;split at h
  ·next m N=>
   rw[aK]at h;have e:=bH h.1;subst e;split at h
   ·next m' W=>
    have e:=bH h.2;subst e;obtain⟨E,g,u⟩:=GY C.vals W;simp only[VR]at d⊢;obtain⟨Z,bl,base,cs,Y,fr,x,s,I,k3,k4,k5⟩:=d;have A:T.val m=some Z:=s;rw[u]at A;cases A;exact⟨g,bl,base,cs,Y,fr,x,by show gs[j]? =_;rw[E,u],C.uz _ _ I,GR.mono C.uz _ _ k3,k4,k5⟩
   ·simp at h
  ·cases h
 |.fn f fi cs,a,v,o,h,d=>by
  letI:=T
  simp only[AV.under,aK]at o;simp only[mV]at h;split at h
  ·next f' ac ad=>
   rw[aK,aK]at h;obtain⟨⟨L,U⟩,F⟩:=h;have e:=bH L;subst e;simp only[VR]at d⊢;obtain⟨us,O,rfl,s,I⟩:=d;exact⟨us,O,rfl,FT C fi ac us o.1 U s,FT C cs ad O o.2 F I⟩
  ·cases h
 |.agg l,a,v,o,h,d=>by
  letI:=T
  simp only[AV.under]at o;simp only[mV]at h;split at h
  ·next l'=>simp only[VR]at d⊢;obtain⟨O,rfl,s⟩:=d;exact⟨O,rfl,FT C l l' O o h s⟩
  ·cases h
 |.eG l,a,v,o,h,d=>by
  letI:=T
  simp only[AV.under]at o;simp only[mV]at h;split at h
  ·next l'=>simp only[VR]at d⊢;obtain⟨O,rfl,s⟩:=d;exact⟨O,rfl,FT C l l' O o h s⟩
  ·cases h
 |.jc t x,a,v,o,h,d=>by
  letI:=T
  simp only[AV.under]at o;simp only[mV]at h;split at h
  ·next t' x'=>
   rw[aK]at h;have e:=bH h.1;subst e;simp only[VR]at d⊢;obtain⟨y,rfl,s⟩:=d;exact⟨y,rfl,ZV C x x' y o h.2 s⟩
  ·cases h
 |.b x,a,v,o,h,d=>by
  letI:=T
  simp only[mV]at h;split at h
  ·next y=>have:=RI.1 h;subst this;simp only[VR]at d⊢;exact d
  ·cases h
 |.i k n,a,v,o,h,d=>by
  letI:=T
  simp only[mV]at h;split at h
  ·next k' n'=>
   rw[aK]at h;have E:=Ut h.1;have u:=afN h.2;subst E;subst u;simp only[VR]at d⊢;exact d
  ·cases h
 |.s x,a,v,o,h,d=>by
  letI:=T
  simp only[mV]at h;split at h
  ·next y=>have:=XK h;subst this;simp only[VR]at d⊢;exact d
  ·cases h
 |.jD,a,v,o,h,d=>by letI:=T;simp only[mV]at h;split at h;(simp only[VR]at d⊢;exact d);cases h
 |.gu,a,v,o,h,d=>by letI:=T;simp only[mV]at h;split at h;(simp only[VR]at d⊢;exact d);cases h
 |.yR,a,v,o,h,d=>by letI:=T;simp only[mV]at h;split at h;(simp only[VR]at d⊢;exact d);cases h
 |.sH,a,v,o,h,d=>by letI:=T;simp only[mV]at h;split at h;(simp only[VR]at d⊢;exact d);cases h
 |.oU,a,v,o,h,d=>by letI:=T;simp only[mV]at h;split at h;(simp only[VR]at d⊢;exact d);cases h
 |.sl i X len ag,a,v,o,h,d=>by
  letI:=T
  simp only[AV.under,jm]at o;simp only[mV]at h;split at h
  ·next id N ae af=>
   simp only[aK,jm]at h;obtain⟨⟨L,U⟩,F,h4,h5⟩:=h;have E:=bH F;have u:=bH h4;have e3:=alB h5;subst E;subst u;subst e3;simp only[VR]at d⊢;obtain⟨q,M,s,rfl⟩:=d;exact⟨q,by rw[FQ L o (Qb U)];exact M,s,rfl⟩
  ·cases h
 |.mp i,a,v,o,h,d=>by
  letI:=T
  simp only[AV.under,jm]at o;simp only[mV]at h;split at h
  ·next id=>
   rw[aK,jm]at h;simp only[VR]at d⊢;obtain⟨q,M,rfl⟩:=d;exact⟨q,by rw[FQ h.1 o (Qb h.2)];exact M,rfl⟩
  ·cases h
 |.z _ _ _,_,_,_,h,_=>by simp[mV]at h
 |.ro _,_,_,_,h,_=>by simp[mV]at h
 |.rp _ _,_,_,_,h,_=>by simp[mV]at h
 |.pv _ _ _,_,_,_,h,_=>by simp[mV]at h
 |.pd _ _,_,_,_,h,_=>by simp[mV]at h
def FT(C:vN T P tabs G next H J w fz r ps gs dA):∀(p a:Q3)(v:Q6),AV.oZ next p=true->@BJ T.togY P G J fz r ps p a=true->@aF T H a v->@aF (Tg tabs gs ka) (sF tabs G next r H dA) p v
 |[],a,v,e,h,d=>by
  letI:=T
  simp only[BJ]at h;split at h
  ·simp only[aF]at d⊢;exact d
  ·cases h
 |p::l,a,v,e,h,d=>by
  letI:=T
  simp only[AV.oZ,aK]at e;simp only[BJ]at h;split at h
  ·next b i=>
   rw[aK]at h;simp only[aF]at d⊢;obtain⟨x,g,rfl,j,k⟩:=d;exact⟨x,g,rfl,ZV C p b x e.1 h.1 j,FT C l i g e.2 h.2 k⟩
  ·cases h
end
def agL{t:Tr AV}[gY]:∀{l:Wf},UR P G J fz r ps t l=true->∀k p,(k,p)∈l->∃v,t.get k=some v/\mV P G J fz r ps p v=true
 |[],_,k,p,hk=>by simp at hk
 |q::l,h,k,p,hk=>by
  simp only[UR,aK]at h;rcases bD.1 hk with e|hk
  ·subst e;have h1:=h.1;split at h1
   ·next v d=>exact⟨v,d,h1⟩
   ·cases h1
  ·exact agL h.2 k p hk
def agK[gY]:∀{l:Ys},LP P G next J fz r ps l=true->∀i o,(i,o)∈l->G<i/\i<next/\mO P G J fz r ps i o=true
 |[],_,i,o,hk=>by simp at hk
 |q::l,h,i,o,hk=>by
  simp only[LP,aK,jm]at h;rcases bD.1 hk with e|hk
  ·subst e;exact⟨h.1.1.1,h.1.1.2,h.1.2⟩
  ·exact agK h.2 i o hk
def aa5:∀{r:W6},Jt r=true->∀i j a,dJ i r=some (some a)->dJ j r=some (some a)->i=j
 |[],_,i,j,a,h1,_=>by simp[dJ]at h1
 |p::l,h,i,j,a,h1,d=>by
  simp only[Jt,aK]at h;simp only[dJ]at h1 d;cases e:Nat.beq i p.1<;>cases g:Nat.beq j p.1<;>rw[e]at h1<;>rw[g]at d<;>simp only[cond_true,cond_false,aZ]at h1 d
  ·exact aa5 h.2 i j a h1 d
  ·have m:=TQ h1;have k:=h.1;rw[d]at k;have:=List.all_eq_true.1 k _ m;simp at this
  ·have m:=TQ d;have k:=h.1;rw[h1]at k;have:=List.all_eq_true.1 k _ m;simp at this
  ·rw[bH e,bH g]
def au3(C:vN T P tabs G next H J w fz r ps gs dA){i:Nat}{o:bC}(hG:G<i)(hn:i<next)(hb:A8 next o=true)(h:@mO T.togY P G J fz r ps i o=true):
 @Live (Tg tabs gs ka) P (sF tabs G next r H dA) w i o/\(∀id,dJ i r=some (some id)->id∉fz/\∃o',J.get id=some o'/\o'.own=o.own):=by
 letI:=T
 unfold mO at h;split at h
 ·next id B=>
  rw[aK]at h;obtain⟨h1,h⟩:=h;have u:id∉fz:=by intro D;rw[acz.2 D]at h1;simp at h1
  have v:(sF tabs G next r H dA) i=H id:=FQ hG hn B;split at h
  ·next l Y uD ae=>
   split at h
   ·next c IC am PX p=>
    rw[aK,aK,aK]at h;obtain⟨⟨⟨h2,Z⟩,E⟩,h5⟩:=h;have s:=bH h2;have A:=RI.1 Z;have e3:=RI.1 E;subst s;subst A;subst e3;refine⟨?_,λF t=>by rw[B]at t;cases t;exact⟨u,_,p,rfl⟩⟩;obtain⟨q,I,cs,n,fr,af,L⟩:=C.rel.obj _ _ p rfl;refine .inl ⟨q,by rw[v];exact I,cs,n,fr,af,?_⟩;have aa:@aF T H c ((cs.toList.drop q.ba).take c.length):=by have al:=L.fits;have an:=L.le;refine aF.of (by simp;omega) λk a M=>?_;obtain⟨x,hx,hv⟩:=L.cell k a M;have ab:=(fB.1 M).1;exact⟨x,by rw[mG,aj ab,rF];simpa using hx,hv⟩
    have ac:=FT (ka:=ka) C l c _ hb h5 aa;have U:l.length=c.length:=by have h6:=@aF.length (Tg tabs gs ka) _ _ _ ac;have h7:=aa.length;omega
    exact @rE.mk (Tg tabs gs ka) P (sF tabs G next r H dA) q l Y uD ae cs n fr L.fits (by rw[U];exact L.le) (λe=>by rw[U];exact L.shut e) (λk a M=>by obtain⟨x,hx,hv⟩:=@aF.at (Tg tabs gs ka) _ _ _ ac k a M;have ab:=(fB.1 M).1;rw[mG,aj (by omega),rF]at hx;exact⟨x,by simpa using hx,hv⟩) L.free L.whole L.room
   ·cases h
  ·next j Y f=>
   split at h
   ·next m IC f' p=>
    rw[aK,aK]at h;obtain⟨⟨h2,Z⟩,E⟩:=h;have s:=bH h2;subst s;refine⟨?_,λF t=>by rw[B]at t;cases t;exact⟨u,_,p,rfl⟩⟩;split at E
    ·next m' D=>
     have e:=bH E;subst e;obtain⟨s,g,A⟩:=GY C.vals D;rcases C.rel.live id _ p with⟨q,I,ag⟩|⟨ai,n2,Yq,f2,e3,ak⟩
     ·obtain⟨xs,cs,n,fr,ys,N,O,k3,k4,k5,k6,k7,k8,k9⟩:=ag;have V:T.val m=some (.l xs):=N;refine .inl ⟨q,by rw[v];exact I,xs,cs,n,fr,ys,by show gs[j]? =_;rw[s,V],O,aP.mono C.uz _ _ k3,k4,k5,k6,@rE.mk (Tg tabs gs ka) P (sF tabs G next r H dA) q [] Y true true cs n fr k7.fits k7.le k7.shut (λk a M=>by simp at M) k7.free k7.whole k7.room,k8,λe=>k9 ?_⟩;rw[e]at Z;simpa using Z
     ·cases e3;have Ul:T.val m=some (.l []):=ak;exact .inr ⟨by rw[agI hG hn B];exact ai,j,Y,f,rfl,by show gs[j]? =_;rw[s,Ul]⟩
    ·simp at E
   ·cases h
  ·next j kk sz=>
   split at h
   ·next m DR ao p=>
    rw[aK,aK]at h;obtain⟨⟨h2,Z⟩,E⟩:=h;have s:=UA h2;have A:=abN Z;subst s;subst A;refine⟨?_,λF t=>by rw[B]at t;cases t;exact⟨u,_,p,rfl⟩⟩;split at E
    ·next m' D=>
     have e:=bH E;subst e;obtain⟨s,g,A⟩:=GY C.vals D;obtain⟨q,I,xs,ms,d,N,O,k3⟩:=C.rel.obj _ _ p rfl;have V:T.val m=some (.l xs):=N;exact .inl ⟨q,by rw[v];exact I,xs,ms,d,by show gs[j]? =_;rw[s,V],O,k3.mono C.uz⟩
    ·simp at E
   ·next p=>
    refine⟨?_,λF t=>by rw[B]at t;cases t;exact⟨u,_,p,rfl⟩⟩;split at h
    ·next m D=>
     obtain⟨s,g,A⟩:=GY C.vals D;unfold LV at h;split at h
     ·next W=>
      obtain⟨g',N,O⟩:=T.qI m _ W (by simp);rw[A]at N;cases N;simp only[Nd.den,valsOf,gB,aZ]at O;subst O;obtain⟨q,I,ms,d,hb,X,_⟩:=C.rel.obj _ _ p rfl;refine .inl ⟨q,by rw[v];exact I,[],ms,d,by show gs[j]? =_;rw[s,A],hb,?_⟩;simp only[rG];have:ms.size=0:=by simpa using X
      simpa using ace this
     ·cases h
    ·simp at h
   ·cases h
  ·split at h
   ·next p=>
    refine⟨?_,λF t=>by rw[B]at t;cases t;exact⟨u,_,p,rfl⟩⟩;obtain⟨q,I,ms,d,hb,X,_⟩:=C.rel.obj _ _ p rfl;exact .inl ⟨q,by rw[v];exact I,ms,d,hb,X,λk e M=>by simp at M⟩
   ·cases h
  ·cases h
 ·next B=>
  refine⟨?_,λid ad=>by rw[B]at ad;cases ad⟩;split at h
  ·next j Y f=>
   split at h
   ·next m D=>
    obtain⟨s,g,A⟩:=GY C.vals D;unfold LV at h;split at h
    ·next W=>
     obtain⟨g',N,O⟩:=T.qI m _ W (by simp);rw[A]at N;cases N;simp only[Nd.den,valsOf,gB,aZ]at O;subst O;exact .inr ⟨agJ hG hn B,j,Y,f,rfl,by show gs[j]? =_;rw[s,A]⟩
    ·cases h
   ·cases h
  ·cases h
 ·cases h
end
noncomputable section
variable{P:Program}
variable{T:aI}{tabs:Qt}{G next:Nat}{H:Env}{J:aA}{w:World}{fz:Q2}{r:W6}{ps:Q2}{gs:Q1}{dA:Qf}
def EN(n:Nat):Wf->Bool
 |[]=>true
 |p::l=>p.2.under n&&EN n l
def ads{n:Nat}:∀{l:Wf},EN n l=true->∀k p,(k,p)∈l->p.under n=true
 |[],_,k,p,h=>by simp at h
 |q::l,h,k,p,hk=>by
  simp only[EN,aK]at h;rcases bD.1 hk with e|hk
  ·subst e;exact h.1
  ·exact ads h.2 k p hk
def gV.ok(s:gV):Bool:=Nat.blt s.gn s.next&&EN s.next s.slots&&s.objs.all λp=>A8 s.next p.2
structure uN(tabs:Qt)(G:Nat):Prop where
 low:∀p∈tabs,p.1<=G
 one:∀p∈tabs,dJ p.1 tabs=some p.2
def aCg(T:aI){H:Env}{a:AV}{v:Value}(h:a.toVal 4=some v):@VR T H a v:=@ajN T H 4 a v h
def ZY{ka:Nat}{s:gV}(W:T.tabs=tabs)(v:uN tabs P.globals.size)(DC:s.objs.all (λp=>A8 s.next p.2)=true)(h3:s.gn<s.next)(X:s.gn=P.globals.size)
 (C:vN T P tabs s.gn s.next H J w fz r ps gs dA) (f1:∀b o,dA b=some o->w.heap[b]? =some o) (f2:∀id o q,id∉fz->J.get id=some o->o.own=true->H id=some q->dA q.bl=none) (h4:Jt r=true) (h6:@LP T.togY P s.gn s.next J fz r ps s.objs=true):
 @SR (Tg tabs gs ka) P (sF tabs s.gn s.next r H dA) (s.st tabs) w/\(∀i o q,(s.st tabs).get i=some o->o.own=true->(sF tabs s.gn s.next r H dA) i=some q->∃id o',dJ i r=some (some id)/\id∉fz/\J.get id=some o'/\o'.own=true/\H id=some q):=by
 letI:=T
 have obj:∀i o,(s.st tabs).get i=some o->(s.gn<i/\i<s.next/\@Live (Tg tabs gs ka) P (sF tabs s.gn s.next r H dA) w i o/\(∀id,dJ i r=some (some id)->id∉fz/\∃o',J.get id=some o'/\o'.own=o.own))\/
  (i<=s.gn/\∃c,o=.cells c 0 false false/\(i,c)∈tabs):=by
  intro i o hi;have d:=PV hi;rcases iW.1 d with d|d
  ·obtain⟨g1,g2,Y⟩:=agK h6 i o d;have Z:=List.all_eq_true.1 DC _ d;obtain⟨E,g5⟩:=au3 C g1 g2 Z Y;exact .inl ⟨g1,g2,E,g5⟩
  ·obtain⟨p,N,e⟩:=nR.1 d;cases e;exact .inr ⟨by rw[X];exact v.low p N,p.2,rfl,N⟩
 have own:∀i o q,(s.st tabs).get i=some o->o.own=true->(sF tabs s.gn s.next r H dA) i=some q->∃id o',dJ i r=some (some id)/\id∉fz/\J.get id=some o'/\o'.own=true/\H id=some q:=by
  intro i o q hi ho hq;rcases obj i o hi with⟨g1,g2,_,E⟩|⟨_,c,rfl,_⟩
  ·have j:(if i<=s.gn then some ⟨i,0,Ap tabs i,0⟩else if i<s.next then(match dJ i r with|some (some id)=>H id|_=>none)else none)=some q:=hq;rw[ah (by omega),aj g2]at j;split at j
   ·next id m=>
    obtain⟨t,o',n,A⟩:=E id m;exact⟨id,o',m,t,n,A.trans ho,j⟩
   ·cases j
  ·cases ho
 have aa:∀p∈tabs,@EH (sF tabs s.gn s.next r H dA) p.1 p.2:=by intro p N;obtain⟨F,l,I,t,n⟩:=C.rel.tabs p (by rw[W];exact N);exact⟨F,l,I,C.uz _ _ t,n⟩
 refine⟨@SR.mk (Tg tabs gs ka) P _ _ w ?_ ?_ ?_ ?_ ?_ ?_ ?_ ?_,own⟩
 ·intro g hg;exact⟨_,_,UQ (by omega)⟩
 ·intro i q hq;have j:(if i<=s.gn then some ⟨i,0,Ap tabs i,0⟩else if i<s.next then(match dJ i r with|some (some id)=>H id|_=>none)else none)=some q:=hq;show i<s.next
  split at j
  ·omega
  ·split at j
   ·next h=>exact h
   ·cases j
 ·intro i o hi;rcases obj i o hi with⟨_,_,Y,_⟩|⟨D,c,rfl,d⟩
  ·exact Y
  ·obtain⟨F,l,I,t,n,A⟩:=C.rel.tabs (i,c) (by rw[W];exact d);have Z:=C.rel.ji _ _ t;have ab:Ap tabs i=c.length:=by unfold Ap;rw[v.one (i,c) d]
   refine .inl ⟨⟨i,0,Ap tabs i,0⟩,UQ D,F,l,I,Z,?_⟩;refine @rE.mk (Tg tabs gs ka) P _ _ c 0 false false F l I (by simp only at n⊢;omega) (by simp only;omega) (λ_=>by simp only;omega) (λk a hk=>?_) (λh=>by cases h) (λh=>absurd rfl h) (λh=>by cases h);obtain⟨x,hx,hv⟩:=A.1 k a hk;exact⟨x,by simpa using hx,@QZ.vr (Tg tabs gs ka) _ _ _ hv⟩
 ·intro i hg;have L:(decide (s.gn<i)&&decide (i<s.next)&&(match dJ i r with|some (some id)=>H.gh id|some none=>true|none=>false))=true:=hg;rw[aK,aK,decide_eq_true_iff,decide_eq_true_iff]at L;obtain⟨⟨t,n⟩,A⟩:=L;refine⟨?_,n⟩;show(if i<=s.gn then some ⟨i,0,Ap tabs i,0⟩else if i<s.next then(match dJ i r with|some (some id)=>H id|_=>none)else none)=none
  rw[ah (by omega),aj n];split at A
  ·next id m=>rw[m];exact(C.rel.jT id A).1
  ·next m=>rw[m]
  ·cases A
 ·intro i o B o' q q' a1 a2 a3 a4 a5 a6;obtain⟨id,u,b1,b2,O,U,V⟩:=own i o q a1 a2 a5;rcases obj B o' a3 with⟨g1,g2,_,E⟩|⟨D,c,rfl,d⟩
  ·have j:(if B<=s.gn then some ⟨B,0,Ap tabs B,0⟩else if B<s.next then(match dJ B r with|some (some id)=>H id|_=>none)else none)=some q':=a6;rw[ah (by omega),aj g2]at j;split at j
   ·next M jK=>
    obtain⟨t,u',n,A⟩:=E M jK;exact C.rel.sep id u M u' q q' O U n (λe=>a4 (by subst e;exact aa5 h4 i B id b1 jK)) V j
   ·cases j
  ·intro e;rw[UQ D]at a6;cases a6;obtain⟨F,l,I,t,_⟩:=C.rel.tabs (B,c) (by rw[W];exact d);have:=C.rel.lS id u q O U V;simp only at e;rw[e]at this;rw[t]at this;cases this
 ·exact f1
 ·intro i o q a1 a2 a3;obtain⟨id,u,b1,b2,O,U,V⟩:=own i o q a1 a2 a3;exact f2 id u q b2 O U V
 ·exact aa
def Xz{r:W6}:∀{n i:Nat},NW r i n=true->∀j,i<j->j<=i+n->dJ j r=some (some j)
 |0,i,_,j,h1,d=>by omega
 |n+1,i,h,j,h1,d=>by
  simp only[NW,aK]at h;by_cases e:j=i+1
  ·subst e;exact Qb h.1
  ·exact Xz h.2 j (by omega) (by omega)
def ZX{w0:Base}{m:Qf}{a:bn}{A:Act}{s:gV}(W:T.tabs=tabs)(g:uN tabs P.globals.size)(d:s.ok=true)(h:@jU T P w0 m H J w)(X:J.lock=0)(j:@TR T P H a A)(n:@ZU T.togY P s a J fz r ps=true)(t:valsOf T.val ps=some gs):QY P tabs s gs w0 m A w:=by
 letI:=T
 unfold ZU at n;simp only[aK,jm]at n;obtain⟨⟨⟨⟨⟨⟨⟨⟨B,k2⟩,Y⟩,Z⟩,h2⟩,O⟩,h4⟩,h5⟩,h6⟩:=n;have B:=bH B;have e1:=bH Z;have e2:=bH h2;unfold gV.ok at d;rw[aK,aK]at d;obtain⟨⟨_,D⟩,DC⟩:=d;have e:s.gn=P.globals.size:=by rw[e2];exact j.gn
 obtain⟨dA,f1,l,f3⟩:=TM h X fz;have C:vN T P tabs s.gn s.next H J w fz r ps gs dA:=⟨h.rel,t,f1,f3,e,O⟩
 obtain⟨hS,own⟩:=ZY (ka:=s.ka) W g DC O e C l.rel.ji (λid o q U E F I=>l.rel.lS id o q (by rw[DN,ah U];exact E) F I) h4 h6;refine⟨sF tabs s.gn s.next r H dA,?_,?_⟩
 ·refine @jU.mk (Tg tabs gs s.ka) P w0 m _ _ w hS h.kept ?_ ?_ ?_ ?_
  ·intro i o q L a2 M;obtain⟨id,u,b1,U,E,F,I⟩:=own i o q L a2 M;exact h.own id u q E F I
  ·exact l.uz
  ·exact l.qK
  ·intro i q hi;obtain⟨L,a2,M⟩:=h.qQ i q hi;have N:i<=P.globals.size+s.ka:=by rw[B];exact M
   refine⟨?_,a2,N⟩;rw[FQ (by omega) (by omega) (Xz Y i (by omega) (by omega))];exact L
 ·refine @TR.mk (Tg tabs gs s.ka) P _ _ A ?_ ?_ j.none ?_
  ·exact e
  ·show A.tmps.size=s.n
   rw[e1];exact j.size
  ·intro k p V;obtain⟨v,v1,v2⟩:=agL h5 k p (PV V);obtain⟨x,hx,hv⟩:=j.slot k v v1;exact⟨x,hx,ZV C p v x (ads D k p (PV V)) v2 hv⟩
end
noncomputable section
variable{P:Program}
mutual
def AV.eP(f:Nat->Nat):AV->AV
 |.nd j=>.nd (f j)
 |.rx j off=>.rx (f j) off
 |.sv id j=>.sv id (f j)
 |.pv id j off=>.pv id (f j) off
 |.pd id j=>.pd id (f j)
 |.fn g fi cs=>.fn g (AV.pV f fi) (AV.pV f cs)
 |.jc t a=>.jc t (a.eP f)
 |.agg l=>.agg (AV.pV f l)
 |.eG l=>.eG (AV.pV f l)
 |.ro l=>.ro (AV.pV f l)
 |.rp a off=>.rp (a.eP f) off
 |a=>a
def AV.pV(f:Nat->Nat):Q3->List AV
 |[]=>[]
 |a::l=>a.eP f::AV.pV f l
end
def UU(f:Nat->Nat):∀l:Q3,AV.pV f l=l.map (AV.eP f)
 |[]=>rfl
 |a::l=>by simp[AV.pV,UU f l]
def bC.eP(f:Nat->Nat):bC->bC
 |.cells c d rw opn=>.cells (AV.pV f c) d rw opn
 |.iter s pos=>.iter s pos
 |.map es=>.map (es.map λe=>(e.1.eP f,e.2.eP f))
 |.iterM m=>.iterM m
 |.vec j d b=>.vec (f j) d b
 |.smap j g sz=>.smap (f j) g sz
 |.pmap es=>.pmap (es.map λe=>(e.1,e.2.eP f))
def bC.au9(f:Nat->Nat)(o:bC):(o.eP f).own=o.own:=by cases o<;>rfl
section
variable{S T:aI}{f:Nat->Nat}{H:Env}
mutual
def VR.eP(h:∀j g,S.val j=some g->T.val (f j)=some g):∀(a:AV)(v:Value),@VR S H a v->@VR T H (a.eP f) v
 |.b _,_,d=>by simpa only[VR,AV.eP]using d
 |.i _ _,_,d=>by simpa only[VR,AV.eP]using d
 |.s _,_,d=>by simpa only[VR,AV.eP]using d
 |.jD,_,d=>by simpa only[VR,AV.eP]using d
 |.p _ _,_,d=>by simpa only[VR,AV.eP]using d
 |.gu,_,d=>by simpa only[VR,AV.eP]using d
 |.sl _ _ _ _,_,d=>by simpa only[VR,AV.eP]using d
 |.oU,_,d=>by simpa only[VR,AV.eP]using d
 |.mp _,_,d=>by simpa only[VR,AV.eP]using d
 |.yR,_,d=>by simpa only[VR,AV.eP]using d
 |.fn _ fi cs,_,d=>by simp only[VR,AV.eP]at d⊢;obtain⟨B,vs,e,h1,m⟩:=d;exact⟨B,vs,e,aF.eP h fi B h1,aF.eP h cs vs m⟩
 |.sH,_,d=>by simpa only[VR,AV.eP]using d
 |.jc _ a,_,d=>by simp only[VR,AV.eP]at d⊢;obtain⟨x,e,h1⟩:=d;exact⟨x,e,VR.eP h a x h1⟩
 |.agg l,_,d=>by simp only[VR,AV.eP]at d⊢;obtain⟨x,e,h1⟩:=d;exact⟨x,e,aF.eP h l x h1⟩
 |.eG l,_,d=>by simp only[VR,AV.eP]at d⊢;obtain⟨x,e,h1⟩:=d;exact⟨x,e,aF.eP h l x h1⟩
 |.z _ _ _,_,d=>by simpa only[VR,AV.eP]using d
 |.ro l,_,d=>by
  simp only[VR,AV.eP]at d⊢;have D:(AV.pV f l).length=l.length:=by rw[UU];simp
  rcases d with⟨rfl,d⟩|⟨s,u,c,o,E,e,F,h1,m,t⟩
  ·exact .inl ⟨rfl,d⟩
  ·rw[D];exact .inr ⟨s,u,c,o,E,e,F,aF.eP h l o h1,m,λI=>t (by intro L;apply I;rw[L];rfl)⟩
 |.rp a _,_,d=>by simp only[VR,AV.eP]at d⊢;obtain⟨s,base,cs,n,A,x,h1,m,t⟩:=d;exact⟨s,base,cs,n,A,x,h1,VR.eP h a x m,t⟩
 |.nd _,_,d=>by simp only[VR,AV.eP]at d⊢;obtain⟨g,h1,m⟩:=d;exact⟨g,h _ _ h1,m⟩
 |.rx _ _,_,d=>by simp only[VR,AV.eP]at d⊢;obtain⟨g,s,base,cs,n,A,x,h1,m⟩:=d;exact⟨g,s,base,cs,n,A,x,h _ _ h1,m⟩
 |.sv _ _,_,d=>by simp only[VR,AV.eP]at d⊢;obtain⟨o,h1,m⟩:=d;exact⟨o,h _ _ h1,m⟩
 |.pv _ _ _,_,d=>by simp only[VR,AV.eP]at d⊢;obtain⟨q,k,i,h1,m,t⟩:=d;exact⟨q,k,i,h1,h _ _ m,t⟩
 |.pd _ _,_,d=>by simp only[VR,AV.eP]at d⊢;obtain⟨o,p,h1,m⟩:=d;exact⟨o,p,h _ _ h1,m⟩
def aF.eP(h:∀j g,S.val j=some g->T.val (f j)=some g):∀(l:Q3)(vs:Q6),@aF S H l vs->@aF T H (AV.pV f l) vs
 |[],_,d=>by simpa only[aF,AV.pV]using d
 |a::l,_,d=>by simp only[aF,AV.pV]at d⊢;obtain⟨x,xs,e,h1,i⟩:=d;exact⟨x,xs,e,VR.eP h a x h1,aF.eP h l xs i⟩
end
def OR.eP(h:∀j g,S.val j=some g->T.val (f j)=some g){q:Place}{w:World}{o:bC}(r:@OR S P H q w o):@OR T P H q w (o.eP f):=by
 cases o with
 |cells c A uD B=>
  obtain⟨n,i,p,t,⟨r1,r2,r3,r4,D,E,F⟩⟩:=r;have hl:(AV.pV f c).length=c.length:=by rw[UU];simp
  refine⟨n,i,p,t,@rE.mk T P H q _ A uD B n i p r1 (by rw[hl];exact r2) (λe=>by rw[hl];exact r3 e) (λk a l=>?_) D E F⟩;rw[UU,iw]at l;obtain⟨a0,u,rfl⟩:=bg.1 l;obtain⟨x,hx,hv⟩:=r4 k a0 u;exact⟨x,hx,VR.eP h a0 x hv⟩
 |iter s pos=>exact r
 |map es=>obtain⟨v,d,t,u,I⟩:=r;refine⟨v,d,t,by simpa using u,λk e l=>?_⟩;rw[iw]at l;obtain⟨L,M,rfl⟩:=bg.1 l;obtain⟨m,N,O,U⟩:=I k L M;exact⟨m,N,VR.eP h _ _ O,VR.eP h _ _ U⟩
 |iterM m=>cases m<;>exact r
 |smap j kk sz=>obtain⟨V,v,d,W,X,Y⟩:=r;exact⟨V,v,d,h _ _ W,X,Y⟩
 |pmap es=>obtain⟨hn,v,d,Z,t,hp,u,I⟩:=r;refine⟨by simpa[List.map_map,Function.comp_def]using hn,v,d,Z,t,hp,by simpa using u,λk e l=>?_⟩;rw[iw]at l;obtain⟨L,M,rfl⟩:=bg.1 l;obtain⟨m,N,O,U⟩:=I k L M;exact⟨m,N,O,VR.eP h _ _ U⟩
 |vec j A b=>obtain⟨V,n,i,p,ys,W,X,Y,k4,k5,k6,⟨r1,r2,r3,r4,D,E,F⟩,k8⟩:=r;exact⟨V,n,i,p,ys,h _ _ W,X,Y,k4,k5,k6,@rE.mk T P H q [] A true true n i p r1 r2 r3 (λk a l=>by simp at l) D E F,k8⟩
def Live.eP(h:∀j g,S.val j=some g->T.val (f j)=some g){w:World}{i:Nat}{o:bC}(r:@Live S P H w i o):@Live T P H w i (o.eP f):=by
 rcases r with⟨q,d,e⟩|⟨k,n,l,b,rfl,m⟩
 ·exact .inl ⟨q,d,OR.eP h e⟩
 ·exact .inr ⟨k,f n,l,b,rfl,h _ _ m⟩
end
def Jh{α:Type}:∀(l:List (Nat×α))(k:Nat),(oV l).get k=dJ k l
 |[],k=>by simp[oV,dJ]
 |(j,u)::l,k=>by
  rw[oV,Tr.wP,dJ];cases d:Nat.beq k j with
  |true=>rw[aj (bH d)];rfl
  |false=>rw[ah (λe=>by rw[e,Nat.beq_refl]at d;cases d)];exact Jh l k
def YI{α β:Type}(g:α->β):∀(l:List (Nat×α))(m:List (Nat×β))(d:List (Nat×α))(k:Nat)(o:β),dJ k (l.map (λp=>(p.1,g p.2))++m)=some o->(∃o0,dJ k (l++d)=some o0/\o=g o0)\/(dJ k m=some o/\(∀o',dJ k d=some o'->dJ k (l++d)=some o'))
 |[],m,d,k,o,h=>.inr ⟨h,λo' i=>i⟩
 |p::l,m,d,k,o,h=>by
  simp only[gX,bJ,dJ]at h⊢;cases e:Nat.beq k p.1 with
  |true=>rw[e]at h;simp only[cond_true,aZ]at h⊢;exact .inl ⟨p.2,rfl,h.symm⟩
  |false=>rw[e]at h;simp only[cond_false]at h⊢;exact YI g l m d k o h
def gV.Ru(s:gV)(f:Nat->Nat):bn:=⟨oV (s.slots.map λp=>(p.1,p.2.eP f)),s.n,s.gn⟩
def gV.Eo(tabs:Qt)(s:gV)(f:Nat->Nat):aA:=⟨oV (s.objs.map (λp=>(p.1,p.2.eP f))++vF tabs),s.next,0⟩
def afa{T:aI}{tabs:Qt}{s:gV}{gs:Q1}{f:Nat->Nat}{w0:Base}{w:World}{M:Qf}{H:Env}(uj:T.tabs=tabs)(N:T.ka=s.ka)(hf:∀j g,gs[j]? =some g->T.val (f j)=some g)(h:@jU (Tg tabs gs s.ka) P w0 M H (s.st tabs) w):
 @jU T P w0 M H (s.Eo tabs f) w:=by
 obtain⟨⟨O,A,l,Y3,B,U,V,n⟩,v,D,Za,W,YT⟩:=h;have X:∀j g,(Tg tabs gs s.ka).val j=some g->T.val (f j)=some g:=hf;have obj:∀i o,(s.Eo tabs f).get i=some o->(∃o0,(s.st tabs).get i=some o0/\o=o0.eP f)\/(∃c,o=.cells c 0 false false/\(i,c)∈tabs/\(s.st tabs).get i=some o):=by
  intro i o hi;have Y:dJ i (s.objs.map (λp=>(p.1,p.2.eP f))++vF tabs)=some o:=(Jh _ i).symm.trans hi;rcases YI (bC.eP f) s.objs (vF tabs) (vF tabs) i o Y with⟨o0,d,Z⟩|⟨d,Z⟩
  ·exact .inl ⟨o0,(Jh _ i).trans d,Z⟩
  ·have hm:=TQ d;obtain⟨p,hp,e⟩:=nR.1 hm;cases e;exact .inr ⟨p.2,rfl,hp,(Jh _ _).trans (Z _ d)⟩
 have own:∀i o,(s.Eo tabs f).get i=some o->∃o0,(s.st tabs).get i=some o0/\o0.own=o.own:=by
  intro i o hi;rcases obj i o hi with⟨o0,d,rfl⟩|⟨c,rfl,_,d⟩
  ·exact⟨o0,d,(bC.au9 f o0).symm⟩
  ·exact⟨_,d,rfl⟩
 refine @jU.mk T P w0 M _ _ w (@SR.mk T P _ _ w O A ?_ Y3 ?_ U ?_ ?_) v ?_ Za W (by rw[N];exact YT)
 ·intro i o hi;rcases obj i o hi with⟨o0,d,rfl⟩|⟨c,rfl,hm,d⟩
  ·exact Live.eP X (l i o0 d)
  ·rcases l i _ d with⟨q,hq,cs,t,fr,hb,⟨r1,r2,r3,r4,r5,r6,r7⟩⟩|⟨_,_,_,_,e,_⟩
   rotate_left
   ·cases e
   obtain⟨ab,KT,Lj,k1,k2,k3⟩:=n (i,c) hm;refine .inl ⟨q,hq,cs,t,fr,hb,@rE.mk T P _ _ c 0 false false cs t fr r1 r2 r3 (λk a hk=>?_) r5 r6 r7⟩;obtain⟨x,hx,hv⟩:=r4 k a hk;obtain⟨y,hy,m⟩:=k3.1 k a hk;rcases m with m|⟨_,_,_,_,rfl,rfl,_,_⟩
   ·have:x=y:=@ajO (Tg tabs gs s.ka) _ 4 a y x m hv;subst this;exact⟨x,hx,aCg T m⟩
   ·exact⟨x,hx,by simpa only[VR]using hv⟩
 ·intro i o i' o' q q' E a2 F a4 a5 a6;obtain⟨u,I,L⟩:=own i o E;obtain⟨u',aa,ac⟩:=own i' o' F;exact B i u i' u' q q' I (L.trans a2) aa a4 a5 a6
 ·intro i o q E a2 F;obtain⟨u,I,L⟩:=own i o E;exact V i u q I (L.trans a2) F
 ·rw[uj];exact n
 ·intro i o q E a2 F;obtain⟨u,I,L⟩:=own i o E;exact D i u q I (L.trans a2) F
def abv{T:aI}{tabs:Qt}{s:gV}{gs:Q1}{f:Nat->Nat}{w0:Base}{w:World}{t:Qf}{A:Act}(D:T.tabs=tabs)(e:T.ka=s.ka)(u:∀j g,gs[j]? =some g->T.val (f j)=some g)(h:QY P tabs s gs w0 t A w):
 ∃H,@jU T P w0 t H (s.Eo tabs f) w/\@TR T P H (s.Ru f) A:=by
 obtain⟨H,E,⟨i,l,m,n⟩⟩:=h;have o:∀j g,(Tg tabs gs s.ka).val j=some g->T.val (f j)=some g:=u;refine⟨H,afa D e u E,@TR.mk T P _ _ A i l m ?_⟩
 ·intro k v F;have q:dJ k (s.slots.map (λp=>(p.1,p.2.eP f))++[])=some v:=by rw[ng];exact(Jh _ k).symm.trans F
  rcases YI (AV.eP f) s.slots [] [] k v q with⟨B,d,rfl⟩|⟨d,_⟩
  ·rw[ng]at d;obtain⟨x,I,L⟩:=n k B ((Jh _ k).trans d);exact⟨x,I,VR.eP o B x L⟩
  ·simp[dJ]at d
