/- Pure programs: trees of nodes; what they compute; how a check of all their ways serves all values. -/
import Derived.Test.YthchhlenbkefnaaGreatDoorAbsH
import Derived.Control
set_option linter.all false
namespace Go.aN
noncomputable section
inductive Tree where
 |step (nd:Nd) (t:Tree)
 |ite (n:Nat) (t e:Tree)
 |ret (l:Q2)
 |tail (f:Nat) (l:Q2)
 |dead
 deriving Inhabited
abbrev iO:=Nat->List GV->Option Q1
def Tree.den(I:iO):Tree->List GV->Option Q1
 |.step nd t,d=>match nd.den I (λn=>d[n]?)with
  |some g=>t.den I (d++[g])
  |none=>none
 |.ite n t e,d=>match d[n]? with
  |some (.b true)=>t.den I d
  |some (.b false)=>e.den I d
  |_=>none
 |.ret l,d=>valsOf (λn=>d[n]?) l
 |.tail f l,d=>match valsOf (λn=>d[n]?) l with
  |some gs=>I f gs
  |none=>none
 |.dead,_=>none
inductive Leaf where
 |ret (l:Q2)
 |tail (f:Nat) (l:Q2)
def Tree.chk(p:List Nd->List (Nat×Bool)->Leaf->Bool):Tree->List Nd->List (Nat×Bool)->Bool
 |.step nd t,d,g=>t.chk p (d++[nd]) g
 |.ite n t e,d,g=>t.chk p d ((n,true)::g)&&e.chk p d ((n,false)::g)
 |.ret l,d,g=>p d g (.ret l)
 |.tail f l,d,g=>p d g (.tail f l)
 |.dead,_,_=>true
def Sv{val d:Wa}(h:∀n g,val n=some g->d n=some g):∀{l:Q2}{gs:Q1},valsOf val l=some gs->valsOf d l=some gs
 |[],gs,e=>e
 |n::l,gs,e=>by
  simp only[valsOf]at e⊢;split at e
  ·next g r h1 i=>rw[h n g h1,Sv h i];exact e
  ·cases e
def Nd.aga{I:iO}{val m:Wa}(h:∀n g,val n=some g->m n=some g){nd:Nd}{g:GV}(d:nd.den I val=some g):nd.den I m=some g:=by
 cases nd<;>simp only[Nd.den]at d⊢
 case ci=>exact d
 case cb=>exact d
 case cs=>exact d
 case arg=>exact d
 case mk l=>
  split at d
  ·next gs p=>rw[Sv h p];exact d
  ·cases d
 case ml l=>obtain⟨gs,p,e⟩:=bC.1 d;rw[Sv h p];simpa using e
 case call f l j=>
  split at d
  ·next gs p=>rw[Sv h p];exact d
  ·cases d
 case upd size off a i vs=>
  split at d
  ·next t k j gs o q s=>rw[h _ _ o,h _ _ q,Sv h s];exact d
  ·cases d
 all_goals
  split at d
  all_goals first
   |(cases d;done)
   |(simp only[h _ _ (by assumption)];exact d)
   |(rename_i o q s;rw[h _ _ o,h _ _ q,h _ _ s];exact d)
   |(rename_i o q;rw[h _ _ o,h _ _ q];exact d)
   |(rename_i o;rw[h _ _ o];exact d)
structure D5(I:iO)(ns:List Nd)(ds:Wg)(env:Q1):Prop where
 len:ns.length=env.length
 node:∀(n:Nat) nd,ns[n]? =some nd->nd≠.arg->∃g,env[n]? =some g/\nd.den I (λk=>env[k]?)=some g
 dec:∀(n:Nat)(b:Bool),(n,b)∈ds->env[n]? =some (.b b)
def Vy{α:Type}{l:List α}{x a:α}{n:Nat}(h:l[n]? =some a):(l++[x])[n]? =some a:=by have:=(fM.1 h).1;rw[og this];exact h
def Tree.MG{I:iO}{p:List Nd->List (Nat×Bool)->Leaf->Bool}:∀(t:Tree){q:List Nd}{u:Wg}{d j:Q1},t.chk p q u=true->D5 I q u d->t.den I d=some j->
 ∃v A h H,p v A H=true/\D5 I v A h/\(∃s,h=d++s)/\(match H with|.ret l=>valsOf (λn=>h[n]?) l=some j|.tail f l=>∃gs,valsOf (λn=>h[n]?) l=some gs/\I f gs=some j)
 |.step nd t,q,u,d,j,B,m,i=>by
  simp only[Tree.den]at i;split at i
  ·next g L=>
   have M:D5 I (q++[nd]) u (d++[g]):=by
    refine⟨by simp[m.len],λn x D X=>?_,λn b o=>Vy (m.dec n b o)⟩;by_cases N:n<q.length
    ·rw[og N]at D;obtain⟨Y,O,V⟩:=m.node n x D X;exact⟨Y,Vy O,Nd.aga (λk a W=>Vy W) V⟩
    ·have E:n=q.length:=by have:=(fM.1 D).1;simp at this;omega
     subst E;simp at D;subst D;exact⟨g,by rw[m.len];simp,Nd.aga (λk a W=>Vy W) L⟩
   obtain⟨v,A,h,H,O,V,⟨s,Z⟩,h4⟩:=Tree.MG t B M i;exact⟨v,A,h,H,O,V,⟨[g]++s,by rw[Z,List.append_assoc]⟩,h4⟩
  ·cases i
 |.ite n t e,q,u,d,j,B,m,i=>by
  simp only[Tree.chk,aK]at B;simp only[Tree.den]at i;split at i
  ·next D=>
   refine Tree.MG t B.1 ⟨m.len,m.node,λk b o=>?_⟩ i;rcases bH.1 o with o|o
   ·cases o;exact D
   ·exact m.dec k b o
  ·next D=>
   refine Tree.MG e B.2 ⟨m.len,m.node,λk b o=>?_⟩ i;rcases bH.1 o with o|o
   ·cases o;exact D
   ·exact m.dec k b o
  ·cases i
 |.ret l,q,u,d,j,B,m,i=>⟨q,u,d,.ret l,B,m,⟨[],by simp⟩,i⟩
 |.tail f l,q,u,d,j,B,m,i=>by
  simp only[Tree.den]at i;split at i
  ·next gs L=>exact⟨q,u,d,.tail f l,B,m,⟨[],by simp⟩,gs,L,i⟩
  ·cases i
 |.dead,_,_,_,_,_,_,i=>by simp[Tree.den]at i
inductive pq where
 |sc
 |ag (n:Nat)
abbrev WK:=List pq
def oW:WK->List GV->Bool
 |[],[]=>true
 |.sc::l,g::m=>g.scalar&&oW l m
 |.ag n::l,g::m=>!g.scalar&&Nat.beq g.cells.length n&&oW l m
 |_,_=>false
inductive aF where
 |tree (n:Nat) (t:Tree)
 |fn (yD zZ:WK) (t:Tree)
 |aP (f:Q1->Option Q1)
abbrev W8:=List aF
def aF.den(I:iO):aF->List GV->Option Q1
 |.tree n t,gs=>if gs.length=n then t.den I gs else none
 |.fn e g t,gs=>if oW e gs=true then match t.den I gs with
  |some d=>if oW g d=true then some d else none
  |none=>none
  else none
 |.aP f,gs=>f gs
abbrev iR:=Nat->Option aF
def iR.run(TT:iR):Nat->iO
 |0,_,_=>none
 |n+1,k,gs=>match TT k with
  |some d=>d.den (iR.run TT n) gs
  |none=>none
def iO.le(I e:iO):Prop:=∀k gs d,I k gs=some d->e k gs=some d
def Nd.AO{I e:iO}(h:I.le e){val:Wa}{nd:Nd}{g:GV}(d:nd.den I val=some g):nd.den e val=some g:=by
 cases nd with
 |call f l j=>
  simp only[Nd.den]at d⊢;split at d
  ·next gs k=>
   split at d
   ·next r i=>rw[h f gs r i];exact d
   ·cases d
  ·cases d
 |_=>exact d
def Tree.AO{I k:iO}(h:I.le k):∀(t:Tree){i j:Q1},t.den I i=some j->t.den k i=some j
 |.step nd t,i,j,d=>by
  simp only[Tree.den]at d⊢;split at d
  ·next g m=>rw[Nd.AO h m];exact Tree.AO h t d
  ·cases d
 |.ite n t e,i,j,d=>by
  simp only[Tree.den]at d⊢;split at d
  ·exact Tree.AO h t d
  ·exact Tree.AO h e d
  ·cases d
 |.ret l,i,j,d=>d
 |.tail f l,i,j,d=>by
  simp only[Tree.den]at d⊢;split at d
  ·exact h _ _ _ d
  ·cases d
 |.dead,_,_,d=>by simp[Tree.den]at d
def aF.AO{I i:iO}(h:I.le i)(d:aF){gs g:Q1}(e:d.den I gs=some g):d.den i gs=some g:=by
 cases d with
 |tree n t=>
  simp only[aF.den]at e⊢;split at e
  ·next j=>rw[aj j];exact t.AO h e
  ·cases e
 |fn m p t=>
  simp only[aF.den]at e⊢;split at e
  ·next k=>
   split at e
   ·next o l=>rw[aj k,t.AO h l];exact e
   ·cases e
  ·cases e
 |aP f=>exact e
def iR.akR(TT:iR):∀n,(TT.run n).le (TT.run (n+1))
 |0,k,gs,e,h=>by simp[iR.run]at h
 |n+1,k,gs,e,h=>by
  simp only[iR.run]at h;rw[iR.run];split at h
  ·next d g=>exact d.AO (iR.akR TT n) h
  ·cases h
def iR.Xq(TT:iR){n m:Nat}(h:n<=m):(TT.run n).le (TT.run m):=by
 induction h with
 |refl=>exact λ_ _ _ h=>h
 |step _ e=>exact λk gs d g=>iR.akR TT _ k gs d (e k gs d g)
open Classical in
def iR.lim(TT:iR):iO:=λk gs=>if h:∃d n,TT.run n k gs=some d then some (Classical.choose h)else none
def iR.JF{TT:iR}{n k:Nat}{gs d:Q1}(h:TT.run n k gs=some d):TT.lim k gs=some d:=by
 unfold iR.lim;have e:∃d n,TT.run n k gs=some d:=⟨d,n,h⟩
 rw[dif_pos e];obtain⟨m,i⟩:=amz e;have j:=TT.Xq (Nat.le_max_left n m) k gs d h;have g:=TT.Xq (Nat.le_max_right n m) k gs _ i;rw[j]at g;exact g.symm
def iR.abx{TT:iR}{k:Nat}{gs d:Q1}(h:TT.lim k gs=some d):∃n,TT.run n k gs=some d:=by
 unfold iR.lim at h;split at h
 ·next e=>
  cases h;exact amz e
 ·cases h
def Nd.Ji{TT:iR}{val:Wa}{nd:Nd}{g:GV}(d:nd.den TT.lim val=some g):∃n,nd.den (TT.run n) val=some g:=by
 cases nd with
 |call f l j=>
  simp only[Nd.den]at d⊢;split at d
  ·next gs i=>
   split at d
   ·next r e=>
    obtain⟨n,h⟩:=iR.abx e;exact⟨n,by rw[h];exact d⟩
   ·cases d
  ·cases d
 |_=>exact⟨0,d⟩
def Tree.Ji{TT:iR}:∀(t:Tree){i j:Q1},t.den TT.lim i=some j->∃n,t.den (TT.run n) i=some j
 |.step nd t,i,j,d=>by
  simp only[Tree.den]at d;split at d
  ·next g o=>
   obtain⟨n,p⟩:=Nd.Ji o;obtain⟨m,k⟩:=Tree.Ji t d;refine⟨max n m,?_⟩;simp only[Tree.den];rw[Nd.AO (TT.Xq (Nat.le_max_left n m)) p];exact t.AO (TT.Xq (Nat.le_max_right n m)) k
  ·cases d
 |.ite n t e,i,j,d=>by
  simp only[Tree.den]at d⊢;split at d
  ·next h=>obtain⟨m,k⟩:=Tree.Ji t d;exact⟨m,k⟩
  ·next h=>obtain⟨m,k⟩:=Tree.Ji e d;exact⟨m,k⟩
  ·cases d
 |.ret l,i,j,d=>⟨0,d⟩
 |.tail f l,i,j,d=>by
  simp only[Tree.den]at d⊢;split at d
  ·exact iR.abx d
  ·cases d
 |.dead,_,_,d=>by simp[Tree.den]at d
def iR.awU{TT:iR}{k:Nat}{d:aF}(g:TT k=some d){gs e:Q1}(h:d.den TT.lim gs=some e):TT.lim k gs=some e:=by
 cases d with
 |tree m t=>
  simp only[aF.den]at h;split at h
  ·next j=>
   obtain⟨n,i⟩:=Tree.Ji t h;exact iR.JF (n:=n+1) (by simp only[iR.run,g,aF.den,aj j];exact i)
  ·cases h
 |fn q s t=>
  simp only[aF.den]at h;split at h
  ·next l=>
   split at h
   ·next o p=>
    obtain⟨n,i⟩:=Tree.Ji t p;exact iR.JF (n:=n+1) (by simp only[iR.run,g,aF.den,l,if_true,i];exact h)
   ·cases h
  ·cases h
 |aP f=>exact iR.JF (n:=1) (by simp only[iR.run,g];exact h)
def iR.awW{TT:iR}{C:Nat->List GV->List GV->Prop}(h:∀k d,TT k=some d->∀I:iO,(∀k gs e,I k gs=some e->C k gs e)->∀gs e,d.den I gs=some e->C k gs e):∀k gs e,TT.lim k gs=some e->C k gs e:=by
 have:∀n k gs e,TT.run n k gs=some e->C k gs e:=by
  intro n;induction n with
  |zero=>intro k gs e g;simp[iR.run]at g
  |succ n i=>
   intro k gs e g;simp only[iR.run]at g;split at g
   ·next d j=>exact h k d j _ i gs e g
   ·cases g
 intro k gs e g;obtain⟨n,l⟩:=iR.abx g;exact this n k gs e l
end
open Go
def adq(R w:Nat):Nat->Nat->List Nat->List Nat
 |0,_,l=>l
 |f+1,s,l=>match Nat.blt s 256 with
  |true=>s::l
  |false=>adq R w f ((R >>>(2*w*(s-256)))%2^w) (adq R w f ((R >>>(2*w*(s-256)+w))%2^w) l)
def toks(R w b:Nat):Nat->Nat->List Nat
 |0,_=>[]
 |n+1,x=>adq R w 1000 (x%b) (toks R w b n (x/b))
def dg(c:Nat):Nat:=match Nat.blt c 58 with
 |true=>c-48
 |false=>match Nat.blt c 91 with
  |true=>c-55
  |false=>match Nat.beq c 95 with
   |true=>62
   |false=>c-61
def sN(s:String):Nat:=s.toList.foldl (λa c=>a*63+dg c.toNat) 0
def rN:Q2->Nat×Q2
 |t::u::l=>match Nat.blt t 224 with
  |true=>(t,u::l)
  |false=>((t-224)*256+u,l)
 |[t]=>(t,[])
 |[]=>(0,[])
def rR(n:Nat)(l:Q2):Nat×Q2:=match rN l with|(a,l)=>(n-a,l)
def rL(n:Nat):Nat->Nat->List Nat->List Nat×Q2
 |0,_,l=>([],l)
 |k+1,p,t::l=>match Nat.blt t 128 with
  |true=>match rL n k (p+t-64) l with
   |(x,l)=>((p+t-64)::x,l)
  |false=>match rR n l with
   |(a,l)=>match rL n k a l with
    |(x,l)=>(a::x,l)
 |_,_,[]=>([],[])
def Oa(n:Nat)(l:Q2):Q2×Q2:=match rN l with|(k,l)=>rL n k n l
def rK:Nat->IntKind
 |0=>.i64|1=>.u64|2=>.u8|3=>.i32|4=>.u32|5=>.i16|6=>.u16|_=>.i8
def rO:Nat->BinOp
 |0=>.eql|1=>.add|2=>.neq|3=>.lss|4=>.gtr|5=>.sub|6=>.geq|7=>.leq
 |8=>.and|9=>.quo|10=>.shr|11=>.mul|12=>.rem|13=>.xor|14=>.or|_=>.shl
def r1(n:Nat)(f:Nat->Nd)(l:Q2):Nd×Q2:=match rR n l with|(a,l)=>(f a,l)
def r2(n:Nat)(f:Nat->Nat->Nd)(l:Q2):Nd×Q2:=match rR n l with|(a,l)=>r1 n (f a) l
def r3(n:Nat)(f:Nat->Nat->Nat->Nd)(l:Q2):Nd×Q2:=match rR n l with|(a,l)=>r2 n (f a) l
def r0(f:Nat->Nd)(l:Q2):Nd×Q2:=match rN l with|(a,l)=>(f a,l)
def xw(g:Nat->List Nat->Nd×Q2)(l:Q2):Nd×Q2:=match rN l with|(a,l)=>g a l
def rLs(n:Nat)(f:Q2->Nd)(l:Q2):Nd×Q2:=match Oa n l with|(a,l)=>(f a,l)
def rNd(cI:Nat->Int)(cT:Nat->List UInt8)(n t:Nat)(l:Q2):Nd×Q2:=
 if t=4 then(xw λo=>r2 n (.bin (rO o))) l else
 if t=5 then(xw λk=>r0 λa=>.ci (rK k) (cI a)) l else
 if t=6 then(xw λo=>r1 n (.cell o)) l else
 if t=7 then(xw λf l=>match Oa n l with|(a,l)=>r0 (λj=>.call f a j) l) l else
 if t=8 then(r0 λa=>.cs (cT a)) l else
 if t=9 then rLs n .mk l else
 if t=10 then rLs n .ml l else
 if t=11 then(r0 λb=>.cb (Nat.beq b 1)) l else
 if t=12 then r1 n .len l else
 if t=13 then(xw λk=>r1 n (.conv (rK k))) l else
 if t=14 then r1 n .slen l else
 if t=15 then(xw λs=>r2 n (.at s)) l else
 if t=16 then r3 n .H7 l else
 if t=17 then r1 n (.un .not) l else
 if t=18 then(xw λs=>xw λz=>r2 n (.app s z)) l else
 if t=19 then r2 n .H6 l else
 if t=20 then(xw λo l=>match Oa 0 l with|(d,l)=>r2 n (.F8 (rO o) d) l) l else
 if t=21 then r2 n .idx l else
 if t=22 then r1 n .str l else
 if t=23 then r1 n .bytes l else
 if t=24 then(xw λs=>xw λz=>r3 n (.rep s z)) l else
 if t=25 then r3 n .He l else
 if t=26 then(xw λs=>r3 n (.EH s)) l else
 if t=27 then(xw λs=>xw λo l=>match rR n l with|(a,l)=>match rR n l with|(b,l)=>rLs n (.upd s o a b) l) l else
 if t=28 then r2 n (.mm false) l else
 if t=29 then r2 n (.mm true) l else
 if t=30 then r3 n .Dc l else
 if t=31 then r2 n .Hf l else
 if t=32 then r1 n (.un .neg) l else
 if t=33 then r2 n .Bd l else
 if t=37 then r1 n (.un .xor) l else
 if t=34 then r2 n .same l else
 if t=35 then r1 n .HY l else
 (xw λo=>r2 n (.F7 (rO o))) l
def rT(cI:Nat->Int)(cT:Nat->List UInt8)(h:Tree):Nat->Nat->List Nat->Tree×Q2
 |0,_,l=>(.dead,l)
 |_,_,[]=>(.dead,[])
 |f+1,n,t::l=>match t with
  |0=>(h,l)
  |1=>match rR n l with|(a,l)=>match rT cI cT h f n l with|(x,l)=>match rT cI cT h f n l with|(y,l)=>(.ite a x y,l)
  |2=>match Oa n l with|(a,l)=>(.ret a,l)
  |3=>match rN l with|(g,l)=>match Oa n l with|(a,l)=>(.tail g a,l)
  |38=>(.dead,l)
  |_=>match rNd cI cT n t l with|(d,l)=>match rT cI cT h f (n+1) l with|(x,l)=>(.step d x,l)
def rS(l:Q2):WK×Q2:=match Oa 0 l with|(a,l)=>(a.map λk=>match k with
 |0=>.sc
 |k+1=>.ag (k+1),l)
def rP(cI:Nat->Int)(cT:Nat->List UInt8)(h:Tree):Q2->aF
 |0::l=>match rS l with|(a,l)=>match rS l with|(b,l)=>.fn a b (rT cI cT h 2000 a.length l).1
 |_::l=>match rN l with|(n,l)=>.tree n (rT cI cT h 2000 n l).1
 |[]=>.tree 0 .dead
def gT:W8->Nat->aF
 |a::_,0=>a
 |_::l,n+1=>gT l n
 |[],_=>.tree 0 .dead
noncomputable section
variable{P:Program}
def BL(P:Program)(c:Code)(Q:Exit->Act->World->Prop)(a:Act)(w:World):Prop:=∀b k d,∃e a' g,Q e a' g/\Arrives P (lone (b.at a (.code c::.inLoop c::k)) d w) b k d e a' g
def BL.step{c:Code}{Q:Exit->Act->World->Prop}{a:Act}{w:World}(h:c.wp P (Exit.then (BL P c Q) Q) a w):BL P c Q a w:=by
 intro b k o;obtain⟨e,j,m,i,d⟩:=h b (.inLoop c::k) o;cases e with
 |normal=>obtain⟨p,q,s,n,g⟩:=i b k o;exact⟨p,q,s,n,.of_steps (Steps.trans d (.one step_inLoop)) g⟩
 |exit id=>exact⟨_,j,m,i,.pass (x:=.inLoop c) rfl (λ_ _=>.inl (by simp)) d⟩
 |goto l=>exact⟨_,j,m,i,.pass (x:=.inLoop c) rfl (λ_ _=>.inl (by simp)) d⟩
 |ret=>exact⟨_,j,m,i,.pass (x:=.inLoop c) rfl (λ_ _=>.inl (by simp)) d⟩
 |panic t=>exact⟨_,j,m,i,.pass (x:=.inLoop c) rfl (λ_ _=>.inl (by simp)) d⟩
 |outgrown=>exact⟨_,j,m,i,.pass (x:=.inLoop c) rfl (λ_ _=>.inl (by simp)) d⟩
def BL.loop{c:Code}{Q:Exit->Act->World->Prop}{a:Act}{w:World}(h:BL P c Q a w):(Code.loop c).wp P Q a w:=by intro b k g;obtain⟨e,a',i,j,d⟩:=h b k g;exact⟨e,a',i,j,.of_steps (.one step_loop) d⟩
section
variable[aH]
def AT(P:Program)(c:Code)(a:bG)(J:aA)(Q:fG->bG->aA->Prop):Prop:=
 ∀w0 d F w A K,kP P w0 d F J w->J.lock=0->TR P F a A->(∀e a' J' g h i,Q e a' J'->kP P w0 d g J' i->J'.lock=0->TR P g a' h->K e.toExit h i)->c.wp P K A w
variable{c b x y z:Code}{a a' a2:bG}{J J' J2:aA}{Q R:fG->bG->aA->Prop}
def AT.mono(h:AT P c a J R)(d:∀e a' J',R e a' J'->Q e a' J'):AT P c a J Q:=
 λw0 g F w A K i j k l=>h w0 g F w A K i j k λe a' J' m n o p=>l e a' J' m n o (d _ _ _ p)
def acV(P:Program)(y:Code)(Q:fG->bG->aA->Prop):fG->bG->aA->Prop
 |.normal,a,J=>AT P y a J Q
 |e,a,J=>Q e a J
def AT.seq(h:AT P x a J (acV P y Q)):AT P (.seq x y) a J Q:=by
 intro w0 o F w A K p q s j;refine wp_seq ?_;refine h w0 o F w A _ p q s ?_;intro e a' J' k l m n d g i;cases e with
 |normal=>exact n w0 o k m l K d g i j
 |exit id=>exact j _ a' J' k l m n d g i
 |ret=>exact j _ a' J' k l m n d g i
def AT.cond{o:Operand}{t:Bool}(e:dB (a.eval o)=some (.b t))(h:AT P (if t then y else z) a J Q):AT P (.cond o y z) a J Q:=by intro w0 k F w A K g l i m;obtain⟨n,e,d⟩:=Jh e;have j:=d _ _ (Qi g.rel i o _ e);simp only[VR]at j;exact wp_cond j (h w0 k F w A K g l i m)
def IY(id:Nat)(Q:fG->bG->aA->Prop):fG->bG->aA->Prop
 |.exit d,a,J=>if d=id then Q .normal a J else Q (.exit d) a J
 |e,a,J=>Q e a J
def AT.block{id:Nat}(h:AT P b a J (IY id Q)):AT P (.block id b) a J Q:=by
 intro w0 p F w A K q s t k;refine wp_block ?_;refine h w0 p F w A _ q s t ?_;intro e a' J' l m n j d g i;cases e with
 |normal=>exact k .normal a' J' l m n j d g i
 |ret=>exact k .ret a' J' l m n j d g i
 |exit o=>
  simp only[IY]at j;simp only[fG.toExit,Exit.inBlock];split at j
  ·next e=>rw[aj e];exact k .normal a' J' l m n j d g i
  ·next e=>rw[ah e];exact k (.exit o) a' J' l m n j d g i
def DL(P:Program)(b:Code)(a:bG)(J:aA)(Q:fG->bG->aA->Prop):Prop:=
 ∀w0 d F w A K,kP P w0 d F J w->J.lock=0->TR P F a A->(∀e a' J' g h i,Q e a' J'->kP P w0 d g J' i->J'.lock=0->TR P g a' h->K e.toExit h i)->BL P b K A w
def DL.at(h:DL P b a J Q):AT P (.loop b) a J Q:=
 λw0 d F w A K e g i j=>(h w0 d F w A K e g i j).loop
def abb(P:Program)(b:Code)(Q:fG->bG->aA->Prop):fG->bG->aA->Prop
 |.normal,a,J=>DL P b a J Q
 |e,a,J=>Q e a J
def DL.step(h:AT P b a J (abb P b Q)):DL P b a J Q:=by
 intro w0 o F w A K p q s j;refine BL.step ?_;refine h w0 o F w A _ p q s ?_;intro e a' J' k l m n d g i;cases e with
 |normal=>exact n w0 o k m l K d g i j
 |exit id=>exact j _ a' J' k l m n d g i
 |ret=>exact j _ a' J' k l m n d g i
def AT.run{run:Code->bG->aA->Option (fG×bG×aA)}(k:Pg P run){e:fG}(h:run c a J=some (e,a',J'))(l:Q e a' J'):AT P c a J Q:=by intro w0 s F w A K i j m n;refine k c a J e a' J' h F w A K i.rel m ?_;intro o p q d g;exact n e a' J' o p q l (i.step j d) (d.lock.trans j) g
end
inductive AC where
 |plain (c:Code)
 |seq (x y:AC)
 |cond (o:Operand) (y z:AC)
 |block (id:Nat) (b:AC)
 |loop (k:Nat) (b:Code)
 |peel (x:AC) (k:Nat) (b:Code)
def AC.erase:AC->Code
 |.plain c=>c
 |.seq x y=>.seq x.erase y.erase
 |.cond o y z=>.cond o y.erase z.erase
 |.block id b=>.block id b.erase
 |.loop _ b=>.loop b
 |.peel _ _ b=>.loop b
def AC.Good:AC->Prop
 |.plain _=>True
 |.seq x y=>x.Good/\y.Good
 |.cond _ y z=>y.Good/\z.Good
 |.block _ b=>b.Good
 |.loop _ _=>True
 |.peel x _ b=>x.erase=b/\x.Good
def mJ(ps:Q2):Code->Nat->AC×Nat
 |.seq x y,n=>match mJ ps x n with
  |(a,d)=>match mJ ps y d with
   |(b,e)=>(.seq a b,e)
 |.cond o y z,n=>match mJ ps y n with
  |(a,d)=>match mJ ps z d with
   |(b,e)=>(.cond o a b,e)
 |.block id b,n=>match mJ ps b n with
  |(a,d)=>(.block id a,d)
 |.loop b,n=>if ps.contains (2*n+1)then(.plain (.loop b),n+1)else match mJ ps b (n+1)with
  |(x,d)=>if ps.contains (2*n)then(.peel x n b,d)else(.loop n b,n+1)
 |c,n=>(.plain c,n)
def oq(ps:Q2)(c:Code):AC:=(mJ ps c 0).1
def zI(ps:Q2):∀(c:Code)(n:Nat),(mJ ps c n).1.erase=c/\(mJ ps c n).1.Good
 |.seq x y,n=>by have h1:=zI ps x n;have d:=zI ps y (mJ ps x n).2;simp only[mJ,AC.erase,AC.Good];exact⟨by rw[h1.1,d.1],h1.2,d.2⟩
 |.cond o y z,n=>by have h1:=zI ps y n;have d:=zI ps z (mJ ps y n).2;simp only[mJ,AC.erase,AC.Good];exact⟨by rw[h1.1,d.1],h1.2,d.2⟩
 |.block id b,n=>by have h1:=zI ps b n;simp only[mJ,AC.erase,AC.Good];exact⟨by rw[h1.1],h1.2⟩
 |.loop b,n=>by
  have h1:=zI ps b (n+1);simp only[mJ];split
  ·exact⟨rfl,trivial⟩
  ·split
   ·exact⟨rfl,h1.1,h1.2⟩
   ·exact⟨rfl,trivial⟩
 |.skip,_|.region _ _ _,_|.rangeFunc _ _ _ _,_|.exit _,_|.scope _,_|.label _,_|.goto _,_|.ret,_|.refuse _,_=>⟨rfl,trivial⟩
def AC.ql(k:Nat)(b:Code):AC->Prop
 |.plain _=>False
 |.seq x y=>x.ql k b\/y.ql k b
 |.cond _ y z=>y.ql k b\/z.ql k b
 |.block _ x=>x.ql k b
 |.loop d e=>d=k/\e=b
 |.peel x d e=>(d=k/\e=b)\/x.ql k b
abbrev YD:=Nat->bG->aA->Option (fG×bG×aA)
def xR[gY](d:YD)(run:Code->bG->aA->Option (fG×bG×aA)):AC->bG->aA->Option (fG×bG×aA)
 |.plain c,a,J=>run c a J
 |.seq x y,a,J=>match xR d run x a J with
  |some (.normal,a',J')=>xR d run y a' J'
  |r=>r
 |.cond o y z,a,J=>match dB (a.eval o)with
  |some (.b t)=>if t then xR d run y a J else xR d run z a J
  |_=>none
 |.block id b,a,J=>match xR d run b a J with
  |some (.exit e,a',J')=>if e=id then some (.normal,a',J')else some (.exit e,a',J')
  |r=>r
 |.loop k _,a,J=>d k a J
 |.peel x k _,a,J=>match xR d run x a J with
  |some (.normal,a',J')=>d k a' J'
  |r=>r
def YT[aH]{L:YD}{run:Code->bG->aA->Option (fG×bG×aA)}(M:Pg P run):∀(n:AC),n.Good->(∀k b,n.ql k b->∀a J e a' J',L k a J=some (e,a',J')->∀Q:fG->bG->aA->Prop,Q e a' J'->DL P b a J Q)->
 ∀(a:bG)(J:aA)(e:fG)(a':bG)(J':aA),xR L run n a J=some (e,a',J')->∀Q:fG->bG->aA->Prop,Q e a' J'->AT P n.erase a J Q:=by
 intro n;induction n with
 |plain c=>intro i j a J e a' J' h Q d;exact AT.run M h d
 |loop k b=>intro i j a J e a' J' h Q d;exact(j k b ⟨rfl,rfl⟩ a J e a' J' h Q d).at
 |peel x k b p=>
  intro i j a J e a' J' h Q d;simp only[xR]at h;refine DL.at (DL.step ?_);obtain⟨rfl,i⟩:=i;split at h
  ·next q s u=>
   exact p i (λB D g=>j B D (.inr g)) a J _ q s u (abb P x.erase Q) (j k _ (.inl ⟨rfl,rfl⟩) q s e a' J' h Q d)
  ·next l=>
   refine p i (λB D g=>j B D (.inr g)) a J e a' J' h (abb P x.erase Q) ?_;cases e with
   |normal=>exact absurd h (by intro v;exact l _ _ v)
   |exit id=>exact d
   |ret=>exact d
 |seq x y A m=>
  intro i j a J e a' J' h Q d;simp only[xR]at h;split at h
  ·next q s u=>
   exact AT.seq (A i.1 (λk b g=>j k b (.inl g)) a J _ q s u (acV P y.erase Q) (m i.2 (λk b g=>j k b (.inr g)) q s e a' J' h Q d))
  ·next l=>
   refine AT.seq (A i.1 (λk b g=>j k b (.inl g)) a J e a' J' h (acV P y.erase Q) ?_);cases e with
   |normal=>exact absurd h (by intro v;exact l _ _ v)
   |exit id=>exact d
   |ret=>exact d
 |cond o y z m E=>
  intro i j a J e a' J' h Q d;simp only[xR]at h;split at h
  ·next t N=>
   refine AT.cond N ?_;cases t with
   |true=>exact m i.1 (λk b g=>j k b (.inl g)) a J e a' J' h Q d
   |false=>exact E i.2 (λk b g=>j k b (.inr g)) a J e a' J' h Q d
  ·cases h
 |block id b p=>
  intro i j a J e a' J' h Q d;simp only[xR]at h;split at h
  ·next H q s u=>
   split at h
   ·next I=>
    cases h;exact AT.block (p i (λk b g=>j k b g) a J _ _ _ u (IY id Q) (by simp only[IY];rw[aj I];exact d))
   ·next I=>
    cases h;exact AT.block (p i (λk b g=>j k b g) a J _ _ _ u (IY id Q) (by simp only[IY];rw[ah I];exact d))
  ·next l=>
   refine AT.block (p i (λk b g=>j k b g) a J e a' J' h (IY id Q) ?_);cases e with
   |normal=>exact d
   |exit H=>exact absurd h (by intro v;exact l _ _ _ v)
   |ret=>exact d
def DF:Q6->Value
 |[v]=>v
 |l=>.tuple ⟨l⟩
structure yP(tabs:Qt)(ro:Qf)(w:World):Prop where
 at':∀b o,ro b=some o->w.heap[b]? =some o
 tab:∀p∈tabs,∃cs elem fr,ro p.1=some (.cells cs elem fr)/\p.2.length<=cs.size/\YJ p.2 cs
structure IE(ro ro':Qf)(w w':World):Prop where
 kept:Kept w w'
 le:∀b o,ro b=some o->ro' b=some o
 new:∀b,ro' b≠none->ro b≠none\/w.heap.size<=b
 at':∀b o,ro' b=some o->w'.heap[b]? =some o
def yx:W6->List Value->List Value
 |none::st,v::vs=>v::yx st vs
 |none::_,[]=>[]
 |some g::st,vs=>.func (.func g) ⟨[]⟩ ⟨[]⟩::yx st vs
 |[],vs=>vs
def yw:W6->List AV->List AV
 |none::st,v::vs=>v::yw st vs
 |none::_,[]=>[]
 |some g::st,vs=>.fn g [] []::yw st vs
 |[],vs=>vs
def Dy:W6->List AV->Option Q3
 |[],l=>some l
 |none::st,a::l=>(Dy st l).map (a::·)
 |some g::st,.fn d [] []::l=>if d=g then Dy st l else none
 |_,_=>none
def amL(P:Program)(tabs:Qt)(f:FuncId)(st:W6)(gs e:Q1):Prop:=∀g w h,yP tabs g w->aS g gs h->lZ P f ⟨yx st h⟩ w λv j=>∃d,IE g d w j/\∃i,v=DF i/\aS d e i
section
variable[aH]
def X3{F:Env}:∀{st:W6}{l r:Q3}{vs:Q6},Dy st l=some r->aC F l vs->∃d,vs=yx st d/\aC F r d
 |[],l,r,vs,h,i=>by simp only[Dy,aY]at h;subst h;exact⟨vs,rfl,i⟩
 |none::st,[],r,vs,h,i=>by simp[Dy]at h
 |none::st,a::l,r,vs,h,i=>by simp only[Dy,bC]at h;obtain⟨u,h1,rfl⟩:=h;obtain⟨x,p,rfl,k,j⟩:=i;obtain⟨d,rfl,m⟩:=X3 h1 j;exact⟨x::d,rfl,aC.cons k m⟩
 |some g::st,[],r,vs,h,i=>by simp[Dy]at h
 |some g::st,a::l,r,vs,h,i=>by
  unfold Dy at h;split at h
  ·next e=>cases e
  ·next e _=>cases e
  ·next g0 q v A s t=>
   cases s;cases t;split at h
   ·next e=>
    subst e;obtain⟨x,p,rfl,k,j⟩:=i;obtain⟨d,rfl,m⟩:=X3 h j;simp only[VR]at k;obtain⟨B,D,rfl,n,o⟩:=k;simp only[aC]at n o;subst n;subst o;exact⟨d,rfl,m⟩
   ·cases h
  ·cases h
def Xe{F:Env}:∀{st:W6}{l:Q3}{vs:Q6},aC F l vs->aC F (yw st l) (yx st vs)
 |[],l,vs,d=>d
 |none::st,[],vs,d=>by simp only[aC]at d;subst d;simp[yw,yx,aC]
 |none::st,a::l,vs,d=>by obtain⟨x,xs,rfl,h,e⟩:=d;exact aC.cons h (Xe e)
 |some g::st,l,vs,d=>aC.cons (by simp only[VR];exact⟨[],[],rfl,by simp[aC],by simp[aC]⟩) (Xe d)
def SR.Xn{F:Env}{J:aA}{w:World}(h:SR P F J w):yP aH.tabs F.ro w:=⟨h.jl,h.tabs⟩
def St.ayi{F:Env}{J:aA}{w w':World}{ro':Qf}(h:SR P F J w)(k:IE F.ro ro' w w'):St P F J w ⟨F.pl,ro',F.gh⟩ J w':=by
 have d:(F:Env).le ⟨F.pl,ro',F.gh⟩:=⟨λ_ _ h=>h,k.le,λ_ h=>h⟩
 refine⟨d,⟨h.nS,h.dom,λid o m=>?_,h.kK,h.sep,k.at',λid o q j a2 l=>?_,λp n=>(h.tabs p n).mono d⟩,k.kept.size,λs g _=>k.kept.keep s g,λid o q h1 t u v=>.inr ⟨id,o,q,h1,t,u,v,rfl⟩,k.kept.os,k.kept.tape,k.kept.output,rfl,dD _,λ_ h=>.inl h,λb g=>?_⟩
 ·exact((h.live id o m).heap λq _ i=>k.kept.keep _ i.lt).mono d
 ·have i:=h.at j (show F id=some q from l);cases e:ro' q.bl with
  |none=>exact e
  |some A=>
   rcases k.new q.bl (by rw[e];simp)with h1|h1
   ·exact absurd (h.lV id o q j a2 l) h1
   ·have:=i.lt;omega
 ·rcases k.new b g with h1|h1
  ·exact .inl h1
  ·exact .inr (.inl h1)
end
@[reducible] def Tg(tabs:Qt)(gs:Q1)(ka:Nat):aH:={nodes:=[],dec:=[],ka:=ka,tabs:=tabs,I:=λ_ _=>none,val:=λn=>gs[n]?,sH:=by intro n d h;simp at h,CO:=by intro n b h;simp at h}
def qM{α:Type}:List (Nat×α)->Tr α
 |[]=>.nil
 |(k,v)::l=>(qM l).set k (some v)
def QZ{α:Type}:∀{l:List (Nat×α)}{k:Nat}{v:α},(qM l).get k=some v->(k,v)∈l
 |[],k,v,h=>by simp[qM]at h
 |(j,u)::l,k,v,h=>by
  rw[qM,Tr.vS]at h;split at h
  ·next e=>cases h;subst e;simp
  ·exact yK _ (QZ h)
structure iD where
 np:Nat
 n:Nat
 gn:Nat
 next:Nat
 slots:Wm
 objs:Xs
 ka:Nat:=0
 al:List QR:=[]
abbrev K0:=List (fG×iD)
def xC(tabs:Qt):Xs:=tabs.map λp=>(p.1,.cells p.2 0 false false)
def iD.act(s:iD):bG:=⟨qM s.slots,s.n,s.gn⟩
def iD.st(tabs:Qt)(s:iD):aA:=⟨qM (s.objs++xC tabs),s.next,0⟩
def TA(P:Program)(tabs:Qt)(s:iD)(gs:Q1)(w0:Base)(d:Qf)(A:Act)(w:World):Prop:=∃F,@kP (Tg tabs gs s.ka) P w0 d F (s.st tabs) w/\@TR (Tg tabs gs s.ka) P F s.act A
def dL{α:Type}(k:Nat):List (Nat×α)->Option α
 |[]=>none
 |p::l=>bif Nat.beq k p.1 then some p.2 else dL k l
def Vw{α:Type}{k:Nat}{v:α}:∀{l:List (Nat×α)},dL k l=some v->(k,v)∈l
 |[],h=>by simp[dL]at h
 |p::l,h=>by
  simp only[dL]at h;cases d:Nat.beq k p.1 with
  |true=>rw[d]at h;simp only[cond_true,aY]at h;rw[bK d,<-h];simp
  |false=>rw[d]at h;simp only[cond_false]at h;exact yK _ (Vw h)
def Dn(r:W7)(i:Nat)(x:QR):Bool:=
 match dL i r,x with
 |some (some a),some b=>Nat.beq a b
 |some none,none=>true
 |_,_=>false
section
variable[gY]
def NJ(m:Nat):Bool:=match gY.nodes[m]? with
 |some (.ml [])=>true
 |_=>false
def Vu(P:Program)(J:aA)(fz:Q2)(a:AV)(m:Nat):Bool:=
 match a with
 |.sv id n=>fz.contains id&&match J.get id with
  |some (.vec e _ _)=>Nat.beq e m&&xA 100 e n
  |_=>false
 |.sl id g len h=>fz.contains id&&match J.get id with
  |some (.cells c i true j)=>(match listOf P J i (.sl id g len h),sizeT P i with
   |some e,some d=>Nat.beq e m&&Nat.blt 0 d
   |_,_=>false)
  |_=>false
 |_=>false
def capEq:QR->Option Nat->Bool
 |none,none=>true
 |some a,some b=>Nat.beq a b
 |_,_=>false
mutual
def mV(P:Program)(G:Nat)(J:aA)(fz:Q2)(r:W7)(ps:Q2):AV->AV->Bool
 |.nd j,a=>match ps[j]? with
  |some m=>(match jg a with
   |some h=>Nat.beq m h
   |none=>false) ||Vu P J fz a m
  |none=>false
 |.sv i j,a=>match ps[j]? with
  |some m=>match a with
   |.sv id n=>Nat.blt G i&&Dn r i (some id)&&xA 100 m n
   |.gK=>Nat.blt G i&&Dn r i none&&NJ m
   |_=>false
  |none=>false
 |.p i off,a=>match a with
  |.p id d=>Nat.beq off d&&(if i<=G then Nat.beq i id else Dn r i (some id))
  |_=>false
 |.rx j off,a=>match a with
  |.rx m d=>Nat.beq off d&&(match ps[j]? with|some h=>Nat.beq m h|none=>false)
  |_=>false
 |.fn f fi cs,a=>match a with
  |.fn s o p=>Nat.beq f s&&C9 P G J fz r ps fi o&&C9 P G J fz r ps cs p
  |_=>false
 |.agg l,a=>match a with
  |.agg q=>C9 P G J fz r ps l q
  |_=>false
 |.fB l,a=>match a with
  |.fB q=>C9 P G J fz r ps l q
  |_=>false
 |.jq t x,a=>match a with
  |.jq u v=>Nat.beq t u&&mV P G J fz r ps x v
  |_=>false
 |.b x,a=>match a with|.b y=>(bif x then y else !y)|_=>false
 |.i k n,a=>match a with|.i A B=>Nat.beq (kc k) (kc A)&&JA n B|_=>false
 |.s x,a=>match a with|.s y=>Ce x y|_=>false
 |.jU,a=>match a with|.jU=>true|_=>false
 |.gK,a=>match a with|.gK=>true|_=>false
 |.zW,a=>match a with|.zW=>true|_=>false
 |.uP,a=>match a with|.uP=>true|_=>false
 |.qK,a=>match a with|.qK=>true|_=>false
 |.mp i,a=>match a with
  |.mp id=>Nat.blt G i&&Dn r i (some id)
  |_=>false
 |.sl i off len cap,a=>match a with
  |.sl id d e g=>Nat.blt G i&&Dn r i (some id)&&(Nat.beq off d&&(Nat.beq len e&&capEq cap g))
  |_=>false
 |_,_=>false
def C9(P:Program)(G:Nat)(J:aA)(fz:Q2)(r:W7)(ps:Q2):Q3->List AV->Bool
 |[],l=>match l with|[]=>true|_=>false
 |a::l,m=>match m with
  |b::d=>mV P G J fz r ps a b&&C9 P G J fz r ps l d
  |[]=>false
end
def mO(P:Program)(G:Nat)(J:aA)(fz:Q2)(r:W7)(ps:Q2)(i:Nat)(o:bI):Bool:=
 match dL i r with
 |some (some id)=>!(fz.contains id)&&match o with
  |.cells l e q g=>match J.get id with
   |some (.cells c h d p)=>Nat.beq e h&&(bif q then d else !d)&&(bif g then p else !p)&&C9 P G J fz r ps l c
   |_=>false
  |.vec j e f=>match J.get id with
   |some (.vec m h s)=>Nat.beq e h&&(!f ||s)&&(match ps[j]? with|some k=>Nat.beq m k|none=>false)
   |_=>false
  |.smap j t u=>match J.get id with
   |some (.smap m v n)=>ND t v&&RY u n&&(match ps[j]? with|some k=>Nat.beq m k|none=>false)
   |some (.map [])=>(match ps[j]? with|some m=>NJ m|none=>false)
   |_=>false
  |.map []=>(match J.get id with
   |some (.map [])=>true
   |_=>false)
  |_=>false
 |some none=>match o with
  |.vec j _ _=>(match ps[j]? with|some m=>NJ m|none=>false)
  |_=>false
 |none=>false
def WB(P:Program)(G:Nat)(J:aA)(fz:Q2)(r:W7)(ps:Q2)(t:Tr AV):Wm->Bool
 |[]=>true
 |p::l=>(match t.get p.1 with|some v=>mV P G J fz r ps p.2 v|none=>false)&&WB P G J fz r ps t l
def NI(P:Program)(G next:Nat)(J:aA)(fz:Q2)(r:W7)(ps:Q2):Xs->Bool
 |[]=>true
 |p::l=>Nat.blt G p.1&&Nat.blt p.1 next&&mO P G J fz r ps p.1 p.2&&NI P G next J fz r ps l
def Pn(r:W7):Nat->Nat->Bool
 |_,0=>true
 |i,n+1=>Dn r (i+1) (some (i+1))&&Pn r (i+1) n
def KD:W7->Bool
 |[]=>true
 |p::l=>(match p.2 with
  |some a=>l.all λq=>match q.2 with|some b=>!(Nat.beq a b)|none=>true
  |none=>true)&&KD l
def abd(P:Program)(s:iD)(a:bG)(J:aA)(fz:Q2)(r:W7)(ps:Q2):Bool:=
 Nat.beq s.ka gY.ka&&Nat.blt (s.gn+s.ka) s.next&&Pn r s.gn s.ka&&Nat.beq s.n a.n&&Nat.beq s.gn a.gn&&Nat.blt s.gn s.next&&KD r&&WB P s.gn J fz r ps a.t s.slots&&NI P s.gn s.next J fz r ps s.objs
end
def kills(J:aA):Q2->aA
 |[]=>J
 |id::l=>(kills J l).kill id
def EC{J:aA}{k:Nat}:∀{l:Q2},(kills J l).get k=if k∈l then none else J.get k
 |[]=>by simp[kills]
 |id::l=>by
  rw[kills,aA.zO,EC];by_cases h:k=id
  ·simp[h]
  ·simp[h]
def Nz{J:aA}:∀l:Q2,(kills J l).lock=J.lock
 |[]=>rfl
 |_::l=>Nz l
def aaY{J:aA}:∀l:Q2,(kills J l).next=J.next
 |[]=>rfl
 |_::l=>aaY l
section
variable[aH]
def Vt{w0:Base}{H:Qf}{F:Env}{J:aA}{w:World}(I:kP P w0 H F J w)(A:J.lock=0):∀fz:Q2,∃dF,(∀b o,F.ro b=some o->dF b=some o)/\kP P w0 H ⟨F.pl,dF,F.gh⟩ (kills J fz) w/\
 (∀id∈fz,∀o q,J.get id=some o->o.own=true->F id=some q->dF q.bl=w.heap[q.bl]?)
 |[]=>⟨F.ro,λ_ _ h=>h,I,by simp⟩
 |id::fz=>by
  obtain⟨dF,h1,l,B⟩:=Vt I A fz;by_cases L:∃o q,(kills J fz).get id=some o/\o.own=true/\F id=some q
  ·obtain⟨o,q,O,p,M⟩:=L;have D:=St.freeze l.rel O p (by rw[Nz,A];exact tJ _) (show(⟨F.pl,dF,F.gh⟩:Env) id=some q from M);have E:=l.step (by rw[Nz,A]) D;refine⟨Hu dF w q.bl,λb o V=>Xl l.rel.jl q.bl b o (h1 b o V),E,?_⟩;intro i m s n j d g;show(if n.bl=q.bl then w.heap[q.bl]? else dF n.bl)=_
   split
   ·next e=>rw[e]
   ·next e=>
    rcases bH.1 m with rfl|m
    ·rw[M]at g;cases g;exact absurd rfl e
    ·exact B i m s n j d g
  ·refine⟨dF,h1,⟨l.rel.sub (λk u t=>?_) (dD _),l.kept,λk u q v a2 W=>?_,l.vZ,l.rF,l.tK⟩,?_⟩
   ·rw[kills,aA.zO]at t;split at t;cases t;exact t
   ·rw[kills,aA.zO]at v;split at v;cases v;exact l.own k u q v a2 W
   ·intro i m s n j d g;rcases bH.1 m with rfl|m
    ·by_cases N:i∈fz
     ·exact B i N s n j d g
     ·exact absurd ⟨s,n,by rw[EC,ah N];exact j,d,g⟩ L
    ·exact B i m s n j d g
end
def Ia{val:Wa}:∀{ps:Q2}{gs:Q1},valsOf val ps=some gs->∀{j m:Nat},ps[j]? =some m->gs[j]? =val m/\∃g,val m=some g
 |[],gs,h,j,m,d=>by simp at d
 |p::ps,gs,h,j,m,d=>by
  simp only[valsOf]at h;split at h
  ·next g r h1 e=>
   cases h;cases j with
   |zero=>simp at d;subst d;exact⟨by simp[h1],g,h1⟩
   |succ j=>simpa using Ia e (j:=j) (by simpa using d)
  ·cases h
def Rt{r:W7}{i id:Nat}(h:Dn r i (some id)=true):dL i r=some (some id):=by
 unfold Dn at h;split at h
 ·next a b e d=>cases d;rw[e,bK h]
 ·next e d=>cases d
 ·cases h
def aAu{r:W7}{i:Nat}(h:Dn r i none=true):dL i r=some none:=by
 unfold Dn at h;split at h
 ·next a b d e=>cases e
 ·next d e=>exact d
 ·cases h
def BI(tabs:Qt)(i:Nat):Nat:=match dL i tabs with
 |some c=>c.length
 |none=>0
def uN(tabs:Qt)(G next:Nat)(r:W7)(F:Env)(dF:Qf):Env where
 pl:=λi=>if i<=G then some ⟨i,0,BI tabs i,0⟩else if i<next then match dL i r with
  |some (some id)=>F id
  |_=>none
  else none
 ro:=dF
 gh:=λi=>decide (G<i)&&decide (i<next)&&match dL i r with
  |some (some id)=>F.gh id
  |some none=>true
  |none=>false
structure xJ(T:aH)(P:Program)(tabs:Qt)(G next:Nat)(F:Env)(J:aA)(w:World)(fz:Q2)(r:W7)(ps:Q2)(gs:Q1)(dF:Qf):Prop where
 rel:@SR T P F J w
 vals:valsOf T.val ps=some gs
 vZ:∀b o,F.ro b=some o->dF b=some o
 uI:∀id∈fz,∀o q,J.get id=some o->o.own=true->F id=some q->dF q.bl=w.heap[q.bl]?
 gn:G=P.globals.size
 lt:G<next
variable{T:aH}{ka:Nat}{tabs:Qt}{G next:Nat}{F:Env}{J:aA}{w:World}{fz:Q2}{r:W7}{ps:Q2}{gs:Q1}{dF:Qf}
def G8{i id:Nat}(g:G<i)(d:i<next)(e:dL i r=some (some id)):(uN tabs G next r F dF) i=F id:=by
 show(if i<=G then some (⟨i,0,BI tabs i,0⟩:Place)else if i<next then _ else none)=_
 rw[ah (by omega),aj d,e]
def WA{i:Nat}(d:i<=G):(uN tabs G next r F dF) i=some ⟨i,0,BI tabs i,0⟩:=by
 show(if i<=G then some (⟨i,0,BI tabs i,0⟩:Place)else _)=_
 rw[aj d]
def aiT{i id:Nat}(d:G<i)(e:i<next)(g:dL i r=some (some id)):(uN tabs G next r F dF).gh i=F.gh id:=by
 show(decide (G<i)&&decide (i<next)&&_)=_
 rw[g];simp[d,e]
def aiU{i:Nat}(d:G<i)(e:i<next)(g:dL i r=some none):(uN tabs G next r F dF).gh i=true:=by
 show(decide (G<i)&&decide (i<next)&&_)=_
 rw[g];simp[d,e]
def ag8(C:xJ T P tabs G next F J w fz r ps gs dF){a:AV}{m:Nat}{v:Value}(h:@Vu T.togY P J fz a m=true)(I:@VR T F a v){g:GV}(Y:T.val m=some g):g.scalar=true/\GR dF g v:=by
 letI:=T
 unfold Vu at h;split at h
 ·next id n=>
  rw[aK]at h;obtain⟨h1,h⟩:=h;have t:id∈fz:=by simpa using h1
  split at h
  ·next W et f o=>
   rw[aK]at h;have e:=bK h.1;subst e;simp only[VR]at I;obtain⟨ys,X,I⟩:=I;rcases I with⟨q,j,u,rfl⟩|⟨Z,rfl,rfl⟩
   ·have A:=C.rel.at o j;obtain⟨xs,x1,x2,x3,x4,x5,x6,x7,x8⟩:=A.NK;have L:T.val W=some (.l xs):=x1;rw[Y]at L;cases L;have p:=zY 100 h.2 x1 X;refine⟨rfl,?_⟩;have aa:=Je x2;have:=GR.abu (ro':=dF) (off:=0) (n:=ys.length) (size:=q.es) (cap:=q.sz/q.es) (cs:=bQ xs) (gs:=xs) x8 C.vZ (C.uI id t _ q o rfl j) (by unfold takeN;rw[dN,<-p,lG (by omega),aj aa]) p u x4 (λx hx=>⟨x2 x hx,x7 x hx⟩) (λF' vs D l=>by unfold bQ at l⊢;exact(qj _ _).1 (aS.mono D _ _ ((qj _ _).2 l)))
    simpa using this
   ·rcases C.rel.live id _ o with⟨q,j,_⟩|⟨_,n2,ZV,f2,e2,ab⟩
    ·rw[(C.rel.kK id Z).1]at j;cases j
    ·cases e2;have VX:T.val W=some (.l []):=ab;rw[Y]at VX;cases VX;exact⟨rfl,by simp[GR]⟩
  ·cases h
 ·next id k len B=>
  rw[aK]at h;obtain⟨h1,h⟩:=h;have t:id∈fz:=by simpa using h1
  split at h
  ·next c et ai o=>
   split at h
   ·next W d i ac=>
    rw[aK]at h;have e:=bK h.1;subst e;have h0:0<d:=by have:=h.2;rwa [jB]at this
    simp only[VR]at I;obtain⟨q,j,u,rfl⟩:=I;unfold listOf at i;simp only[o,ac]at i;split at i
    ·next c' Jk ak Q9 ad ae e1 e2 ha=>
     cases e1;cases e2;split at i
     ·next hc=>
      rw[aK,oK,aK]at hc;split at i
      ·next cs E=>
       split at i
       ·next ns M=>
        have s:ae=false->d=1:=by
         intro e;subst e;rcases hc.2 with h1|h1
         ·simp at h1
         ·exact bK h1
        obtain⟨g',g1,g2⟩:=gU i;have N:T.val W=some g':=g1;rw[Y]at N;cases N;have A:=C.rel.at o j;obtain⟨ws,ag,fr,hb,rr⟩:=A;have O:=(uo E).2.1;have af:=rr.Ac E;obtain⟨gl,X,k2,k3,k4,H⟩:=Gs (F:=F) s len M af O;simp only[Nd.den,X,gZ,aY]at g2;subst g2;refine⟨rfl,?_⟩;have:=GR.abu (ro':=dF) (off:=k) (n:=len) (size:=d) (cap:=B.getD ((q.sz-k)/q.es)) (cs:=cs) (gs:=gl) (C.rel.at o j) C.vZ (C.uI id t _ q o rfl j) E k2 u h0 H (λF' vs D l=>by obtain⟨al,V,am,V3,_⟩:=Gs (F:=F) s len M l O;rw[X]at V;cases V;unfold bQ at V3⊢;exact(qj _ _).1 (aS.mono D _ _ ((qj _ _).2 V3)))
        exact this
       ·cases i
      ·cases i
     ·cases i
    ·cases i
   ·cases h
  ·cases h
 ·cases h
def anY:∀{a b:QR},capEq a b=true->a=b
 |none,none,_=>rfl
 |some _,some _,h=>uf some (bK h)
 |none,some _,h=>by cases h
 |some _,none,h=>by cases h
mutual
def abe(C:xJ T P tabs G next F J w fz r ps gs dF):∀(p a:AV)(v:Value),p.under next=true->@mV T.togY P G J fz r ps p a=true->@VR T F a v->@VR (Tg tabs gs ka) (uN tabs G next r F dF) p v
 |.nd j,a,v,o,h,d=>by
  letI:=T
  simp only[mV]at h;split at h
  ·next m X=>
   obtain⟨E,g,u⟩:=Ia C.vals X;simp only[VR];refine⟨g,by show gs[j]? =_;rw[E,u],?_⟩;rw[oK]at h;rcases h with h|h
   ·split at h
    ·next m' aa=>
     have e:=bK h;subst e;obtain⟨g',s,I,k3⟩:=ng aa d;have A:T.val m=some g':=s;rw[u]at A;cases A;exact⟨I,GR.mono C.vZ _ _ k3⟩
    ·cases h
   ·exact ag8 C h d u
  ·cases h
 |.sv i j,a,v,o,h,d=>by
  letI:=T
  simp only[AV.under,jB]at o;simp only[mV]at h;split at h
  ·next m X=>
   obtain⟨E,g,u⟩:=Ia C.vals X;split at h
   ·next id n=>
    rw[aK,aK,jB]at h;obtain⟨⟨L,V⟩,H⟩:=h;have hr:=Rt V;simp only[VR]at d⊢;obtain⟨xs,s,d⟩:=d;have hx:∃W,g=.l W/\W.length=xs.length:=by obtain⟨W,rfl⟩:=aDr 100 H u s;exact⟨W,rfl,zY 100 H u s⟩
    obtain⟨W,rfl,B⟩:=hx;refine⟨W,by show gs[j]? =_;rw[E,u],?_⟩;rcases d with⟨q,M,D,rfl⟩|⟨ab,rfl,rfl⟩
    ·exact .inl ⟨q,by rw[G8 L o hr];exact M,by rw[B];exact D,by rw[B]⟩
    ·exact .inr ⟨by rw[aiT L o hr];exact ab,jH (by simpa using B),rfl⟩
   ·rw[aK,aK,jB]at h;obtain⟨⟨L,V⟩,H⟩:=h;have hr:=aAu V;simp only[VR]at d⊢;unfold NJ at H;split at H
    ·next hn=>
     obtain⟨g',s,I⟩:=T.sH m _ hn (by simp);rw[u]at s;cases s;simp only[Nd.den,valsOf,gZ,aY]at I;subst I;exact⟨[],by show gs[j]? =_;rw[E,u],.inr ⟨aiU L o hr,rfl,d⟩⟩
    ·cases H
   ·cases h
  ·cases h
 |.p i Y,a,v,o,h,d=>by
  letI:=T
  simp only[AV.under,jB]at o;simp only[mV]at h;split at h
  ·next id N=>
   rw[aK]at h;have e:=bK h.1;subst e;simp only[VR]at d⊢;obtain⟨q,M,rfl⟩:=d;split at h
   ·next D=>
    have e:=bK h.2;subst e;obtain⟨sz,es,hg⟩:=C.rel.nS i (by rw[<-C.gn];exact D);rw[M]at hg;cases hg;exact⟨_,WA D,rfl⟩
   ·next D=>exact⟨q,by rw[G8 (by omega) o (Rt h.2)];exact M,rfl⟩
  ·cases h
 |.rx j Y,a,v,o,h,d=>by
  letI:=T
  simp only[mV]at h;split at h
  ·next m N=>
   rw[aK]at h;have e:=bK h.1;subst e;split at h
   ·next m' X=>
    have e:=bK h.2;subst e;obtain⟨E,g,u⟩:=Ia C.vals X;simp only[VR]at d⊢;obtain⟨g',bl,base,cs,Z,fr,x,s,I,k3,k4,k5⟩:=d;have A:T.val m=some g':=s;rw[u]at A;cases A;exact⟨g,bl,base,cs,Z,fr,x,by show gs[j]? =_;rw[E,u],C.vZ _ _ I,GR.mono C.vZ _ _ k3,k4,k5⟩
   ·simp at h
  ·cases h
 |.fn f fi cs,a,v,o,h,d=>by
  letI:=T
  simp only[AV.under,aK]at o;simp only[mV]at h;split at h
  ·next f' ac ad=>
   rw[aK,aK]at h;obtain⟨⟨L,V⟩,H⟩:=h;have e:=bK L;subst e;simp only[VR]at d⊢;obtain⟨us,O,rfl,s,I⟩:=d;exact⟨us,O,rfl,G9 C fi ac us o.1 V s,G9 C cs ad O o.2 H I⟩
  ·cases h
 |.agg l,a,v,o,h,d=>by
  letI:=T
  simp only[AV.under]at o;simp only[mV]at h;split at h
  ·next l'=>simp only[VR]at d⊢;obtain⟨O,rfl,s⟩:=d;exact⟨O,rfl,G9 C l l' O o h s⟩
  ·cases h
 |.fB l,a,v,o,h,d=>by
  letI:=T
  simp only[AV.under]at o;simp only[mV]at h;split at h
  ·next l'=>simp only[VR]at d⊢;obtain⟨O,rfl,s⟩:=d;exact⟨O,rfl,G9 C l l' O o h s⟩
  ·cases h
 |.jq t x,a,v,o,h,d=>by
  letI:=T
  simp only[AV.under]at o;simp only[mV]at h;split at h
  ·next t' x'=>
   rw[aK]at h;have e:=bK h.1;subst e;simp only[VR]at d⊢;obtain⟨y,rfl,s⟩:=d;exact⟨y,rfl,abe C x x' y o h.2 s⟩
  ·cases h
 |.b x,a,v,o,h,d=>by
  letI:=T
  simp only[mV]at h;split at h
  ·next y=>have:=Uk.1 h;subst this;simp only[VR]at d⊢;exact d
  ·cases h
 |.i k n,a,v,o,h,d=>by
  letI:=T
  simp only[mV]at h;split at h
  ·next k' n'=>
   rw[aK]at h;have E:=V5 h.1;have u:=ah4 h.2;subst E;subst u;simp only[VR]at d⊢;exact d
  ·cases h
 |.s x,a,v,o,h,d=>by
  letI:=T
  simp only[mV]at h;split at h
  ·next y=>have:=Zb h;subst this;simp only[VR]at d⊢;exact d
  ·cases h
 |.jU,a,v,o,h,d=>by letI:=T;simp only[mV]at h;split at h;(simp only[VR]at d⊢;exact d);cases h
 |.gK,a,v,o,h,d=>by letI:=T;simp only[mV]at h;split at h;(simp only[VR]at d⊢;exact d);cases h
 |.zW,a,v,o,h,d=>by letI:=T;simp only[mV]at h;split at h;(simp only[VR]at d⊢;exact d);cases h
 |.uP,a,v,o,h,d=>by letI:=T;simp only[mV]at h;split at h;(simp only[VR]at d⊢;exact d);cases h
 |.qK,a,v,o,h,d=>by letI:=T;simp only[mV]at h;split at h;(simp only[VR]at d⊢;exact d);cases h
 |.sl i Y len ag,a,v,o,h,d=>by
  letI:=T
  simp only[AV.under,jB]at o;simp only[mV]at h;split at h
  ·next id N ae af=>
   simp only[aK,jB]at h;obtain⟨⟨L,V⟩,H,h4,h5⟩:=h;have E:=bK H;have u:=bK h4;have e3:=anY h5;subst E;subst u;subst e3;simp only[VR]at d⊢;obtain⟨q,M,s,rfl⟩:=d;exact⟨q,by rw[G8 L o (Rt V)];exact M,s,rfl⟩
  ·cases h
 |.mp i,a,v,o,h,d=>by
  letI:=T
  simp only[AV.under,jB]at o;simp only[mV]at h;split at h
  ·next id=>
   rw[aK,jB]at h;simp only[VR]at d⊢;obtain⟨q,M,rfl⟩:=d;exact⟨q,by rw[G8 h.1 o (Rt h.2)];exact M,rfl⟩
  ·cases h
 |.z _ _ _,_,_,_,h,_=>by simp[mV]at h
 |.ro _,_,_,_,h,_=>by simp[mV]at h
 |.rp _ _,_,_,_,h,_=>by simp[mV]at h
 |.pv _ _ _,_,_,_,h,_=>by simp[mV]at h
 |.pd _ _,_,_,_,h,_=>by simp[mV]at h
def G9(C:xJ T P tabs G next F J w fz r ps gs dF):∀(p a:Q3)(v:Q6),AV.qO next p=true->@C9 T.togY P G J fz r ps p a=true->@aC T F a v->@aC (Tg tabs gs ka) (uN tabs G next r F dF) p v
 |[],a,v,e,h,d=>by
  letI:=T
  simp only[C9]at h;split at h
  ·simp only[aC]at d⊢;exact d
  ·cases h
 |p::l,a,v,e,h,d=>by
  letI:=T
  simp only[AV.qO,aK]at e;simp only[C9]at h;split at h
  ·next b i=>
   rw[aK]at h;simp only[aC]at d⊢;obtain⟨x,g,rfl,j,k⟩:=d;exact⟨x,g,rfl,abe C p b x e.1 h.1 j,G9 C l i g e.2 h.2 k⟩
  ·cases h
end
def aiW{t:Tr AV}[gY]:∀{l:Wm},WB P G J fz r ps t l=true->∀k p,(k,p)∈l->∃v,t.get k=some v/\mV P G J fz r ps p v=true
 |[],_,k,p,hk=>by simp at hk
 |q::l,h,k,p,hk=>by
  simp only[WB,aK]at h;rcases bH.1 hk with e|hk
  ·subst e;have h1:=h.1;split at h1
   ·next v d=>exact⟨v,d,h1⟩
   ·cases h1
  ·exact aiW h.2 k p hk
def aiV[gY]:∀{l:Xs},NI P G next J fz r ps l=true->∀i o,(i,o)∈l->G<i/\i<next/\mO P G J fz r ps i o=true
 |[],_,i,o,hk=>by simp at hk
 |q::l,h,i,o,hk=>by
  simp only[NI,aK,jB]at h;rcases bH.1 hk with e|hk
  ·subst e;exact⟨h.1.1.1,h.1.1.2,h.1.2⟩
  ·exact aiV h.2 i o hk
def acH:∀{r:W7},KD r=true->∀i j a,dL i r=some (some a)->dL j r=some (some a)->i=j
 |[],_,i,j,a,h1,_=>by simp[dL]at h1
 |p::l,h,i,j,a,h1,d=>by
  simp only[KD,aK]at h;simp only[dL]at h1 d;cases e:Nat.beq i p.1<;>cases g:Nat.beq j p.1<;>rw[e]at h1<;>rw[g]at d<;>simp only[cond_true,cond_false,aY]at h1 d
  ·exact acH h.2 i j a h1 d
  ·have m:=Vw h1;have k:=h.1;rw[d]at k;have:=List.all_eq_true.1 k _ m;simp at this
  ·have m:=Vw d;have k:=h.1;rw[h1]at k;have:=List.all_eq_true.1 k _ m;simp at this
  ·rw[bK e,bK g]
def aw6(C:xJ T P tabs G next F J w fz r ps gs dF){i:Nat}{o:bI}(hG:G<i)(hn:i<next)(hb:Cc next o=true)(h:@mO T.togY P G J fz r ps i o=true):
 @Live (Tg tabs gs ka) P (uN tabs G next r F dF) w i o/\(∀id,dL i r=some (some id)->id∉fz/\∃o',J.get id=some o'/\o'.own=o.own):=by
 letI:=T
 unfold mO at h;split at h
 ·next id B=>
  rw[aK]at h;obtain⟨h1,h⟩:=h;have u:id∉fz:=by intro D;rw[ad8.2 D]at h1;simp at h1
  have v:(uN tabs G next r F dF) i=F id:=G8 hG hn B;split at h
  ·next l Z wo ae=>
   split at h
   ·next c Jk am Q9 p=>
    rw[aK,aK,aK]at h;obtain⟨⟨⟨h2,h3⟩,E⟩,h5⟩:=h;have s:=bK h2;have A:=Uk.1 h3;have e3:=Uk.1 E;subst s;subst A;subst e3;refine⟨?_,λH t=>by rw[B]at t;cases t;exact⟨u,_,p,rfl⟩⟩;obtain⟨q,I,cs,n,fr,af,L⟩:=C.rel.obj _ _ p rfl;refine .inl ⟨q,by rw[v];exact I,cs,n,fr,af,?_⟩;have aa:@aC T F c ((cs.toList.drop q.ba).take c.length):=by have al:=L.fits;have an:=L.le;refine aC.of (by simp;omega) λk a M=>?_;obtain⟨x,hx,hv⟩:=L.cell k a M;have ab:=(fM.1 M).1;exact⟨x,by rw[mg,aj ab,tC];simpa using hx,hv⟩
    have ac:=G9 (ka:=ka) C l c _ hb h5 aa;have V:l.length=c.length:=by have h6:=@aC.length (Tg tabs gs ka) _ _ _ ac;have h7:=aa.length;omega
    exact @uy.mk (Tg tabs gs ka) P (uN tabs G next r F dF) q l Z wo ae cs n fr L.fits (by rw[V];exact L.le) (λe=>by rw[V];exact L.shut e) (λk a M=>by obtain⟨x,hx,hv⟩:=@aC.at (Tg tabs gs ka) _ _ _ ac k a M;have ab:=(fM.1 M).1;rw[mg,aj (by omega),tC]at hx;exact⟨x,by simpa using hx,hv⟩) L.free L.whole L.room
   ·cases h
  ·next j Z f=>
   split at h
   ·next m Jk f' p=>
    rw[aK,aK]at h;obtain⟨⟨h2,h3⟩,E⟩:=h;have s:=bK h2;subst s;refine⟨?_,λH t=>by rw[B]at t;cases t;exact⟨u,_,p,rfl⟩⟩;split at E
    ·next m' D=>
     have e:=bK E;subst e;obtain⟨s,g,A⟩:=Ia C.vals D;rcases C.rel.live id _ p with⟨q,I,ag⟩|⟨ai,n2,ZV,f2,e3,ak⟩
     ·obtain⟨xs,cs,n,fr,ys,N,O,k3,k4,k5,k6,k7,k8,k9⟩:=ag;have W:T.val m=some (.l xs):=N;refine .inl ⟨q,by rw[v];exact I,xs,cs,n,fr,ys,by show gs[j]? =_;rw[s,W],O,aS.mono C.vZ _ _ k3,k4,k5,k6,@uy.mk (Tg tabs gs ka) P (uN tabs G next r F dF) q [] Z true true cs n fr k7.fits k7.le k7.shut (λk a M=>by simp at M) k7.free k7.whole k7.room,k8,λe=>k9 ?_⟩;rw[e]at h3;simpa using h3
     ·cases e3;have VX:T.val m=some (.l []):=ak;exact .inr ⟨by rw[aiT hG hn B];exact ai,j,Z,f,rfl,by show gs[j]? =_;rw[s,VX]⟩
    ·simp at E
   ·cases h
  ·next j kk sz=>
   split at h
   ·next m ED ao p=>
    rw[aK,aK]at h;obtain⟨⟨h2,h3⟩,E⟩:=h;have s:=Wh h2;have A:=adh h3;subst s;subst A;refine⟨?_,λH t=>by rw[B]at t;cases t;exact⟨u,_,p,rfl⟩⟩;split at E
    ·next m' D=>
     have e:=bK E;subst e;obtain⟨s,g,A⟩:=Ia C.vals D;obtain⟨q,I,xs,ms,d,N,O,k3⟩:=C.rel.obj _ _ p rfl;have W:T.val m=some (.l xs):=N;exact .inl ⟨q,by rw[v];exact I,xs,ms,d,by show gs[j]? =_;rw[s,W],O,k3.mono C.vZ⟩
    ·simp at E
   ·next p=>
    refine⟨?_,λH t=>by rw[B]at t;cases t;exact⟨u,_,p,rfl⟩⟩;split at h
    ·next m D=>
     obtain⟨s,g,A⟩:=Ia C.vals D;unfold NJ at h;split at h
     ·next X=>
      obtain⟨g',N,O⟩:=T.sH m _ X (by simp);rw[A]at N;cases N;simp only[Nd.den,valsOf,gZ,aY]at O;subst O;obtain⟨q,I,ms,d,hb,Y,_⟩:=C.rel.obj _ _ p rfl;refine .inl ⟨q,by rw[v];exact I,[],ms,d,by show gs[j]? =_;rw[s,A],hb,?_⟩;simp only[uz];have:ms.size=0:=by simpa using Y
      simpa using adL this
     ·cases h
    ·simp at h
   ·cases h
  ·split at h
   ·next p=>
    refine⟨?_,λH t=>by rw[B]at t;cases t;exact⟨u,_,p,rfl⟩⟩;obtain⟨q,I,ms,d,hb,Y,_⟩:=C.rel.obj _ _ p rfl;exact .inl ⟨q,by rw[v];exact I,ms,d,hb,Y,λk e M=>by simp at M⟩
   ·cases h
  ·cases h
 ·next B=>
  refine⟨?_,λid ad=>by rw[B]at ad;cases ad⟩;split at h
  ·next j Z f=>
   split at h
   ·next m D=>
    obtain⟨s,g,A⟩:=Ia C.vals D;unfold NJ at h;split at h
    ·next X=>
     obtain⟨g',N,O⟩:=T.sH m _ X (by simp);rw[A]at N;cases N;simp only[Nd.den,valsOf,gZ,aY]at O;subst O;exact .inr ⟨aiU hG hn B,j,Z,f,rfl,by show gs[j]? =_;rw[s,A]⟩
    ·cases h
   ·cases h
  ·cases h
 ·cases h
end
noncomputable section
variable{P:Program}
variable{T:aH}{tabs:Qt}{G next:Nat}{F:Env}{J:aA}{w:World}{fz:Q2}{r:W7}{ps:Q2}{gs:Q1}{dF:Qf}
def F6(n:Nat):Wm->Bool
 |[]=>true
 |p::l=>p.2.under n&&F6 n l
def ae5{n:Nat}:∀{l:Wm},F6 n l=true->∀k p,(k,p)∈l->p.under n=true
 |[],_,k,p,h=>by simp at h
 |q::l,h,k,p,hk=>by
  simp only[F6,aK]at h;rcases bH.1 hk with e|hk
  ·subst e;exact h.1
  ·exact ae5 h.2 k p hk
def iD.ok(s:iD):Bool:=Nat.blt s.gn s.next&&F6 s.next s.slots&&s.objs.all λp=>Cc s.next p.2
structure wK(tabs:Qt)(G:Nat):Prop where
 low:∀p∈tabs,p.1<=G
 one:∀p∈tabs,dL p.1 tabs=some p.2
def aEZ(T:aH){F:Env}{a:AV}{v:Value}(h:a.toVal 4=some v):@VR T F a v:=@alX T F 4 a v h
def abh{ka:Nat}{s:iD}(Z:T.tabs=tabs)(v:wK tabs P.globals.size)(Jw:s.objs.all (λp=>Cc s.next p.2)=true)(h3:s.gn<s.next)(aa:s.gn=P.globals.size)
 (C:xJ T P tabs s.gn s.next F J w fz r ps gs dF) (f1:∀b o,dF b=some o->w.heap[b]? =some o) (f2:∀id o q,id∉fz->J.get id=some o->o.own=true->F id=some q->dF q.bl=none) (h4:KD r=true) (h6:@NI T.togY P s.gn s.next J fz r ps s.objs=true):
 @SR (Tg tabs gs ka) P (uN tabs s.gn s.next r F dF) (s.st tabs) w/\(∀i o q,(s.st tabs).get i=some o->o.own=true->(uN tabs s.gn s.next r F dF) i=some q->∃id o',dL i r=some (some id)/\id∉fz/\J.get id=some o'/\o'.own=true/\F id=some q):=by
 letI:=T
 have obj:∀i o,(s.st tabs).get i=some o->(s.gn<i/\i<s.next/\@Live (Tg tabs gs ka) P (uN tabs s.gn s.next r F dF) w i o/\(∀id,dL i r=some (some id)->id∉fz/\∃o',J.get id=some o'/\o'.own=o.own))\/
  (i<=s.gn/\∃c,o=.cells c 0 false false/\(i,c)∈tabs):=by
  intro i o hi;have d:=QZ hi;rcases jJ.1 d with d|d
  ·obtain⟨O,E,g3⟩:=aiV h6 i o d;have hb:=List.all_eq_true.1 Jw _ d;obtain⟨H,g5⟩:=aw6 C O E hb g3;exact .inl ⟨O,E,H,g5⟩
  ·obtain⟨p,V,e⟩:=rM.1 d;cases e;exact .inr ⟨by rw[aa];exact v.low p V,p.2,rfl,V⟩
 have own:∀i o q,(s.st tabs).get i=some o->o.own=true->(uN tabs s.gn s.next r F dF) i=some q->∃id o',dL i r=some (some id)/\id∉fz/\J.get id=some o'/\o'.own=true/\F id=some q:=by
  intro i o q hi ho hq;rcases obj i o hi with⟨O,E,_,H⟩|⟨_,c,rfl,_⟩
  ·have j:(if i<=s.gn then some ⟨i,0,BI tabs i,0⟩else if i<s.next then(match dL i r with|some (some id)=>F id|_=>none)else none)=some q:=hq;rw[ah (by omega),aj E]at j;split at j
   ·next id m=>
    obtain⟨t,o',n,A⟩:=H id m;exact⟨id,o',m,t,n,A.trans ho,j⟩
   ·cases j
  ·cases ho
 have ab:∀p∈tabs,@FU (uN tabs s.gn s.next r F dF) p.1 p.2:=by intro p V;obtain⟨I,l,L,t,n⟩:=C.rel.tabs p (by rw[Z];exact V);exact⟨I,l,L,C.vZ _ _ t,n⟩
 refine⟨@SR.mk (Tg tabs gs ka) P _ _ w ?_ ?_ ?_ ?_ ?_ ?_ ?_ ?_,own⟩
 ·intro g hg;exact⟨_,_,WA (by omega)⟩
 ·intro i q hq;have j:(if i<=s.gn then some ⟨i,0,BI tabs i,0⟩else if i<s.next then(match dL i r with|some (some id)=>F id|_=>none)else none)=some q:=hq;show i<s.next
  split at j
  ·omega
  ·split at j
   ·next h=>exact h
   ·cases j
 ·intro i o hi;rcases obj i o hi with⟨_,_,g3,_⟩|⟨D,c,rfl,d⟩
  ·exact g3
  ·obtain⟨I,l,L,t,n,A⟩:=C.rel.tabs (i,c) (by rw[Z];exact d);have hb:=C.rel.jl _ _ t;have ac:BI tabs i=c.length:=by unfold BI;rw[v.one (i,c) d]
   refine .inl ⟨⟨i,0,BI tabs i,0⟩,WA D,I,l,L,hb,?_⟩;refine @uy.mk (Tg tabs gs ka) P _ _ c 0 false false I l L (by simp only at n⊢;omega) (by simp only;omega) (λ_=>by simp only;omega) (λk a hk=>?_) (λh=>by cases h) (λh=>absurd rfl h) (λh=>by cases h);obtain⟨x,hx,hv⟩:=A.1 k a hk;exact⟨x,by simpa using hx,@TB.vr (Tg tabs gs ka) _ _ _ hv⟩
 ·intro i hg;have M:(decide (s.gn<i)&&decide (i<s.next)&&(match dL i r with|some (some id)=>F.gh id|some none=>true|none=>false))=true:=hg;rw[aK,aK,decide_eq_true_iff,decide_eq_true_iff]at M;obtain⟨⟨t,n⟩,A⟩:=M;refine⟨?_,n⟩;show(if i<=s.gn then some ⟨i,0,BI tabs i,0⟩else if i<s.next then(match dL i r with|some (some id)=>F id|_=>none)else none)=none
  rw[ah (by omega),aj n];split at A
  ·next id m=>rw[m];exact(C.rel.kK id A).1
  ·next m=>rw[m]
  ·cases A
 ·intro i o B o' q q' a1 a2 a3 a4 a5 a6;obtain⟨id,u,b1,b2,W,X,Y⟩:=own i o q a1 a2 a5;rcases obj B o' a3 with⟨O,E,_,H⟩|⟨D,c,rfl,d⟩
  ·have j:(if B<=s.gn then some ⟨B,0,BI tabs B,0⟩else if B<s.next then(match dL B r with|some (some id)=>F id|_=>none)else none)=some q':=a6;rw[ah (by omega),aj E]at j;split at j
   ·next N jZ=>
    obtain⟨t,u',n,A⟩:=H N jZ;exact C.rel.sep id u N u' q q' W X n (λe=>a4 (by subst e;exact acH h4 i B id b1 jZ)) Y j
   ·cases j
  ·intro e;rw[WA D]at a6;cases a6;obtain⟨I,l,L,t,_⟩:=C.rel.tabs (B,c) (by rw[Z];exact d);have:=C.rel.lV id u q W X Y;simp only at e;rw[e]at this;rw[t]at this;cases this
 ·exact f1
 ·intro i o q a1 a2 a3;obtain⟨id,u,b1,b2,W,X,Y⟩:=own i o q a1 a2 a3;exact f2 id u q b2 W X Y
 ·exact ab
def Y0{r:W7}:∀{n i:Nat},Pn r i n=true->∀j,i<j->j<=i+n->dL j r=some (some j)
 |0,i,_,j,h1,d=>by omega
 |n+1,i,h,j,h1,d=>by
  simp only[Pn,aK]at h;by_cases e:j=i+1
  ·subst e;exact Rt h.1
  ·exact Y0 h.2 j (by omega) (by omega)
def abg{w0:Base}{m:Qf}{a:bG}{A:Act}{s:iD}(X:T.tabs=tabs)(g:wK tabs P.globals.size)(d:s.ok=true)(h:@kP T P w0 m F J w)(Y:J.lock=0)(j:@TR T P F a A)(n:@abd T.togY P s a J fz r ps=true)(t:valsOf T.val ps=some gs):TA P tabs s gs w0 m A w:=by
 letI:=T
 unfold abd at n;simp only[aK,jB]at n;obtain⟨⟨⟨⟨⟨⟨⟨⟨B,k2⟩,Z⟩,h1⟩,h2⟩,O⟩,h4⟩,h5⟩,h6⟩:=n;have B:=bK B;have e1:=bK h1;have e2:=bK h2;unfold iD.ok at d;rw[aK,aK]at d;obtain⟨⟨_,D⟩,Jw⟩:=d;have e:s.gn=P.globals.size:=by rw[e2];exact j.gn
 obtain⟨dF,f1,l,f3⟩:=Vt h Y fz;have C:xJ T P tabs s.gn s.next F J w fz r ps gs dF:=⟨h.rel,t,f1,f3,e,O⟩
 obtain⟨hS,own⟩:=abh (ka:=s.ka) X g Jw O e C l.rel.jl (λid o q V E H I=>l.rel.lV id o q (by rw[EC,ah V];exact E) H I) h4 h6;refine⟨uN tabs s.gn s.next r F dF,?_,?_⟩
 ·refine @kP.mk (Tg tabs gs s.ka) P w0 m _ _ w hS h.kept ?_ ?_ ?_ ?_
  ·intro i o q L a2 M;obtain⟨id,u,b1,V,E,H,I⟩:=own i o q L a2 M;exact h.own id u q E H I
  ·exact l.vZ
  ·exact l.rF
  ·intro i q hi;obtain⟨L,a2,M⟩:=h.tK i q hi;have N:i<=P.globals.size+s.ka:=by rw[B];exact M
   refine⟨?_,a2,N⟩;rw[G8 (by omega) (by omega) (Y0 Z i (by omega) (by omega))];exact L
 ·refine @TR.mk (Tg tabs gs s.ka) P _ _ A ?_ ?_ j.none ?_
  ·exact e
  ·show A.tmps.size=s.n
   rw[e1];exact j.size
  ·intro k p W;obtain⟨v,v1,v2⟩:=aiW h5 k p (QZ W);obtain⟨x,hx,hv⟩:=j.slot k v v1;exact⟨x,hx,abe C p v x (ae5 D k p (QZ W)) v2 hv⟩
end
noncomputable section
variable{P:Program}
mutual
def AV.fE(f:Nat->Nat):AV->AV
 |.nd j=>.nd (f j)
 |.rx j off=>.rx (f j) off
 |.sv id j=>.sv id (f j)
 |.pv id j off=>.pv id (f j) off
 |.pd id j=>.pd id (f j)
 |.fn g fi cs=>.fn g (AV.rC f fi) (AV.rC f cs)
 |.jq t a=>.jq t (a.fE f)
 |.agg l=>.agg (AV.rC f l)
 |.fB l=>.fB (AV.rC f l)
 |.ro l=>.ro (AV.rC f l)
 |.rp a off=>.rp (a.fE f) off
 |a=>a
def AV.rC(f:Nat->Nat):Q3->List AV
 |[]=>[]
 |a::l=>a.fE f::AV.rC f l
end
def WC(f:Nat->Nat):∀l:Q3,AV.rC f l=l.map (AV.fE f)
 |[]=>rfl
 |a::l=>by simp[AV.rC,WC f l]
def bI.fE(f:Nat->Nat):bI->bI
 |.cells c et rw opn=>.cells (AV.rC f c) et rw opn
 |.iter s pos=>.iter s pos
 |.map es=>.map (es.map λe=>(e.1.fE f,e.2.fE f))
 |.iterM m=>.iterM m
 |.vec j et b=>.vec (f j) et b
 |.smap j d sz=>.smap (f j) d sz
 |.pmap es=>.pmap (es.map λe=>(e.1,e.2.fE f))
def bI.axc(f:Nat->Nat)(o:bI):(o.fE f).own=o.own:=by cases o<;>rfl
section
variable{S T:aH}{f:Nat->Nat}{F:Env}
mutual
def VR.fE(h:∀j g,S.val j=some g->T.val (f j)=some g):∀(a:AV)(v:Value),@VR S F a v->@VR T F (a.fE f) v
 |.b _,_,d=>by simpa only[VR,AV.fE]using d
 |.i _ _,_,d=>by simpa only[VR,AV.fE]using d
 |.s _,_,d=>by simpa only[VR,AV.fE]using d
 |.jU,_,d=>by simpa only[VR,AV.fE]using d
 |.p _ _,_,d=>by simpa only[VR,AV.fE]using d
 |.gK,_,d=>by simpa only[VR,AV.fE]using d
 |.sl _ _ _ _,_,d=>by simpa only[VR,AV.fE]using d
 |.qK,_,d=>by simpa only[VR,AV.fE]using d
 |.mp _,_,d=>by simpa only[VR,AV.fE]using d
 |.zW,_,d=>by simpa only[VR,AV.fE]using d
 |.fn _ fi cs,_,d=>by simp only[VR,AV.fE]at d⊢;obtain⟨B,vs,e,h1,m⟩:=d;exact⟨B,vs,e,aC.fE h fi B h1,aC.fE h cs vs m⟩
 |.uP,_,d=>by simpa only[VR,AV.fE]using d
 |.jq _ a,_,d=>by simp only[VR,AV.fE]at d⊢;obtain⟨x,e,h1⟩:=d;exact⟨x,e,VR.fE h a x h1⟩
 |.agg l,_,d=>by simp only[VR,AV.fE]at d⊢;obtain⟨x,e,h1⟩:=d;exact⟨x,e,aC.fE h l x h1⟩
 |.fB l,_,d=>by simp only[VR,AV.fE]at d⊢;obtain⟨x,e,h1⟩:=d;exact⟨x,e,aC.fE h l x h1⟩
 |.z _ _ _,_,d=>by simpa only[VR,AV.fE]using d
 |.ro l,_,d=>by
  simp only[VR,AV.fE]at d⊢;have D:(AV.rC f l).length=l.length:=by rw[WC];simp
  rcases d with⟨rfl,d⟩|⟨s,u,c,o,E,e,H,h1,m,t⟩
  ·exact .inl ⟨rfl,d⟩
  ·rw[D];exact .inr ⟨s,u,c,o,E,e,H,aC.fE h l o h1,m,λI=>t (by intro L;apply I;rw[L];rfl)⟩
 |.rp a _,_,d=>by simp only[VR,AV.fE]at d⊢;obtain⟨s,base,cs,n,A,x,h1,m,t⟩:=d;exact⟨s,base,cs,n,A,x,h1,VR.fE h a x m,t⟩
 |.nd _,_,d=>by simp only[VR,AV.fE]at d⊢;obtain⟨g,h1,m⟩:=d;exact⟨g,h _ _ h1,m⟩
 |.rx _ _,_,d=>by simp only[VR,AV.fE]at d⊢;obtain⟨g,s,base,cs,n,A,x,h1,m⟩:=d;exact⟨g,s,base,cs,n,A,x,h _ _ h1,m⟩
 |.sv _ _,_,d=>by simp only[VR,AV.fE]at d⊢;obtain⟨o,h1,m⟩:=d;exact⟨o,h _ _ h1,m⟩
 |.pv _ _ _,_,d=>by simp only[VR,AV.fE]at d⊢;obtain⟨q,k,i,h1,m,t⟩:=d;exact⟨q,k,i,h1,h _ _ m,t⟩
 |.pd _ _,_,d=>by simp only[VR,AV.fE]at d⊢;obtain⟨o,p,h1,m⟩:=d;exact⟨o,p,h _ _ h1,m⟩
def aC.fE(h:∀j g,S.val j=some g->T.val (f j)=some g):∀(l:Q3)(vs:Q6),@aC S F l vs->@aC T F (AV.rC f l) vs
 |[],_,d=>by simpa only[aC,AV.rC]using d
 |a::l,_,d=>by simp only[aC,AV.rC]at d⊢;obtain⟨x,xs,e,h1,i⟩:=d;exact⟨x,xs,e,VR.fE h a x h1,aC.fE h l xs i⟩
end
def OR.fE(h:∀j g,S.val j=some g->T.val (f j)=some g){q:Place}{w:World}{o:bI}(r:@OR S P F q w o):@OR T P F q w (o.fE f):=by
 cases o with
 |cells c A wo B=>
  obtain⟨n,i,p,t,⟨r1,r2,r3,r4,D,E,H⟩⟩:=r;have hl:(AV.rC f c).length=c.length:=by rw[WC];simp
  refine⟨n,i,p,t,@uy.mk T P F q _ A wo B n i p r1 (by rw[hl];exact r2) (λe=>by rw[hl];exact r3 e) (λk a l=>?_) D E H⟩;rw[WC,iY]at l;obtain⟨a0,u,rfl⟩:=bC.1 l;obtain⟨x,hx,hv⟩:=r4 k a0 u;exact⟨x,hx,VR.fE h a0 x hv⟩
 |iter s pos=>exact r
 |map es=>obtain⟨v,d,t,u,I⟩:=r;refine⟨v,d,t,by simpa using u,λk e l=>?_⟩;rw[iY]at l;obtain⟨L,M,rfl⟩:=bC.1 l;obtain⟨m,N,O,V⟩:=I k L M;exact⟨m,N,VR.fE h _ _ O,VR.fE h _ _ V⟩
 |iterM m=>cases m<;>exact r
 |smap j kk sz=>obtain⟨W,v,d,X,Y,Z⟩:=r;exact⟨W,v,d,h _ _ X,Y,Z⟩
 |pmap es=>obtain⟨hn,v,d,aa,t,hp,u,I⟩:=r;refine⟨by simpa[List.map_map,Function.comp_def]using hn,v,d,aa,t,hp,by simpa using u,λk e l=>?_⟩;rw[iY]at l;obtain⟨L,M,rfl⟩:=bC.1 l;obtain⟨m,N,O,V⟩:=I k L M;exact⟨m,N,O,VR.fE h _ _ V⟩
 |vec j A b=>obtain⟨W,n,i,p,ys,X,Y,Z,k4,k5,k6,⟨r1,r2,r3,r4,D,E,H⟩,k8⟩:=r;exact⟨W,n,i,p,ys,h _ _ X,Y,Z,k4,k5,k6,@uy.mk T P F q [] A true true n i p r1 r2 r3 (λk a l=>by simp at l) D E H,k8⟩
def Live.fE(h:∀j g,S.val j=some g->T.val (f j)=some g){w:World}{i:Nat}{o:bI}(r:@Live S P F w i o):@Live T P F w i (o.fE f):=by
 rcases r with⟨q,d,e⟩|⟨k,n,l,b,rfl,m⟩
 ·exact .inl ⟨q,d,OR.fE h e⟩
 ·exact .inr ⟨k,f n,l,b,rfl,h _ _ m⟩
end
def Kq{α:Type}:∀(l:List (Nat×α))(k:Nat),(qM l).get k=dL k l
 |[],k=>by simp[qM,dL]
 |(j,u)::l,k=>by
  rw[qM,Tr.vS,dL];cases d:Nat.beq k j with
  |true=>rw[aj (bK d)];rfl
  |false=>rw[ah (λe=>by rw[e,Nat.beq_refl]at d;cases d)];exact Kq l k
def aak{α β:Type}(g:α->β):∀(l:List (Nat×α))(m:List (Nat×β))(d:List (Nat×α))(k:Nat)(o:β),dL k (l.map (λp=>(p.1,g p.2))++m)=some o->(∃o0,dL k (l++d)=some o0/\o=g o0)\/(dL k m=some o/\(∀o',dL k d=some o'->dL k (l++d)=some o'))
 |[],m,d,k,o,h=>.inr ⟨h,λo' i=>i⟩
 |p::l,m,d,k,o,h=>by
  simp only[iP,bg,dL]at h⊢;cases e:Nat.beq k p.1 with
  |true=>rw[e]at h;simp only[cond_true,aY]at h⊢;exact .inl ⟨p.2,rfl,h.symm⟩
  |false=>rw[e]at h;simp only[cond_false]at h⊢;exact aak g l m d k o h
def iD.TW(s:iD)(f:Nat->Nat):bG:=⟨qM (s.slots.map λp=>(p.1,p.2.fE f)),s.n,s.gn⟩
def iD.Fh(tabs:Qt)(s:iD)(f:Nat->Nat):aA:=⟨qM (s.objs.map (λp=>(p.1,p.2.fE f))++xC tabs),s.next,0⟩
def ag6{T:aH}{tabs:Qt}{s:iD}{gs:Q1}{f:Nat->Nat}{w0:Base}{w:World}{M:Qf}{F:Env}(vU:T.tabs=tabs)(N:T.ka=s.ka)(hf:∀j g,gs[j]? =some g->T.val (f j)=some g)(h:@kP (Tg tabs gs s.ka) P w0 M F (s.st tabs) w):
 @kP T P w0 M F (s.Fh tabs f) w:=by
 obtain⟨⟨O,A,l,V,B,W,X,n⟩,v,D,Y,Z,aa⟩:=h;have ab:∀j g,(Tg tabs gs s.ka).val j=some g->T.val (f j)=some g:=hf;have obj:∀i o,(s.Fh tabs f).get i=some o->(∃o0,(s.st tabs).get i=some o0/\o=o0.fE f)\/(∃c,o=.cells c 0 false false/\(i,c)∈tabs/\(s.st tabs).get i=some o):=by
  intro i o hi;have ac:dL i (s.objs.map (λp=>(p.1,p.2.fE f))++xC tabs)=some o:=(Kq _ i).symm.trans hi;rcases aak (bI.fE f) s.objs (xC tabs) (xC tabs) i o ac with⟨o0,d,h2⟩|⟨d,h2⟩
  ·exact .inl ⟨o0,(Kq _ i).trans d,h2⟩
  ·have hm:=Vw d;obtain⟨p,hp,e⟩:=rM.1 hm;cases e;exact .inr ⟨p.2,rfl,hp,(Kq _ _).trans (h2 _ d)⟩
 have own:∀i o,(s.Fh tabs f).get i=some o->∃o0,(s.st tabs).get i=some o0/\o0.own=o.own:=by
  intro i o hi;rcases obj i o hi with⟨o0,d,rfl⟩|⟨c,rfl,_,d⟩
  ·exact⟨o0,d,(bI.axc f o0).symm⟩
  ·exact⟨_,d,rfl⟩
 refine @kP.mk T P w0 M _ _ w (@SR.mk T P _ _ w O A ?_ V ?_ W ?_ ?_) v ?_ Y Z (by rw[N];exact aa)
 ·intro i o hi;rcases obj i o hi with⟨o0,d,rfl⟩|⟨c,rfl,hm,d⟩
  ·exact Live.fE ab (l i o0 d)
  ·rcases l i _ d with⟨q,hq,cs,t,fr,hb,⟨r1,r2,r3,r4,r5,r6,r7⟩⟩|⟨_,_,_,_,e,_⟩
   rotate_left
   ·cases e
   obtain⟨ae,Jj,Jo,k1,k2,k3⟩:=n (i,c) hm;refine .inl ⟨q,hq,cs,t,fr,hb,@uy.mk T P _ _ c 0 false false cs t fr r1 r2 r3 (λk a hk=>?_) r5 r6 r7⟩;obtain⟨x,hx,hv⟩:=r4 k a hk;obtain⟨y,hy,m⟩:=k3.1 k a hk;rcases m with m|⟨_,_,_,_,rfl,rfl,_,_⟩
   ·have:x=y:=@alY (Tg tabs gs s.ka) _ 4 a y x m hv;subst this;exact⟨x,hx,aEZ T m⟩
   ·exact⟨x,hx,by simpa only[VR]using hv⟩
 ·intro i o i' o' q q' E a2 H a4 a5 a6;obtain⟨u,I,L⟩:=own i o E;obtain⟨u',ad,af⟩:=own i' o' H;exact B i u i' u' q q' I (L.trans a2) ad a4 a5 a6
 ·intro i o q E a2 H;obtain⟨u,I,L⟩:=own i o E;exact X i u q I (L.trans a2) H
 ·rw[vU];exact n
 ·intro i o q E a2 H;obtain⟨u,I,L⟩:=own i o E;exact D i u q I (L.trans a2) H
def acZ{T:aH}{tabs:Qt}{s:iD}{gs:Q1}{f:Nat->Nat}{w0:Base}{w:World}{t:Qf}{A:Act}(D:T.tabs=tabs)(e:T.ka=s.ka)(u:∀j g,gs[j]? =some g->T.val (f j)=some g)(h:TA P tabs s gs w0 t A w):
 ∃F,@kP T P w0 t F (s.Fh tabs f) w/\@TR T P F (s.TW f) A:=by
 obtain⟨F,E,⟨i,l,m,n⟩⟩:=h;have o:∀j g,(Tg tabs gs s.ka).val j=some g->T.val (f j)=some g:=u;refine⟨F,ag6 D e u E,@TR.mk T P _ _ A i l m ?_⟩
 ·intro k v H;have q:dL k (s.slots.map (λp=>(p.1,p.2.fE f))++[])=some v:=by rw[qp];exact(Kq _ k).symm.trans H
  rcases aak (AV.fE f) s.slots [] [] k v q with⟨B,d,rfl⟩|⟨d,_⟩
  ·rw[qp]at d;obtain⟨x,I,L⟩:=n k B ((Kq _ k).trans d);exact⟨x,I,VR.fE o B x L⟩
  ·simp[dL]at d
