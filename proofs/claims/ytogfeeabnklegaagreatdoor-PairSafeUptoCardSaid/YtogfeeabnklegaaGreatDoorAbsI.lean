/- Pure programs: trees of nodes; what they compute; how a check of all their ways serves all values. -/
import Derived.Test.YtogfeeabnklegaaGreatDoorAbsH
import Derived.Control
set_option linter.all false
namespace Go.aP
noncomputable section
inductive Tree where
 |step (nd:Nd) (t:Tree)
 |ite (n:Nat) (t e:Tree)
 |ret (l:Q2)
 |tail (f:Nat) (l:Q2)
 |dead
 deriving Inhabited
abbrev ji:=Nat->List GV->Option Q1
def Tree.den(I:ji):Tree->List GV->Option Q1
 |.step nd t,d=>match nd.den I (λn=>d[n]?)with
  |some g=>t.den I (d++[g])
  |none=>none
 |.ite n t e,d=>match d[n]? with
  |some (.b true)=>t.den I d
  |some (.b false)=>e.den I d
  |_=>none
 |.ret l,d=>valsOf (λn=>d[n]?) l
 |.tail f l,d=>match valsOf (λn=>d[n]?) l with
  |some gs=>I f gs
  |none=>none
 |.dead,_=>none
inductive Leaf where
 |ret (l:Q2)
 |tail (f:Nat) (l:Q2)
def Tree.chk(p:List Nd->List (Nat×Bool)->Leaf->Bool):Tree->List Nd->List (Nat×Bool)->Bool
 |.step nd t,d,g=>t.chk p (d++[nd]) g
 |.ite n t e,d,g=>t.chk p d ((n,true)::g)&&e.chk p d ((n,false)::g)
 |.ret l,d,g=>p d g (.ret l)
 |.tail f l,d,g=>p d g (.tail f l)
 |.dead,_,_=>true
def Uc{val d:Wb}(h:∀n g,val n=some g->d n=some g):∀{l:Q2}{gs:Q1},valsOf val l=some gs->valsOf d l=some gs
 |[],gs,e=>e
 |n::l,gs,e=>by
  simp only[valsOf]at e⊢;split at e
  ·next g r h1 i=>rw[h n g h1,Uc h i];exact e
  ·cases e
def Nd.agJ{I:ji}{val m:Wb}(h:∀n g,val n=some g->m n=some g){nd:Nd}{g:GV}(d:nd.den I val=some g):nd.den I m=some g:=by
 cases nd<;>simp only[Nd.den]at d⊢
 case ci=>exact d
 case cb=>exact d
 case cs=>exact d
 case arg=>exact d
 case mk l=>
  split at d
  ·next gs p=>rw[Uc h p];exact d
  ·cases d
 case ml l=>obtain⟨gs,p,e⟩:=bJ.1 d;rw[Uc h p];simpa using e
 case call f l j=>
  split at d
  ·next gs p=>rw[Uc h p];exact d
  ·cases d
 case upd size off a i vs=>
  split at d
  ·next t k j gs o q s=>rw[h _ _ o,h _ _ q,Uc h s];exact d
  ·cases d
 all_goals
  split at d
  all_goals first
   |(cases d;done)
   |(simp only[h _ _ (by assumption)];exact d)
   |(rename_i o q s;rw[h _ _ o,h _ _ q,h _ _ s];exact d)
   |(rename_i o q;rw[h _ _ o,h _ _ q];exact d)
   |(rename_i o;rw[h _ _ o];exact d)
structure ED(I:ji)(ns:List Nd)(ds:Wk)(env:Q1):Prop where
 len:ns.length=env.length
 node:∀(n:Nat) nd,ns[n]? =some nd->nd≠.arg->∃g,env[n]? =some g/\nd.den I (λk=>env[k]?)=some g
 dec:∀(n:Nat)(b:Bool),(n,b)∈ds->env[n]? =some (.b b)
def Wu{α:Type}{l:List α}{x a:α}{n:Nat}(h:l[n]? =some a):(l++[x])[n]? =some a:=by have:=(gu.1 h).1;rw[pG this];exact h
def Tree.NM{I:ji}{p:List Nd->List (Nat×Bool)->Leaf->Bool}:∀(t:Tree){q:List Nd}{u:Wk}{d j:Q1},t.chk p q u=true->ED I q u d->t.den I d=some j->
 ∃v A h L,p v A L=true/\ED I v A h/\(∃s,h=d++s)/\(match L with|.ret l=>valsOf (λn=>h[n]?) l=some j|.tail f l=>∃gs,valsOf (λn=>h[n]?) l=some gs/\I f gs=some j)
 |.step nd t,q,u,d,j,D,m,i=>by
  simp only[Tree.den]at i;split at i
  ·next g M=>
   have N:ED I (q++[nd]) u (d++[g]):=by
    refine⟨by simp[m.len],λn x E X=>?_,λn b o=>Wu (m.dec n b o)⟩;by_cases O:n<q.length
    ·rw[pG O]at E;obtain⟨Y,U,V⟩:=m.node n x E X;exact⟨Y,Wu U,Nd.agJ (λk a W=>Wu W) V⟩
    ·have H:n=q.length:=by have:=(gu.1 E).1;simp at this;omega
     subst H;simp at E;subst E;exact⟨g,by rw[m.len];simp,Nd.agJ (λk a W=>Wu W) M⟩
   obtain⟨v,A,h,L,U,V,⟨s,Z⟩,h4⟩:=Tree.NM t D N i;exact⟨v,A,h,L,U,V,⟨[g]++s,by rw[Z,List.append_assoc]⟩,h4⟩
  ·cases i
 |.ite n t e,q,u,d,j,D,m,i=>by
  simp only[Tree.chk,aO]at D;simp only[Tree.den]at i;split at i
  ·next E=>
   refine Tree.NM t D.1 ⟨m.len,m.node,λk b o=>?_⟩ i;rcases bI.1 o with o|o
   ·cases o;exact E
   ·exact m.dec k b o
  ·next E=>
   refine Tree.NM e D.2 ⟨m.len,m.node,λk b o=>?_⟩ i;rcases bI.1 o with o|o
   ·cases o;exact E
   ·exact m.dec k b o
  ·cases i
 |.ret l,q,u,d,j,D,m,i=>⟨q,u,d,.ret l,D,m,⟨[],aA⟩,i⟩
 |.tail f l,q,u,d,j,D,m,i=>by
  simp only[Tree.den]at i;split at i
  ·next gs M=>exact⟨q,u,d,.tail f l,D,m,⟨[],aA⟩,gs,M,i⟩
  ·cases i
 |.dead,_,_,_,_,_,_,i=>by simp[Tree.den]at i
inductive qH where
 |sc
 |ag (n:Nat)
abbrev WN:=List qH
def qE:WN->List GV->Bool
 |[],[]=>true
 |.sc::l,g::m=>g.scalar&&qE l m
 |.ag n::l,g::m=>!g.scalar&&Nat.beq g.cells.length n&&qE l m
 |_,_=>false
inductive aH where
 |tree (n:Nat) (t:Tree)
 |fn (zh Bc:WN) (t:Tree)
 |uY (f:Q1->Option Q1)
abbrev Wc:=List aH
def aH.den(I:ji):aH->List GV->Option Q1
 |.tree n t,gs=>if gs.length=n then t.den I gs else none
 |.fn e g t,gs=>if qE e gs=true then match t.den I gs with
  |some d=>if qE g d=true then some d else none
  |none=>none
  else none
 |.uY f,gs=>f gs
abbrev jl:=Nat->Option aH
def jl.run(TT:jl):Nat->ji
 |0,_,_=>none
 |n+1,k,gs=>match TT k with
  |some d=>d.den (jl.run TT n) gs
  |none=>none
def ji.le(I e:ji):Prop:=∀k gs d,I k gs=some d->e k gs=some d
def Nd.BO{I e:ji}(h:I.le e){val:Wb}{nd:Nd}{g:GV}(d:nd.den I val=some g):nd.den e val=some g:=by
 cases nd with
 |call f l j=>
  simp only[Nd.den]at d⊢;split at d
  ·next gs k=>
   split at d
   ·next r i=>rw[h f gs r i];exact d
   ·cases d
  ·cases d
 |_=>exact d
def Tree.BO{I k:ji}(h:I.le k):∀(t:Tree){i j:Q1},t.den I i=some j->t.den k i=some j
 |.step nd t,i,j,d=>by
  simp only[Tree.den]at d⊢;split at d
  ·next g m=>rw[Nd.BO h m];exact Tree.BO h t d
  ·cases d
 |.ite n t e,i,j,d=>by
  simp only[Tree.den]at d⊢;split at d
  ·exact Tree.BO h t d
  ·exact Tree.BO h e d
  ·cases d
 |.ret l,i,j,d=>d
 |.tail f l,i,j,d=>by
  simp only[Tree.den]at d⊢;split at d
  ·exact h _ _ _ d
  ·cases d
 |.dead,_,_,d=>by simp[Tree.den]at d
def aH.BO{I i:ji}(h:I.le i)(d:aH){gs g:Q1}(e:d.den I gs=some g):d.den i gs=some g:=by
 cases d with
 |tree n t=>
  simp only[aH.den]at e⊢;split at e
  ·next j=>rw[au j];exact t.BO h e
  ·cases e
 |fn m p t=>
  simp only[aH.den]at e⊢;split at e
  ·next k=>
   split at e
   ·next o l=>rw[au k,t.BO h l];exact e
   ·cases e
  ·cases e
 |uY f=>exact e
def jl.alJ(TT:jl):∀n,(TT.run n).le (TT.run (n+1))
 |0,k,gs,e,h=>by simp[jl.run]at h
 |n+1,k,gs,e,h=>by
  simp only[jl.run]at h;rw[jl.run];split at h
  ·next d g=>exact d.BO (jl.alJ TT n) h
  ·cases h
def jl.X8(TT:jl){n m:Nat}(h:n<=m):(TT.run n).le (TT.run m):=by
 induction h with
 |refl=>exact λ_ _ _ h=>h
 |step _ e=>exact λk gs d g=>jl.alJ TT _ k gs d (e k gs d g)
open Classical in
def jl.lim(TT:jl):ji:=λk gs=>if h:∃d n,TT.run n k gs=some d then some (Classical.choose h)else none
def jl.KD{TT:jl}{n k:Nat}{gs d:Q1}(h:TT.run n k gs=some d):TT.lim k gs=some d:=by
 unfold jl.lim;have e:∃d n,TT.run n k gs=some d:=⟨d,n,h⟩
 rw[dif_pos e];obtain⟨m,i⟩:=anl e;have j:=TT.X8 (Nat.le_max_left n m) k gs d h;have g:=TT.X8 (Nat.le_max_right n m) k gs _ i;rw[j]at g;exact g.symm
def jl.acf{TT:jl}{k:Nat}{gs d:Q1}(h:TT.lim k gs=some d):∃n,TT.run n k gs=some d:=by
 unfold jl.lim at h;split at h
 ·next e=>
  cases h;exact anl e
 ·cases h
def Nd.JV{TT:jl}{val:Wb}{nd:Nd}{g:GV}(d:nd.den TT.lim val=some g):∃n,nd.den (TT.run n) val=some g:=by
 cases nd with
 |call f l j=>
  simp only[Nd.den]at d⊢;split at d
  ·next gs i=>
   split at d
   ·next r e=>
    obtain⟨n,h⟩:=jl.acf e;exact⟨n,by rw[h];exact d⟩
   ·cases d
  ·cases d
 |_=>exact⟨0,d⟩
def Tree.JV{TT:jl}:∀(t:Tree){i j:Q1},t.den TT.lim i=some j->∃n,t.den (TT.run n) i=some j
 |.step nd t,i,j,d=>by
  simp only[Tree.den]at d;split at d
  ·next g o=>
   obtain⟨n,p⟩:=Nd.JV o;obtain⟨m,k⟩:=Tree.JV t d;refine⟨max n m,?_⟩;simp only[Tree.den];rw[Nd.BO (TT.X8 (Nat.le_max_left n m)) p];exact t.BO (TT.X8 (Nat.le_max_right n m)) k
  ·cases d
 |.ite n t e,i,j,d=>by
  simp only[Tree.den]at d⊢;split at d
  ·next h=>obtain⟨m,k⟩:=Tree.JV t d;exact⟨m,k⟩
  ·next h=>obtain⟨m,k⟩:=Tree.JV e d;exact⟨m,k⟩
  ·cases d
 |.ret l,i,j,d=>⟨0,d⟩
 |.tail f l,i,j,d=>by
  simp only[Tree.den]at d⊢;split at d
  ·exact jl.acf d
  ·cases d
 |.dead,_,_,d=>by simp[Tree.den]at d
def jl.axa{TT:jl}{k:Nat}{d:aH}(g:TT k=some d){gs e:Q1}(h:d.den TT.lim gs=some e):TT.lim k gs=some e:=by
 cases d with
 |tree m t=>
  simp only[aH.den]at h;split at h
  ·next j=>
   obtain⟨n,i⟩:=Tree.JV t h;exact jl.KD (n:=n+1) (by simp only[jl.run,g,aH.den,au j];exact i)
  ·cases h
 |fn q s t=>
  simp only[aH.den]at h;split at h
  ·next l=>
   split at h
   ·next o p=>
    obtain⟨n,i⟩:=Tree.JV t p;exact jl.KD (n:=n+1) (by simp only[jl.run,g,aH.den,l,if_true,i];exact h)
   ·cases h
  ·cases h
 |uY f=>exact jl.KD (n:=1) (by simp only[jl.run,g];exact h)
def jl.axc{TT:jl}{C:Nat->List GV->List GV->Prop}(h:∀k d,TT k=some d->∀I:ji,(∀k gs e,I k gs=some e->C k gs e)->∀gs e,d.den I gs=some e->C k gs e):∀k gs e,TT.lim k gs=some e->C k gs e:=by
 have:∀n k gs e,TT.run n k gs=some e->C k gs e:=by
  intro n;induction n with
  |zero=>intro k gs e g;simp[jl.run]at g
  |succ n i=>
   intro k gs e g;simp only[jl.run]at g;split at g
   ·next d j=>exact h k d j _ i gs e g
   ·cases g
 intro k gs e g;obtain⟨n,l⟩:=jl.acf g;exact this n k gs e l
end
open Go
def ad3(R w:Nat):Nat->Nat->List Nat->List Nat
 |0,_,l=>l
 |f+1,s,l=>match Nat.blt s 256 with
  |true=>s::l
  |false=>ad3 R w f ((R >>>(2*w*(s-256)))%2^w) (ad3 R w f ((R >>>(2*w*(s-256)+w))%2^w) l)
def toks(R w b:Nat):Nat->Nat->List Nat
 |0,_=>[]
 |n+1,x=>ad3 R w 1000 (x%b) (toks R w b n (x/b))
def dg(c:Nat):Nat:=match Nat.blt c 58 with
 |true=>c-48
 |false=>match Nat.blt c 91 with
  |true=>c-55
  |false=>match Nat.beq c 95 with
   |true=>62
   |false=>c-61
def sN(s:String):Nat:=s.toList.foldl (λa c=>a*63+dg c.toNat) 0
def rN:Q2->Nat×Q2
 |t::u::l=>match Nat.blt t 224 with
  |true=>(t,u::l)
  |false=>((t-224)*256+u,l)
 |[t]=>(t,[])
 |[]=>(0,[])
def rR(n:Nat)(l:Q2):Nat×Q2:=match rN l with|(a,l)=>(n-a,l)
def rL(n:Nat):Nat->Nat->List Nat->List Nat×Q2
 |0,_,l=>([],l)
 |k+1,p,t::l=>match Nat.blt t 128 with
  |true=>match rL n k (p+t-64) l with
   |(x,l)=>((p+t-64)::x,l)
  |false=>match rR n l with
   |(a,l)=>match rL n k a l with
    |(x,l)=>(a::x,l)
 |_,_,[]=>([],[])
def O6(n:Nat)(l:Q2):Q2×Q2:=match rN l with|(k,l)=>rL n k n l
def rK:Nat->IntKind
 |0=>.i64|1=>.u64|2=>.u8|3=>.i32|4=>.u32|5=>.i16|6=>.u16|_=>.i8
def rO:Nat->BinOp
 |0=>.eql|1=>.add|2=>.neq|3=>.lss|4=>.gtr|5=>.sub|6=>.geq|7=>.leq
 |8=>.and|9=>.quo|10=>.shr|11=>.mul|12=>.rem|13=>.xor|14=>.or|_=>.shl
def r1(n:Nat)(f:Nat->Nd)(l:Q2):Nd×Q2:=match rR n l with|(a,l)=>(f a,l)
def r2(n:Nat)(f:Nat->Nat->Nd)(l:Q2):Nd×Q2:=match rR n l with|(a,l)=>r1 n (f a) l
def r3(n:Nat)(f:Nat->Nat->Nat->Nd)(l:Q2):Nd×Q2:=match rR n l with|(a,l)=>r2 n (f a) l
def r0(f:Nat->Nd)(l:Q2):Nd×Q2:=match rN l with|(a,l)=>(f a,l)
def xZ(g:Nat->List Nat->Nd×Q2)(l:Q2):Nd×Q2:=match rN l with|(a,l)=>g a l
def rLs(n:Nat)(f:Q2->Nd)(l:Q2):Nd×Q2:=match O6 n l with|(a,l)=>(f a,l)
def rNd(cI:Nat->Int)(cT:Nat->List UInt8)(n t:Nat)(l:Q2):Nd×Q2:=
 if t=4 then(xZ λo=>r2 n (.bin (rO o))) l else
 if t=5 then(xZ λk=>r0 λa=>.ci (rK k) (cI a)) l else
 if t=6 then(xZ λo=>r1 n (.cell o)) l else
 if t=7 then(xZ λf l=>match O6 n l with|(a,l)=>r0 (λj=>.call f a j) l) l else
 if t=8 then(r0 λa=>.cs (cT a)) l else
 if t=9 then rLs n .mk l else
 if t=10 then rLs n .ml l else
 if t=11 then(r0 λb=>.cb (Nat.beq b 1)) l else
 if t=12 then r1 n .len l else
 if t=13 then(xZ λk=>r1 n (.conv (rK k))) l else
 if t=14 then r1 n .slen l else
 if t=15 then(xZ λs=>r2 n (.at s)) l else
 if t=16 then r3 n .IX l else
 if t=17 then r1 n (.un .not) l else
 if t=18 then(xZ λs=>xZ λz=>r2 n (.app s z)) l else
 if t=19 then r2 n .IW l else
 if t=20 then(xZ λo l=>match O6 0 l with|(d,l)=>r2 n (.G8 (rO o) d) l) l else
 if t=21 then r2 n .idx l else
 if t=22 then r1 n .str l else
 if t=23 then r1 n .bytes l else
 if t=24 then(xZ λs=>xZ λz=>r3 n (.rep s z)) l else
 if t=25 then r3 n .Iw l else
 if t=26 then(xZ λs=>r3 n (.FI s)) l else
 if t=27 then(xZ λs=>xZ λo l=>match rR n l with|(a,l)=>match rR n l with|(b,l)=>rLs n (.upd s o a b) l) l else
 if t=28 then r2 n (.mm false) l else
 if t=29 then r2 n (.mm true) l else
 if t=30 then r3 n .DU l else
 if t=31 then r2 n .Iy l else
 if t=32 then r1 n (.un .neg) l else
 if t=33 then r2 n .Cb l else
 if t=37 then r1 n (.un .xor) l else
 if t=34 then r2 n .same l else
 if t=35 then r1 n .IV l else
 (xZ λo=>r2 n (.G7 (rO o))) l
def rT(cI:Nat->Int)(cT:Nat->List UInt8)(h:Tree):Nat->Nat->List Nat->Tree×Q2
 |0,_,l=>(.dead,l)
 |_,_,[]=>(.dead,[])
 |f+1,n,t::l=>match t with
  |0=>(h,l)
  |1=>match rR n l with|(a,l)=>match rT cI cT h f n l with|(x,l)=>match rT cI cT h f n l with|(y,l)=>(.ite a x y,l)
  |2=>match O6 n l with|(a,l)=>(.ret a,l)
  |3=>match rN l with|(g,l)=>match O6 n l with|(a,l)=>(.tail g a,l)
  |38=>(.dead,l)
  |_=>match rNd cI cT n t l with|(d,l)=>match rT cI cT h f (n+1) l with|(x,l)=>(.step d x,l)
def rS(l:Q2):WN×Q2:=match O6 0 l with|(a,l)=>(a.map λk=>match k with
 |0=>.sc
 |k+1=>.ag (k+1),l)
def rP(cI:Nat->Int)(cT:Nat->List UInt8)(h:Tree):Q2->aH
 |0::l=>match rS l with|(a,l)=>match rS l with|(b,l)=>.fn a b (rT cI cT h 2000 a.length l).1
 |_::l=>match rN l with|(n,l)=>.tree n (rT cI cT h 2000 n l).1
 |[]=>.tree 0 .dead
def gT:Wc->Nat->aH
 |a::_,0=>a
 |_::l,n+1=>gT l n
 |[],_=>.tree 0 .dead
noncomputable section
variable{P:Program}
def CZ(P:Program)(c:Code)(Q:Exit->Act->World->Prop)(a:Act)(w:World):Prop:=∀b k d,∃e a' g,Q e a' g/\Arrives P (lone (b.at a (.code c::.inLoop c::k)) d w) b k d e a' g
def CZ.step{c:Code}{Q:Exit->Act->World->Prop}{a:Act}{w:World}(h:c.wp P (Exit.then (CZ P c Q) Q) a w):CZ P c Q a w:=by
 intro b k o;obtain⟨e,j,m,i,d⟩:=h b (.inLoop c::k) o;cases e with
 |normal=>obtain⟨p,q,s,n,g⟩:=i b k o;exact⟨p,q,s,n,.of_steps (Steps.trans d (.one step_inLoop)) g⟩
 |exit id=>exact⟨_,j,m,i,.pass (x:=.inLoop c) rfl (λ_ _=>.inl aA) d⟩
 |goto l=>exact⟨_,j,m,i,.pass (x:=.inLoop c) rfl (λ_ _=>.inl aA) d⟩
 |ret=>exact⟨_,j,m,i,.pass (x:=.inLoop c) rfl (λ_ _=>.inl aA) d⟩
 |panic t=>exact⟨_,j,m,i,.pass (x:=.inLoop c) rfl (λ_ _=>.inl aA) d⟩
 |outgrown=>exact⟨_,j,m,i,.pass (x:=.inLoop c) rfl (λ_ _=>.inl aA) d⟩
def CZ.loop{c:Code}{Q:Exit->Act->World->Prop}{a:Act}{w:World}(h:CZ P c Q a w):(Code.loop c).wp P Q a w:=by intro b k g;obtain⟨e,a',i,j,d⟩:=h b k g;exact⟨e,a',i,j,.of_steps (.one step_loop) d⟩
section
variable[aJ]
def AT(P:Program)(c:Code)(a:bM)(J:aC)(Q:fQ->bM->aC->Prop):Prop:=
 ∀w0 d F w A K,lD P w0 d F J w->J.lock=0->TR P F a A->(∀e a' J' g h i,Q e a' J'->lD P w0 d g J' i->J'.lock=0->TR P g a' h->K e.toExit h i)->c.wp P K A w
variable{c b x y z:Code}{a a' a2:bM}{J J' J2:aC}{Q R:fQ->bM->aC->Prop}
def AT.mono(h:AT P c a J R)(d:∀e a' J',R e a' J'->Q e a' J'):AT P c a J Q:=
 λw0 g F w A K i j k l=>h w0 g F w A K i j k λe a' J' m n o p=>l e a' J' m n o (d _ _ _ p)
def ady(P:Program)(y:Code)(Q:fQ->bM->aC->Prop):fQ->bM->aC->Prop
 |.normal,a,J=>AT P y a J Q
 |e,a,J=>Q e a J
def AT.seq(h:AT P x a J (ady P y Q)):AT P (.seq x y) a J Q:=by
 intro w0 o F w A K p q s j;refine wp_seq ?_;refine h w0 o F w A _ p q s ?_;intro e a' J' k l m n d g i;cases e with
 |normal=>exact n w0 o k m l K d g i j
 |exit id=>exact j _ a' J' k l m n d g i
 |ret=>exact j _ a' J' k l m n d g i
def AT.cond{o:Operand}{t:Bool}(e:dB (a.eval o)=some (.b t))(h:AT P (if t then y else z) a J Q):AT P (.cond o y z) a J Q:=by intro w0 k F w A K g l i m;obtain⟨n,e,d⟩:=JR e;have j:=d _ _ (QW g.rel i o _ e);simp only[VR]at j;exact wp_cond j (h w0 k F w A K g l i m)
def JA(id:Nat)(Q:fQ->bM->aC->Prop):fQ->bM->aC->Prop
 |.exit d,a,J=>if d=id then Q .normal a J else Q (.exit d) a J
 |e,a,J=>Q e a J
def AT.block{id:Nat}(h:AT P b a J (JA id Q)):AT P (.block id b) a J Q:=by
 intro w0 p F w A K q s t k;refine wp_block ?_;refine h w0 p F w A _ q s t ?_;intro e a' J' l m n j d g i;cases e with
 |normal=>exact k .normal a' J' l m n j d g i
 |ret=>exact k .ret a' J' l m n j d g i
 |exit o=>
  simp only[JA]at j;simp only[fQ.toExit,Exit.inBlock];split at j
  ·next e=>rw[au e];exact k .normal a' J' l m n j d g i
  ·next e=>rw[aj e];exact k (.exit o) a' J' l m n j d g i
def Eo(P:Program)(b:Code)(a:bM)(J:aC)(Q:fQ->bM->aC->Prop):Prop:=
 ∀w0 d F w A K,lD P w0 d F J w->J.lock=0->TR P F a A->(∀e a' J' g h i,Q e a' J'->lD P w0 d g J' i->J'.lock=0->TR P g a' h->K e.toExit h i)->CZ P b K A w
def Eo.at(h:Eo P b a J Q):AT P (.loop b) a J Q:=
 λw0 d F w A K e g i j=>(h w0 d F w A K e g i j).loop
def abQ(P:Program)(b:Code)(Q:fQ->bM->aC->Prop):fQ->bM->aC->Prop
 |.normal,a,J=>Eo P b a J Q
 |e,a,J=>Q e a J
def Eo.step(h:AT P b a J (abQ P b Q)):Eo P b a J Q:=by
 intro w0 o F w A K p q s j;refine CZ.step ?_;refine h w0 o F w A _ p q s ?_;intro e a' J' k l m n d g i;cases e with
 |normal=>exact n w0 o k m l K d g i j
 |exit id=>exact j _ a' J' k l m n d g i
 |ret=>exact j _ a' J' k l m n d g i
def AT.run{run:Code->bM->aC->Option (fQ×bM×aC)}(k:Qj P run){e:fQ}(h:run c a J=some (e,a',J'))(l:Q e a' J'):AT P c a J Q:=by intro w0 s F w A K i j m n;refine k c a J e a' J' h F w A K i.rel m ?_;intro o p q d g;exact n e a' J' o p q l (i.step j d) (d.lock.trans j) g
end
inductive AC where
 |plain (c:Code)
 |seq (x y:AC)
 |cond (o:Operand) (y z:AC)
 |block (id:Nat) (b:AC)
 |loop (k:Nat) (b:Code)
 |peel (x:AC) (k:Nat) (b:Code)
def AC.erase:AC->Code
 |.plain c=>c
 |.seq x y=>.seq x.erase y.erase
 |.cond o y z=>.cond o y.erase z.erase
 |.block id b=>.block id b.erase
 |.loop _ b=>.loop b
 |.peel _ _ b=>.loop b
def AC.Good:AC->Prop
 |.plain _=>True
 |.seq x y=>x.Good/\y.Good
 |.cond _ y z=>y.Good/\z.Good
 |.block _ b=>b.Good
 |.loop _ _=>True
 |.peel x _ b=>x.erase=b/\x.Good
def nM(ps:Q2):Code->Nat->AC×Nat
 |.seq x y,n=>match nM ps x n with
  |(a,d)=>match nM ps y d with
   |(b,e)=>(.seq a b,e)
 |.cond o y z,n=>match nM ps y n with
  |(a,d)=>match nM ps z d with
   |(b,e)=>(.cond o a b,e)
 |.block id b,n=>match nM ps b n with
  |(a,d)=>(.block id a,d)
 |.loop b,n=>if ps.contains (2*n+1)then(.plain (.loop b),n+1)else match nM ps b (n+1)with
  |(x,d)=>if ps.contains (2*n)then(.peel x n b,d)else(.loop n b,n+1)
 |c,n=>(.plain c,n)
def pK(ps:Q2)(c:Code):AC:=(nM ps c 0).1
def Au(ps:Q2):∀(c:Code)(n:Nat),(nM ps c n).1.erase=c/\(nM ps c n).1.Good
 |.seq x y,n=>by have h1:=Au ps x n;have d:=Au ps y (nM ps x n).2;simp only[nM,AC.erase,AC.Good];exact⟨by rw[h1.1,d.1],h1.2,d.2⟩
 |.cond o y z,n=>by have h1:=Au ps y n;have d:=Au ps z (nM ps y n).2;simp only[nM,AC.erase,AC.Good];exact⟨by rw[h1.1,d.1],h1.2,d.2⟩
 |.block id b,n=>by have h1:=Au ps b n;simp only[nM,AC.erase,AC.Good];exact⟨by rw[h1.1],h1.2⟩
 |.loop b,n=>by
  have h1:=Au ps b (n+1);simp only[nM];split
  ·exact⟨rfl,trivial⟩
  ·split
   ·exact⟨rfl,h1.1,h1.2⟩
   ·exact⟨rfl,trivial⟩
 |.skip,_|.region _ _ _,_|.rangeFunc _ _ _ _,_|.exit _,_|.scope _,_|.label _,_|.goto _,_|.ret,_|.refuse _,_=>⟨rfl,trivial⟩
def AC.qY(k:Nat)(b:Code):AC->Prop
 |.plain _=>False
 |.seq x y=>x.qY k b\/y.qY k b
 |.cond _ y z=>y.qY k b\/z.qY k b
 |.block _ x=>x.qY k b
 |.loop d e=>d=k/\e=b
 |.peel x d e=>(d=k/\e=b)\/x.qY k b
abbrev Zo:=Nat->bM->aC->Option (fQ×bM×aC)
def yI[iI](d:Zo)(run:Code->bM->aC->Option (fQ×bM×aC)):AC->bM->aC->Option (fQ×bM×aC)
 |.plain c,a,J=>run c a J
 |.seq x y,a,J=>match yI d run x a J with
  |some (.normal,a',J')=>yI d run y a' J'
  |r=>r
 |.cond o y z,a,J=>match dB (a.eval o)with
  |some (.b t)=>if t then yI d run y a J else yI d run z a J
  |_=>none
 |.block id b,a,J=>match yI d run b a J with
  |some (.exit e,a',J')=>if e=id then some (.normal,a',J')else some (.exit e,a',J')
  |r=>r
 |.loop k _,a,J=>d k a J
 |.peel x k _,a,J=>match yI d run x a J with
  |some (.normal,a',J')=>d k a' J'
  |r=>r
def ZF[aJ]{M:Zo}{run:Code->bM->aC->Option (fQ×bM×aC)}(N:Qj P run):∀(n:AC),n.Good->(∀k b,n.qY k b->∀a J e a' J',M k a J=some (e,a',J')->∀Q:fQ->bM->aC->Prop,Q e a' J'->Eo P b a J Q)->
 ∀(a:bM)(J:aC)(e:fQ)(a':bM)(J':aC),yI M run n a J=some (e,a',J')->∀Q:fQ->bM->aC->Prop,Q e a' J'->AT P n.erase a J Q:=by
 intro n;induction n with
 |plain c=>intro i j a J e a' J' h Q d;exact AT.run N h d
 |loop k b=>intro i j a J e a' J' h Q d;exact(j k b ⟨rfl,rfl⟩ a J e a' J' h Q d).at
 |peel x k b p=>
  intro i j a J e a' J' h Q d;simp only[yI]at h;refine Eo.at (Eo.step ?_);obtain⟨rfl,i⟩:=i;split at h
  ·next q s u=>
   exact p i (λD E g=>j D E (.inr g)) a J _ q s u (abQ P x.erase Q) (j k _ (.inl ⟨rfl,rfl⟩) q s e a' J' h Q d)
  ·next l=>
   refine p i (λD E g=>j D E (.inr g)) a J e a' J' h (abQ P x.erase Q) ?_;cases e with
   |normal=>exact absurd h (by intro v;exact l _ _ v)
   |exit id=>exact d
   |ret=>exact d
 |seq x y A m=>
  intro i j a J e a' J' h Q d;simp only[yI]at h;split at h
  ·next q s u=>
   exact AT.seq (A i.1 (λk b g=>j k b (.inl g)) a J _ q s u (ady P y.erase Q) (m i.2 (λk b g=>j k b (.inr g)) q s e a' J' h Q d))
  ·next l=>
   refine AT.seq (A i.1 (λk b g=>j k b (.inl g)) a J e a' J' h (ady P y.erase Q) ?_);cases e with
   |normal=>exact absurd h (by intro v;exact l _ _ v)
   |exit id=>exact d
   |ret=>exact d
 |cond o y z m H=>
  intro i j a J e a' J' h Q d;simp only[yI]at h;split at h
  ·next t O=>
   refine AT.cond O ?_;cases t with
   |true=>exact m i.1 (λk b g=>j k b (.inl g)) a J e a' J' h Q d
   |false=>exact H i.2 (λk b g=>j k b (.inr g)) a J e a' J' h Q d
  ·cases h
 |block id b p=>
  intro i j a J e a' J' h Q d;simp only[yI]at h;split at h
  ·next I q s u=>
   split at h
   ·next L=>
    cases h;exact AT.block (p i (λk b g=>j k b g) a J _ _ _ u (JA id Q) (by simp only[JA];rw[au L];exact d))
   ·next L=>
    cases h;exact AT.block (p i (λk b g=>j k b g) a J _ _ _ u (JA id Q) (by simp only[JA];rw[aj L];exact d))
  ·next l=>
   refine AT.block (p i (λk b g=>j k b g) a J e a' J' h (JA id Q) ?_);cases e with
   |normal=>exact d
   |exit I=>exact absurd h (by intro v;exact l _ _ _ v)
   |ret=>exact d
def Ei:Q6->Value
 |[v]=>v
 |l=>.tuple ⟨l⟩
structure zK(tabs:QP)(ro:Qf)(w:World):Prop where
 at':∀b o,ro b=some o->w.heap[b]? =some o
 tab:∀p∈tabs,∃cs elem fr,ro p.1=some (.cells cs elem fr)/\p.2.length<=cs.size/\Zv p.2 cs
structure Jq(ro ro':Qf)(w w':World):Prop where
 kept:Kept w w'
 le:∀b o,ro b=some o->ro' b=some o
 new:∀b,ro' b≠none->ro b≠none\/w.heap.size<=b
 at':∀b o,ro' b=some o->w'.heap[b]? =some o
def yV:W7->List Value->List Value
 |none::st,v::vs=>v::yV st vs
 |none::_,[]=>[]
 |some g::st,vs=>.func (.func g) ⟨[]⟩ ⟨[]⟩::yV st vs
 |[],vs=>vs
def yU:W7->List AV->List AV
 |none::st,v::vs=>v::yU st vs
 |none::_,[]=>[]
 |some g::st,vs=>.fn g [] []::yU st vs
 |[],vs=>vs
def Eh:W7->List AV->Option Q3
 |[],l=>some l
 |none::st,a::l=>(Eh st l).map (a::·)
 |some g::st,.fn d [] []::l=>if d=g then Eh st l else none
 |_,_=>none
def anB(P:Program)(tabs:QP)(f:FuncId)(st:W7)(gs e:Q1):Prop:=∀g w h,zK tabs g w->aU g gs h->nG P f ⟨yV st h⟩ w λv j=>∃d,Jq g d w j/\∃i,v=Ei i/\aU d e i
section
variable[aJ]
def YQ{F:Env}:∀{st:W7}{l r:Q3}{vs:Q6},Eh st l=some r->aG F l vs->∃d,vs=yV st d/\aG F r d
 |[],l,r,vs,h,i=>by simp only[Eh,bF]at h;subst h;exact⟨vs,rfl,i⟩
 |none::st,[],r,vs,h,i=>by simp[Eh]at h
 |none::st,a::l,r,vs,h,i=>by simp only[Eh,bJ]at h;obtain⟨u,h1,rfl⟩:=h;obtain⟨x,p,rfl,k,j⟩:=i;obtain⟨d,rfl,m⟩:=YQ h1 j;exact⟨x::d,rfl,aG.cons k m⟩
 |some g::st,[],r,vs,h,i=>by simp[Eh]at h
 |some g::st,a::l,r,vs,h,i=>by
  unfold Eh at h;split at h
  ·next e=>cases e
  ·next e _=>cases e
  ·next g0 q v A s t=>
   cases s;cases t;split at h
   ·next e=>
    subst e;obtain⟨x,p,rfl,k,j⟩:=i;obtain⟨d,rfl,m⟩:=YQ h j;simp only[VR]at k;obtain⟨D,E,rfl,n,o⟩:=k;simp only[aG]at n o;subst n;subst o;exact⟨d,rfl,m⟩
   ·cases h
  ·cases h
def XR{F:Env}:∀{st:W7}{l:Q3}{vs:Q6},aG F l vs->aG F (yU st l) (yV st vs)
 |[],l,vs,d=>d
 |none::st,[],vs,d=>by simp only[aG]at d;subst d;simp[yU,yV,aG]
 |none::st,a::l,vs,d=>by obtain⟨x,xs,rfl,h,e⟩:=d;exact aG.cons h (XR e)
 |some g::st,l,vs,d=>aG.cons (by simp only[VR];exact⟨[],[],rfl,by simp[aG],by simp[aG]⟩) (XR d)
def SR.X4{F:Env}{J:aC}{w:World}(h:SR P F J w):zK aJ.tabs F.ro w:=⟨h.jF,h.tabs⟩
def St.ayB{F:Env}{J:aC}{w w':World}{ro':Qf}(h:SR P F J w)(k:Jq F.ro ro' w w'):St P F J w ⟨F.pl,ro',F.gh⟩ J w':=by
 have d:(F:Env).le ⟨F.pl,ro',F.gh⟩:=⟨λ_ _ h=>h,k.le,λ_ h=>h⟩
 refine⟨d,⟨h.oO,h.dom,λid o m=>?_,h.kZ,h.sep,k.at',λid o q j a2 l=>?_,λp n=>(h.tabs p n).mono d⟩,k.kept.size,λs g _=>k.kept.keep s g,λid o q h1 t u v=>.inr ⟨id,o,q,h1,t,u,v,rfl⟩,k.kept.os,k.kept.tape,k.kept.output,rfl,dP _,λ_ h=>.inl h,λb g=>?_⟩
 ·exact((h.live id o m).heap λq _ i=>k.kept.keep _ i.lt).mono d
 ·have i:=h.at j (show F id=some q from l);cases e:ro' q.bl with
  |none=>exact e
  |some A=>
   rcases k.new q.bl (by rw[e];simp)with h1|h1
   ·exact absurd (h.ng id o q j a2 l) h1
   ·have:=i.lt;omega
 ·rcases k.new b g with h1|h1
  ·exact .inl h1
  ·exact .inr (.inl h1)
end
@[reducible] def Tg(tabs:QP)(gs:Q1)(ka:Nat):aJ:={nodes:=[],dec:=[],ka:=ka,tabs:=tabs,I:=λ_ _=>none,val:=λn=>gs[n]?,uo:=by intro n d h;simp at h,Dy:=by intro n b h;simp at h}
def rU{α:Type}:List (Nat×α)->Tr α
 |[]=>.nil
 |(k,v)::l=>(rU l).set k (some v)
def SA{α:Type}:∀{l:List (Nat×α)}{k:Nat}{v:α},(rU l).get k=some v->(k,v)∈l
 |[],k,v,h=>by simp[rU]at h
 |(j,u)::l,k,v,h=>by
  rw[rU,Tr.yO]at h;split at h
  ·next e=>cases h;subst e;simp
  ·exact zC _ (SA h)
structure iM where
 np:Nat
 n:Nat
 gn:Nat
 next:Nat
 slots:Wo
 objs:YY
 ka:Nat:=0
 al:List W2:=[]
abbrev K0:=List (fQ×iM)
def yj(tabs:QP):YY:=tabs.map λp=>(p.1,.cells p.2 0 false false)
def iM.act(s:iM):bM:=⟨rU s.slots,s.n,s.gn⟩
def iM.st(tabs:QP)(s:iM):aC:=⟨rU (s.objs++yj tabs),s.next,0⟩
def UJ(P:Program)(tabs:QP)(s:iM)(gs:Q1)(w0:Base)(d:Qf)(A:Act)(w:World):Prop:=∃F,@lD (Tg tabs gs s.ka) P w0 d F (s.st tabs) w/\@TR (Tg tabs gs s.ka) P F s.act A
def dV{α:Type}(k:Nat):List (Nat×α)->Option α
 |[]=>none
 |p::l=>bif Nat.beq k p.1 then some p.2 else dV k l
def Wq{α:Type}{k:Nat}{v:α}:∀{l:List (Nat×α)},dV k l=some v->(k,v)∈l
 |[],h=>by simp[dV]at h
 |p::l,h=>by
  simp only[dV]at h;cases d:Nat.beq k p.1 with
  |true=>rw[d]at h;simp only[cond_true,bF]at h;rw[bV d,<-h];simp
  |false=>rw[d]at h;simp only[cond_false]at h;exact zC _ (Wq h)
def D9(r:W8)(i:Nat)(x:W2):Bool:=
 match dV i r,x with
 |some (some a),some b=>Nat.beq a b
 |some none,none=>true
 |_,_=>false
section
variable[iI]
def OH(m:Nat):Bool:=match iI.nodes[m]? with
 |some (.ml [])=>true
 |_=>false
def Wp(P:Program)(J:aC)(fz:Q2)(a:AV)(m:Nat):Bool:=
 match a with
 |.sv id n=>fz.contains id&&match J.get id with
  |some (.vec e _ _)=>Nat.beq e m&&x9 100 e n
  |_=>false
 |.sl id g len h=>fz.contains id&&match J.get id with
  |some (.cells c i true j)=>(match listOf P J i (.sl id g len h),sizeT P i with
   |some e,some d=>Nat.beq e m&&Nat.blt 0 d
   |_,_=>false)
  |_=>false
 |_=>false
def capEq:W2->Option Nat->Bool
 |none,none=>true
 |some a,some b=>Nat.beq a b
 |_,_=>false
mutual
def mV(P:Program)(G:Nat)(J:aC)(fz:Q2)(r:W8)(ps:Q2):AV->AV->Bool
 |.nd j,a=>match ps[j]? with
  |some m=>(match jD a with
   |some h=>Nat.beq m h
   |none=>false) ||Wp P J fz a m
  |none=>false
 |.sv i j,a=>match ps[j]? with
  |some m=>match a with
   |.sv id n=>Nat.blt G i&&D9 r i (some id)&&x9 100 m n
   |.iq=>Nat.blt G i&&D9 r i none&&OH m
   |_=>false
  |none=>false
 |.p i off,a=>match a with
  |.p id d=>Nat.beq off d&&(if i<=G then Nat.beq i id else D9 r i (some id))
  |_=>false
 |.rx j off,a=>match a with
  |.rx m d=>Nat.beq off d&&(match ps[j]? with|some h=>Nat.beq m h|none=>false)
  |_=>false
 |.fn f fi cs,a=>match a with
  |.fn s o p=>Nat.beq f s&&DT P G J fz r ps fi o&&DT P G J fz r ps cs p
  |_=>false
 |.agg l,a=>match a with
  |.agg q=>DT P G J fz r ps l q
  |_=>false
 |.fG l,a=>match a with
  |.fG q=>DT P G J fz r ps l q
  |_=>false
 |.jL t x,a=>match a with
  |.jL u v=>Nat.beq t u&&mV P G J fz r ps x v
  |_=>false
 |.b x,a=>match a with|.b y=>(bif x then y else !y)|_=>false
 |.i k n,a=>match a with|.i A D=>Nat.beq (kc k) (kc A)&&Kv n D|_=>false
 |.s x,a=>match a with|.s y=>Du x y|_=>false
 |.kG,a=>match a with|.kG=>true|_=>false
 |.iq,a=>match a with|.iq=>true|_=>false
 |.AU,a=>match a with|.AU=>true|_=>false
 |.vS,a=>match a with|.vS=>true|_=>false
 |.rQ,a=>match a with|.rQ=>true|_=>false
 |.mp i,a=>match a with
  |.mp id=>Nat.blt G i&&D9 r i (some id)
  |_=>false
 |.sl i off len cap,a=>match a with
  |.sl id d e g=>Nat.blt G i&&D9 r i (some id)&&(Nat.beq off d&&(Nat.beq len e&&capEq cap g))
  |_=>false
 |_,_=>false
def DT(P:Program)(G:Nat)(J:aC)(fz:Q2)(r:W8)(ps:Q2):Q3->List AV->Bool
 |[],l=>match l with|[]=>true|_=>false
 |a::l,m=>match m with
  |b::d=>mV P G J fz r ps a b&&DT P G J fz r ps l d
  |[]=>false
end
def mO(P:Program)(G:Nat)(J:aC)(fz:Q2)(r:W8)(ps:Q2)(i:Nat)(o:bP):Bool:=
 match dV i r with
 |some (some id)=>!(fz.contains id)&&match o with
  |.cells l e q g=>match J.get id with
   |some (.cells c h d p)=>Nat.beq e h&&(bif q then d else !d)&&(bif g then p else !p)&&DT P G J fz r ps l c
   |_=>false
  |.vec j e f=>match J.get id with
   |some (.vec m h s)=>Nat.beq e h&&(!f ||s)&&(match ps[j]? with|some k=>Nat.beq m k|none=>false)
   |_=>false
  |.smap j t u=>match J.get id with
   |some (.smap m v n)=>Oy t v&&TP u n&&(match ps[j]? with|some k=>Nat.beq m k|none=>false)
   |some (.map [])=>(match ps[j]? with|some m=>OH m|none=>false)
   |_=>false
  |.map []=>(match J.get id with
   |some (.map [])=>true
   |_=>false)
  |_=>false
 |some none=>match o with
  |.vec j _ _=>(match ps[j]? with|some m=>OH m|none=>false)
  |_=>false
 |none=>false
def Xt(P:Program)(G:Nat)(J:aC)(fz:Q2)(r:W8)(ps:Q2)(t:Tr AV):Wo->Bool
 |[]=>true
 |p::l=>(match t.get p.1 with|some v=>mV P G J fz r ps p.2 v|none=>false)&&Xt P G J fz r ps t l
def OB(P:Program)(G next:Nat)(J:aC)(fz:Q2)(r:W8)(ps:Q2):YY->Bool
 |[]=>true
 |p::l=>Nat.blt G p.1&&Nat.blt p.1 next&&mO P G J fz r ps p.1 p.2&&OB P G next J fz r ps l
def Qo(r:W8):Nat->Nat->Bool
 |_,0=>true
 |i,n+1=>D9 r (i+1) (some (i+1))&&Qo r (i+1) n
def LC:W8->Bool
 |[]=>true
 |p::l=>(match p.2 with
  |some a=>l.all λq=>match q.2 with|some b=>!(Nat.beq a b)|none=>true
  |none=>true)&&LC l
def abR(P:Program)(s:iM)(a:bM)(J:aC)(fz:Q2)(r:W8)(ps:Q2):Bool:=
 Nat.beq s.ka iI.ka&&Nat.blt (s.gn+s.ka) s.next&&Qo r s.gn s.ka&&Nat.beq s.n a.n&&Nat.beq s.gn a.gn&&Nat.blt s.gn s.next&&LC r&&Xt P s.gn J fz r ps a.t s.slots&&OB P s.gn s.next J fz r ps s.objs
end
def kills(J:aC):Q2->aC
 |[]=>J
 |id::l=>(kills J l).kill id
def Fq{J:aC}{k:Nat}:∀{l:Q2},(kills J l).get k=if k∈l then none else J.get k
 |[]=>by simp[kills]
 |id::l=>by
  rw[kills,aC.AL,Fq];by_cases h:k=id
  ·simp[h]
  ·simp[h]
def Ox{J:aC}:∀l:Q2,(kills J l).lock=J.lock
 |[]=>rfl
 |_::l=>Ox l
def abD{J:aC}:∀l:Q2,(kills J l).next=J.next
 |[]=>rfl
 |_::l=>abD l
section
variable[aJ]
def Wn{w0:Base}{I:Qf}{F:Env}{J:aC}{w:World}(L:lD P w0 I F J w)(A:J.lock=0):∀fz:Q2,∃dQ,(∀b o,F.ro b=some o->dQ b=some o)/\lD P w0 I ⟨F.pl,dQ,F.gh⟩ (kills J fz) w/\
 (∀id∈fz,∀o q,J.get id=some o->o.own=true->F id=some q->dQ q.bl=w.heap[q.bl]?)
 |[]=>⟨F.ro,λ_ _ h=>h,L,aA⟩
 |id::fz=>by
  obtain⟨dQ,h1,l,D⟩:=Wn L A fz;by_cases M:∃o q,(kills J fz).get id=some o/\o.own=true/\F id=some q
  ·obtain⟨o,q,U,p,N⟩:=M;have E:=St.freeze l.rel U p (by rw[Ox,A];exact vG _) (show(⟨F.pl,dQ,F.gh⟩:Env) id=some q from N);have H:=l.step (by rw[Ox,A]) E;refine⟨IL dQ w q.bl,λb o V=>X0 l.rel.jF q.bl b o (h1 b o V),H,?_⟩;intro i m s n j d g;show(if n.bl=q.bl then w.heap[q.bl]? else dQ n.bl)=_
   split
   ·next e=>rw[e]
   ·next e=>
    rcases bI.1 m with rfl|m
    ·rw[N]at g;cases g;exact absurd rfl e
    ·exact D i m s n j d g
  ·refine⟨dQ,h1,⟨l.rel.sub (λk u t=>?_) (dP _),l.kept,λk u q v a2 W=>?_,l.xg,l.tC,l.uN⟩,?_⟩
   ·rw[kills,aC.AL]at t;split at t;cases t;exact t
   ·rw[kills,aC.AL]at v;split at v;cases v;exact l.own k u q v a2 W
   ·intro i m s n j d g;rcases bI.1 m with rfl|m
    ·by_cases O:i∈fz
     ·exact D i O s n j d g
     ·exact absurd ⟨s,n,by rw[Fq,aj O];exact j,d,g⟩ M
    ·exact D i m s n j d g
end
def I4{val:Wb}:∀{ps:Q2}{gs:Q1},valsOf val ps=some gs->∀{j m:Nat},ps[j]? =some m->gs[j]? =val m/\∃g,val m=some g
 |[],gs,h,j,m,d=>by simp at d
 |p::ps,gs,h,j,m,d=>by
  simp only[valsOf]at h;split at h
  ·next g r h1 e=>
   cases h;cases j with
   |zero=>simp at d;subst d;exact⟨by simp[h1],g,h1⟩
   |succ j=>simpa using I4 e (j:=j) (by simpa using d)
  ·cases h
def Tc{r:W8}{i id:Nat}(h:D9 r i (some id)=true):dV i r=some (some id):=by
 unfold D9 at h;split at h
 ·next a b e d=>cases d;rw[e,bV h]
 ·next e d=>cases d
 ·cases h
def aAI{r:W8}{i:Nat}(h:D9 r i none=true):dV i r=some none:=by
 unfold D9 at h;split at h
 ·next a b d e=>cases e
 ·next d e=>exact d
 ·cases h
def CV(tabs:QP)(i:Nat):Nat:=match dV i tabs with
 |some c=>c.length
 |none=>0
def vO(tabs:QP)(G next:Nat)(r:W8)(F:Env)(dQ:Qf):Env where
 pl:=λi=>if i<=G then some ⟨i,0,CV tabs i,0⟩else if i<next then match dV i r with
  |some (some id)=>F id
  |_=>none
  else none
 ro:=dQ
 gh:=λi=>decide (G<i)&&decide (i<next)&&match dV i r with
  |some (some id)=>F.gh id
  |some none=>true
  |none=>false
structure yC(T:aJ)(P:Program)(tabs:QP)(G next:Nat)(F:Env)(J:aC)(w:World)(fz:Q2)(r:W8)(ps:Q2)(gs:Q1)(dQ:Qf):Prop where
 rel:@SR T P F J w
 vals:valsOf T.val ps=some gs
 xg:∀b o,F.ro b=some o->dQ b=some o
 vK:∀id∈fz,∀o q,J.get id=some o->o.own=true->F id=some q->dQ q.bl=w.heap[q.bl]?
 gn:G=P.globals.size
 lt:G<next
variable{T:aJ}{ka:Nat}{tabs:QP}{G next:Nat}{F:Env}{J:aC}{w:World}{fz:Q2}{r:W8}{ps:Q2}{gs:Q1}{dQ:Qf}
def Ir{i id:Nat}(g:G<i)(d:i<next)(e:dV i r=some (some id)):(vO tabs G next r F dQ) i=F id:=by
 show(if i<=G then some (⟨i,0,CV tabs i,0⟩:Place)else if i<next then _ else none)=_
 rw[aj ah,au d,e]
def Xr{i:Nat}(d:i<=G):(vO tabs G next r F dQ) i=some ⟨i,0,CV tabs i,0⟩:=by
 show(if i<=G then some (⟨i,0,CV tabs i,0⟩:Place)else _)=_
 rw[au d]
def ajt{i id:Nat}(d:G<i)(e:i<next)(g:dV i r=some (some id)):(vO tabs G next r F dQ).gh i=F.gh id:=by
 show(decide (G<i)&&decide (i<next)&&_)=_
 rw[g];simp[d,e]
def aju{i:Nat}(d:G<i)(e:i<next)(g:dV i r=some none):(vO tabs G next r F dQ).gh i=true:=by
 show(decide (G<i)&&decide (i<next)&&_)=_
 rw[g];simp[d,e]
def ahI(C:yC T P tabs G next F J w fz r ps gs dQ){a:AV}{m:Nat}{v:Value}(h:@Wp T.toiI P J fz a m=true)(L:@VR T F a v){g:GV}(Y:T.val m=some g):g.scalar=true/\GR dQ g v:=by
 letI:=T
 unfold Wp at h;split at h
 ·next id n=>
  rw[aO]at h;obtain⟨h1,h⟩:=h;have t:id∈fz:=by simpa using h1
  split at h
  ·next W et f o=>
   rw[aO]at h;have e:=bV h.1;subst e;simp only[VR]at L;obtain⟨ys,X,L⟩:=L;rcases L with⟨q,j,u,rfl⟩|⟨Z,rfl,rfl⟩
   ·have A:=C.rel.at o j;obtain⟨xs,x1,x2,x3,x4,x5,x6,x7,x8⟩:=A.OJ;have M:T.val W=some (.l xs):=x1;rw[Y]at M;cases M;have p:=Ba 100 h.2 x1 X;refine⟨rfl,?_⟩;have aa:=JK x2;have:=GR.ab8 (ro':=dQ) (off:=0) (n:=ys.length) (size:=q.es) (cap:=q.sz/q.es) (cs:=bW xs) (gs:=xs) x8 C.xg (C.vK id t _ q o rfl j) (by unfold takeN;rw[dY,<-p,mg ah,au aa]) p u x4 (λx hx=>⟨x2 x hx,x7 x hx⟩) (λF' vs E l=>by unfold bW at l⊢;exact(qX _ _).1 (aU.mono E _ _ ((qX _ _).2 l)))
    simpa using this
   ·rcases C.rel.live id _ o with⟨q,j,_⟩|⟨_,n2,ai,f2,e2,ab⟩
    ·rw[(C.rel.kZ id Z).1]at j;cases j
    ·cases e2;have WV:T.val W=some (.l []):=ab;rw[Y]at WV;cases WV;exact⟨rfl,by simp[GR]⟩
  ·cases h
 ·next id k len D=>
  rw[aO]at h;obtain⟨h1,h⟩:=h;have t:id∈fz:=by simpa using h1
  split at h
  ·next c et ak o=>
   split at h
   ·next W d i ac=>
    rw[aO]at h;have e:=bV h.1;subst e;have h0:0<d:=by have:=h.2;rwa [jX]at this
    simp only[VR]at L;obtain⟨q,j,u,rfl⟩:=L;unfold listOf at i;simp only[o,ac]at i;split at i
    ·next c' JZ al SC ad ae e1 e2 ha=>
     cases e1;cases e2;split at i
     ·next hc=>
      rw[aO,qF,aO]at hc;split at i
      ·next cs H=>
       split at i
       ·next ns N=>
        have s:ae=false->d=1:=by
         intro e;subst e;rcases hc.2 with h1|h1
         ·simp at h1
         ·exact bV h1
        obtain⟨g',g1,g2⟩:=iG i;have O:T.val W=some g':=g1;rw[Y]at O;cases O;have A:=C.rel.at o j;obtain⟨ws,ag,fr,hb,rr⟩:=A;have U:=(vg H).2.1;have af:=rr.Bf H;obtain⟨gl,X,k2,k3,k4,I⟩:=Hz (F:=F) s len N af U;simp only[Nd.den,X,iJ,bF]at g2;subst g2;refine⟨rfl,?_⟩;have:=GR.ab8 (ro':=dQ) (off:=k) (n:=len) (size:=d) (cap:=D.getD ((q.sz-k)/q.es)) (cs:=cs) (gs:=gl) (C.rel.at o j) C.xg (C.vK id t _ q o rfl j) H k2 u h0 I (λF' vs E l=>by obtain⟨am,V,an,WY,_⟩:=Hz (F:=F) s len N l U;rw[X]at V;cases V;unfold bW at WY⊢;exact(qX _ _).1 (aU.mono E _ _ ((qX _ _).2 WY)))
        exact this
       ·cases i
      ·cases i
     ·cases i
    ·cases i
   ·cases h
  ·cases h
 ·cases h
def aoD:∀{a b:W2},capEq a b=true->a=b
 |none,none,_=>rfl
 |some _,some _,h=>uS some (bV h)
 |none,some _,h=>by cases h
 |some _,none,h=>by cases h
mutual
def abS(C:yC T P tabs G next F J w fz r ps gs dQ):∀(p a:AV)(v:Value),p.under next=true->@mV T.toiI P G J fz r ps p a=true->@VR T F a v->@VR (Tg tabs gs ka) (vO tabs G next r F dQ) p v
 |.nd j,a,v,o,h,d=>by
  letI:=T
  simp only[mV]at h;split at h
  ·next m X=>
   obtain⟨H,g,u⟩:=I4 C.vals X;simp only[VR];refine⟨g,by show gs[j]? =_;rw[H,u],?_⟩;rw[qF]at h;rcases h with h|h
   ·split at h
    ·next m' aa=>
     have e:=bV h;subst e;obtain⟨g',s,L,k3⟩:=nV aa d;have A:T.val m=some g':=s;rw[u]at A;cases A;exact⟨L,GR.mono C.xg _ _ k3⟩
    ·cases h
   ·exact ahI C h d u
  ·cases h
 |.sv i j,a,v,o,h,d=>by
  letI:=T
  simp only[AV.under,jX]at o;simp only[mV]at h;split at h
  ·next m X=>
   obtain⟨H,g,u⟩:=I4 C.vals X;split at h
   ·next id n=>
    rw[aO,aO,jX]at h;obtain⟨⟨M,V⟩,I⟩:=h;have hr:=Tc V;simp only[VR]at d⊢;obtain⟨xs,s,d⟩:=d;have hx:∃W,g=.l W/\W.length=xs.length:=by obtain⟨W,rfl⟩:=aDt 100 I u s;exact⟨W,rfl,Ba 100 I u s⟩
    obtain⟨W,rfl,D⟩:=hx;refine⟨W,by show gs[j]? =_;rw[H,u],?_⟩;rcases d with⟨q,N,E,rfl⟩|⟨ab,rfl,rfl⟩
    ·exact .inl ⟨q,by rw[Ir M o hr];exact N,by rw[D];exact E,by rw[D]⟩
    ·exact .inr ⟨by rw[ajt M o hr];exact ab,kK (by simpa using D),rfl⟩
   ·rw[aO,aO,jX]at h;obtain⟨⟨M,V⟩,I⟩:=h;have hr:=aAI V;simp only[VR]at d⊢;unfold OH at I;split at I
    ·next hn=>
     obtain⟨g',s,L⟩:=T.uo m _ hn aA;rw[u]at s;cases s;simp only[Nd.den,valsOf,iJ,bF]at L;subst L;exact⟨[],by show gs[j]? =_;rw[H,u],.inr ⟨aju M o hr,rfl,d⟩⟩
    ·cases I
   ·cases h
  ·cases h
 |.p i Y,a,v,o,h,d=>by
  letI:=T
  simp only[AV.under,jX]at o;simp only[mV]at h;split at h
  ·next id O=>
   rw[aO]at h;have e:=bV h.1;subst e;simp only[VR]at d⊢;obtain⟨q,N,rfl⟩:=d;split at h
   ·next E=>
    have e:=bV h.2;subst e;obtain⟨sz,es,hg⟩:=C.rel.oO i (by rw[<-C.gn];exact E);rw[N]at hg;cases hg;exact⟨_,Xr E,rfl⟩
   ·next E=>exact⟨q,by rw[Ir ah o (Tc h.2)];exact N,rfl⟩
  ·cases h
 |.rx j Y,a,v,o,h,d=>by
  letI:=T
  simp only[mV]at h;split at h
  ·next m O=>
   rw[aO]at h;have e:=bV h.1;subst e;split at h
   ·next m' X=>
    have e:=bV h.2;subst e;obtain⟨H,g,u⟩:=I4 C.vals X;simp only[VR]at d⊢;obtain⟨g',bl,base,cs,Z,fr,x,s,L,k3,k4,k5⟩:=d;have A:T.val m=some g':=s;rw[u]at A;cases A;exact⟨g,bl,base,cs,Z,fr,x,by show gs[j]? =_;rw[H,u],C.xg _ _ L,GR.mono C.xg _ _ k3,k4,k5⟩
   ·simp at h
  ·cases h
 |.fn f fi cs,a,v,o,h,d=>by
  letI:=T
  simp only[AV.under,aO]at o;simp only[mV]at h;split at h
  ·next f' ac ad=>
   rw[aO,aO]at h;obtain⟨⟨M,V⟩,I⟩:=h;have e:=bV M;subst e;simp only[VR]at d⊢;obtain⟨us,U,rfl,s,L⟩:=d;exact⟨us,U,rfl,Iu C fi ac us o.1 V s,Iu C cs ad U o.2 I L⟩
  ·cases h
 |.agg l,a,v,o,h,d=>by
  letI:=T
  simp only[AV.under]at o;simp only[mV]at h;split at h
  ·next l'=>simp only[VR]at d⊢;obtain⟨U,rfl,s⟩:=d;exact⟨U,rfl,Iu C l l' U o h s⟩
  ·cases h
 |.fG l,a,v,o,h,d=>by
  letI:=T
  simp only[AV.under]at o;simp only[mV]at h;split at h
  ·next l'=>simp only[VR]at d⊢;obtain⟨U,rfl,s⟩:=d;exact⟨U,rfl,Iu C l l' U o h s⟩
  ·cases h
 |.jL t x,a,v,o,h,d=>by
  letI:=T
  simp only[AV.under]at o;simp only[mV]at h;split at h
  ·next t' x'=>
   rw[aO]at h;have e:=bV h.1;subst e;simp only[VR]at d⊢;obtain⟨y,rfl,s⟩:=d;exact⟨y,rfl,abS C x x' y o h.2 s⟩
  ·cases h
 |.b x,a,v,o,h,d=>by
  letI:=T
  simp only[mV]at h;split at h
  ·next y=>have:=U9.1 h;subst this;simp only[VR]at d⊢;exact d
  ·cases h
 |.i k n,a,v,o,h,d=>by
  letI:=T
  simp only[mV]at h;split at h
  ·next k' n'=>
   rw[aO]at h;have H:=W9 h.1;have u:=aiL h.2;subst H;subst u;simp only[VR]at d⊢;exact d
  ·cases h
 |.s x,a,v,o,h,d=>by
  letI:=T
  simp only[mV]at h;split at h
  ·next y=>have:=ZV h;subst this;simp only[VR]at d⊢;exact d
  ·cases h
 |.kG,a,v,o,h,d=>by letI:=T;simp only[mV]at h;split at h;(simp only[VR]at d⊢;exact d);cases h
 |.iq,a,v,o,h,d=>by letI:=T;simp only[mV]at h;split at h;(simp only[VR]at d⊢;exact d);cases h
 |.AU,a,v,o,h,d=>by letI:=T;simp only[mV]at h;split at h;(simp only[VR]at d⊢;exact d);cases h
 |.vS,a,v,o,h,d=>by letI:=T;simp only[mV]at h;split at h;(simp only[VR]at d⊢;exact d);cases h
 |.rQ,a,v,o,h,d=>by letI:=T;simp only[mV]at h;split at h;(simp only[VR]at d⊢;exact d);cases h
 |.sl i Y len ag,a,v,o,h,d=>by
  letI:=T
  simp only[AV.under,jX]at o;simp only[mV]at h;split at h
  ·next id O ae af=>
   simp only[aO,jX]at h;obtain⟨⟨M,V⟩,I,h4,h5⟩:=h;have H:=bV I;have u:=bV h4;have e3:=aoD h5;subst H;subst u;subst e3;simp only[VR]at d⊢;obtain⟨q,N,s,rfl⟩:=d;exact⟨q,by rw[Ir M o (Tc V)];exact N,s,rfl⟩
  ·cases h
 |.mp i,a,v,o,h,d=>by
  letI:=T
  simp only[AV.under,jX]at o;simp only[mV]at h;split at h
  ·next id=>
   rw[aO,jX]at h;simp only[VR]at d⊢;obtain⟨q,N,rfl⟩:=d;exact⟨q,by rw[Ir h.1 o (Tc h.2)];exact N,rfl⟩
  ·cases h
 |.z _ _ _,_,_,_,h,_=>by simp[mV]at h
 |.ro _,_,_,_,h,_=>by simp[mV]at h
 |.rp _ _,_,_,_,h,_=>by simp[mV]at h
 |.pv _ _ _,_,_,_,h,_=>by simp[mV]at h
 |.pd _ _,_,_,_,h,_=>by simp[mV]at h
def Iu(C:yC T P tabs G next F J w fz r ps gs dQ):∀(p a:Q3)(v:Q6),AV.rX next p=true->@DT T.toiI P G J fz r ps p a=true->@aG T F a v->@aG (Tg tabs gs ka) (vO tabs G next r F dQ) p v
 |[],a,v,e,h,d=>by
  letI:=T
  simp only[DT]at h;split at h
  ·simp only[aG]at d⊢;exact d
  ·cases h
 |p::l,a,v,e,h,d=>by
  letI:=T
  simp only[AV.rX,aO]at e;simp only[DT]at h;split at h
  ·next b i=>
   rw[aO]at h;simp only[aG]at d⊢;obtain⟨x,g,rfl,j,k⟩:=d;exact⟨x,g,rfl,abS C p b x e.1 h.1 j,Iu C l i g e.2 h.2 k⟩
  ·cases h
end
def ajw{t:Tr AV}[iI]:∀{l:Wo},Xt P G J fz r ps t l=true->∀k p,(k,p)∈l->∃v,t.get k=some v/\mV P G J fz r ps p v=true
 |[],_,k,p,hk=>by simp at hk
 |q::l,h,k,p,hk=>by
  simp only[Xt,aO]at h;rcases bI.1 hk with e|hk
  ·subst e;have h1:=h.1;split at h1
   ·next v d=>exact⟨v,d,h1⟩
   ·cases h1
  ·exact ajw h.2 k p hk
def ajv[iI]:∀{l:YY},OB P G next J fz r ps l=true->∀i o,(i,o)∈l->G<i/\i<next/\mO P G J fz r ps i o=true
 |[],_,i,o,hk=>by simp at hk
 |q::l,h,i,o,hk=>by
  simp only[OB,aO,jX]at h;rcases bI.1 hk with e|hk
  ·subst e;exact⟨h.1.1.1,h.1.1.2,h.1.2⟩
  ·exact ajv h.2 i o hk
def adi:∀{r:W8},LC r=true->∀i j a,dV i r=some (some a)->dV j r=some (some a)->i=j
 |[],_,i,j,a,h1,_=>by simp[dV]at h1
 |p::l,h,i,j,a,h1,d=>by
  simp only[LC,aO]at h;simp only[dV]at h1 d;cases e:Nat.beq i p.1<;>cases g:Nat.beq j p.1<;>rw[e]at h1<;>rw[g]at d<;>simp only[cond_true,cond_false,bF]at h1 d
  ·exact adi h.2 i j a h1 d
  ·have m:=Wq h1;have k:=h.1;rw[d]at k;have:=List.all_eq_true.1 k _ m;simp at this
  ·have m:=Wq d;have k:=h.1;rw[h1]at k;have:=List.all_eq_true.1 k _ m;simp at this
  ·rw[bV e,bV g]
def axm(C:yC T P tabs G next F J w fz r ps gs dQ){i:Nat}{o:bP}(hG:G<i)(hn:i<next)(hb:Dt next o=true)(h:@mO T.toiI P G J fz r ps i o=true):
 @Live (Tg tabs gs ka) P (vO tabs G next r F dQ) w i o/\(∀id,dV i r=some (some id)->id∉fz/\∃o',J.get id=some o'/\o'.own=o.own):=by
 letI:=T
 unfold mO at h;split at h
 ·next id D=>
  rw[aO]at h;obtain⟨h1,h⟩:=h;have u:id∉fz:=by intro E;rw[aeK.2 E]at h1;simp at h1
  have v:(vO tabs G next r F dQ) i=F id:=Ir hG hn D;split at h
  ·next l Z xk ae=>
   split at h
   ·next c JZ am SC p=>
    rw[aO,aO,aO]at h;obtain⟨⟨⟨h2,h3⟩,H⟩,h5⟩:=h;have s:=bV h2;have A:=U9.1 h3;have e3:=U9.1 H;subst s;subst A;subst e3;refine⟨?_,λI t=>by rw[D]at t;cases t;exact⟨u,_,p,rfl⟩⟩;obtain⟨q,L,cs,n,fr,af,M⟩:=C.rel.obj _ _ p rfl;refine .inl ⟨q,by rw[v];exact L,cs,n,fr,af,?_⟩;have aa:@aG T F c ((cs.toList.drop q.ba).take c.length):=by have al:=M.fits;have an:=M.le;refine aG.of (by simp;omega) λk a N=>?_;obtain⟨x,hx,hv⟩:=M.cell k a N;have ab:=(gu.1 N).1;exact⟨x,by rw[oh,au ab,uI];simpa using hx,hv⟩
    have ac:=Iu (ka:=ka) C l c _ hb h5 aa;have V:l.length=c.length:=by have h6:=@aG.length (Tg tabs gs ka) _ _ _ ac;have h7:=aa.length;omega
    exact @vC.mk (Tg tabs gs ka) P (vO tabs G next r F dQ) q l Z xk ae cs n fr M.fits (by rw[V];exact M.le) (λe=>by rw[V];exact M.shut e) (λk a N=>by obtain⟨x,hx,hv⟩:=@aG.at (Tg tabs gs ka) _ _ _ ac k a N;have ab:=(gu.1 N).1;rw[oh,au ah,uI]at hx;exact⟨x,by simpa using hx,hv⟩) M.free M.whole M.room
   ·cases h
  ·next j Z f=>
   split at h
   ·next m JZ f' p=>
    rw[aO,aO]at h;obtain⟨⟨h2,h3⟩,H⟩:=h;have s:=bV h2;subst s;refine⟨?_,λI t=>by rw[D]at t;cases t;exact⟨u,_,p,rfl⟩⟩;split at H
    ·next m' E=>
     have e:=bV H;subst e;obtain⟨s,g,A⟩:=I4 C.vals E;rcases C.rel.live id _ p with⟨q,L,ag⟩|⟨ai,n2,ao,f2,e3,ak⟩
     ·obtain⟨xs,cs,n,fr,ys,O,U,k3,k4,k5,k6,k7,k8,k9⟩:=ag;have W:T.val m=some (.l xs):=O;refine .inl ⟨q,by rw[v];exact L,xs,cs,n,fr,ys,by show gs[j]? =_;rw[s,W],U,aU.mono C.xg _ _ k3,k4,k5,k6,@vC.mk (Tg tabs gs ka) P (vO tabs G next r F dQ) q [] Z true true cs n fr k7.fits k7.le k7.shut (λk a N=>by simp at N) k7.free k7.whole k7.room,k8,λe=>k9 ?_⟩;rw[e]at h3;simpa using h3
     ·cases e3;have WV:T.val m=some (.l []):=ak;exact .inr ⟨by rw[ajt hG hn D];exact ai,j,Z,f,rfl,by show gs[j]? =_;rw[s,WV]⟩
    ·simp at H
   ·cases h
  ·next j kk sz=>
   split at h
   ·next m Fv ap p=>
    rw[aO,aO]at h;obtain⟨⟨h2,h3⟩,H⟩:=h;have s:=Xe h2;have A:=adV h3;subst s;subst A;refine⟨?_,λI t=>by rw[D]at t;cases t;exact⟨u,_,p,rfl⟩⟩;split at H
    ·next m' E=>
     have e:=bV H;subst e;obtain⟨s,g,A⟩:=I4 C.vals E;obtain⟨q,L,xs,ms,d,O,U,k3⟩:=C.rel.obj _ _ p rfl;have W:T.val m=some (.l xs):=O;exact .inl ⟨q,by rw[v];exact L,xs,ms,d,by show gs[j]? =_;rw[s,W],U,k3.mono C.xg⟩
    ·simp at H
   ·next p=>
    refine⟨?_,λI t=>by rw[D]at t;cases t;exact⟨u,_,p,rfl⟩⟩;split at h
    ·next m E=>
     obtain⟨s,g,A⟩:=I4 C.vals E;unfold OH at h;split at h
     ·next X=>
      obtain⟨g',O,U⟩:=T.uo m _ X aA;rw[A]at O;cases O;simp only[Nd.den,valsOf,iJ,bF]at U;subst U;obtain⟨q,L,ms,d,hb,Y,_⟩:=C.rel.obj _ _ p rfl;refine .inl ⟨q,by rw[v];exact L,[],ms,d,by show gs[j]? =_;rw[s,A],hb,?_⟩;simp only[vF];have:ms.size=0:=by simpa using Y
      simpa using aem this
     ·cases h
    ·simp at h
   ·cases h
  ·split at h
   ·next p=>
    refine⟨?_,λI t=>by rw[D]at t;cases t;exact⟨u,_,p,rfl⟩⟩;obtain⟨q,L,ms,d,hb,Y,_⟩:=C.rel.obj _ _ p rfl;exact .inl ⟨q,by rw[v];exact L,ms,d,hb,Y,λk e N=>by simp at N⟩
   ·cases h
  ·cases h
 ·next D=>
  refine⟨?_,λid ad=>by rw[D]at ad;cases ad⟩;split at h
  ·next j Z f=>
   split at h
   ·next m E=>
    obtain⟨s,g,A⟩:=I4 C.vals E;unfold OH at h;split at h
    ·next X=>
     obtain⟨g',O,U⟩:=T.uo m _ X aA;rw[A]at O;cases O;simp only[Nd.den,valsOf,iJ,bF]at U;subst U;exact .inr ⟨aju hG hn D,j,Z,f,rfl,by show gs[j]? =_;rw[s,A]⟩
    ·cases h
   ·cases h
  ·cases h
 ·cases h
end
noncomputable section
variable{P:Program}
variable{T:aJ}{tabs:QP}{G next:Nat}{F:Env}{J:aC}{w:World}{fz:Q2}{r:W8}{ps:Q2}{gs:Q1}{dQ:Qf}
def G6(n:Nat):Wo->Bool
 |[]=>true
 |p::l=>p.2.under n&&G6 n l
def afC{n:Nat}:∀{l:Wo},G6 n l=true->∀k p,(k,p)∈l->p.under n=true
 |[],_,k,p,h=>by simp at h
 |q::l,h,k,p,hk=>by
  simp only[G6,aO]at h;rcases bI.1 hk with e|hk
  ·subst e;exact h.1
  ·exact afC h.2 k p hk
def iM.ok(s:iM):Bool:=Nat.blt s.gn s.next&&G6 s.next s.slots&&s.objs.all λp=>Dt s.next p.2
structure xG(tabs:QP)(G:Nat):Prop where
 low:∀p∈tabs,p.1<=G
 one:∀p∈tabs,dV p.1 tabs=some p.2
def aE2(T:aJ){F:Env}{a:AV}{v:Value}(h:a.toVal 4=some v):@VR T F a v:=@amF T F 4 a v h
def abV{ka:Nat}{s:iM}(Y:T.tabs=tabs)(v:xG tabs P.globals.size)(Kq:s.objs.all (λp=>Dt s.next p.2)=true)(h3:s.gn<s.next)(Z:s.gn=P.globals.size)
 (C:yC T P tabs s.gn s.next F J w fz r ps gs dQ) (f1:∀b o,dQ b=some o->w.heap[b]? =some o) (f2:∀id o q,id∉fz->J.get id=some o->o.own=true->F id=some q->dQ q.bl=none) (h4:LC r=true) (h6:@OB T.toiI P s.gn s.next J fz r ps s.objs=true):
 @SR (Tg tabs gs ka) P (vO tabs s.gn s.next r F dQ) (s.st tabs) w/\(∀i o q,(s.st tabs).get i=some o->o.own=true->(vO tabs s.gn s.next r F dQ) i=some q->∃id o',dV i r=some (some id)/\id∉fz/\J.get id=some o'/\o'.own=true/\F id=some q):=by
 letI:=T
 have obj:∀i o,(s.st tabs).get i=some o->(s.gn<i/\i<s.next/\@Live (Tg tabs gs ka) P (vO tabs s.gn s.next r F dQ) w i o/\(∀id,dV i r=some (some id)->id∉fz/\∃o',J.get id=some o'/\o'.own=o.own))\/
  (i<=s.gn/\∃c,o=.cells c 0 false false/\(i,c)∈tabs):=by
  intro i o hi;have d:=SA hi;rcases jP.1 d with d|d
  ·obtain⟨O,g2,g3⟩:=ajv h6 i o d;have hb:=List.all_eq_true.1 Kq _ d;obtain⟨H,g5⟩:=axm C O g2 hb g3;exact .inl ⟨O,g2,H,g5⟩
  ·obtain⟨p,U,e⟩:=rZ.1 d;cases e;exact .inr ⟨by rw[Z];exact v.low p U,p.2,rfl,U⟩
 have own:∀i o q,(s.st tabs).get i=some o->o.own=true->(vO tabs s.gn s.next r F dQ) i=some q->∃id o',dV i r=some (some id)/\id∉fz/\J.get id=some o'/\o'.own=true/\F id=some q:=by
  intro i o q hi ho hq;rcases obj i o hi with⟨O,g2,_,H⟩|⟨_,c,rfl,_⟩
  ·have j:(if i<=s.gn then some ⟨i,0,CV tabs i,0⟩else if i<s.next then(match dV i r with|some (some id)=>F id|_=>none)else none)=some q:=hq;rw[aj ah,au g2]at j;split at j
   ·next id m=>
    obtain⟨t,o',n,A⟩:=H id m;exact⟨id,o',m,t,n,A.trans ho,j⟩
   ·cases j
  ·cases ho
 have aa:∀p∈tabs,@GK (vO tabs s.gn s.next r F dQ) p.1 p.2:=by intro p U;obtain⟨I,l,L,t,n⟩:=C.rel.tabs p (by rw[Y];exact U);exact⟨I,l,L,C.xg _ _ t,n⟩
 refine⟨@SR.mk (Tg tabs gs ka) P _ _ w ?_ ?_ ?_ ?_ ?_ ?_ ?_ ?_,own⟩
 ·intro g hg;exact⟨_,_,Xr ah⟩
 ·intro i q hq;have j:(if i<=s.gn then some ⟨i,0,CV tabs i,0⟩else if i<s.next then(match dV i r with|some (some id)=>F id|_=>none)else none)=some q:=hq;show i<s.next
  split at j
  ·omega
  ·split at j
   ·next h=>exact h
   ·cases j
 ·intro i o hi;rcases obj i o hi with⟨_,_,g3,_⟩|⟨E,c,rfl,d⟩
  ·exact g3
  ·obtain⟨I,l,L,t,n,A⟩:=C.rel.tabs (i,c) (by rw[Y];exact d);have hb:=C.rel.jF _ _ t;have ab:CV tabs i=c.length:=by unfold CV;rw[v.one (i,c) d]
   refine .inl ⟨⟨i,0,CV tabs i,0⟩,Xr E,I,l,L,hb,?_⟩;refine @vC.mk (Tg tabs gs ka) P _ _ c 0 false false I l L (by simp only at n⊢;omega) (by simp only;omega) (λ_=>by simp only;omega) (λk a hk=>?_) (λh=>by cases h) (λh=>absurd rfl h) (λh=>by cases h);obtain⟨x,hx,hv⟩:=A.1 k a hk;exact⟨x,by simpa using hx,@UK.vr (Tg tabs gs ka) _ _ _ hv⟩
 ·intro i hg;have M:(decide (s.gn<i)&&decide (i<s.next)&&(match dV i r with|some (some id)=>F.gh id|some none=>true|none=>false))=true:=hg;rw[aO,aO,decide_eq_true_iff,decide_eq_true_iff]at M;obtain⟨⟨t,n⟩,A⟩:=M;refine⟨?_,n⟩;show(if i<=s.gn then some ⟨i,0,CV tabs i,0⟩else if i<s.next then(match dV i r with|some (some id)=>F id|_=>none)else none)=none
  rw[aj ah,au n];split at A
  ·next id m=>rw[m];exact(C.rel.kZ id A).1
  ·next m=>rw[m]
  ·cases A
 ·intro i o D o' q q' a1 a2 a3 a4 a5 a6;obtain⟨id,u,b1,b2,V,W,X⟩:=own i o q a1 a2 a5;rcases obj D o' a3 with⟨O,g2,_,H⟩|⟨E,c,rfl,d⟩
  ·have j:(if D<=s.gn then some ⟨D,0,CV tabs D,0⟩else if D<s.next then(match dV D r with|some (some id)=>F id|_=>none)else none)=some q':=a6;rw[aj ah,au g2]at j;split at j
   ·next N kN=>
    obtain⟨t,u',n,A⟩:=H N kN;exact C.rel.sep id u N u' q q' V W n (λe=>a4 (by subst e;exact adi h4 i D id b1 kN)) X j
   ·cases j
  ·intro e;rw[Xr E]at a6;cases a6;obtain⟨I,l,L,t,_⟩:=C.rel.tabs (D,c) (by rw[Y];exact d);have:=C.rel.ng id u q V W X;simp only at e;rw[e]at this;rw[t]at this;cases this
 ·exact f1
 ·intro i o q a1 a2 a3;obtain⟨id,u,b1,b2,V,W,X⟩:=own i o q a1 a2 a3;exact f2 id u q b2 V W X
 ·exact aa
def ZL{r:W8}:∀{n i:Nat},Qo r i n=true->∀j,i<j->j<=i+n->dV j r=some (some j)
 |0,i,_,j,h1,d=>ah
 |n+1,i,h,j,h1,d=>by
  simp only[Qo,aO]at h;by_cases e:j=i+1
  ·subst e;exact Tc h.1
  ·exact ZL h.2 j ah ah
def abU{w0:Base}{m:Qf}{a:bM}{A:Act}{s:iM}(X:T.tabs=tabs)(g:xG tabs P.globals.size)(d:s.ok=true)(h:@lD T P w0 m F J w)(Y:J.lock=0)(j:@TR T P F a A)(n:@abR T.toiI P s a J fz r ps=true)(t:valsOf T.val ps=some gs):UJ P tabs s gs w0 m A w:=by
 letI:=T
 unfold abR at n;simp only[aO,jX]at n;obtain⟨⟨⟨⟨⟨⟨⟨⟨D,k2⟩,Z⟩,h1⟩,h2⟩,U⟩,h4⟩,h5⟩,h6⟩:=n;have D:=bV D;have e1:=bV h1;have e2:=bV h2;unfold iM.ok at d;rw[aO,aO]at d;obtain⟨⟨_,E⟩,Kq⟩:=d;have e:s.gn=P.globals.size:=by rw[e2];exact j.gn
 obtain⟨dQ,f1,l,f3⟩:=Wn h Y fz;have C:yC T P tabs s.gn s.next F J w fz r ps gs dQ:=⟨h.rel,t,f1,f3,e,U⟩
 obtain⟨hS,own⟩:=abV (ka:=s.ka) X g Kq U e C l.rel.jF (λid o q V H I L=>l.rel.ng id o q (by rw[Fq,aj V];exact H) I L) h4 h6;refine⟨vO tabs s.gn s.next r F dQ,?_,?_⟩
 ·refine @lD.mk (Tg tabs gs s.ka) P w0 m _ _ w hS h.kept ?_ ?_ ?_ ?_
  ·intro i o q M a2 N;obtain⟨id,u,b1,V,H,I,L⟩:=own i o q M a2 N;exact h.own id u q H I L
  ·exact l.xg
  ·exact l.tC
  ·intro i q hi;obtain⟨M,a2,N⟩:=h.uN i q hi;have O:i<=P.globals.size+s.ka:=by rw[D];exact N
   refine⟨?_,a2,O⟩;rw[Ir ah ah (ZL Z i ah ah)];exact M
 ·refine @TR.mk (Tg tabs gs s.ka) P _ _ A ?_ ?_ j.none ?_
  ·exact e
  ·show A.tmps.size=s.n
   rw[e1];exact j.size
  ·intro k p W;obtain⟨v,v1,v2⟩:=ajw h5 k p (SA W);obtain⟨x,hx,hv⟩:=j.slot k v v1;exact⟨x,hx,abS C p v x (afC E k p (SA W)) v2 hv⟩
end
noncomputable section
variable{P:Program}
mutual
def AV.fM(f:Nat->Nat):AV->AV
 |.nd j=>.nd (f j)
 |.rx j off=>.rx (f j) off
 |.sv id j=>.sv id (f j)
 |.pv id j off=>.pv id (f j) off
 |.pd id j=>.pd id (f j)
 |.fn g fi cs=>.fn g (AV.sU f fi) (AV.sU f cs)
 |.jL t a=>.jL t (a.fM f)
 |.agg l=>.agg (AV.sU f l)
 |.fG l=>.fG (AV.sU f l)
 |.ro l=>.ro (AV.sU f l)
 |.rp a off=>.rp (a.fM f) off
 |a=>a
def AV.sU(f:Nat->Nat):Q3->List AV
 |[]=>[]
 |a::l=>a.fM f::AV.sU f l
end
def Xu(f:Nat->Nat):∀l:Q3,AV.sU f l=l.map (AV.fM f)
 |[]=>rfl
 |a::l=>by simp[AV.sU,Xu f l]
def bP.fM(f:Nat->Nat):bP->bP
 |.cells c et rw opn=>.cells (AV.sU f c) et rw opn
 |.iter s pos=>.iter s pos
 |.map es=>.map (es.map λe=>(e.1.fM f,e.2.fM f))
 |.iterM m=>.iterM m
 |.vec j et b=>.vec (f j) et b
 |.smap j d sz=>.smap (f j) d sz
 |.pmap es=>.pmap (es.map λe=>(e.1,e.2.fM f))
def bP.axt(f:Nat->Nat)(o:bP):(o.fM f).own=o.own:=by cases o<;>rfl
section
variable{S T:aJ}{f:Nat->Nat}{F:Env}
mutual
def VR.fM(h:∀j g,S.val j=some g->T.val (f j)=some g):∀(a:AV)(v:Value),@VR S F a v->@VR T F (a.fM f) v
 |.b _,_,d=>by simpa only[VR,AV.fM]using d
 |.i _ _,_,d=>by simpa only[VR,AV.fM]using d
 |.s _,_,d=>by simpa only[VR,AV.fM]using d
 |.kG,_,d=>by simpa only[VR,AV.fM]using d
 |.p _ _,_,d=>by simpa only[VR,AV.fM]using d
 |.iq,_,d=>by simpa only[VR,AV.fM]using d
 |.sl _ _ _ _,_,d=>by simpa only[VR,AV.fM]using d
 |.rQ,_,d=>by simpa only[VR,AV.fM]using d
 |.mp _,_,d=>by simpa only[VR,AV.fM]using d
 |.AU,_,d=>by simpa only[VR,AV.fM]using d
 |.fn _ fi cs,_,d=>by simp only[VR,AV.fM]at d⊢;obtain⟨D,vs,e,h1,m⟩:=d;exact⟨D,vs,e,aG.fM h fi D h1,aG.fM h cs vs m⟩
 |.vS,_,d=>by simpa only[VR,AV.fM]using d
 |.jL _ a,_,d=>by simp only[VR,AV.fM]at d⊢;obtain⟨x,e,h1⟩:=d;exact⟨x,e,VR.fM h a x h1⟩
 |.agg l,_,d=>by simp only[VR,AV.fM]at d⊢;obtain⟨x,e,h1⟩:=d;exact⟨x,e,aG.fM h l x h1⟩
 |.fG l,_,d=>by simp only[VR,AV.fM]at d⊢;obtain⟨x,e,h1⟩:=d;exact⟨x,e,aG.fM h l x h1⟩
 |.z _ _ _,_,d=>by simpa only[VR,AV.fM]using d
 |.ro l,_,d=>by
  simp only[VR,AV.fM]at d⊢;have E:(AV.sU f l).length=l.length:=by rw[Xu];simp
  rcases d with⟨rfl,d⟩|⟨s,u,c,o,H,e,I,h1,m,t⟩
  ·exact .inl ⟨rfl,d⟩
  ·rw[E];exact .inr ⟨s,u,c,o,H,e,I,aG.fM h l o h1,m,λL=>t (by intro M;apply L;rw[M];rfl)⟩
 |.rp a _,_,d=>by simp only[VR,AV.fM]at d⊢;obtain⟨s,base,cs,n,A,x,h1,m,t⟩:=d;exact⟨s,base,cs,n,A,x,h1,VR.fM h a x m,t⟩
 |.nd _,_,d=>by simp only[VR,AV.fM]at d⊢;obtain⟨g,h1,m⟩:=d;exact⟨g,h _ _ h1,m⟩
 |.rx _ _,_,d=>by simp only[VR,AV.fM]at d⊢;obtain⟨g,s,base,cs,n,A,x,h1,m⟩:=d;exact⟨g,s,base,cs,n,A,x,h _ _ h1,m⟩
 |.sv _ _,_,d=>by simp only[VR,AV.fM]at d⊢;obtain⟨o,h1,m⟩:=d;exact⟨o,h _ _ h1,m⟩
 |.pv _ _ _,_,d=>by simp only[VR,AV.fM]at d⊢;obtain⟨q,k,i,h1,m,t⟩:=d;exact⟨q,k,i,h1,h _ _ m,t⟩
 |.pd _ _,_,d=>by simp only[VR,AV.fM]at d⊢;obtain⟨o,p,h1,m⟩:=d;exact⟨o,p,h _ _ h1,m⟩
def aG.fM(h:∀j g,S.val j=some g->T.val (f j)=some g):∀(l:Q3)(vs:Q6),@aG S F l vs->@aG T F (AV.sU f l) vs
 |[],_,d=>by simpa only[aG,AV.sU]using d
 |a::l,_,d=>by simp only[aG,AV.sU]at d⊢;obtain⟨x,xs,e,h1,i⟩:=d;exact⟨x,xs,e,VR.fM h a x h1,aG.fM h l xs i⟩
end
def OR.fM(h:∀j g,S.val j=some g->T.val (f j)=some g){q:Place}{w:World}{o:bP}(r:@OR S P F q w o):@OR T P F q w (o.fM f):=by
 cases o with
 |cells c A xk D=>
  obtain⟨n,i,p,t,⟨r1,r2,r3,r4,E,H,I⟩⟩:=r;have hl:(AV.sU f c).length=c.length:=by rw[Xu];simp
  refine⟨n,i,p,t,@vC.mk T P F q _ A xk D n i p r1 (by rw[hl];exact r2) (λe=>by rw[hl];exact r3 e) (λk a l=>?_) E H I⟩;rw[Xu,jy]at l;obtain⟨a0,u,rfl⟩:=bJ.1 l;obtain⟨x,hx,hv⟩:=r4 k a0 u;exact⟨x,hx,VR.fM h a0 x hv⟩
 |iter s pos=>exact r
 |map es=>obtain⟨v,d,t,u,L⟩:=r;refine⟨v,d,t,by simpa using u,λk e l=>?_⟩;rw[jy]at l;obtain⟨M,N,rfl⟩:=bJ.1 l;obtain⟨m,O,U,V⟩:=L k M N;exact⟨m,O,VR.fM h _ _ U,VR.fM h _ _ V⟩
 |iterM m=>cases m<;>exact r
 |smap j kk sz=>obtain⟨W,v,d,X,Y,Z⟩:=r;exact⟨W,v,d,h _ _ X,Y,Z⟩
 |pmap es=>obtain⟨hn,v,d,aa,t,hp,u,L⟩:=r;refine⟨by simpa[List.map_map,Function.comp_def]using hn,v,d,aa,t,hp,by simpa using u,λk e l=>?_⟩;rw[jy]at l;obtain⟨M,N,rfl⟩:=bJ.1 l;obtain⟨m,O,U,V⟩:=L k M N;exact⟨m,O,U,VR.fM h _ _ V⟩
 |vec j A b=>obtain⟨W,n,i,p,ys,X,Y,Z,k4,k5,k6,⟨r1,r2,r3,r4,E,H,I⟩,k8⟩:=r;exact⟨W,n,i,p,ys,h _ _ X,Y,Z,k4,k5,k6,@vC.mk T P F q [] A true true n i p r1 r2 r3 (λk a l=>by simp at l) E H I,k8⟩
def Live.fM(h:∀j g,S.val j=some g->T.val (f j)=some g){w:World}{i:Nat}{o:bP}(r:@Live S P F w i o):@Live T P F w i (o.fM f):=by
 rcases r with⟨q,d,e⟩|⟨k,n,l,b,rfl,m⟩
 ·exact .inl ⟨q,d,OR.fM h e⟩
 ·exact .inr ⟨k,f n,l,b,rfl,h _ _ m⟩
end
def Ld{α:Type}:∀(l:List (Nat×α))(k:Nat),(rU l).get k=dV k l
 |[],k=>by simp[rU,dV]
 |(j,u)::l,k=>by
  rw[rU,Tr.yO,dV];cases d:Nat.beq k j with
  |true=>rw[au (bV d)];rfl
  |false=>rw[aj (λe=>by rw[e,Nat.beq_refl]at d;cases d)];exact Ld l k
def aaV{α β:Type}(g:α->β):∀(l:List (Nat×α))(m:List (Nat×β))(d:List (Nat×α))(k:Nat)(o:β),dV k (l.map (λp=>(p.1,g p.2))++m)=some o->(∃o0,dV k (l++d)=some o0/\o=g o0)\/(dV k m=some o/\(∀o',dV k d=some o'->dV k (l++d)=some o'))
 |[],m,d,k,o,h=>.inr ⟨h,λo' i=>i⟩
 |p::l,m,d,k,o,h=>by
  simp only[iU,bD,dV]at h⊢;cases e:Nat.beq k p.1 with
  |true=>rw[e]at h;simp only[cond_true,bF]at h⊢;exact .inl ⟨p.2,rfl,h.symm⟩
  |false=>rw[e]at h;simp only[cond_false]at h⊢;exact aaV g l m d k o h
def iM.U3(s:iM)(f:Nat->Nat):bM:=⟨rU (s.slots.map λp=>(p.1,p.2.fM f)),s.n,s.gn⟩
def iM.Gl(tabs:QP)(s:iM)(f:Nat->Nat):aC:=⟨rU (s.objs.map (λp=>(p.1,p.2.fM f))++yj tabs),s.next,0⟩
def ahG{T:aJ}{tabs:QP}{s:iM}{gs:Q1}{f:Nat->Nat}{w0:Base}{w:World}{N:Qf}{F:Env}(wU:T.tabs=tabs)(O:T.ka=s.ka)(hf:∀j g,gs[j]? =some g->T.val (f j)=some g)(h:@lD (Tg tabs gs s.ka) P w0 N F (s.st tabs) w):
 @lD T P w0 N F (s.Gl tabs f) w:=by
 obtain⟨⟨U,A,l,V,D,W,X,n⟩,v,E,Y,Z,aa⟩:=h;have ab:∀j g,(Tg tabs gs s.ka).val j=some g->T.val (f j)=some g:=hf;have obj:∀i o,(s.Gl tabs f).get i=some o->(∃o0,(s.st tabs).get i=some o0/\o=o0.fM f)\/(∃c,o=.cells c 0 false false/\(i,c)∈tabs/\(s.st tabs).get i=some o):=by
  intro i o hi;have ac:dV i (s.objs.map (λp=>(p.1,p.2.fM f))++yj tabs)=some o:=(Ld _ i).symm.trans hi;rcases aaV (bP.fM f) s.objs (yj tabs) (yj tabs) i o ac with⟨o0,d,h2⟩|⟨d,h2⟩
  ·exact .inl ⟨o0,(Ld _ i).trans d,h2⟩
  ·have hm:=Wq d;obtain⟨p,hp,e⟩:=rZ.1 hm;cases e;exact .inr ⟨p.2,rfl,hp,(Ld _ _).trans (h2 _ d)⟩
 have own:∀i o,(s.Gl tabs f).get i=some o->∃o0,(s.st tabs).get i=some o0/\o0.own=o.own:=by
  intro i o hi;rcases obj i o hi with⟨o0,d,rfl⟩|⟨c,rfl,_,d⟩
  ·exact⟨o0,d,(bP.axt f o0).symm⟩
  ·exact⟨_,d,rfl⟩
 refine @lD.mk T P w0 N _ _ w (@SR.mk T P _ _ w U A ?_ V ?_ W ?_ ?_) v ?_ Y Z (by rw[O];exact aa)
 ·intro i o hi;rcases obj i o hi with⟨o0,d,rfl⟩|⟨c,rfl,hm,d⟩
  ·exact Live.fM ab (l i o0 d)
  ·rcases l i _ d with⟨q,hq,cs,t,fr,hb,⟨r1,r2,r3,r4,r5,r6,r7⟩⟩|⟨_,_,_,_,e,_⟩
   rotate_left
   ·cases e
   obtain⟨ae,NT,Oc,k1,k2,k3⟩:=n (i,c) hm;refine .inl ⟨q,hq,cs,t,fr,hb,@vC.mk T P _ _ c 0 false false cs t fr r1 r2 r3 (λk a hk=>?_) r5 r6 r7⟩;obtain⟨x,hx,hv⟩:=r4 k a hk;obtain⟨y,hy,m⟩:=k3.1 k a hk;rcases m with m|⟨_,_,_,_,rfl,rfl,_,_⟩
   ·have:x=y:=@amG (Tg tabs gs s.ka) _ 4 a y x m hv;subst this;exact⟨x,hx,aE2 T m⟩
   ·exact⟨x,hx,by simpa only[VR]using hv⟩
 ·intro i o i' o' q q' H a2 I a4 a5 a6;obtain⟨u,L,M⟩:=own i o H;obtain⟨u',ad,af⟩:=own i' o' I;exact D i u i' u' q q' L (M.trans a2) ad a4 a5 a6
 ·intro i o q H a2 I;obtain⟨u,L,M⟩:=own i o H;exact X i u q L (M.trans a2) I
 ·rw[wU];exact n
 ·intro i o q H a2 I;obtain⟨u,L,M⟩:=own i o H;exact E i u q L (M.trans a2) I
def adE{T:aJ}{tabs:QP}{s:iM}{gs:Q1}{f:Nat->Nat}{w0:Base}{w:World}{t:Qf}{A:Act}(E:T.tabs=tabs)(e:T.ka=s.ka)(u:∀j g,gs[j]? =some g->T.val (f j)=some g)(h:UJ P tabs s gs w0 t A w):
 ∃F,@lD T P w0 t F (s.Gl tabs f) w/\@TR T P F (s.U3 f) A:=by
 obtain⟨F,H,⟨i,l,m,n⟩⟩:=h;have o:∀j g,(Tg tabs gs s.ka).val j=some g->T.val (f j)=some g:=u;refine⟨F,ahG E e u H,@TR.mk T P _ _ A i l m ?_⟩
 ·intro k v I;have q:dV k (s.slots.map (λp=>(p.1,p.2.fM f))++[])=some v:=by rw[pX];exact(Ld _ k).symm.trans I
  rcases aaV (AV.fM f) s.slots [] [] k v q with⟨D,d,rfl⟩|⟨d,_⟩
  ·rw[pX]at d;obtain⟨x,L,M⟩:=n k D ((Ld _ k).trans d);exact⟨x,L,VR.fM o D x M⟩
  ·simp[dV]at d
