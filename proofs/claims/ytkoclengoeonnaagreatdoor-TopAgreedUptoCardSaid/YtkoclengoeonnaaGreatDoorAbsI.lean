/- Pure programs: trees of nodes; what they compute; how a check of all their ways serves all values. -/
import Derived.Test.YtkoclengoeonnaaGreatDoorAbsH
import Derived.Control
set_option linter.all false
namespace Go.aP
noncomputable section
inductive Tree where
 |step (nd:Nd) (t:Tree)
 |ite (n:Nat) (t e:Tree)
 |ret (l:Q2)
 |tail (f:Nat) (l:Q2)
 |dead
 deriving Inhabited
abbrev iJ:=Nat->List GV->Option Q1
def Tree.den(I:iJ):Tree->List GV->Option Q1
 |.step nd t,d=>match nd.den I (λn=>d[n]?)with
  |some g=>t.den I (d++[g])
  |none=>none
 |.ite n t e,d=>match d[n]? with
  |some (.b true)=>t.den I d
  |some (.b false)=>e.den I d
  |_=>none
 |.ret l,d=>valsOf (λn=>d[n]?) l
 |.tail f l,d=>match valsOf (λn=>d[n]?) l with
  |some gs=>I f gs
  |none=>none
 |.dead,_=>none
inductive Leaf where
 |ret (l:Q2)
 |tail (f:Nat) (l:Q2)
def Tree.chk(p:List Nd->List (Nat×Bool)->Leaf->Bool):Tree->List Nd->List (Nat×Bool)->Bool
 |.step nd t,d,g=>t.chk p (d++[nd]) g
 |.ite n t e,d,g=>t.chk p d ((n,true)::g)&&e.chk p d ((n,false)::g)
 |.ret l,d,g=>p d g (.ret l)
 |.tail f l,d,g=>p d g (.tail f l)
 |.dead,_,_=>true
def QT{val d:W8}(h:∀n g,val n=some g->d n=some g):∀{l:Q2}{gs:Q1},valsOf val l=some gs->valsOf d l=some gs
 |[],gs,e=>e
 |n::l,gs,e=>by
  simp only[valsOf]at e⊢;split at e
  ·next g r h1 i=>rw[h n g h1,QT h i];exact e
  ·cases e
def Nd.ae3{I:iJ}{val m:W8}(h:∀n g,val n=some g->m n=some g){nd:Nd}{g:GV}(d:nd.den I val=some g):nd.den I m=some g:=by
 cases nd<;>simp only[Nd.den]at d⊢
 case ci=>exact d
 case cb=>exact d
 case cs=>exact d
 case arg=>exact d
 case mk l=>
  split at d
  ·next gs p=>rw[QT h p];exact d
  ·cases d
 case ml l=>obtain⟨gs,p,e⟩:=bn.1 d;rw[QT h p];simpa using e
 case call f l j=>
  split at d
  ·next gs p=>rw[QT h p];exact d
  ·cases d
 case upd size off a i vs=>
  split at d
  ·next t k j gs o q s=>rw[h _ _ o,h _ _ q,QT h s];exact d
  ·cases d
 all_goals
  split at d
  all_goals first
   |(cases d;done)
   |(simp only[h _ _ (by assumption)];exact d)
   |(rename_i o q s;rw[h _ _ o,h _ _ q,h _ _ s];exact d)
   |(rename_i o q;rw[h _ _ o,h _ _ q];exact d)
   |(rename_i o;rw[h _ _ o];exact d)
structure Dv(I:iJ)(ns:List Nd)(ds:Wg)(env:Q1):Prop where
 len:ns.length=env.length
 node:∀(n:Nat) nd,ns[n]? =some nd->nd≠.arg->∃g,env[n]? =some g/\nd.den I (λk=>env[k]?)=some g
 dec:∀(n:Nat)(b:Bool),(n,b)∈ds->env[n]? =some (.b b)
def Ur{α:Type}{l:List α}{x a:α}{n:Nat}(h:l[n]? =some a):(l++[x])[n]? =some a:=by have:=(fH.1 h).1;rw[mY this];exact h
def Tree.Lc{I:iJ}{p:List Nd->List (Nat×Bool)->Leaf->Bool}:∀(t:Tree){q:List Nd}{u:Wg}{d j:Q1},t.chk p q u=true->Dv I q u d->t.den I d=some j->
 ∃v A h H,p v A H=true/\Dv I v A h/\(∃s,h=d++s)/\(match H with|.ret l=>valsOf (λn=>h[n]?) l=some j|.tail f l=>∃gs,valsOf (λn=>h[n]?) l=some gs/\I f gs=some j)
 |.step nd t,q,u,d,j,B,m,i=>by
  simp only[Tree.den]at i;split at i
  ·next g L=>
   have M:Dv I (q++[nd]) u (d++[g]):=by
    refine⟨by simp[m.len],λn x D W=>?_,λn b o=>Ur (m.dec n b o)⟩;by_cases N:n<q.length
    ·rw[mY N]at D;obtain⟨X,O,U⟩:=m.node n x D W;exact⟨X,Ur O,Nd.ae3 (λk a V=>Ur V) U⟩
    ·have E:n=q.length:=by have:=(fH.1 D).1;simp at this;omega
     subst E;simp at D;subst D;exact⟨g,by rw[m.len];simp,Nd.ae3 (λk a V=>Ur V) L⟩
   obtain⟨v,A,h,H,O,U,⟨s,Y⟩,Z⟩:=Tree.Lc t B M i;exact⟨v,A,h,H,O,U,⟨[g]++s,by rw[Y,List.append_assoc]⟩,Z⟩
  ·cases i
 |.ite n t e,q,u,d,j,B,m,i=>by
  simp only[Tree.chk,aO]at B;simp only[Tree.den]at i;split at i
  ·next D=>
   refine Tree.Lc t B.1 ⟨m.len,m.node,λk b o=>?_⟩ i;rcases bJ.1 o with o|o
   ·cases o;exact D
   ·exact m.dec k b o
  ·next D=>
   refine Tree.Lc e B.2 ⟨m.len,m.node,λk b o=>?_⟩ i;rcases bJ.1 o with o|o
   ·cases o;exact D
   ·exact m.dec k b o
  ·cases i
 |.ret l,q,u,d,j,B,m,i=>⟨q,u,d,.ret l,B,m,⟨[],aA⟩,i⟩
 |.tail f l,q,u,d,j,B,m,i=>by
  simp only[Tree.den]at i;split at i
  ·next gs L=>exact⟨q,u,d,.tail f l,B,m,⟨[],aA⟩,gs,L,i⟩
  ·cases i
 |.dead,_,_,_,_,_,_,i=>by simp[Tree.den]at i
inductive oC where
 |sc
 |ag (n:Nat)
abbrev WF:=List oC
def nZ:WF->List GV->Bool
 |[],[]=>true
 |.sc::l,g::m=>g.scalar&&nZ l m
 |.ag n::l,g::m=>!g.scalar&&Nat.beq g.cells.length n&&nZ l m
 |_,_=>false
inductive aH where
 |tree (n:Nat) (t:Tree)
 |fn (xF zx:WF) (t:Tree)
 |rM (f:Q1->Option Q1)
abbrev Wa:=List aH
def aH.den(I:iJ):aH->List GV->Option Q1
 |.tree n t,gs=>if gs.length=n then t.den I gs else none
 |.fn e g t,gs=>if nZ e gs=true then match t.den I gs with
  |some d=>if nZ g d=true then some d else none
  |none=>none
  else none
 |.rM f,gs=>f gs
abbrev iP:=Nat->Option aH
def iP.run(TT:iP):Nat->iJ
 |0,_,_=>none
 |n+1,k,gs=>match TT k with
  |some d=>d.den (iP.run TT n) gs
  |none=>none
def iJ.le(I e:iJ):Prop:=∀k gs d,I k gs=some d->e k gs=some d
def Nd.zW{I e:iJ}(h:I.le e){val:W8}{nd:Nd}{g:GV}(d:nd.den I val=some g):nd.den e val=some g:=by
 cases nd with
 |call f l j=>
  simp only[Nd.den]at d⊢;split at d
  ·next gs k=>
   split at d
   ·next r i=>rw[h f gs r i];exact d
   ·cases d
  ·cases d
 |_=>exact d
def Tree.zW{I k:iJ}(h:I.le k):∀(t:Tree){i j:Q1},t.den I i=some j->t.den k i=some j
 |.step nd t,i,j,d=>by
  simp only[Tree.den]at d⊢;split at d
  ·next g m=>rw[Nd.zW h m];exact Tree.zW h t d
  ·cases d
 |.ite n t e,i,j,d=>by
  simp only[Tree.den]at d⊢;split at d
  ·exact Tree.zW h t d
  ·exact Tree.zW h e d
  ·cases d
 |.ret l,i,j,d=>d
 |.tail f l,i,j,d=>by
  simp only[Tree.den]at d⊢;split at d
  ·exact h _ _ _ d
  ·cases d
 |.dead,_,_,d=>by simp[Tree.den]at d
def aH.zW{I i:iJ}(h:I.le i)(d:aH){gs g:Q1}(e:d.den I gs=some g):d.den i gs=some g:=by
 cases d with
 |tree n t=>
  simp only[aH.den]at e⊢;split at e
  ·next j=>rw[au j];exact t.zW h e
  ·cases e
 |fn m p t=>
  simp only[aH.den]at e⊢;split at e
  ·next k=>
   split at e
   ·next o l=>rw[au k,t.zW h l];exact e
   ·cases e
  ·cases e
 |rM f=>exact e
def iP.ajb(TT:iP):∀n,(TT.run n).le (TT.run (n+1))
 |0,k,gs,e,h=>by simp[iP.run]at h
 |n+1,k,gs,e,h=>by
  simp only[iP.run]at h;rw[iP.run];split at h
  ·next d g=>exact d.zW (iP.ajb TT n) h
  ·cases h
def iP.VZ(TT:iP){n m:Nat}(h:n<=m):(TT.run n).le (TT.run m):=by
 induction h with
 |refl=>exact λ_ _ _ h=>h
 |step _ e=>exact λk gs d g=>iP.ajb TT _ k gs d (e k gs d g)
open Classical in
def iP.lim(TT:iP):iJ:=λk gs=>if h:∃d n,TT.run n k gs=some d then some (Classical.choose h)else none
def iP.I4{TT:iP}{n k:Nat}{gs d:Q1}(h:TT.run n k gs=some d):TT.lim k gs=some d:=by
 unfold iP.lim;have e:∃d n,TT.run n k gs=some d:=⟨d,n,h⟩
 rw[dif_pos e];obtain⟨m,i⟩:=akK e;have j:=TT.VZ (Nat.le_max_left n m) k gs d h;have g:=TT.VZ (Nat.le_max_right n m) k gs _ i;rw[j]at g;exact g.symm
def iP.aav{TT:iP}{k:Nat}{gs d:Q1}(h:TT.lim k gs=some d):∃n,TT.run n k gs=some d:=by
 unfold iP.lim at h;split at h
 ·next e=>
  cases h;exact akK e
 ·cases h
def Nd.Iz{TT:iP}{val:W8}{nd:Nd}{g:GV}(d:nd.den TT.lim val=some g):∃n,nd.den (TT.run n) val=some g:=by
 cases nd with
 |call f l j=>
  simp only[Nd.den]at d⊢;split at d
  ·next gs i=>
   split at d
   ·next r e=>
    obtain⟨n,h⟩:=iP.aav e;exact⟨n,by rw[h];exact d⟩
   ·cases d
  ·cases d
 |_=>exact⟨0,d⟩
def Tree.Iz{TT:iP}:∀(t:Tree){i j:Q1},t.den TT.lim i=some j->∃n,t.den (TT.run n) i=some j
 |.step nd t,i,j,d=>by
  simp only[Tree.den]at d;split at d
  ·next g o=>
   obtain⟨n,p⟩:=Nd.Iz o;obtain⟨m,k⟩:=Tree.Iz t d;refine⟨max n m,?_⟩;simp only[Tree.den];rw[Nd.zW (TT.VZ (Nat.le_max_left n m)) p];exact t.zW (TT.VZ (Nat.le_max_right n m)) k
  ·cases d
 |.ite n t e,i,j,d=>by
  simp only[Tree.den]at d⊢;split at d
  ·next h=>obtain⟨m,k⟩:=Tree.Iz t d;exact⟨m,k⟩
  ·next h=>obtain⟨m,k⟩:=Tree.Iz e d;exact⟨m,k⟩
  ·cases d
 |.ret l,i,j,d=>⟨0,d⟩
 |.tail f l,i,j,d=>by
  simp only[Tree.den]at d⊢;split at d
  ·exact iP.aav d
  ·cases d
 |.dead,_,_,d=>by simp[Tree.den]at d
def iP.atI{TT:iP}{k:Nat}{d:aH}(g:TT k=some d){gs e:Q1}(h:d.den TT.lim gs=some e):TT.lim k gs=some e:=by
 cases d with
 |tree m t=>
  simp only[aH.den]at h;split at h
  ·next j=>
   obtain⟨n,i⟩:=Tree.Iz t h;exact iP.I4 (n:=n+1) (by simp only[iP.run,g,aH.den,au j];exact i)
  ·cases h
 |fn q s t=>
  simp only[aH.den]at h;split at h
  ·next l=>
   split at h
   ·next o p=>
    obtain⟨n,i⟩:=Tree.Iz t p;exact iP.I4 (n:=n+1) (by simp only[iP.run,g,aH.den,l,if_true,i];exact h)
   ·cases h
  ·cases h
 |rM f=>exact iP.I4 (n:=1) (by simp only[iP.run,g];exact h)
def iP.atK{TT:iP}{C:Nat->List GV->List GV->Prop}(h:∀k d,TT k=some d->∀I:iJ,(∀k gs e,I k gs=some e->C k gs e)->∀gs e,d.den I gs=some e->C k gs e):∀k gs e,TT.lim k gs=some e->C k gs e:=by
 have:∀n k gs e,TT.run n k gs=some e->C k gs e:=by
  intro n;induction n with
  |zero=>intro k gs e g;simp[iP.run]at g
  |succ n i=>
   intro k gs e g;simp only[iP.run]at g;split at g
   ·next d j=>exact h k d j _ i gs e g
   ·cases g
 intro k gs e g;obtain⟨n,l⟩:=iP.aav g;exact this n k gs e l
end
open Go
def acn(R w:Nat):Nat->Nat->List Nat->List Nat
 |0,_,l=>l
 |f+1,s,l=>match Nat.blt s 256 with
  |true=>s::l
  |false=>acn R w f ((R >>>(2*w*(s-256)))%2^w) (acn R w f ((R >>>(2*w*(s-256)+w))%2^w) l)
def toks(R w b:Nat):Nat->Nat->List Nat
 |0,_=>[]
 |n+1,x=>acn R w 1000 (x%b) (toks R w b n (x/b))
def dg(c:Nat):Nat:=match Nat.blt c 58 with
 |true=>c-48
 |false=>match Nat.blt c 91 with
  |true=>c-55
  |false=>match Nat.beq c 95 with
   |true=>62
   |false=>c-61
def sN(s:String):Nat:=s.toList.foldl (λa c=>a*63+dg c.toNat) 0
def rN:Q2->Nat×Q2
 |t::u::l=>match Nat.blt t 224 with
  |true=>(t,u::l)
  |false=>((t-224)*256+u,l)
 |[t]=>(t,[])
 |[]=>(0,[])
def rR(n:Nat)(l:Q2):Nat×Q2:=match rN l with|(a,l)=>(n-a,l)
def rL(n:Nat):Nat->Nat->List Nat->List Nat×Q2
 |0,_,l=>([],l)
 |k+1,p,t::l=>match Nat.blt t 128 with
  |true=>match rL n k (p+t-64) l with
   |(x,l)=>((p+t-64)::x,l)
  |false=>match rR n l with
   |(a,l)=>match rL n k a l with
    |(x,l)=>(a::x,l)
 |_,_,[]=>([],[])
def MZ(n:Nat)(l:Q2):Q2×Q2:=match rN l with|(k,l)=>rL n k n l
def rK:Nat->IntKind
 |0=>.i64|1=>.u64|2=>.u8|3=>.i32|4=>.u32|5=>.i16|6=>.u16|_=>.i8
def rO:Nat->BinOp
 |0=>.eql|1=>.add|2=>.neq|3=>.lss|4=>.gtr|5=>.sub|6=>.geq|7=>.leq
 |8=>.and|9=>.quo|10=>.shr|11=>.mul|12=>.rem|13=>.xor|14=>.or|_=>.shl
def r1(n:Nat)(f:Nat->Nd)(l:Q2):Nd×Q2:=match rR n l with|(a,l)=>(f a,l)
def r2(n:Nat)(f:Nat->Nat->Nd)(l:Q2):Nd×Q2:=match rR n l with|(a,l)=>r1 n (f a) l
def r3(n:Nat)(f:Nat->Nat->Nat->Nd)(l:Q2):Nd×Q2:=match rR n l with|(a,l)=>r2 n (f a) l
def r0(f:Nat->Nd)(l:Q2):Nd×Q2:=match rN l with|(a,l)=>(f a,l)
def vX(g:Nat->List Nat->Nd×Q2)(l:Q2):Nd×Q2:=match rN l with|(a,l)=>g a l
def rLs(n:Nat)(f:Q2->Nd)(l:Q2):Nd×Q2:=match MZ n l with|(a,l)=>(f a,l)
def rNd(cI:Nat->Int)(cT:Nat->List UInt8)(n t:Nat)(l:Q2):Nd×Q2:=
 if t=4 then(vX λo=>r2 n (.bin (rO o))) l else
 if t=5 then(vX λk=>r0 λa=>.ci (rK k) (cI a)) l else
 if t=6 then(vX λo=>r1 n (.cell o)) l else
 if t=7 then(vX λf l=>match MZ n l with|(a,l)=>r0 (λj=>.call f a j) l) l else
 if t=8 then(r0 λa=>.cs (cT a)) l else
 if t=9 then rLs n .mk l else
 if t=10 then rLs n .ml l else
 if t=11 then(r0 λb=>.cb (Nat.beq b 1)) l else
 if t=12 then r1 n .len l else
 if t=13 then(vX λk=>r1 n (.conv (rK k))) l else
 if t=14 then r1 n .slen l else
 if t=15 then(vX λs=>r2 n (.at s)) l else
 if t=16 then r3 n .GU l else
 if t=17 then r1 n (.un .not) l else
 if t=18 then(vX λs=>vX λz=>r2 n (.app s z)) l else
 if t=19 then r2 n .GN l else
 if t=20 then(vX λo l=>match MZ 0 l with|(d,l)=>r2 n (.Fv (rO o) d) l) l else
 if t=21 then r2 n .idx l else
 if t=22 then r1 n .str l else
 if t=23 then r1 n .bytes l else
 if t=24 then(vX λs=>vX λz=>r3 n (.rep s z)) l else
 if t=25 then r3 n .Gm l else
 if t=26 then(vX λs=>r3 n (.Ef s)) l else
 if t=27 then(vX λs=>vX λo l=>match rR n l with|(a,l)=>match rR n l with|(b,l)=>rLs n (.upd s o a b) l) l else
 if t=28 then r2 n (.mm false) l else
 if t=29 then r2 n (.mm true) l else
 if t=30 then r3 n .Cb l else
 if t=31 then r2 n .Gn l else
 if t=32 then r1 n (.un .neg) l else
 if t=33 then r2 n .Ah l else
 if t=37 then r1 n (.un .xor) l else
 if t=34 then r2 n .same l else
 if t=35 then r1 n .GL l else
 (vX λo=>r2 n (.Fq (rO o))) l
def rT(cI:Nat->Int)(cT:Nat->List UInt8)(h:Tree):Nat->Nat->List Nat->Tree×Q2
 |0,_,l=>(.dead,l)
 |_,_,[]=>(.dead,[])
 |f+1,n,t::l=>match t with
  |0=>(h,l)
  |1=>match rR n l with|(a,l)=>match rT cI cT h f n l with|(x,l)=>match rT cI cT h f n l with|(y,l)=>(.ite a x y,l)
  |2=>match MZ n l with|(a,l)=>(.ret a,l)
  |3=>match rN l with|(g,l)=>match MZ n l with|(a,l)=>(.tail g a,l)
  |38=>(.dead,l)
  |_=>match rNd cI cT n t l with|(d,l)=>match rT cI cT h f (n+1) l with|(x,l)=>(.step d x,l)
def rS(l:Q2):WF×Q2:=match MZ 0 l with|(a,l)=>(a.map λk=>match k with
 |0=>.sc
 |k+1=>.ag (k+1),l)
def rP(cI:Nat->Int)(cT:Nat->List UInt8)(h:Tree):Q2->aH
 |0::l=>match rS l with|(a,l)=>match rS l with|(b,l)=>.fn a b (rT cI cT h 2000 a.length l).1
 |_::l=>match rN l with|(n,l)=>.tree n (rT cI cT h 2000 n l).1
 |[]=>.tree 0 .dead
def gT:Wa->Nat->aH
 |a::_,0=>a
 |_::l,n+1=>gT l n
 |[],_=>.tree 0 .dead
noncomputable section
variable{P:Program}
def AP(P:Program)(c:Code)(Q:Exit->Act->World->Prop)(a:Act)(w:World):Prop:=∀b k d,∃e a' g,Q e a' g/\Arrives P (lone (b.at a (.code c::.inLoop c::k)) d w) b k d e a' g
def AP.step{c:Code}{Q:Exit->Act->World->Prop}{a:Act}{w:World}(h:c.wp P (Exit.then (AP P c Q) Q) a w):AP P c Q a w:=by
 intro b k o;obtain⟨e,j,m,i,d⟩:=h b (.inLoop c::k) o;cases e with
 |normal=>obtain⟨p,q,s,n,g⟩:=i b k o;exact⟨p,q,s,n,.of_steps (Steps.trans d (.one step_inLoop)) g⟩
 |exit id=>exact⟨_,j,m,i,.pass (x:=.inLoop c) rfl (λ_ _=>.inl aA) d⟩
 |goto l=>exact⟨_,j,m,i,.pass (x:=.inLoop c) rfl (λ_ _=>.inl aA) d⟩
 |ret=>exact⟨_,j,m,i,.pass (x:=.inLoop c) rfl (λ_ _=>.inl aA) d⟩
 |panic t=>exact⟨_,j,m,i,.pass (x:=.inLoop c) rfl (λ_ _=>.inl aA) d⟩
 |outgrown=>exact⟨_,j,m,i,.pass (x:=.inLoop c) rfl (λ_ _=>.inl aA) d⟩
def AP.loop{c:Code}{Q:Exit->Act->World->Prop}{a:Act}{w:World}(h:AP P c Q a w):(Code.loop c).wp P Q a w:=by intro b k g;obtain⟨e,a',i,j,d⟩:=h b k g;exact⟨e,a',i,j,.of_steps (.one step_loop) d⟩
section
variable[aJ]
def AT(P:Program)(c:Code)(a:bF)(J:aC)(Q:eH->bF->aC->Prop):Prop:=
 ∀w0 d F w A K,jX P w0 d F J w->J.lock=0->TR P F a A->(∀e a' J' g h i,Q e a' J'->jX P w0 d g J' i->J'.lock=0->TR P g a' h->K e.toExit h i)->c.wp P K A w
variable{c b x y z:Code}{a a' a2:bF}{J J' J2:aC}{Q R:eH->bF->aC->Prop}
def AT.mono(h:AT P c a J R)(d:∀e a' J',R e a' J'->Q e a' J'):AT P c a J Q:=
 λw0 g F w A K i j k l=>h w0 g F w A K i j k λe a' J' m n o p=>l e a' J' m n o (d _ _ _ p)
def abP(P:Program)(y:Code)(Q:eH->bF->aC->Prop):eH->bF->aC->Prop
 |.normal,a,J=>AT P y a J Q
 |e,a,J=>Q e a J
def AT.seq(h:AT P x a J (abP P y Q)):AT P (.seq x y) a J Q:=by
 intro w0 o F w A K p q s j;refine wp_seq ?_;refine h w0 o F w A _ p q s ?_;intro e a' J' k l m n d g i;cases e with
 |normal=>exact n w0 o k m l K d g i j
 |exit id=>exact j _ a' J' k l m n d g i
 |ret=>exact j _ a' J' k l m n d g i
def AT.cond{o:Operand}{t:Bool}(e:dB (a.eval o)=some (.b t))(h:AT P (if t then y else z) a J Q):AT P (.cond o y z) a J Q:=by intro w0 k F w A K g l i m;obtain⟨n,e,d⟩:=Iw e;have j:=d _ _ (O7 g.rel i o _ e);simp only[VR]at j;exact wp_cond j (h w0 k F w A K g l i m)
def Ib(id:Nat)(Q:eH->bF->aC->Prop):eH->bF->aC->Prop
 |.exit d,a,J=>if d=id then Q .normal a J else Q (.exit d) a J
 |e,a,J=>Q e a J
def AT.block{id:Nat}(h:AT P b a J (Ib id Q)):AT P (.block id b) a J Q:=by
 intro w0 p F w A K q s t k;refine wp_block ?_;refine h w0 p F w A _ q s t ?_;intro e a' J' l m n j d g i;cases e with
 |normal=>exact k .normal a' J' l m n j d g i
 |ret=>exact k .ret a' J' l m n j d g i
 |exit o=>
  simp only[Ib]at j;simp only[eH.toExit,Exit.inBlock];split at j
  ·next e=>rw[au e];exact k .normal a' J' l m n j d g i
  ·next e=>rw[aj e];exact k (.exit o) a' J' l m n j d g i
def C9(P:Program)(b:Code)(a:bF)(J:aC)(Q:eH->bF->aC->Prop):Prop:=
 ∀w0 d F w A K,jX P w0 d F J w->J.lock=0->TR P F a A->(∀e a' J' g h i,Q e a' J'->jX P w0 d g J' i->J'.lock=0->TR P g a' h->K e.toExit h i)->AP P b K A w
def C9.at(h:C9 P b a J Q):AT P (.loop b) a J Q:=
 λw0 d F w A K e g i j=>(h w0 d F w A K e g i j).loop
def aae(P:Program)(b:Code)(Q:eH->bF->aC->Prop):eH->bF->aC->Prop
 |.normal,a,J=>C9 P b a J Q
 |e,a,J=>Q e a J
def C9.step(h:AT P b a J (aae P b Q)):C9 P b a J Q:=by
 intro w0 o F w A K p q s j;refine AP.step ?_;refine h w0 o F w A _ p q s ?_;intro e a' J' k l m n d g i;cases e with
 |normal=>exact n w0 o k m l K d g i j
 |exit id=>exact j _ a' J' k l m n d g i
 |ret=>exact j _ a' J' k l m n d g i
def AT.run{run:Code->bF->aC->Option (eH×bF×aC)}(k:Oh P run){e:eH}(h:run c a J=some (e,a',J'))(l:Q e a' J'):AT P c a J Q:=by intro w0 s F w A K i j m n;refine k c a J e a' J' h F w A K i.rel m ?_;intro o p q d g;exact n e a' J' o p q l (i.step j d) (d.lock.trans j) g
end
inductive AC where
 |plain (c:Code)
 |seq (x y:AC)
 |cond (o:Operand) (y z:AC)
 |block (id:Nat) (b:AC)
 |loop (k:Nat) (b:Code)
 |peel (x:AC) (k:Nat) (b:Code)
def AC.erase:AC->Code
 |.plain c=>c
 |.seq x y=>.seq x.erase y.erase
 |.cond o y z=>.cond o y.erase z.erase
 |.block id b=>.block id b.erase
 |.loop _ b=>.loop b
 |.peel _ _ b=>.loop b
def AC.Good:AC->Prop
 |.plain _=>True
 |.seq x y=>x.Good/\y.Good
 |.cond _ y z=>y.Good/\z.Good
 |.block _ b=>b.Good
 |.loop _ _=>True
 |.peel x _ b=>x.erase=b/\x.Good
def lJ(ps:Q2):Code->Nat->AC×Nat
 |.seq x y,n=>match lJ ps x n with
  |(a,d)=>match lJ ps y d with
   |(b,e)=>(.seq a b,e)
 |.cond o y z,n=>match lJ ps y n with
  |(a,d)=>match lJ ps z d with
   |(b,e)=>(.cond o a b,e)
 |.block id b,n=>match lJ ps b n with
  |(a,d)=>(.block id a,d)
 |.loop b,n=>if ps.contains (2*n+1)then(.plain (.loop b),n+1)else match lJ ps b (n+1)with
  |(x,d)=>if ps.contains (2*n)then(.peel x n b,d)else(.loop n b,n+1)
 |c,n=>(.plain c,n)
def nG(ps:Q2)(c:Code):AC:=(lJ ps c 0).1
def yO(ps:Q2):∀(c:Code)(n:Nat),(lJ ps c n).1.erase=c/\(lJ ps c n).1.Good
 |.seq x y,n=>by have h1:=yO ps x n;have d:=yO ps y (lJ ps x n).2;simp only[lJ,AC.erase,AC.Good];exact⟨by rw[h1.1,d.1],h1.2,d.2⟩
 |.cond o y z,n=>by have h1:=yO ps y n;have d:=yO ps z (lJ ps y n).2;simp only[lJ,AC.erase,AC.Good];exact⟨by rw[h1.1,d.1],h1.2,d.2⟩
 |.block id b,n=>by have h1:=yO ps b n;simp only[lJ,AC.erase,AC.Good];exact⟨by rw[h1.1],h1.2⟩
 |.loop b,n=>by
  have h1:=yO ps b (n+1);simp only[lJ];split
  ·exact⟨rfl,trivial⟩
  ·split
   ·exact⟨rfl,h1.1,h1.2⟩
   ·exact⟨rfl,trivial⟩
 |.skip,_|.region _ _ _,_|.rangeFunc _ _ _ _,_|.exit _,_|.scope _,_|.label _,_|.goto _,_|.ret,_|.refuse _,_=>⟨rfl,trivial⟩
def AC.oQ(k:Nat)(b:Code):AC->Prop
 |.plain _=>False
 |.seq x y=>x.oQ k b\/y.oQ k b
 |.cond _ y z=>y.oQ k b\/z.oQ k b
 |.block _ x=>x.oQ k b
 |.loop d e=>d=k/\e=b
 |.peel x d e=>(d=k/\e=b)\/x.oQ k b
abbrev XE:=Nat->bF->aC->Option (eH×bF×aC)
def wP[gQ](d:XE)(run:Code->bF->aC->Option (eH×bF×aC)):AC->bF->aC->Option (eH×bF×aC)
 |.plain c,a,J=>run c a J
 |.seq x y,a,J=>match wP d run x a J with
  |some (.normal,a',J')=>wP d run y a' J'
  |r=>r
 |.cond o y z,a,J=>match dB (a.eval o)with
  |some (.b t)=>if t then wP d run y a J else wP d run z a J
  |_=>none
 |.block id b,a,J=>match wP d run b a J with
  |some (.exit e,a',J')=>if e=id then some (.normal,a',J')else some (.exit e,a',J')
  |r=>r
 |.loop k _,a,J=>d k a J
 |.peel x k _,a,J=>match wP d run x a J with
  |some (.normal,a',J')=>d k a' J'
  |r=>r
def XW[aJ]{L:XE}{run:Code->bF->aC->Option (eH×bF×aC)}(M:Oh P run):∀(n:AC),n.Good->(∀k b,n.oQ k b->∀a J e a' J',L k a J=some (e,a',J')->∀Q:eH->bF->aC->Prop,Q e a' J'->C9 P b a J Q)->
 ∀(a:bF)(J:aC)(e:eH)(a':bF)(J':aC),wP L run n a J=some (e,a',J')->∀Q:eH->bF->aC->Prop,Q e a' J'->AT P n.erase a J Q:=by
 intro n;induction n with
 |plain c=>intro i j a J e a' J' h Q d;exact AT.run M h d
 |loop k b=>intro i j a J e a' J' h Q d;exact(j k b ⟨rfl,rfl⟩ a J e a' J' h Q d).at
 |peel x k b p=>
  intro i j a J e a' J' h Q d;simp only[wP]at h;refine C9.at (C9.step ?_);obtain⟨rfl,i⟩:=i;split at h
  ·next q s u=>
   exact p i (λB D g=>j B D (.inr g)) a J _ q s u (aae P x.erase Q) (j k _ (.inl ⟨rfl,rfl⟩) q s e a' J' h Q d)
  ·next l=>
   refine p i (λB D g=>j B D (.inr g)) a J e a' J' h (aae P x.erase Q) ?_;cases e with
   |normal=>exact absurd h (by intro v;exact l _ _ v)
   |exit id=>exact d
   |ret=>exact d
 |seq x y A m=>
  intro i j a J e a' J' h Q d;simp only[wP]at h;split at h
  ·next q s u=>
   exact AT.seq (A i.1 (λk b g=>j k b (.inl g)) a J _ q s u (abP P y.erase Q) (m i.2 (λk b g=>j k b (.inr g)) q s e a' J' h Q d))
  ·next l=>
   refine AT.seq (A i.1 (λk b g=>j k b (.inl g)) a J e a' J' h (abP P y.erase Q) ?_);cases e with
   |normal=>exact absurd h (by intro v;exact l _ _ v)
   |exit id=>exact d
   |ret=>exact d
 |cond o y z m E=>
  intro i j a J e a' J' h Q d;simp only[wP]at h;split at h
  ·next t N=>
   refine AT.cond N ?_;cases t with
   |true=>exact m i.1 (λk b g=>j k b (.inl g)) a J e a' J' h Q d
   |false=>exact E i.2 (λk b g=>j k b (.inr g)) a J e a' J' h Q d
  ·cases h
 |block id b p=>
  intro i j a J e a' J' h Q d;simp only[wP]at h;split at h
  ·next H q s u=>
   split at h
   ·next I=>
    cases h;exact AT.block (p i (λk b g=>j k b g) a J _ _ _ u (Ib id Q) (by simp only[Ib];rw[au I];exact d))
   ·next I=>
    cases h;exact AT.block (p i (λk b g=>j k b g) a J _ _ _ u (Ib id Q) (by simp only[Ib];rw[aj I];exact d))
  ·next l=>
   refine AT.block (p i (λk b g=>j k b g) a J e a' J' h (Ib id Q) ?_);cases e with
   |normal=>exact d
   |exit H=>exact absurd h (by intro v;exact l _ _ _ v)
   |ret=>exact d
def CW:Q6->Value
 |[v]=>v
 |l=>.tuple ⟨l⟩
structure xW(tabs:Qt)(ro:Qf)(w:World):Prop where
 at':∀b o,ro b=some o->w.heap[b]? =some o
 tab:∀p∈tabs,∃cs elem fr,ro p.1=some (.cells cs elem fr)/\p.2.length<=cs.size/\XL p.2 cs
structure Hw(ro ro':Qf)(w w':World):Prop where
 kept:Kept w w'
 le:∀b o,ro b=some o->ro' b=some o
 new:∀b,ro' b≠none->ro b≠none\/w.heap.size<=b
 at':∀b o,ro' b=some o->w'.heap[b]? =some o
def xB:W6->List Value->List Value
 |none::st,v::vs=>v::xB st vs
 |none::_,[]=>[]
 |some g::st,vs=>.func (.func g) ⟨[]⟩ ⟨[]⟩::xB st vs
 |[],vs=>vs
def xA:W6->List AV->List AV
 |none::st,v::vs=>v::xA st vs
 |none::_,[]=>[]
 |some g::st,vs=>.fn g [] []::xA st vs
 |[],vs=>vs
def CV:W6->List AV->Option Q3
 |[],l=>some l
 |none::st,a::l=>(CV st l).map (a::·)
 |some g::st,.fn d [] []::l=>if d=g then CV st l else none
 |_,_=>none
def akW(P:Program)(tabs:Qt)(f:FuncId)(st:W6)(gs e:Q1):Prop:=∀g w h,xW tabs g w->aS g gs h->lC P f ⟨xB st h⟩ w λv j=>∃d,Hw g d w j/\∃i,v=CW i/\aS d e i
section
variable[aJ]
def WU{F:Env}:∀{st:W6}{l r:Q3}{vs:Q6},CV st l=some r->aG F l vs->∃d,vs=xB st d/\aG F r d
 |[],l,r,vs,h,i=>by simp only[CV,aY]at h;subst h;exact⟨vs,rfl,i⟩
 |none::st,[],r,vs,h,i=>by simp[CV]at h
 |none::st,a::l,r,vs,h,i=>by simp only[CV,bn]at h;obtain⟨u,h1,rfl⟩:=h;obtain⟨x,p,rfl,k,j⟩:=i;obtain⟨d,rfl,m⟩:=WU h1 j;exact⟨x::d,rfl,aG.cons k m⟩
 |some g::st,[],r,vs,h,i=>by simp[CV]at h
 |some g::st,a::l,r,vs,h,i=>by
  unfold CV at h;split at h
  ·next e=>cases e
  ·next e _=>cases e
  ·next g0 q v A s t=>
   cases s;cases t;split at h
   ·next e=>
    subst e;obtain⟨x,p,rfl,k,j⟩:=i;obtain⟨d,rfl,m⟩:=WU h j;simp only[VR]at k;obtain⟨B,D,rfl,n,o⟩:=k;simp only[aG]at n o;subst n;subst o;exact⟨d,rfl,m⟩
   ·cases h
  ·cases h
def VN{F:Env}:∀{st:W6}{l:Q3}{vs:Q6},aG F l vs->aG F (xA st l) (xB st vs)
 |[],l,vs,d=>d
 |none::st,[],vs,d=>by simp only[aG]at d;subst d;simp[xA,xB,aG]
 |none::st,a::l,vs,d=>by obtain⟨x,xs,rfl,h,e⟩:=d;exact aG.cons h (VN e)
 |some g::st,l,vs,d=>aG.cons (by simp only[VR];exact⟨[],[],rfl,by simp[aG],by simp[aG]⟩) (VN d)
def SR.VW{F:Env}{J:aC}{w:World}(h:SR P F J w):xW aJ.tabs F.ro w:=⟨h.jc,h.tabs⟩
def St.avj{F:Env}{J:aC}{w w':World}{ro':Qf}(h:SR P F J w)(k:Hw F.ro ro' w w'):St P F J w ⟨F.pl,ro',F.gh⟩ J w':=by
 have d:(F:Env).le ⟨F.pl,ro',F.gh⟩:=⟨λ_ _ h=>h,k.le,λ_ h=>h⟩
 refine⟨d,⟨h.mJ,h.dom,λid o m=>?_,h.jU,h.sep,k.at',λid o q j a2 l=>?_,λp n=>(h.tabs p n).mono d⟩,k.kept.size,λs g _=>k.kept.keep s g,λid o q h1 t u v=>.inr ⟨id,o,q,h1,t,u,v,rfl⟩,k.kept.os,k.kept.tape,k.kept.output,rfl,cO _,λ_ h=>.inl h,λb g=>?_⟩
 ·exact((h.live id o m).heap λq _ i=>k.kept.keep _ i.lt).mono d
 ·have i:=h.at j (show F id=some q from l);cases e:ro' q.bl with
  |none=>exact e
  |some A=>
   rcases k.new q.bl (by rw[e];simp)with h1|h1
   ·exact absurd (h.lq id o q j a2 l) h1
   ·have:=i.lt;omega
 ·rcases k.new b g with h1|h1
  ·exact .inl h1
  ·exact .inr (.inl h1)
end
@[reducible] def Tg(tabs:Qt)(gs:Q1)(ka:Nat):aJ:={nodes:=[],dec:=[],ka:=ka,tabs:=tabs,I:=λ_ _=>none,val:=λn=>gs[n]?,qQ:=by intro n d h;simp at h,BD:=by intro n b h;simp at h}
def pR{α:Type}:List (Nat×α)->Tr α
 |[]=>.nil
 |(k,v)::l=>(pR l).set k (some v)
def Qh{α:Type}:∀{l:List (Nat×α)}{k:Nat}{v:α},(pR l).get k=some v->(k,v)∈l
 |[],k,v,h=>by simp[pR]at h
 |(j,u)::l,k,v,h=>by
  rw[pR,Tr.uN]at h;split at h
  ·next e=>cases h;subst e;simp
  ·exact xP _ (Qh h)
structure gX where
 np:Nat
 n:Nat
 gn:Nat
 next:Nat
 slots:Wm
 objs:Ys
 ka:Nat:=0
 al:List QR:=[]
abbrev XX:=List (eH×gX)
def wo(tabs:Qt):Ys:=tabs.map λp=>(p.1,.cells p.2 0 false false)
def gX.act(s:gX):bF:=⟨pR s.slots,s.n,s.gn⟩
def gX.st(tabs:Qt)(s:gX):aC:=⟨pR (s.objs++wo tabs),s.next,0⟩
def Rx(P:Program)(tabs:Qt)(s:gX)(gs:Q1)(w0:Base)(d:Qf)(A:Act)(w:World):Prop:=∃F,@jX (Tg tabs gs s.ka) P w0 d F (s.st tabs) w/\@TR (Tg tabs gs s.ka) P F s.act A
def dF{α:Type}(k:Nat):List (Nat×α)->Option α
 |[]=>none
 |p::l=>bif Nat.beq k p.1 then some p.2 else dF k l
def Un{α:Type}{k:Nat}{v:α}:∀{l:List (Nat×α)},dF k l=some v->(k,v)∈l
 |[],h=>by simp[dF]at h
 |p::l,h=>by
  simp only[dF]at h;cases d:Nat.beq k p.1 with
  |true=>rw[d]at h;simp only[cond_true,aY]at h;rw[bM d,<-h];simp
  |false=>rw[d]at h;simp only[cond_false]at h;exact xP _ (Un h)
def CO(r:W7)(i:Nat)(x:QR):Bool:=
 match dF i r,x with
 |some (some a),some b=>Nat.beq a b
 |some none,none=>true
 |_,_=>false
section
variable[gQ]
def MB(m:Nat):Bool:=match gQ.nodes[m]? with
 |some (.ml [])=>true
 |_=>false
def Um(P:Program)(J:aC)(fz:Q2)(a:AV)(m:Nat):Bool:=
 match a with
 |.sv id n=>fz.contains id&&match J.get id with
  |some (.vec e _ _)=>Nat.beq e m&&vY 100 e n
  |_=>false
 |.sl id g len h=>fz.contains id&&match J.get id with
  |some (.cells c i true j)=>(match listOf P J i (.sl id g len h),sizeT P i with
   |some e,some d=>Nat.beq e m&&Nat.blt 0 d
   |_,_=>false)
  |_=>false
 |_=>false
def capEq:QR->Option Nat->Bool
 |none,none=>true
 |some a,some b=>Nat.beq a b
 |_,_=>false
mutual
def mV(P:Program)(G:Nat)(J:aC)(fz:Q2)(r:W7)(ps:Q2):AV->AV->Bool
 |.nd j,a=>match ps[j]? with
  |some m=>(match iY a with
   |some h=>Nat.beq m h
   |none=>false) ||Um P J fz a m
  |none=>false
 |.sv i j,a=>match ps[j]? with
  |some m=>match a with
   |.sv id n=>Nat.blt G i&&CO r i (some id)&&vY 100 m n
   |.gy=>Nat.blt G i&&CO r i none&&MB m
   |_=>false
  |none=>false
 |.p i off,a=>match a with
  |.p id d=>Nat.beq off d&&(if i<=G then Nat.beq i id else CO r i (some id))
  |_=>false
 |.rx j off,a=>match a with
  |.rx m d=>Nat.beq off d&&(match ps[j]? with|some h=>Nat.beq m h|none=>false)
  |_=>false
 |.fn f fi cs,a=>match a with
  |.fn s o p=>Nat.beq f s&&BX P G J fz r ps fi o&&BX P G J fz r ps cs p
  |_=>false
 |.agg l,a=>match a with
  |.agg q=>BX P G J fz r ps l q
  |_=>false
 |.dU l,a=>match a with
  |.dU q=>BX P G J fz r ps l q
  |_=>false
 |.jh t x,a=>match a with
  |.jh u v=>Nat.beq t u&&mV P G J fz r ps x v
  |_=>false
 |.b x,a=>match a with|.b y=>(bif x then y else !y)|_=>false
 |.i k n,a=>match a with|.i A B=>Nat.beq (kc k) (kc A)&&IW n B|_=>false
 |.s x,a=>match a with|.s y=>Bo x y|_=>false
 |.jH,a=>match a with|.jH=>true|_=>false
 |.gy,a=>match a with|.gy=>true|_=>false
 |.yZ,a=>match a with|.yZ=>true|_=>false
 |.sZ,a=>match a with|.sZ=>true|_=>false
 |.pO,a=>match a with|.pO=>true|_=>false
 |.mp i,a=>match a with
  |.mp id=>Nat.blt G i&&CO r i (some id)
  |_=>false
 |.sl i off len cap,a=>match a with
  |.sl id d e g=>Nat.blt G i&&CO r i (some id)&&(Nat.beq off d&&(Nat.beq len e&&capEq cap g))
  |_=>false
 |_,_=>false
def BX(P:Program)(G:Nat)(J:aC)(fz:Q2)(r:W7)(ps:Q2):Q3->List AV->Bool
 |[],l=>match l with|[]=>true|_=>false
 |a::l,m=>match m with
  |b::d=>mV P G J fz r ps a b&&BX P G J fz r ps l d
  |[]=>false
end
def mO(P:Program)(G:Nat)(J:aC)(fz:Q2)(r:W7)(ps:Q2)(i:Nat)(o:bG):Bool:=
 match dF i r with
 |some (some id)=>!(fz.contains id)&&match o with
  |.cells l e q g=>match J.get id with
   |some (.cells c h d p)=>Nat.beq e h&&(bif q then d else !d)&&(bif g then p else !p)&&BX P G J fz r ps l c
   |_=>false
  |.vec j e f=>match J.get id with
   |some (.vec m h s)=>Nat.beq e h&&(!f ||s)&&(match ps[j]? with|some k=>Nat.beq m k|none=>false)
   |_=>false
  |.smap j t u=>match J.get id with
   |some (.smap m v n)=>Mc t v&&QK u n&&(match ps[j]? with|some k=>Nat.beq m k|none=>false)
   |some (.map [])=>(match ps[j]? with|some m=>MB m|none=>false)
   |_=>false
  |.map []=>(match J.get id with
   |some (.map [])=>true
   |_=>false)
  |_=>false
 |some none=>match o with
  |.vec j _ _=>(match ps[j]? with|some m=>MB m|none=>false)
  |_=>false
 |none=>false
def Vj(P:Program)(G:Nat)(J:aC)(fz:Q2)(r:W7)(ps:Q2)(t:Tr AV):Wm->Bool
 |[]=>true
 |p::l=>(match t.get p.1 with|some v=>mV P G J fz r ps p.2 v|none=>false)&&Vj P G J fz r ps t l
def Me(P:Program)(G next:Nat)(J:aC)(fz:Q2)(r:W7)(ps:Q2):Ys->Bool
 |[]=>true
 |p::l=>Nat.blt G p.1&&Nat.blt p.1 next&&mO P G J fz r ps p.1 p.2&&Me P G next J fz r ps l
def Om(r:W7):Nat->Nat->Bool
 |_,0=>true
 |i,n+1=>CO r (i+1) (some (i+1))&&Om r (i+1) n
def JF:W7->Bool
 |[]=>true
 |p::l=>(match p.2 with
  |some a=>l.all λq=>match q.2 with|some b=>!(Nat.beq a b)|none=>true
  |none=>true)&&JF l
def aaf(P:Program)(s:gX)(a:bF)(J:aC)(fz:Q2)(r:W7)(ps:Q2):Bool:=
 Nat.beq s.ka gQ.ka&&Nat.blt (s.gn+s.ka) s.next&&Om r s.gn s.ka&&Nat.beq s.n a.n&&Nat.beq s.gn a.gn&&Nat.blt s.gn s.next&&JF r&&Vj P s.gn J fz r ps a.t s.slots&&Me P s.gn s.next J fz r ps s.objs
end
def kills(J:aC):Q2->aC
 |[]=>J
 |id::l=>(kills J l).kill id
def Eb{J:aC}{k:Nat}:∀{l:Q2},(kills J l).get k=if k∈l then none else J.get k
 |[]=>by simp[kills]
 |id::l=>by
  rw[kills,aC.yT,Eb];by_cases h:k=id
  ·simp[h]
  ·simp[h]
def L9{J:aC}:∀l:Q2,(kills J l).lock=J.lock
 |[]=>rfl
 |_::l=>L9 l
def ZT{J:aC}:∀l:Q2,(kills J l).next=J.next
 |[]=>rfl
 |_::l=>ZT l
section
variable[aJ]
def Ul{w0:Base}{H:Qf}{F:Env}{J:aC}{w:World}(I:jX P w0 H F J w)(A:J.lock=0):∀fz:Q2,∃cZ,(∀b o,F.ro b=some o->cZ b=some o)/\jX P w0 H ⟨F.pl,cZ,F.gh⟩ (kills J fz) w/\
 (∀id∈fz,∀o q,J.get id=some o->o.own=true->F id=some q->cZ q.bl=w.heap[q.bl]?)
 |[]=>⟨F.ro,λ_ _ h=>h,I,aA⟩
 |id::fz=>by
  obtain⟨cZ,h1,l,B⟩:=Ul I A fz;by_cases L:∃o q,(kills J fz).get id=some o/\o.own=true/\F id=some q
  ·obtain⟨o,q,O,p,M⟩:=L;have D:=St.freeze l.rel O p (by rw[L9,A];exact rZ _) (show(⟨F.pl,cZ,F.gh⟩:Env) id=some q from M);have E:=l.step (by rw[L9,A]) D;refine⟨Gx cZ w q.bl,λb o U=>VT l.rel.jc q.bl b o (h1 b o U),E,?_⟩;intro i m s n j d g;show(if n.bl=q.bl then w.heap[q.bl]? else cZ n.bl)=_
   split
   ·next e=>rw[e]
   ·next e=>
    rcases bJ.1 m with rfl|m
    ·rw[M]at g;cases g;exact absurd rfl e
    ·exact B i m s n j d g
  ·refine⟨cZ,h1,⟨l.rel.sub (λk u t=>?_) (cO _),l.kept,λk u q v a2 V=>?_,l.uU,l.qH,l.rE⟩,?_⟩
   ·rw[kills,aC.yT]at t;split at t;cases t;exact t
   ·rw[kills,aC.yT]at v;split at v;cases v;exact l.own k u q v a2 V
   ·intro i m s n j d g;rcases bJ.1 m with rfl|m
    ·by_cases N:i∈fz
     ·exact B i N s n j d g
     ·exact absurd ⟨s,n,by rw[Eb,aj N];exact j,d,g⟩ L
    ·exact B i m s n j d g
end
def GZ{val:W8}:∀{ps:Q2}{gs:Q1},valsOf val ps=some gs->∀{j m:Nat},ps[j]? =some m->gs[j]? =val m/\∃g,val m=some g
 |[],gs,h,j,m,d=>by simp at d
 |p::ps,gs,h,j,m,d=>by
  simp only[valsOf]at h;split at h
  ·next g r h1 e=>
   cases h;cases j with
   |zero=>simp at d;subst d;exact⟨by simp[h1],g,h1⟩
   |succ j=>simpa using GZ e (j:=j) (by simpa using d)
  ·cases h
def Qv{r:W7}{i id:Nat}(h:CO r i (some id)=true):dF i r=some (some id):=by
 unfold CO at h;split at h
 ·next a b e d=>cases d;rw[e,bM h]
 ·next e d=>cases d
 ·cases h
def axo{r:W7}{i:Nat}(h:CO r i none=true):dF i r=some none:=by
 unfold CO at h;split at h
 ·next a b d e=>cases e
 ·next d e=>exact d
 ·cases h
def AA(tabs:Qt)(i:Nat):Nat:=match dF i tabs with
 |some c=>c.length
 |none=>0
def sU(tabs:Qt)(G next:Nat)(r:W7)(F:Env)(cZ:Qf):Env where
 pl:=λi=>if i<=G then some ⟨i,0,AA tabs i,0⟩else if i<next then match dF i r with
  |some (some id)=>F id
  |_=>none
  else none
 ro:=cZ
 gh:=λi=>decide (G<i)&&decide (i<next)&&match dF i r with
  |some (some id)=>F.gh id
  |some none=>true
  |none=>false
structure wH(T:aJ)(P:Program)(tabs:Qt)(G next:Nat)(F:Env)(J:aC)(w:World)(fz:Q2)(r:W7)(ps:Q2)(gs:Q1)(cZ:Qf):Prop where
 rel:@SR T P F J w
 vals:valsOf T.val ps=some gs
 uU:∀b o,F.ro b=some o->cZ b=some o
 sJ:∀id∈fz,∀o q,J.get id=some o->o.own=true->F id=some q->cZ q.bl=w.heap[q.bl]?
 gn:G=P.globals.size
 lt:G<next
variable{T:aJ}{ka:Nat}{tabs:Qt}{G next:Nat}{F:Env}{J:aC}{w:World}{fz:Q2}{r:W7}{ps:Q2}{gs:Q1}{cZ:Qf}
def Gj{i id:Nat}(g:G<i)(d:i<next)(e:dF i r=some (some id)):(sU tabs G next r F cZ) i=F id:=by
 show(if i<=G then some (⟨i,0,AA tabs i,0⟩:Place)else if i<next then _ else none)=_
 rw[aj ah,au d,e]
def Vh{i:Nat}(d:i<=G):(sU tabs G next r F cZ) i=some ⟨i,0,AA tabs i,0⟩:=by
 show(if i<=G then some (⟨i,0,AA tabs i,0⟩:Place)else _)=_
 rw[au d]
def ahs{i id:Nat}(d:G<i)(e:i<next)(g:dF i r=some (some id)):(sU tabs G next r F cZ).gh i=F.gh id:=by
 show(decide (G<i)&&decide (i<next)&&_)=_
 rw[g];simp[d,e]
def aht{i:Nat}(d:G<i)(e:i<next)(g:dF i r=some none):(sU tabs G next r F cZ).gh i=true:=by
 show(decide (G<i)&&decide (i<next)&&_)=_
 rw[g];simp[d,e]
def afW(C:wH T P tabs G next F J w fz r ps gs cZ){a:AV}{m:Nat}{v:Value}(h:@Um T.togQ P J fz a m=true)(I:@VR T F a v){g:GV}(X:T.val m=some g):g.scalar=true/\GR cZ g v:=by
 letI:=T
 unfold Um at h;split at h
 ·next id n=>
  rw[aO]at h;obtain⟨h1,h⟩:=h;have t:id∈fz:=by simpa using h1
  split at h
  ·next V et f o=>
   rw[aO]at h;have e:=bM h.1;subst e;simp only[VR]at I;obtain⟨ys,W,I⟩:=I;rcases I with⟨q,j,u,rfl⟩|⟨Y,rfl,rfl⟩
   ·have A:=C.rel.at o j;obtain⟨Z,x1,x2,x3,x4,x5,x6,x7,x8⟩:=A.MC;have L:T.val V=some (.l Z):=x1;rw[X]at L;cases L;have p:=zk 100 h.2 x1 W;refine⟨rfl,?_⟩;have aa:=Iq x2;have:=GR.aar (ro':=cZ) (off:=0) (n:=ys.length) (size:=q.es) (cap:=q.sz/q.es) (cs:=bP Z) (gs:=Z) x8 C.uU (C.sJ id t _ q o rfl j) (by unfold takeN;rw[dD,<-p,kQ ah,au aa]) p u x4 (λx hx=>⟨x2 x hx,x7 x hx⟩) (λF' vs D l=>by unfold bP at l⊢;exact(oP _ _).1 (aS.mono D _ _ ((oP _ _).2 l)))
    simpa using this
   ·rcases C.rel.live id _ o with⟨q,j,_⟩|⟨_,n2,YP,f2,e2,ab⟩
    ·rw[(C.rel.jU id Y).1]at j;cases j
    ·cases e2;have UN:T.val V=some (.l []):=ab;rw[X]at UN;cases UN;exact⟨rfl,by simp[GR]⟩
  ·cases h
 ·next id k len B=>
  rw[aO]at h;obtain⟨h1,h⟩:=h;have t:id∈fz:=by simpa using h1
  split at h
  ·next c et ai o=>
   split at h
   ·next V d i ac=>
    rw[aO]at h;have e:=bM h.1;subst e;have h0:0<d:=by have:=h.2;rwa [jv]at this
    simp only[VR]at I;obtain⟨q,j,u,rfl⟩:=I;unfold listOf at i;simp only[o,ac]at i;split at i
    ·next c' IB ak Qj ad ae e1 e2 ha=>
     cases e1;cases e2;split at i
     ·next hc=>
      rw[aO,nO,aO]at hc;split at i
      ·next cs E=>
       split at i
       ·next ns M=>
        have s:ae=false->d=1:=by
         intro e;subst e;rcases hc.2 with h1|h1
         ·simp at h1
         ·exact bM h1
        obtain⟨g',g1,g2⟩:=gK i;have N:T.val V=some g':=g1;rw[X]at N;cases N;have A:=C.rel.at o j;obtain⟨ws,ag,fr,hb,rr⟩:=A;have O:=(rQ E).2.1;have af:=rr.zA E;obtain⟨gl,W,k2,k3,k4,H⟩:=FP (F:=F) s len M af O;simp only[Nd.den,W,gU,aY]at g2;subst g2;refine⟨rfl,?_⟩;have:=GR.aar (ro':=cZ) (off:=k) (n:=len) (size:=d) (cap:=B.getD ((q.sz-k)/q.es)) (cs:=cs) (gs:=gl) (C.rel.at o j) C.uU (C.sJ id t _ q o rfl j) E k2 u h0 H (λF' vs D l=>by obtain⟨al,U,am,UR,_⟩:=FP (F:=F) s len M l O;rw[W]at U;cases U;unfold bP at UR⊢;exact(oP _ _).1 (aS.mono D _ _ ((oP _ _).2 UR)))
        exact this
       ·cases i
      ·cases i
     ·cases i
    ·cases i
   ·cases h
  ·cases h
 ·cases h
def alX:∀{a b:QR},capEq a b=true->a=b
 |none,none,_=>rfl
 |some _,some _,h=>uH some (bM h)
 |none,some _,h=>by cases h
 |some _,none,h=>by cases h
mutual
def aag(C:wH T P tabs G next F J w fz r ps gs cZ):∀(p a:AV)(v:Value),p.under next=true->@mV T.togQ P G J fz r ps p a=true->@VR T F a v->@VR (Tg tabs gs ka) (sU tabs G next r F cZ) p v
 |.nd j,a,v,o,h,d=>by
  letI:=T
  simp only[mV]at h;split at h
  ·next m W=>
   obtain⟨E,g,u⟩:=GZ C.vals W;simp only[VR];refine⟨g,by show gs[j]? =_;rw[E,u],?_⟩;rw[nO]at h;rcases h with h|h
   ·split at h
    ·next m' aa=>
     have e:=bM h;subst e;obtain⟨Z,s,I,k3⟩:=lN aa d;have A:T.val m=some Z:=s;rw[u]at A;cases A;exact⟨I,GR.mono C.uU _ _ k3⟩
    ·cases h
   ·exact afW C h d u
  ·cases h
 |.sv i j,a,v,o,h,d=>by
  letI:=T
  simp only[AV.under,jv]at o;simp only[mV]at h;split at h
  ·next m W=>
   obtain⟨E,g,u⟩:=GZ C.vals W;split at h
   ·next id n=>
    rw[aO,aO,jv]at h;obtain⟨⟨L,U⟩,H⟩:=h;have hr:=Qv U;simp only[VR]at d⊢;obtain⟨xs,s,d⟩:=d;have hx:∃V,g=.l V/\V.length=xs.length:=by obtain⟨V,rfl⟩:=azO 100 H u s;exact⟨V,rfl,zk 100 H u s⟩
    obtain⟨V,rfl,B⟩:=hx;refine⟨V,by show gs[j]? =_;rw[E,u],?_⟩;rcases d with⟨q,M,D,rfl⟩|⟨ab,rfl,rfl⟩
    ·exact .inl ⟨q,by rw[Gj L o hr];exact M,by rw[B];exact D,by rw[B]⟩
    ·exact .inr ⟨by rw[ahs L o hr];exact ab,jR (by simpa using B),rfl⟩
   ·rw[aO,aO,jv]at h;obtain⟨⟨L,U⟩,H⟩:=h;have hr:=axo U;simp only[VR]at d⊢;unfold MB at H;split at H
    ·next hn=>
     obtain⟨Z,s,I⟩:=T.qQ m _ hn aA;rw[u]at s;cases s;simp only[Nd.den,valsOf,gU,aY]at I;subst I;exact⟨[],by show gs[j]? =_;rw[E,u],.inr ⟨aht L o hr,rfl,d⟩⟩
    ·cases H
   ·cases h
  ·cases h
 |.p i X,a,v,o,h,d=>by
  letI:=T
  simp only[AV.under,jv]at o;simp only[mV]at h;split at h
  ·next id N=>
   rw[aO]at h;have e:=bM h.1;subst e;simp only[VR]at d⊢;obtain⟨q,M,rfl⟩:=d;split at h
   ·next D=>
    have e:=bM h.2;subst e;obtain⟨sz,es,hg⟩:=C.rel.mJ i (by rw[<-C.gn];exact D);rw[M]at hg;cases hg;exact⟨_,Vh D,rfl⟩
   ·next D=>exact⟨q,by rw[Gj ah o (Qv h.2)];exact M,rfl⟩
  ·cases h
 |.rx j X,a,v,o,h,d=>by
  letI:=T
  simp only[mV]at h;split at h
  ·next m N=>
   rw[aO]at h;have e:=bM h.1;subst e;split at h
   ·next m' W=>
    have e:=bM h.2;subst e;obtain⟨E,g,u⟩:=GZ C.vals W;simp only[VR]at d⊢;obtain⟨Z,bl,base,cs,Y,fr,x,s,I,k3,k4,k5⟩:=d;have A:T.val m=some Z:=s;rw[u]at A;cases A;exact⟨g,bl,base,cs,Y,fr,x,by show gs[j]? =_;rw[E,u],C.uU _ _ I,GR.mono C.uU _ _ k3,k4,k5⟩
   ·simp at h
  ·cases h
 |.fn f fi cs,a,v,o,h,d=>by
  letI:=T
  simp only[AV.under,aO]at o;simp only[mV]at h;split at h
  ·next f' ac ad=>
   rw[aO,aO]at h;obtain⟨⟨L,U⟩,H⟩:=h;have e:=bM L;subst e;simp only[VR]at d⊢;obtain⟨us,O,rfl,s,I⟩:=d;exact⟨us,O,rfl,Gl C fi ac us o.1 U s,Gl C cs ad O o.2 H I⟩
  ·cases h
 |.agg l,a,v,o,h,d=>by
  letI:=T
  simp only[AV.under]at o;simp only[mV]at h;split at h
  ·next l'=>simp only[VR]at d⊢;obtain⟨O,rfl,s⟩:=d;exact⟨O,rfl,Gl C l l' O o h s⟩
  ·cases h
 |.dU l,a,v,o,h,d=>by
  letI:=T
  simp only[AV.under]at o;simp only[mV]at h;split at h
  ·next l'=>simp only[VR]at d⊢;obtain⟨O,rfl,s⟩:=d;exact⟨O,rfl,Gl C l l' O o h s⟩
  ·cases h
 |.jh t x,a,v,o,h,d=>by
  letI:=T
  simp only[AV.under]at o;simp only[mV]at h;split at h
  ·next t' x'=>
   rw[aO]at h;have e:=bM h.1;subst e;simp only[VR]at d⊢;obtain⟨y,rfl,s⟩:=d;exact⟨y,rfl,aag C x x' y o h.2 s⟩
  ·cases h
 |.b x,a,v,o,h,d=>by
  letI:=T
  simp only[mV]at h;split at h
  ·next y=>have:=SB.1 h;subst this;simp only[VR]at d⊢;exact d
  ·cases h
 |.i k n,a,v,o,h,d=>by
  letI:=T
  simp only[mV]at h;split at h
  ·next k' n'=>
   rw[aO]at h;have E:=UW h.1;have u:=agM h.2;subst E;subst u;simp only[VR]at d⊢;exact d
  ·cases h
 |.s x,a,v,o,h,d=>by
  letI:=T
  simp only[mV]at h;split at h
  ·next y=>have:=Yb h;subst this;simp only[VR]at d⊢;exact d
  ·cases h
 |.jH,a,v,o,h,d=>by letI:=T;simp only[mV]at h;split at h;(simp only[VR]at d⊢;exact d);cases h
 |.gy,a,v,o,h,d=>by letI:=T;simp only[mV]at h;split at h;(simp only[VR]at d⊢;exact d);cases h
 |.yZ,a,v,o,h,d=>by letI:=T;simp only[mV]at h;split at h;(simp only[VR]at d⊢;exact d);cases h
 |.sZ,a,v,o,h,d=>by letI:=T;simp only[mV]at h;split at h;(simp only[VR]at d⊢;exact d);cases h
 |.pO,a,v,o,h,d=>by letI:=T;simp only[mV]at h;split at h;(simp only[VR]at d⊢;exact d);cases h
 |.sl i X len ag,a,v,o,h,d=>by
  letI:=T
  simp only[AV.under,jv]at o;simp only[mV]at h;split at h
  ·next id N ae af=>
   simp only[aO,jv]at h;obtain⟨⟨L,U⟩,H,h4,h5⟩:=h;have E:=bM H;have u:=bM h4;have e3:=alX h5;subst E;subst u;subst e3;simp only[VR]at d⊢;obtain⟨q,M,s,rfl⟩:=d;exact⟨q,by rw[Gj L o (Qv U)];exact M,s,rfl⟩
  ·cases h
 |.mp i,a,v,o,h,d=>by
  letI:=T
  simp only[AV.under,jv]at o;simp only[mV]at h;split at h
  ·next id=>
   rw[aO,jv]at h;simp only[VR]at d⊢;obtain⟨q,M,rfl⟩:=d;exact⟨q,by rw[Gj h.1 o (Qv h.2)];exact M,rfl⟩
  ·cases h
 |.z _ _ _,_,_,_,h,_=>by simp[mV]at h
 |.ro _,_,_,_,h,_=>by simp[mV]at h
 |.rp _ _,_,_,_,h,_=>by simp[mV]at h
 |.pv _ _ _,_,_,_,h,_=>by simp[mV]at h
 |.pd _ _,_,_,_,h,_=>by simp[mV]at h
def Gl(C:wH T P tabs G next F J w fz r ps gs cZ):∀(p a:Q3)(v:Q6),AV.pW next p=true->@BX T.togQ P G J fz r ps p a=true->@aG T F a v->@aG (Tg tabs gs ka) (sU tabs G next r F cZ) p v
 |[],a,v,e,h,d=>by
  letI:=T
  simp only[BX]at h;split at h
  ·simp only[aG]at d⊢;exact d
  ·cases h
 |p::l,a,v,e,h,d=>by
  letI:=T
  simp only[AV.pW,aO]at e;simp only[BX]at h;split at h
  ·next b i=>
   rw[aO]at h;simp only[aG]at d⊢;obtain⟨x,g,rfl,j,k⟩:=d;exact⟨x,g,rfl,aag C p b x e.1 h.1 j,Gl C l i g e.2 h.2 k⟩
  ·cases h
end
def ahv{t:Tr AV}[gQ]:∀{l:Wm},Vj P G J fz r ps t l=true->∀k p,(k,p)∈l->∃v,t.get k=some v/\mV P G J fz r ps p v=true
 |[],_,k,p,hk=>by simp at hk
 |q::l,h,k,p,hk=>by
  simp only[Vj,aO]at h;rcases bJ.1 hk with e|hk
  ·subst e;have h1:=h.1;split at h1
   ·next v d=>exact⟨v,d,h1⟩
   ·cases h1
  ·exact ahv h.2 k p hk
def ahu[gQ]:∀{l:Ys},Me P G next J fz r ps l=true->∀i o,(i,o)∈l->G<i/\i<next/\mO P G J fz r ps i o=true
 |[],_,i,o,hk=>by simp at hk
 |q::l,h,i,o,hk=>by
  simp only[Me,aO,jv]at h;rcases bJ.1 hk with e|hk
  ·subst e;exact⟨h.1.1.1,h.1.1.2,h.1.2⟩
  ·exact ahu h.2 i o hk
def abA:∀{r:W7},JF r=true->∀i j a,dF i r=some (some a)->dF j r=some (some a)->i=j
 |[],_,i,j,a,h1,_=>by simp[dF]at h1
 |p::l,h,i,j,a,h1,d=>by
  simp only[JF,aO]at h;simp only[dF]at h1 d;cases e:Nat.beq i p.1<;>cases g:Nat.beq j p.1<;>rw[e]at h1<;>rw[g]at d<;>simp only[cond_true,cond_false,aY]at h1 d
  ·exact abA h.2 i j a h1 d
  ·have m:=Un h1;have k:=h.1;rw[d]at k;have:=List.all_eq_true.1 k _ m;simp at this
  ·have m:=Un d;have k:=h.1;rw[h1]at k;have:=List.all_eq_true.1 k _ m;simp at this
  ·rw[bM e,bM g]
def atX(C:wH T P tabs G next F J w fz r ps gs cZ){i:Nat}{o:bG}(hG:G<i)(hn:i<next)(hb:Bl next o=true)(h:@mO T.togQ P G J fz r ps i o=true):
 @Live (Tg tabs gs ka) P (sU tabs G next r F cZ) w i o/\(∀id,dF i r=some (some id)->id∉fz/\∃o',J.get id=some o'/\o'.own=o.own):=by
 letI:=T
 unfold mO at h;split at h
 ·next id B=>
  rw[aO]at h;obtain⟨h1,h⟩:=h;have u:id∉fz:=by intro D;rw[ac6.2 D]at h1;simp at h1
  have v:(sU tabs G next r F cZ) i=F id:=Gj hG hn B;split at h
  ·next l Y uY ae=>
   split at h
   ·next c IB am Qj p=>
    rw[aO,aO,aO]at h;obtain⟨⟨⟨h2,Z⟩,E⟩,h5⟩:=h;have s:=bM h2;have A:=SB.1 Z;have e3:=SB.1 E;subst s;subst A;subst e3;refine⟨?_,λH t=>by rw[B]at t;cases t;exact⟨u,_,p,rfl⟩⟩;obtain⟨q,I,cs,n,fr,af,L⟩:=C.rel.obj _ _ p rfl;refine .inl ⟨q,by rw[v];exact I,cs,n,fr,af,?_⟩;have aa:@aG T F c ((cs.toList.drop q.ba).take c.length):=by have al:=L.fits;have an:=L.le;refine aG.of (by simp;omega) λk a M=>?_;obtain⟨x,hx,hv⟩:=L.cell k a M;have ab:=(fH.1 M).1;exact⟨x,by rw[lT,au ab,rW];simpa using hx,hv⟩
    have ac:=Gl (ka:=ka) C l c _ hb h5 aa;have U:l.length=c.length:=by have h6:=@aG.length (Tg tabs gs ka) _ _ _ ac;have h7:=aa.length;omega
    exact @rV.mk (Tg tabs gs ka) P (sU tabs G next r F cZ) q l Y uY ae cs n fr L.fits (by rw[U];exact L.le) (λe=>by rw[U];exact L.shut e) (λk a M=>by obtain⟨x,hx,hv⟩:=@aG.at (Tg tabs gs ka) _ _ _ ac k a M;have ab:=(fH.1 M).1;rw[lT,au ah,rW]at hx;exact⟨x,by simpa using hx,hv⟩) L.free L.whole L.room
   ·cases h
  ·next j Y f=>
   split at h
   ·next m IB f' p=>
    rw[aO,aO]at h;obtain⟨⟨h2,Z⟩,E⟩:=h;have s:=bM h2;subst s;refine⟨?_,λH t=>by rw[B]at t;cases t;exact⟨u,_,p,rfl⟩⟩;split at E
    ·next m' D=>
     have e:=bM E;subst e;obtain⟨s,g,A⟩:=GZ C.vals D;rcases C.rel.live id _ p with⟨q,I,ag⟩|⟨ai,n2,YP,f2,e3,ak⟩
     ·obtain⟨xs,cs,n,fr,ys,N,O,k3,k4,k5,k6,k7,k8,k9⟩:=ag;have V:T.val m=some (.l xs):=N;refine .inl ⟨q,by rw[v];exact I,xs,cs,n,fr,ys,by show gs[j]? =_;rw[s,V],O,aS.mono C.uU _ _ k3,k4,k5,k6,@rV.mk (Tg tabs gs ka) P (sU tabs G next r F cZ) q [] Y true true cs n fr k7.fits k7.le k7.shut (λk a M=>by simp at M) k7.free k7.whole k7.room,k8,λe=>k9 ?_⟩;rw[e]at Z;simpa using Z
     ·cases e3;have UN:T.val m=some (.l []):=ak;exact .inr ⟨by rw[ahs hG hn B];exact ai,j,Y,f,rfl,by show gs[j]? =_;rw[s,UN]⟩
    ·simp at E
   ·cases h
  ·next j kk sz=>
   split at h
   ·next m Ec ao p=>
    rw[aO,aO]at h;obtain⟨⟨h2,Z⟩,E⟩:=h;have s:=U3 h2;have A:=ace Z;subst s;subst A;refine⟨?_,λH t=>by rw[B]at t;cases t;exact⟨u,_,p,rfl⟩⟩;split at E
    ·next m' D=>
     have e:=bM E;subst e;obtain⟨s,g,A⟩:=GZ C.vals D;obtain⟨q,I,xs,ms,d,N,O,k3⟩:=C.rel.obj _ _ p rfl;have V:T.val m=some (.l xs):=N;exact .inl ⟨q,by rw[v];exact I,xs,ms,d,by show gs[j]? =_;rw[s,V],O,k3.mono C.uU⟩
    ·simp at E
   ·next p=>
    refine⟨?_,λH t=>by rw[B]at t;cases t;exact⟨u,_,p,rfl⟩⟩;split at h
    ·next m D=>
     obtain⟨s,g,A⟩:=GZ C.vals D;unfold MB at h;split at h
     ·next W=>
      obtain⟨g',N,O⟩:=T.qQ m _ W aA;rw[A]at N;cases N;simp only[Nd.den,valsOf,gU,aY]at O;subst O;obtain⟨q,I,ms,d,hb,X,_⟩:=C.rel.obj _ _ p rfl;refine .inl ⟨q,by rw[v];exact I,[],ms,d,by show gs[j]? =_;rw[s,A],hb,?_⟩;simp only[rY];have:ms.size=0:=by simpa using X
      simpa using acN this
     ·cases h
    ·simp at h
   ·cases h
  ·split at h
   ·next p=>
    refine⟨?_,λH t=>by rw[B]at t;cases t;exact⟨u,_,p,rfl⟩⟩;obtain⟨q,I,ms,d,hb,X,_⟩:=C.rel.obj _ _ p rfl;exact .inl ⟨q,by rw[v];exact I,ms,d,hb,X,λk e M=>by simp at M⟩
   ·cases h
  ·cases h
 ·next B=>
  refine⟨?_,λid ad=>by rw[B]at ad;cases ad⟩;split at h
  ·next j Y f=>
   split at h
   ·next m D=>
    obtain⟨s,g,A⟩:=GZ C.vals D;unfold MB at h;split at h
    ·next W=>
     obtain⟨g',N,O⟩:=T.qQ m _ W aA;rw[A]at N;cases N;simp only[Nd.den,valsOf,gU,aY]at O;subst O;exact .inr ⟨aht hG hn B,j,Y,f,rfl,by show gs[j]? =_;rw[s,A]⟩
    ·cases h
   ·cases h
  ·cases h
 ·cases h
end
noncomputable section
variable{P:Program}
variable{T:aJ}{tabs:Qt}{G next:Nat}{F:Env}{J:aC}{w:World}{fz:Q2}{r:W7}{ps:Q2}{gs:Q1}{cZ:Qf}
def Fp(n:Nat):Wm->Bool
 |[]=>true
 |p::l=>p.2.under n&&Fp n l
def adZ{n:Nat}:∀{l:Wm},Fp n l=true->∀k p,(k,p)∈l->p.under n=true
 |[],_,k,p,h=>by simp at h
 |q::l,h,k,p,hk=>by
  simp only[Fp,aO]at h;rcases bJ.1 hk with e|hk
  ·subst e;exact h.1
  ·exact adZ h.2 k p hk
def gX.ok(s:gX):Bool:=Nat.blt s.gn s.next&&Fp s.next s.slots&&s.objs.all λp=>Bl s.next p.2
structure vG(tabs:Qt)(G:Nat):Prop where
 low:∀p∈tabs,p.1<=G
 one:∀p∈tabs,dF p.1 tabs=some p.2
def aBm(T:aJ){F:Env}{a:AV}{v:Value}(h:a.toVal 4=some v):@VR T F a v:=@aj9 T F 4 a v h
def aaj{ka:Nat}{s:gX}(X:T.tabs=tabs)(v:vG tabs P.globals.size)(IQ:s.objs.all (λp=>Bl s.next p.2)=true)(h3:s.gn<s.next)(Y:s.gn=P.globals.size)
 (C:wH T P tabs s.gn s.next F J w fz r ps gs cZ) (f1:∀b o,cZ b=some o->w.heap[b]? =some o) (f2:∀id o q,id∉fz->J.get id=some o->o.own=true->F id=some q->cZ q.bl=none) (h4:JF r=true) (h6:@Me T.togQ P s.gn s.next J fz r ps s.objs=true):
 @SR (Tg tabs gs ka) P (sU tabs s.gn s.next r F cZ) (s.st tabs) w/\(∀i o q,(s.st tabs).get i=some o->o.own=true->(sU tabs s.gn s.next r F cZ) i=some q->∃id o',dF i r=some (some id)/\id∉fz/\J.get id=some o'/\o'.own=true/\F id=some q):=by
 letI:=T
 have obj:∀i o,(s.st tabs).get i=some o->(s.gn<i/\i<s.next/\@Live (Tg tabs gs ka) P (sU tabs s.gn s.next r F cZ) w i o/\(∀id,dF i r=some (some id)->id∉fz/\∃o',J.get id=some o'/\o'.own=o.own))\/
  (i<=s.gn/\∃c,o=.cells c 0 false false/\(i,c)∈tabs):=by
  intro i o hi;have d:=Qh hi;rcases ny.1 d with d|d
  ·obtain⟨N,E,g3⟩:=ahu h6 i o d;have Z:=List.all_eq_true.1 IQ _ d;obtain⟨g4,g5⟩:=atX C N E Z g3;exact .inl ⟨N,E,g4,g5⟩
  ·obtain⟨p,O,e⟩:=qK.1 d;cases e;exact .inr ⟨by rw[Y];exact v.low p O,p.2,rfl,O⟩
 have own:∀i o q,(s.st tabs).get i=some o->o.own=true->(sU tabs s.gn s.next r F cZ) i=some q->∃id o',dF i r=some (some id)/\id∉fz/\J.get id=some o'/\o'.own=true/\F id=some q:=by
  intro i o q hi ho hq;rcases obj i o hi with⟨N,E,_,g4⟩|⟨_,c,rfl,_⟩
  ·have j:(if i<=s.gn then some ⟨i,0,AA tabs i,0⟩else if i<s.next then(match dF i r with|some (some id)=>F id|_=>none)else none)=some q:=hq;rw[aj ah,au E]at j;split at j
   ·next id m=>
    obtain⟨t,o',n,A⟩:=g4 id m;exact⟨id,o',m,t,n,A.trans ho,j⟩
   ·cases j
  ·cases ho
 have aa:∀p∈tabs,@E8 (sU tabs s.gn s.next r F cZ) p.1 p.2:=by intro p O;obtain⟨H,l,I,t,n⟩:=C.rel.tabs p (by rw[X];exact O);exact⟨H,l,I,C.uU _ _ t,n⟩
 refine⟨@SR.mk (Tg tabs gs ka) P _ _ w ?_ ?_ ?_ ?_ ?_ ?_ ?_ ?_,own⟩
 ·intro g hg;exact⟨_,_,Vh ah⟩
 ·intro i q hq;have j:(if i<=s.gn then some ⟨i,0,AA tabs i,0⟩else if i<s.next then(match dF i r with|some (some id)=>F id|_=>none)else none)=some q:=hq;show i<s.next
  split at j
  ·omega
  ·split at j
   ·next h=>exact h
   ·cases j
 ·intro i o hi;rcases obj i o hi with⟨_,_,g3,_⟩|⟨D,c,rfl,d⟩
  ·exact g3
  ·obtain⟨H,l,I,t,n,A⟩:=C.rel.tabs (i,c) (by rw[X];exact d);have Z:=C.rel.jc _ _ t;have ab:AA tabs i=c.length:=by unfold AA;rw[v.one (i,c) d]
   refine .inl ⟨⟨i,0,AA tabs i,0⟩,Vh D,H,l,I,Z,?_⟩;refine @rV.mk (Tg tabs gs ka) P _ _ c 0 false false H l I (by simp only at n⊢;omega) (by simp only;omega) (λ_=>by simp only;omega) (λk a hk=>?_) (λh=>by cases h) (λh=>absurd rfl h) (λh=>by cases h);obtain⟨x,hx,hv⟩:=A.1 k a hk;exact⟨x,by simpa using hx,@Ry.vr (Tg tabs gs ka) _ _ _ hv⟩
 ·intro i hg;have L:(decide (s.gn<i)&&decide (i<s.next)&&(match dF i r with|some (some id)=>F.gh id|some none=>true|none=>false))=true:=hg;rw[aO,aO,decide_eq_true_iff,decide_eq_true_iff]at L;obtain⟨⟨t,n⟩,A⟩:=L;refine⟨?_,n⟩;show(if i<=s.gn then some ⟨i,0,AA tabs i,0⟩else if i<s.next then(match dF i r with|some (some id)=>F id|_=>none)else none)=none
  rw[aj ah,au n];split at A
  ·next id m=>rw[m];exact(C.rel.jU id A).1
  ·next m=>rw[m]
  ·cases A
 ·intro i o B o' q q' a1 a2 a3 a4 a5 a6;obtain⟨id,u,b1,b2,U,V,W⟩:=own i o q a1 a2 a5;rcases obj B o' a3 with⟨N,E,_,g4⟩|⟨D,c,rfl,d⟩
  ·have j:(if B<=s.gn then some ⟨B,0,AA tabs B,0⟩else if B<s.next then(match dF B r with|some (some id)=>F id|_=>none)else none)=some q':=a6;rw[aj ah,au E]at j;split at j
   ·next M jL=>
    obtain⟨t,u',n,A⟩:=g4 M jL;exact C.rel.sep id u M u' q q' U V n (λe=>a4 (by subst e;exact abA h4 i B id b1 jL)) W j
   ·cases j
  ·intro e;rw[Vh D]at a6;cases a6;obtain⟨H,l,I,t,_⟩:=C.rel.tabs (B,c) (by rw[X];exact d);have:=C.rel.lq id u q U V W;simp only at e;rw[e]at this;rw[t]at this;cases this
 ·exact f1
 ·intro i o q a1 a2 a3;obtain⟨id,u,b1,b2,U,V,W⟩:=own i o q a1 a2 a3;exact f2 id u q b2 U V W
 ·exact aa
def X0{r:W7}:∀{n i:Nat},Om r i n=true->∀j,i<j->j<=i+n->dF j r=some (some j)
 |0,i,_,j,h1,d=>ah
 |n+1,i,h,j,h1,d=>by
  simp only[Om,aO]at h;by_cases e:j=i+1
  ·subst e;exact Qv h.1
  ·exact X0 h.2 j ah ah
def aai{w0:Base}{m:Qf}{a:bF}{A:Act}{s:gX}(W:T.tabs=tabs)(g:vG tabs P.globals.size)(d:s.ok=true)(h:@jX T P w0 m F J w)(X:J.lock=0)(j:@TR T P F a A)(n:@aaf T.togQ P s a J fz r ps=true)(t:valsOf T.val ps=some gs):Rx P tabs s gs w0 m A w:=by
 letI:=T
 unfold aaf at n;simp only[aO,jv]at n;obtain⟨⟨⟨⟨⟨⟨⟨⟨B,k2⟩,Y⟩,Z⟩,h2⟩,O⟩,h4⟩,h5⟩,h6⟩:=n;have B:=bM B;have e1:=bM Z;have e2:=bM h2;unfold gX.ok at d;rw[aO,aO]at d;obtain⟨⟨_,D⟩,IQ⟩:=d;have e:s.gn=P.globals.size:=by rw[e2];exact j.gn
 obtain⟨cZ,f1,l,f3⟩:=Ul h X fz;have C:wH T P tabs s.gn s.next F J w fz r ps gs cZ:=⟨h.rel,t,f1,f3,e,O⟩
 obtain⟨hS,own⟩:=aaj (ka:=s.ka) W g IQ O e C l.rel.jc (λid o q U E H I=>l.rel.lq id o q (by rw[Eb,aj U];exact E) H I) h4 h6;refine⟨sU tabs s.gn s.next r F cZ,?_,?_⟩
 ·refine @jX.mk (Tg tabs gs s.ka) P w0 m _ _ w hS h.kept ?_ ?_ ?_ ?_
  ·intro i o q L a2 M;obtain⟨id,u,b1,U,E,H,I⟩:=own i o q L a2 M;exact h.own id u q E H I
  ·exact l.uU
  ·exact l.qH
  ·intro i q hi;obtain⟨L,a2,M⟩:=h.rE i q hi;have N:i<=P.globals.size+s.ka:=by rw[B];exact M
   refine⟨?_,a2,N⟩;rw[Gj ah ah (X0 Y i ah ah)];exact L
 ·refine @TR.mk (Tg tabs gs s.ka) P _ _ A ?_ ?_ j.none ?_
  ·exact e
  ·show A.tmps.size=s.n
   rw[e1];exact j.size
  ·intro k p V;obtain⟨v,v1,v2⟩:=ahv h5 k p (Qh V);obtain⟨x,hx,hv⟩:=j.slot k v v1;exact⟨x,hx,aag C p v x (adZ D k p (Qh V)) v2 hv⟩
end
noncomputable section
variable{P:Program}
mutual
def AV.eF(f:Nat->Nat):AV->AV
 |.nd j=>.nd (f j)
 |.rx j off=>.rx (f j) off
 |.sv id j=>.sv id (f j)
 |.pv id j off=>.pv id (f j) off
 |.pd id j=>.pd id (f j)
 |.fn g fi cs=>.fn g (AV.qB f fi) (AV.qB f cs)
 |.jh t a=>.jh t (a.eF f)
 |.agg l=>.agg (AV.qB f l)
 |.dU l=>.dU (AV.qB f l)
 |.ro l=>.ro (AV.qB f l)
 |.rp a off=>.rp (a.eF f) off
 |a=>a
def AV.qB(f:Nat->Nat):Q3->List AV
 |[]=>[]
 |a::l=>a.eF f::AV.qB f l
end
def Vk(f:Nat->Nat):∀l:Q3,AV.qB f l=l.map (AV.eF f)
 |[]=>rfl
 |a::l=>by simp[AV.qB,Vk f l]
def bG.eF(f:Nat->Nat):bG->bG
 |.cells c et rw opn=>.cells (AV.qB f c) et rw opn
 |.iter s pos=>.iter s pos
 |.map es=>.map (es.map λe=>(e.1.eF f,e.2.eF f))
 |.iterM m=>.iterM m
 |.vec j et b=>.vec (f j) et b
 |.smap j d sz=>.smap (f j) d sz
 |.pmap es=>.pmap (es.map λe=>(e.1,e.2.eF f))
def bG.aua(f:Nat->Nat)(o:bG):(o.eF f).own=o.own:=by cases o<;>rfl
section
variable{S T:aJ}{f:Nat->Nat}{F:Env}
mutual
def VR.eF(h:∀j g,S.val j=some g->T.val (f j)=some g):∀(a:AV)(v:Value),@VR S F a v->@VR T F (a.eF f) v
 |.b _,_,d=>by simpa only[VR,AV.eF]using d
 |.i _ _,_,d=>by simpa only[VR,AV.eF]using d
 |.s _,_,d=>by simpa only[VR,AV.eF]using d
 |.jH,_,d=>by simpa only[VR,AV.eF]using d
 |.p _ _,_,d=>by simpa only[VR,AV.eF]using d
 |.gy,_,d=>by simpa only[VR,AV.eF]using d
 |.sl _ _ _ _,_,d=>by simpa only[VR,AV.eF]using d
 |.pO,_,d=>by simpa only[VR,AV.eF]using d
 |.mp _,_,d=>by simpa only[VR,AV.eF]using d
 |.yZ,_,d=>by simpa only[VR,AV.eF]using d
 |.fn _ fi cs,_,d=>by simp only[VR,AV.eF]at d⊢;obtain⟨B,vs,e,h1,m⟩:=d;exact⟨B,vs,e,aG.eF h fi B h1,aG.eF h cs vs m⟩
 |.sZ,_,d=>by simpa only[VR,AV.eF]using d
 |.jh _ a,_,d=>by simp only[VR,AV.eF]at d⊢;obtain⟨x,e,h1⟩:=d;exact⟨x,e,VR.eF h a x h1⟩
 |.agg l,_,d=>by simp only[VR,AV.eF]at d⊢;obtain⟨x,e,h1⟩:=d;exact⟨x,e,aG.eF h l x h1⟩
 |.dU l,_,d=>by simp only[VR,AV.eF]at d⊢;obtain⟨x,e,h1⟩:=d;exact⟨x,e,aG.eF h l x h1⟩
 |.z _ _ _,_,d=>by simpa only[VR,AV.eF]using d
 |.ro l,_,d=>by
  simp only[VR,AV.eF]at d⊢;have D:(AV.qB f l).length=l.length:=by rw[Vk];simp
  rcases d with⟨rfl,d⟩|⟨s,u,c,o,E,e,H,h1,m,t⟩
  ·exact .inl ⟨rfl,d⟩
  ·rw[D];exact .inr ⟨s,u,c,o,E,e,H,aG.eF h l o h1,m,λI=>t (by intro L;apply I;rw[L];rfl)⟩
 |.rp a _,_,d=>by simp only[VR,AV.eF]at d⊢;obtain⟨s,base,cs,n,A,x,h1,m,t⟩:=d;exact⟨s,base,cs,n,A,x,h1,VR.eF h a x m,t⟩
 |.nd _,_,d=>by simp only[VR,AV.eF]at d⊢;obtain⟨g,h1,m⟩:=d;exact⟨g,h _ _ h1,m⟩
 |.rx _ _,_,d=>by simp only[VR,AV.eF]at d⊢;obtain⟨g,s,base,cs,n,A,x,h1,m⟩:=d;exact⟨g,s,base,cs,n,A,x,h _ _ h1,m⟩
 |.sv _ _,_,d=>by simp only[VR,AV.eF]at d⊢;obtain⟨o,h1,m⟩:=d;exact⟨o,h _ _ h1,m⟩
 |.pv _ _ _,_,d=>by simp only[VR,AV.eF]at d⊢;obtain⟨q,k,i,h1,m,t⟩:=d;exact⟨q,k,i,h1,h _ _ m,t⟩
 |.pd _ _,_,d=>by simp only[VR,AV.eF]at d⊢;obtain⟨o,p,h1,m⟩:=d;exact⟨o,p,h _ _ h1,m⟩
def aG.eF(h:∀j g,S.val j=some g->T.val (f j)=some g):∀(l:Q3)(vs:Q6),@aG S F l vs->@aG T F (AV.qB f l) vs
 |[],_,d=>by simpa only[aG,AV.qB]using d
 |a::l,_,d=>by simp only[aG,AV.qB]at d⊢;obtain⟨x,xs,e,h1,i⟩:=d;exact⟨x,xs,e,VR.eF h a x h1,aG.eF h l xs i⟩
end
def OR.eF(h:∀j g,S.val j=some g->T.val (f j)=some g){q:Place}{w:World}{o:bG}(r:@OR S P F q w o):@OR T P F q w (o.eF f):=by
 cases o with
 |cells c A uY B=>
  obtain⟨n,i,p,t,⟨r1,r2,r3,r4,D,E,H⟩⟩:=r;have hl:(AV.qB f c).length=c.length:=by rw[Vk];simp
  refine⟨n,i,p,t,@rV.mk T P F q _ A uY B n i p r1 (by rw[hl];exact r2) (λe=>by rw[hl];exact r3 e) (λk a l=>?_) D E H⟩;rw[Vk,jf]at l;obtain⟨a0,u,rfl⟩:=bn.1 l;obtain⟨x,hx,hv⟩:=r4 k a0 u;exact⟨x,hx,VR.eF h a0 x hv⟩
 |iter s pos=>exact r
 |map es=>obtain⟨v,d,t,u,I⟩:=r;refine⟨v,d,t,by simpa using u,λk e l=>?_⟩;rw[jf]at l;obtain⟨L,M,rfl⟩:=bn.1 l;obtain⟨m,N,O,U⟩:=I k L M;exact⟨m,N,VR.eF h _ _ O,VR.eF h _ _ U⟩
 |iterM m=>cases m<;>exact r
 |smap j kk sz=>obtain⟨V,v,d,W,X,Y⟩:=r;exact⟨V,v,d,h _ _ W,X,Y⟩
 |pmap es=>obtain⟨hn,v,d,Z,t,hp,u,I⟩:=r;refine⟨by simpa[List.map_map,Function.comp_def]using hn,v,d,Z,t,hp,by simpa using u,λk e l=>?_⟩;rw[jf]at l;obtain⟨L,M,rfl⟩:=bn.1 l;obtain⟨m,N,O,U⟩:=I k L M;exact⟨m,N,O,VR.eF h _ _ U⟩
 |vec j A b=>obtain⟨V,n,i,p,ys,W,X,Y,k4,k5,k6,⟨r1,r2,r3,r4,D,E,H⟩,k8⟩:=r;exact⟨V,n,i,p,ys,h _ _ W,X,Y,k4,k5,k6,@rV.mk T P F q [] A true true n i p r1 r2 r3 (λk a l=>by simp at l) D E H,k8⟩
def Live.eF(h:∀j g,S.val j=some g->T.val (f j)=some g){w:World}{i:Nat}{o:bG}(r:@Live S P F w i o):@Live T P F w i (o.eF f):=by
 rcases r with⟨q,d,e⟩|⟨k,n,l,b,rfl,m⟩
 ·exact .inl ⟨q,d,OR.eF h e⟩
 ·exact .inr ⟨k,f n,l,b,rfl,h _ _ m⟩
end
def Ju{α:Type}:∀(l:List (Nat×α))(k:Nat),(pR l).get k=dF k l
 |[],k=>by simp[pR,dF]
 |(j,u)::l,k=>by
  rw[pR,Tr.uN,dF];cases d:Nat.beq k j with
  |true=>rw[au (bM d)];rfl
  |false=>rw[aj (λe=>by rw[e,Nat.beq_refl]at d;cases d)];exact Ju l k
def Y6{α β:Type}(g:α->β):∀(l:List (Nat×α))(m:List (Nat×β))(d:List (Nat×α))(k:Nat)(o:β),dF k (l.map (λp=>(p.1,g p.2))++m)=some o->(∃o0,dF k (l++d)=some o0/\o=g o0)\/(dF k m=some o/\(∀o',dF k d=some o'->dF k (l++d)=some o'))
 |[],m,d,k,o,h=>.inr ⟨h,λo' i=>i⟩
 |p::l,m,d,k,o,h=>by
  simp only[iC,bI,dF]at h⊢;cases e:Nat.beq k p.1 with
  |true=>rw[e]at h;simp only[cond_true,aY]at h⊢;exact .inl ⟨p.2,rfl,h.symm⟩
  |false=>rw[e]at h;simp only[cond_false]at h⊢;exact Y6 g l m d k o h
def gX.Si(s:gX)(f:Nat->Nat):bF:=⟨pR (s.slots.map λp=>(p.1,p.2.eF f)),s.n,s.gn⟩
def gX.EL(tabs:Qt)(s:gX)(f:Nat->Nat):aC:=⟨pR (s.objs.map (λp=>(p.1,p.2.eF f))++wo tabs),s.next,0⟩
def afU{T:aJ}{tabs:Qt}{s:gX}{gs:Q1}{f:Nat->Nat}{w0:Base}{w:World}{M:Qf}{F:Env}(uO:T.tabs=tabs)(N:T.ka=s.ka)(hf:∀j g,gs[j]? =some g->T.val (f j)=some g)(h:@jX (Tg tabs gs s.ka) P w0 M F (s.st tabs) w):
 @jX T P w0 M F (s.EL tabs f) w:=by
 obtain⟨⟨O,A,l,Zr,B,U,V,n⟩,v,D,Zx,W,Zf⟩:=h;have X:∀j g,(Tg tabs gs s.ka).val j=some g->T.val (f j)=some g:=hf;have obj:∀i o,(s.EL tabs f).get i=some o->(∃o0,(s.st tabs).get i=some o0/\o=o0.eF f)\/(∃c,o=.cells c 0 false false/\(i,c)∈tabs/\(s.st tabs).get i=some o):=by
  intro i o hi;have Y:dF i (s.objs.map (λp=>(p.1,p.2.eF f))++wo tabs)=some o:=(Ju _ i).symm.trans hi;rcases Y6 (bG.eF f) s.objs (wo tabs) (wo tabs) i o Y with⟨o0,d,Z⟩|⟨d,Z⟩
  ·exact .inl ⟨o0,(Ju _ i).trans d,Z⟩
  ·have hm:=Un d;obtain⟨p,hp,e⟩:=qK.1 hm;cases e;exact .inr ⟨p.2,rfl,hp,(Ju _ _).trans (Z _ d)⟩
 have own:∀i o,(s.EL tabs f).get i=some o->∃o0,(s.st tabs).get i=some o0/\o0.own=o.own:=by
  intro i o hi;rcases obj i o hi with⟨o0,d,rfl⟩|⟨c,rfl,_,d⟩
  ·exact⟨o0,d,(bG.aua f o0).symm⟩
  ·exact⟨_,d,rfl⟩
 refine @jX.mk T P w0 M _ _ w (@SR.mk T P _ _ w O A ?_ Zr ?_ U ?_ ?_) v ?_ Zx W (by rw[N];exact Zf)
 ·intro i o hi;rcases obj i o hi with⟨o0,d,rfl⟩|⟨c,rfl,hm,d⟩
  ·exact Live.eF X (l i o0 d)
  ·rcases l i _ d with⟨q,hq,cs,t,fr,hb,⟨r1,r2,r3,r4,r5,r6,r7⟩⟩|⟨_,_,_,_,e,_⟩
   rotate_left
   ·cases e
   obtain⟨ab,Ll,LM,k1,k2,k3⟩:=n (i,c) hm;refine .inl ⟨q,hq,cs,t,fr,hb,@rV.mk T P _ _ c 0 false false cs t fr r1 r2 r3 (λk a hk=>?_) r5 r6 r7⟩;obtain⟨x,hx,hv⟩:=r4 k a hk;obtain⟨y,hy,m⟩:=k3.1 k a hk;rcases m with m|⟨_,_,_,_,rfl,rfl,_,_⟩
   ·have:x=y:=@akb (Tg tabs gs s.ka) _ 4 a y x m hv;subst this;exact⟨x,hx,aBm T m⟩
   ·exact⟨x,hx,by simpa only[VR]using hv⟩
 ·intro i o i' o' q q' E a2 H a4 a5 a6;obtain⟨u,I,L⟩:=own i o E;obtain⟨u',aa,ac⟩:=own i' o' H;exact B i u i' u' q q' I (L.trans a2) aa a4 a5 a6
 ·intro i o q E a2 H;obtain⟨u,I,L⟩:=own i o E;exact V i u q I (L.trans a2) H
 ·rw[uO];exact n
 ·intro i o q E a2 H;obtain⟨u,I,L⟩:=own i o E;exact D i u q I (L.trans a2) H
def abU{T:aJ}{tabs:Qt}{s:gX}{gs:Q1}{f:Nat->Nat}{w0:Base}{w:World}{t:Qf}{A:Act}(D:T.tabs=tabs)(e:T.ka=s.ka)(u:∀j g,gs[j]? =some g->T.val (f j)=some g)(h:Rx P tabs s gs w0 t A w):
 ∃F,@jX T P w0 t F (s.EL tabs f) w/\@TR T P F (s.Si f) A:=by
 obtain⟨F,E,⟨i,l,m,n⟩⟩:=h;have o:∀j g,(Tg tabs gs s.ka).val j=some g->T.val (f j)=some g:=u;refine⟨F,afU D e u E,@TR.mk T P _ _ A i l m ?_⟩
 ·intro k v H;have q:dF k (s.slots.map (λp=>(p.1,p.2.eF f))++[])=some v:=by rw[qZ];exact(Ju _ k).symm.trans H
  rcases Y6 (AV.eF f) s.slots [] [] k v q with⟨B,d,rfl⟩|⟨d,_⟩
  ·rw[qZ]at d;obtain⟨x,I,L⟩:=n k B ((Ju _ k).trans d);exact⟨x,I,VR.eF o B x L⟩
  ·simp[dF]at d
