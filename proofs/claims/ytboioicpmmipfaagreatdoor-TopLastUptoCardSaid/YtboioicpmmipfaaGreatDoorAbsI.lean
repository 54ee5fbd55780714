/- Pure programs: trees of nodes; what they compute; how a check of all their ways serves all values. -/
import Derived.Test.YtboioicpmmipfaaGreatDoorAbsH
import Derived.Control
set_option linter.all false
namespace Go.aP
noncomputable section
inductive Tree where
 |step (nd:Nd) (t:Tree)
 |ite (n:Nat) (t e:Tree)
 |ret (l:Q2)
 |tail (f:Nat) (l:Q2)
 |dead
 deriving Inhabited
abbrev jl:=Nat->List GV->Option Q1
def Tree.den(I:jl):Tree->List GV->Option Q1
 |.step nd t,d=>match nd.den I (λn=>d[n]?)with
  |some g=>t.den I (d++[g])
  |none=>none
 |.ite n t e,d=>match d[n]? with
  |some (.b true)=>t.den I d
  |some (.b false)=>e.den I d
  |_=>none
 |.ret l,d=>valsOf (λn=>d[n]?) l
 |.tail f l,d=>match valsOf (λn=>d[n]?) l with
  |some gs=>I f gs
  |none=>none
 |.dead,_=>none
inductive Leaf where
 |ret (l:Q2)
 |tail (f:Nat) (l:Q2)
def Tree.chk(p:List Nd->List (Nat×Bool)->Leaf->Bool):Tree->List Nd->List (Nat×Bool)->Bool
 |.step nd t,d,g=>t.chk p (d++[nd]) g
 |.ite n t e,d,g=>t.chk p d ((n,true)::g)&&e.chk p d ((n,false)::g)
 |.ret l,d,g=>p d g (.ret l)
 |.tail f l,d,g=>p d g (.tail f l)
 |.dead,_,_=>true
def TW{val d:Wc}(h:∀n g,val n=some g->d n=some g):∀{l:Q2}{gs:Q1},valsOf val l=some gs->valsOf d l=some gs
 |[],gs,e=>e
 |n::l,gs,e=>by
  simp only[valsOf]at e⊢;split at e
  ·next g r h1 i=>rw[h n g h1,TW h i];exact e
  ·cases e
def Nd.agZ{I:jl}{val m:Wc}(h:∀n g,val n=some g->m n=some g){nd:Nd}{g:GV}(d:nd.den I val=some g):nd.den I m=some g:=by
 cases nd<;>simp only[Nd.den]at d⊢
 case ci=>exact d
 case cb=>exact d
 case cs=>exact d
 case arg=>exact d
 case mk l=>
  split at d
  ·next gs p=>rw[TW h p];exact d
  ·cases d
 case ml l=>obtain⟨gs,p,e⟩:=bI.1 d;rw[TW h p];simpa using e
 case call f l j=>
  split at d
  ·next gs p=>rw[TW h p];exact d
  ·cases d
 case upd size off a i vs=>
  split at d
  ·next t k j gs o q s=>rw[h _ _ o,h _ _ q,TW h s];exact d
  ·cases d
 all_goals
  split at d
  all_goals first
   |(cases d;done)
   |(simp only[h _ _ (by assumption)];exact d)
   |(rename_i o q s;rw[h _ _ o,h _ _ q,h _ _ s];exact d)
   |(rename_i o q;rw[h _ _ o,h _ _ q];exact d)
   |(rename_i o;rw[h _ _ o];exact d)
structure EC(I:jl)(ns:List Nd)(ds:Wk)(env:Q1):Prop where
 len:ns.length=env.length
 node:∀(n:Nat) nd,ns[n]? =some nd->nd≠.arg->∃g,env[n]? =some g/\nd.den I (λk=>env[k]?)=some g
 dec:∀(n:Nat)(b:Bool),(n,b)∈ds->env[n]? =some (.b b)
def Ws{α:Type}{l:List α}{x a:α}{n:Nat}(h:l[n]? =some a):(l++[x])[n]? =some a:=by have:=(gy.1 h).1;rw[pF this];exact h
def Tree.ND{I:jl}{p:List Nd->List (Nat×Bool)->Leaf->Bool}:∀(t:Tree){q:List Nd}{u:Wk}{d j:Q1},t.chk p q u=true->EC I q u d->t.den I d=some j->
 ∃v A h L,p v A L=true/\EC I v A h/\(∃s,h=d++s)/\(match L with|.ret l=>valsOf (λn=>h[n]?) l=some j|.tail f l=>∃gs,valsOf (λn=>h[n]?) l=some gs/\I f gs=some j)
 |.step nd t,q,u,d,j,B,m,i=>by
  simp only[Tree.den]at i;split at i
  ·next g M=>
   have N:EC I (q++[nd]) u (d++[g]):=by
    refine⟨by simp[m.len],λn x D X=>?_,λn b o=>Ws (m.dec n b o)⟩;by_cases O:n<q.length
    ·rw[pF O]at D;obtain⟨Y,U,V⟩:=m.node n x D X;exact⟨Y,Ws U,Nd.agZ (λk a W=>Ws W) V⟩
    ·have E:n=q.length:=by have:=(gy.1 D).1;simp at this;omega
     subst E;simp at D;subst D;exact⟨g,by rw[m.len];simp,Nd.agZ (λk a W=>Ws W) M⟩
   obtain⟨v,A,h,L,U,V,⟨s,Z⟩,h4⟩:=Tree.ND t B N i;exact⟨v,A,h,L,U,V,⟨[g]++s,by rw[Z,List.append_assoc]⟩,h4⟩
  ·cases i
 |.ite n t e,q,u,d,j,B,m,i=>by
  simp only[Tree.chk,aO]at B;simp only[Tree.den]at i;split at i
  ·next D=>
   refine Tree.ND t B.1 ⟨m.len,m.node,λk b o=>?_⟩ i;rcases bH.1 o with o|o
   ·cases o;exact D
   ·exact m.dec k b o
  ·next D=>
   refine Tree.ND e B.2 ⟨m.len,m.node,λk b o=>?_⟩ i;rcases bH.1 o with o|o
   ·cases o;exact D
   ·exact m.dec k b o
  ·cases i
 |.ret l,q,u,d,j,B,m,i=>⟨q,u,d,.ret l,B,m,⟨[],aA⟩,i⟩
 |.tail f l,q,u,d,j,B,m,i=>by
  simp only[Tree.den]at i;split at i
  ·next gs M=>exact⟨q,u,d,.tail f l,B,m,⟨[],aA⟩,gs,M,i⟩
  ·cases i
 |.dead,_,_,_,_,_,_,i=>by simp[Tree.den]at i
inductive qH where
 |sc
 |ag (n:Nat)
abbrev WN:=List qH
def qE:WN->List GV->Bool
 |[],[]=>true
 |.sc::l,g::m=>g.scalar&&qE l m
 |.ag n::l,g::m=>!g.scalar&&Nat.beq g.cells.length n&&qE l m
 |_,_=>false
inductive aH where
 |tree (n:Nat) (t:Tree)
 |fn (zk Ba:WN) (t:Tree)
 |bU (f:Q1->Option Q1)
abbrev Wb:=List aH
def aH.den(I:jl):aH->List GV->Option Q1
 |.tree n t,gs=>if gs.length=n then t.den I gs else none
 |.fn e g t,gs=>if qE e gs=true then match t.den I gs with
  |some d=>if qE g d=true then some d else none
  |none=>none
  else none
 |.bU f,gs=>f gs
abbrev jo:=Nat->Option aH
def jo.run(TT:jo):Nat->jl
 |0,_,_=>none
 |n+1,k,gs=>match TT k with
  |some d=>d.den (jo.run TT n) gs
  |none=>none
def jl.le(I J:jl):Prop:=∀k gs d,I k gs=some d->J k gs=some d
def Nd.BM{I J:jl}(h:I.le J){val:Wc}{nd:Nd}{g:GV}(d:nd.den I val=some g):nd.den J val=some g:=by
 cases nd with
 |call f l j=>
  simp only[Nd.den]at d⊢;split at d
  ·next gs i=>
   split at d
   ·next r e=>rw[h f gs r e];exact d
   ·cases d
  ·cases d
 |_=>exact d
def Tree.BM{I J:jl}(h:I.le J):∀(t:Tree){i j:Q1},t.den I i=some j->t.den J i=some j
 |.step nd t,i,j,d=>by
  simp only[Tree.den]at d⊢;split at d
  ·next g k=>rw[Nd.BM h k];exact Tree.BM h t d
  ·cases d
 |.ite n t e,i,j,d=>by
  simp only[Tree.den]at d⊢;split at d
  ·exact Tree.BM h t d
  ·exact Tree.BM h e d
  ·cases d
 |.ret l,i,j,d=>d
 |.tail f l,i,j,d=>by
  simp only[Tree.den]at d⊢;split at d
  ·exact h _ _ _ d
  ·cases d
 |.dead,_,_,d=>by simp[Tree.den]at d
def aH.BM{I J:jl}(h:I.le J)(d:aH){gs g:Q1}(e:d.den I gs=some g):d.den J gs=some g:=by
 cases d with
 |tree n t=>
  simp only[aH.den]at e⊢;split at e
  ·next i=>rw[au i];exact t.BM h e
  ·cases e
 |fn l m t=>
  simp only[aH.den]at e⊢;split at e
  ·next j=>
   split at e
   ·next o k=>rw[au j,t.BM h k];exact e
   ·cases e
  ·cases e
 |bU f=>exact e
def jo.alX(TT:jo):∀n,(TT.run n).le (TT.run (n+1))
 |0,k,gs,e,h=>by simp[jo.run]at h
 |n+1,k,gs,e,h=>by
  simp only[jo.run]at h;rw[jo.run];split at h
  ·next d g=>exact d.BM (jo.alX TT n) h
  ·cases h
def jo.X9(TT:jo){n m:Nat}(h:n<=m):(TT.run n).le (TT.run m):=by
 induction h with
 |refl=>exact λ_ _ _ h=>h
 |step _ e=>exact λk gs d g=>jo.alX TT _ k gs d (e k gs d g)
open Classical in
def jo.lim(TT:jo):jl:=λk gs=>if h:∃d n,TT.run n k gs=some d then some (Classical.choose h)else none
def jo.KA{TT:jo}{n k:Nat}{gs d:Q1}(h:TT.run n k gs=some d):TT.lim k gs=some d:=by
 unfold jo.lim;have e:∃d n,TT.run n k gs=some d:=⟨d,n,h⟩
 rw[dif_pos e];obtain⟨m,i⟩:=anH e;have j:=TT.X9 (Nat.le_max_left n m) k gs d h;have g:=TT.X9 (Nat.le_max_right n m) k gs _ i;rw[j]at g;exact g.symm
def jo.ach{TT:jo}{k:Nat}{gs d:Q1}(h:TT.lim k gs=some d):∃n,TT.run n k gs=some d:=by
 unfold jo.lim at h;split at h
 ·next e=>
  cases h;exact anH e
 ·cases h
def Nd.JV{TT:jo}{val:Wc}{nd:Nd}{g:GV}(d:nd.den TT.lim val=some g):∃n,nd.den (TT.run n) val=some g:=by
 cases nd with
 |call f l j=>
  simp only[Nd.den]at d⊢;split at d
  ·next gs i=>
   split at d
   ·next r e=>
    obtain⟨n,h⟩:=jo.ach e;exact⟨n,by rw[h];exact d⟩
   ·cases d
  ·cases d
 |_=>exact⟨0,d⟩
def Tree.JV{TT:jo}:∀(t:Tree){i j:Q1},t.den TT.lim i=some j->∃n,t.den (TT.run n) i=some j
 |.step nd t,i,j,d=>by
  simp only[Tree.den]at d;split at d
  ·next g o=>
   obtain⟨n,p⟩:=Nd.JV o;obtain⟨m,k⟩:=Tree.JV t d;refine⟨max n m,?_⟩;simp only[Tree.den];rw[Nd.BM (TT.X9 (Nat.le_max_left n m)) p];exact t.BM (TT.X9 (Nat.le_max_right n m)) k
  ·cases d
 |.ite n t e,i,j,d=>by
  simp only[Tree.den]at d⊢;split at d
  ·next h=>obtain⟨m,k⟩:=Tree.JV t d;exact⟨m,k⟩
  ·next h=>obtain⟨m,k⟩:=Tree.JV e d;exact⟨m,k⟩
  ·cases d
 |.ret l,i,j,d=>⟨0,d⟩
 |.tail f l,i,j,d=>by
  simp only[Tree.den]at d⊢;split at d
  ·exact jo.ach d
  ·cases d
 |.dead,_,_,d=>by simp[Tree.den]at d
def jo.axS{TT:jo}{k:Nat}{d:aH}(g:TT k=some d){gs e:Q1}(h:d.den TT.lim gs=some e):TT.lim k gs=some e:=by
 cases d with
 |tree m t=>
  simp only[aH.den]at h;split at h
  ·next j=>
   obtain⟨n,i⟩:=Tree.JV t h;exact jo.KA (n:=n+1) (by simp only[jo.run,g,aH.den,au j];exact i)
  ·cases h
 |fn q s t=>
  simp only[aH.den]at h;split at h
  ·next l=>
   split at h
   ·next o p=>
    obtain⟨n,i⟩:=Tree.JV t p;exact jo.KA (n:=n+1) (by simp only[jo.run,g,aH.den,l,if_true,i];exact h)
   ·cases h
  ·cases h
 |bU f=>exact jo.KA (n:=1) (by simp only[jo.run,g];exact h)
def jo.axU{TT:jo}{C:Nat->List GV->List GV->Prop}(h:∀k d,TT k=some d->∀I:jl,(∀k gs e,I k gs=some e->C k gs e)->∀gs e,d.den I gs=some e->C k gs e):∀k gs e,TT.lim k gs=some e->C k gs e:=by
 have:∀n k gs e,TT.run n k gs=some e->C k gs e:=by
  intro n;induction n with
  |zero=>intro k gs e g;simp[jo.run]at g
  |succ n i=>
   intro k gs e g;simp only[jo.run]at g;split at g
   ·next d j=>exact h k d j _ i gs e g
   ·cases g
 intro k gs e g;obtain⟨n,l⟩:=jo.ach g;exact this n k gs e l
end
open Go
def aeg(R w:Nat):Nat->Nat->List Nat->List Nat
 |0,_,l=>l
 |f+1,s,l=>match Nat.blt s 256 with
  |true=>s::l
  |false=>aeg R w f ((R >>>(2*w*(s-256)))%2^w) (aeg R w f ((R >>>(2*w*(s-256)+w))%2^w) l)
def toks(R w b:Nat):Nat->Nat->List Nat
 |0,_=>[]
 |n+1,x=>aeg R w 1000 (x%b) (toks R w b n (x/b))
def dg(c:Nat):Nat:=match Nat.blt c 58 with
 |true=>c-48
 |false=>match Nat.blt c 91 with
  |true=>c-55
  |false=>match Nat.beq c 95 with
   |true=>62
   |false=>c-61
def sN(s:String):Nat:=s.toList.foldl (λa c=>a*63+dg c.toNat) 0
def rN:Q2->Nat×Q2
 |t::u::l=>match Nat.blt t 224 with
  |true=>(t,u::l)
  |false=>((t-224)*256+u,l)
 |[t]=>(t,[])
 |[]=>(0,[])
def rR(n:Nat)(l:Q2):Nat×Q2:=match rN l with|(a,l)=>(n-a,l)
def rL(n:Nat):Nat->Nat->List Nat->List Nat×Q2
 |0,_,l=>([],l)
 |k+1,p,t::l=>match Nat.blt t 128 with
  |true=>match rL n k (p+t-64) l with
   |(x,l)=>((p+t-64)::x,l)
  |false=>match rR n l with
   |(a,l)=>match rL n k a l with
    |(x,l)=>(a::x,l)
 |_,_,[]=>([],[])
def OX(n:Nat)(l:Q2):Q2×Q2:=match rN l with|(k,l)=>rL n k n l
def rK:Nat->IntKind
 |0=>.i64|1=>.u64|2=>.u8|3=>.i32|4=>.u32|5=>.i16|6=>.u16|_=>.i8
def rO:Nat->BinOp
 |0=>.eql|1=>.add|2=>.neq|3=>.lss|4=>.gtr|5=>.sub|6=>.geq|7=>.leq
 |8=>.and|9=>.quo|10=>.shr|11=>.mul|12=>.rem|13=>.xor|14=>.or|_=>.shl
def r1(n:Nat)(f:Nat->Nd)(l:Q2):Nd×Q2:=match rR n l with|(a,l)=>(f a,l)
def r2(n:Nat)(f:Nat->Nat->Nd)(l:Q2):Nd×Q2:=match rR n l with|(a,l)=>r1 n (f a) l
def r3(n:Nat)(f:Nat->Nat->Nat->Nd)(l:Q2):Nd×Q2:=match rR n l with|(a,l)=>r2 n (f a) l
def r0(f:Nat->Nd)(l:Q2):Nd×Q2:=match rN l with|(a,l)=>(f a,l)
def yh(g:Nat->List Nat->Nd×Q2)(l:Q2):Nd×Q2:=match rN l with|(a,l)=>g a l
def rLs(n:Nat)(f:Q2->Nd)(l:Q2):Nd×Q2:=match OX n l with|(a,l)=>(f a,l)
def rNd(cI:Nat->Int)(cT:Nat->List UInt8)(n t:Nat)(l:Q2):Nd×Q2:=
 if t=4 then(yh λo=>r2 n (.bin (rO o))) l else
 if t=5 then(yh λk=>r0 λa=>.ci (rK k) (cI a)) l else
 if t=6 then(yh λo=>r1 n (.cell o)) l else
 if t=7 then(yh λf l=>match OX n l with|(a,l)=>r0 (λj=>.call f a j) l) l else
 if t=8 then(r0 λa=>.cs (cT a)) l else
 if t=9 then rLs n .mk l else
 if t=10 then rLs n .ml l else
 if t=11 then(r0 λb=>.cb (Nat.beq b 1)) l else
 if t=12 then r1 n .len l else
 if t=13 then(yh λk=>r1 n (.conv (rK k))) l else
 if t=14 then r1 n .slen l else
 if t=15 then(yh λs=>r2 n (.at s)) l else
 if t=16 then r3 n .IY l else
 if t=17 then r1 n (.un .not) l else
 if t=18 then(yh λs=>yh λz=>r2 n (.app s z)) l else
 if t=19 then r2 n .IX l else
 if t=20 then(yh λo l=>match OX 0 l with|(d,l)=>r2 n (.G7 (rO o) d) l) l else
 if t=21 then r2 n .idx l else
 if t=22 then r1 n .str l else
 if t=23 then r1 n .bytes l else
 if t=24 then(yh λs=>yh λz=>r3 n (.rep s z)) l else
 if t=25 then r3 n .Iu l else
 if t=26 then(yh λs=>r3 n (.FB s)) l else
 if t=27 then(yh λs=>yh λo l=>match rR n l with|(a,l)=>match rR n l with|(b,l)=>rLs n (.upd s o a b) l) l else
 if t=28 then r2 n (.mm false) l else
 if t=29 then r2 n (.mm true) l else
 if t=30 then r3 n .DT l else
 if t=31 then r2 n .Iw l else
 if t=32 then r1 n (.un .neg) l else
 if t=33 then r2 n .Cb l else
 if t=37 then r1 n (.un .xor) l else
 if t=34 then r2 n .same l else
 if t=35 then r1 n .IW l else
 (yh λo=>r2 n (.G6 (rO o))) l
def rT(cI:Nat->Int)(cT:Nat->List UInt8)(h:Tree):Nat->Nat->List Nat->Tree×Q2
 |0,_,l=>(.dead,l)
 |_,_,[]=>(.dead,[])
 |f+1,n,t::l=>match t with
  |0=>(h,l)
  |1=>match rR n l with|(a,l)=>match rT cI cT h f n l with|(x,l)=>match rT cI cT h f n l with|(y,l)=>(.ite a x y,l)
  |2=>match OX n l with|(a,l)=>(.ret a,l)
  |3=>match rN l with|(g,l)=>match OX n l with|(a,l)=>(.tail g a,l)
  |38=>(.dead,l)
  |_=>match rNd cI cT n t l with|(d,l)=>match rT cI cT h f (n+1) l with|(x,l)=>(.step d x,l)
def rS(l:Q2):WN×Q2:=match OX 0 l with|(a,l)=>(a.map λk=>match k with
 |0=>.sc
 |k+1=>.ag (k+1),l)
def rP(cI:Nat->Int)(cT:Nat->List UInt8)(h:Tree):Q2->aH
 |0::l=>match rS l with|(a,l)=>match rS l with|(b,l)=>.fn a b (rT cI cT h 2000 a.length l).1
 |_::l=>match rN l with|(n,l)=>.tree n (rT cI cT h 2000 n l).1
 |[]=>.tree 0 .dead
def gT:Wb->Nat->aH
 |a::_,0=>a
 |_::l,n+1=>gT l n
 |[],_=>.tree 0 .dead
noncomputable section
variable{P:Program}
def CW(P:Program)(c:Code)(Q:Exit->Act->World->Prop)(a:Act)(w:World):Prop:=∀b k d,∃e a' g,Q e a' g/\Arrives P (lone (b.at a (.code c::.inLoop c::k)) d w) b k d e a' g
def CW.step{c:Code}{Q:Exit->Act->World->Prop}{a:Act}{w:World}(h:c.wp P (Exit.then (CW P c Q) Q) a w):CW P c Q a w:=by
 intro b k o;obtain⟨e,j,m,i,d⟩:=h b (.inLoop c::k) o;cases e with
 |normal=>obtain⟨p,q,s,n,g⟩:=i b k o;exact⟨p,q,s,n,.of_steps (Steps.trans d (.one step_inLoop)) g⟩
 |exit id=>exact⟨_,j,m,i,.pass (x:=.inLoop c) rfl (λ_ _=>.inl aA) d⟩
 |goto l=>exact⟨_,j,m,i,.pass (x:=.inLoop c) rfl (λ_ _=>.inl aA) d⟩
 |ret=>exact⟨_,j,m,i,.pass (x:=.inLoop c) rfl (λ_ _=>.inl aA) d⟩
 |panic t=>exact⟨_,j,m,i,.pass (x:=.inLoop c) rfl (λ_ _=>.inl aA) d⟩
 |outgrown=>exact⟨_,j,m,i,.pass (x:=.inLoop c) rfl (λ_ _=>.inl aA) d⟩
def CW.loop{c:Code}{Q:Exit->Act->World->Prop}{a:Act}{w:World}(h:CW P c Q a w):(Code.loop c).wp P Q a w:=by intro b k g;obtain⟨e,a',i,j,d⟩:=h b k g;exact⟨e,a',i,j,.of_steps (.one step_loop) d⟩
section
variable[aJ]
def AT(P:Program)(c:Code)(a:bM)(F:aC)(Q:fV->bM->aC->Prop):Prop:=
 ∀w0 d H w A K,lF P w0 d H F w->F.lock=0->TR P H a A->(∀e a' F' g h i,Q e a' F'->lF P w0 d g F' i->F'.lock=0->TR P g a' h->K e.toExit h i)->c.wp P K A w
variable{c b x y z:Code}{a a' a2:bM}{F F' F2:aC}{Q R:fV->bM->aC->Prop}
def AT.mono(h:AT P c a F R)(d:∀e a' F',R e a' F'->Q e a' F'):AT P c a F Q:=
 λw0 g H w A K i j k l=>h w0 g H w A K i j k λe a' F' m n o p=>l e a' F' m n o (d _ _ _ p)
def adG(P:Program)(y:Code)(Q:fV->bM->aC->Prop):fV->bM->aC->Prop
 |.normal,a,F=>AT P y a F Q
 |e,a,F=>Q e a F
def AT.seq(h:AT P x a F (adG P y Q)):AT P (.seq x y) a F Q:=by
 intro w0 o H w A K p q s j;refine wp_seq ?_;refine h w0 o H w A _ p q s ?_;intro e a' F' k l m n d g i;cases e with
 |normal=>exact n w0 o k m l K d g i j
 |exit id=>exact j _ a' F' k l m n d g i
 |ret=>exact j _ a' F' k l m n d g i
def AT.cond{o:Operand}{t:Bool}(e:dB (a.eval o)=some (.b t))(h:AT P (if t then y else z) a F Q):AT P (.cond o y z) a F Q:=by intro w0 k H w A K g l i m;obtain⟨n,e,d⟩:=JU e;have j:=d _ _ (QT g.rel i o _ e);simp only[VR]at j;exact wp_cond j (h w0 k H w A K g l i m)
def JC(id:Nat)(Q:fV->bM->aC->Prop):fV->bM->aC->Prop
 |.exit d,a,F=>if d=id then Q .normal a F else Q (.exit d) a F
 |e,a,F=>Q e a F
def AT.block{id:Nat}(h:AT P b a F (JC id Q)):AT P (.block id b) a F Q:=by
 intro w0 p H w A K q s t k;refine wp_block ?_;refine h w0 p H w A _ q s t ?_;intro e a' F' l m n j d g i;cases e with
 |normal=>exact k .normal a' F' l m n j d g i
 |ret=>exact k .ret a' F' l m n j d g i
 |exit o=>
  simp only[JC]at j;simp only[fV.toExit,Exit.inBlock];split at j
  ·next e=>rw[au e];exact k .normal a' F' l m n j d g i
  ·next e=>rw[aj e];exact k (.exit o) a' F' l m n j d g i
def En(P:Program)(b:Code)(a:bM)(F:aC)(Q:fV->bM->aC->Prop):Prop:=
 ∀w0 d H w A K,lF P w0 d H F w->F.lock=0->TR P H a A->(∀e a' F' g h i,Q e a' F'->lF P w0 d g F' i->F'.lock=0->TR P g a' h->K e.toExit h i)->CW P b K A w
def En.at(h:En P b a F Q):AT P (.loop b) a F Q:=
 λw0 d H w A K e g i j=>(h w0 d H w A K e g i j).loop
def abS(P:Program)(b:Code)(Q:fV->bM->aC->Prop):fV->bM->aC->Prop
 |.normal,a,F=>En P b a F Q
 |e,a,F=>Q e a F
def En.step(h:AT P b a F (abS P b Q)):En P b a F Q:=by
 intro w0 o H w A K p q s j;refine CW.step ?_;refine h w0 o H w A _ p q s ?_;intro e a' F' k l m n d g i;cases e with
 |normal=>exact n w0 o k m l K d g i j
 |exit id=>exact j _ a' F' k l m n d g i
 |ret=>exact j _ a' F' k l m n d g i
def AT.run{run:Code->bM->aC->Option (fV×bM×aC)}(k:Qb P run){e:fV}(h:run c a F=some (e,a',F'))(l:Q e a' F'):AT P c a F Q:=by intro w0 s H w A K i j m n;refine k c a F e a' F' h H w A K i.rel m ?_;intro o p q d g;exact n e a' F' o p q l (i.step j d) (d.lock.trans j) g
end
inductive AC where
 |plain (c:Code)
 |seq (x y:AC)
 |cond (o:Operand) (y z:AC)
 |block (id:Nat) (b:AC)
 |loop (k:Nat) (b:Code)
 |peel (x:AC) (k:Nat) (b:Code)
def AC.erase:AC->Code
 |.plain c=>c
 |.seq x y=>.seq x.erase y.erase
 |.cond o y z=>.cond o y.erase z.erase
 |.block id b=>.block id b.erase
 |.loop _ b=>.loop b
 |.peel _ _ b=>.loop b
def AC.Good:AC->Prop
 |.plain _=>True
 |.seq x y=>x.Good/\y.Good
 |.cond _ y z=>y.Good/\z.Good
 |.block _ b=>b.Good
 |.loop _ _=>True
 |.peel x _ b=>x.erase=b/\x.Good
def nN(ps:Q2):Code->Nat->AC×Nat
 |.seq x y,n=>match nN ps x n with
  |(a,d)=>match nN ps y d with
   |(b,e)=>(.seq a b,e)
 |.cond o y z,n=>match nN ps y n with
  |(a,d)=>match nN ps z d with
   |(b,e)=>(.cond o a b,e)
 |.block id b,n=>match nN ps b n with
  |(a,d)=>(.block id a,d)
 |.loop b,n=>if ps.contains (2*n+1)then(.plain (.loop b),n+1)else match nN ps b (n+1)with
  |(x,d)=>if ps.contains (2*n)then(.peel x n b,d)else(.loop n b,n+1)
 |c,n=>(.plain c,n)
def pJ(ps:Q2)(c:Code):AC:=(nN ps c 0).1
def Ar(ps:Q2):∀(c:Code)(n:Nat),(nN ps c n).1.erase=c/\(nN ps c n).1.Good
 |.seq x y,n=>by have h1:=Ar ps x n;have d:=Ar ps y (nN ps x n).2;simp only[nN,AC.erase,AC.Good];exact⟨by rw[h1.1,d.1],h1.2,d.2⟩
 |.cond o y z,n=>by have h1:=Ar ps y n;have d:=Ar ps z (nN ps y n).2;simp only[nN,AC.erase,AC.Good];exact⟨by rw[h1.1,d.1],h1.2,d.2⟩
 |.block id b,n=>by have h1:=Ar ps b n;simp only[nN,AC.erase,AC.Good];exact⟨by rw[h1.1],h1.2⟩
 |.loop b,n=>by
  have h1:=Ar ps b (n+1);simp only[nN];split
  ·exact⟨rfl,trivial⟩
  ·split
   ·exact⟨rfl,h1.1,h1.2⟩
   ·exact⟨rfl,trivial⟩
 |.skip,_|.region _ _ _,_|.rangeFunc _ _ _ _,_|.exit _,_|.scope _,_|.label _,_|.goto _,_|.ret,_|.refuse _,_=>⟨rfl,trivial⟩
def AC.qY(k:Nat)(b:Code):AC->Prop
 |.plain _=>False
 |.seq x y=>x.qY k b\/y.qY k b
 |.cond _ y z=>y.qY k b\/z.qY k b
 |.block _ x=>x.qY k b
 |.loop d e=>d=k/\e=b
 |.peel x d e=>(d=k/\e=b)\/x.qY k b
abbrev Zk:=Nat->bM->aC->Option (fV×bM×aC)
def yL[iM](d:Zk)(run:Code->bM->aC->Option (fV×bM×aC)):AC->bM->aC->Option (fV×bM×aC)
 |.plain c,a,F=>run c a F
 |.seq x y,a,F=>match yL d run x a F with
  |some (.normal,a',F')=>yL d run y a' F'
  |r=>r
 |.cond o y z,a,F=>match dB (a.eval o)with
  |some (.b t)=>if t then yL d run y a F else yL d run z a F
  |_=>none
 |.block id b,a,F=>match yL d run b a F with
  |some (.exit e,a',F')=>if e=id then some (.normal,a',F')else some (.exit e,a',F')
  |r=>r
 |.loop k _,a,F=>d k a F
 |.peel x k _,a,F=>match yL d run x a F with
  |some (.normal,a',F')=>d k a' F'
  |r=>r
def ZB[aJ]{M:Zk}{run:Code->bM->aC->Option (fV×bM×aC)}(N:Qb P run):∀(n:AC),n.Good->(∀k b,n.qY k b->∀a F e a' F',M k a F=some (e,a',F')->∀Q:fV->bM->aC->Prop,Q e a' F'->En P b a F Q)->
 ∀(a:bM)(F:aC)(e:fV)(a':bM)(F':aC),yL M run n a F=some (e,a',F')->∀Q:fV->bM->aC->Prop,Q e a' F'->AT P n.erase a F Q:=by
 intro n;induction n with
 |plain c=>intro i j a F e a' F' h Q d;exact AT.run N h d
 |loop k b=>intro i j a F e a' F' h Q d;exact(j k b ⟨rfl,rfl⟩ a F e a' F' h Q d).at
 |peel x k b p=>
  intro i j a F e a' F' h Q d;simp only[yL]at h;refine En.at (En.step ?_);obtain⟨rfl,i⟩:=i;split at h
  ·next q s u=>
   exact p i (λB D g=>j B D (.inr g)) a F _ q s u (abS P x.erase Q) (j k _ (.inl ⟨rfl,rfl⟩) q s e a' F' h Q d)
  ·next l=>
   refine p i (λB D g=>j B D (.inr g)) a F e a' F' h (abS P x.erase Q) ?_;cases e with
   |normal=>exact absurd h (by intro v;exact l _ _ v)
   |exit id=>exact d
   |ret=>exact d
 |seq x y A m=>
  intro i j a F e a' F' h Q d;simp only[yL]at h;split at h
  ·next q s u=>
   exact AT.seq (A i.1 (λk b g=>j k b (.inl g)) a F _ q s u (adG P y.erase Q) (m i.2 (λk b g=>j k b (.inr g)) q s e a' F' h Q d))
  ·next l=>
   refine AT.seq (A i.1 (λk b g=>j k b (.inl g)) a F e a' F' h (adG P y.erase Q) ?_);cases e with
   |normal=>exact absurd h (by intro v;exact l _ _ v)
   |exit id=>exact d
   |ret=>exact d
 |cond o y z m E=>
  intro i j a F e a' F' h Q d;simp only[yL]at h;split at h
  ·next t O=>
   refine AT.cond O ?_;cases t with
   |true=>exact m i.1 (λk b g=>j k b (.inl g)) a F e a' F' h Q d
   |false=>exact E i.2 (λk b g=>j k b (.inr g)) a F e a' F' h Q d
  ·cases h
 |block id b p=>
  intro i j a F e a' F' h Q d;simp only[yL]at h;split at h
  ·next I q s u=>
   split at h
   ·next L=>
    cases h;exact AT.block (p i (λk b g=>j k b g) a F _ _ _ u (JC id Q) (by simp only[JC];rw[au L];exact d))
   ·next L=>
    cases h;exact AT.block (p i (λk b g=>j k b g) a F _ _ _ u (JC id Q) (by simp only[JC];rw[aj L];exact d))
  ·next l=>
   refine AT.block (p i (λk b g=>j k b g) a F e a' F' h (JC id Q) ?_);cases e with
   |normal=>exact d
   |exit I=>exact absurd h (by intro v;exact l _ _ _ v)
   |ret=>exact d
def Eh:Q6->Value
 |[v]=>v
 |l=>.tuple ⟨l⟩
structure zL(tabs:QP)(ro:Qf)(w:World):Prop where
 at':∀b o,ro b=some o->w.heap[b]? =some o
 tab:∀p∈tabs,∃cs elem fr,ro p.1=some (.cells cs elem fr)/\p.2.length<=cs.size/\Zr p.2 cs
structure Js(ro ro':Qf)(w w':World):Prop where
 kept:Kept w w'
 le:∀b o,ro b=some o->ro' b=some o
 new:∀b,ro' b≠none->ro b≠none\/w.heap.size<=b
 at':∀b o,ro' b=some o->w'.heap[b]? =some o
def yY:W7->List Value->List Value
 |none::st,v::vs=>v::yY st vs
 |none::_,[]=>[]
 |some g::st,vs=>.func (.func g) ⟨[]⟩ ⟨[]⟩::yY st vs
 |[],vs=>vs
def yX:W7->List AV->List AV
 |none::st,v::vs=>v::yX st vs
 |none::_,[]=>[]
 |some g::st,vs=>.fn g [] []::yX st vs
 |[],vs=>vs
def Ee:W7->List AV->Option Q3
 |[],l=>some l
 |none::st,a::l=>(Ee st l).map (a::·)
 |some g::st,.fn d [] []::l=>if d=g then Ee st l else none
 |_,_=>none
def anU(P:Program)(tabs:QP)(f:FuncId)(st:W7)(gs e:Q1):Prop:=∀g w h,zL tabs g w->aV g gs h->nH P f ⟨yY st h⟩ w λv j=>∃d,Js g d w j/\∃i,v=Eh i/\aV d e i
section
variable[aJ]
def YL{H:Env}:∀{st:W7}{l r:Q3}{vs:Q6},Ee st l=some r->aG H l vs->∃d,vs=yY st d/\aG H r d
 |[],l,r,vs,h,i=>by simp only[Ee,bD]at h;subst h;exact⟨vs,rfl,i⟩
 |none::st,[],r,vs,h,i=>by simp[Ee]at h
 |none::st,a::l,r,vs,h,i=>by simp only[Ee,bI]at h;obtain⟨u,h1,rfl⟩:=h;obtain⟨x,p,rfl,k,j⟩:=i;obtain⟨d,rfl,m⟩:=YL h1 j;exact⟨x::d,rfl,aG.cons k m⟩
 |some g::st,[],r,vs,h,i=>by simp[Ee]at h
 |some g::st,a::l,r,vs,h,i=>by
  unfold Ee at h;split at h
  ·next e=>cases e
  ·next e _=>cases e
  ·next g0 q v A s t=>
   cases s;cases t;split at h
   ·next e=>
    subst e;obtain⟨x,p,rfl,k,j⟩:=i;obtain⟨d,rfl,m⟩:=YL h j;simp only[VR]at k;obtain⟨B,D,rfl,n,o⟩:=k;simp only[aG]at n o;subst n;subst o;exact⟨d,rfl,m⟩
   ·cases h
  ·cases h
def XT{H:Env}:∀{st:W7}{l:Q3}{vs:Q6},aG H l vs->aG H (yX st l) (yY st vs)
 |[],l,vs,d=>d
 |none::st,[],vs,d=>by simp only[aG]at d;subst d;simp[yX,yY,aG]
 |none::st,a::l,vs,d=>by obtain⟨x,xs,rfl,h,e⟩:=d;exact aG.cons h (XT e)
 |some g::st,l,vs,d=>aG.cons (by simp only[VR];exact⟨[],[],rfl,by simp[aG],by simp[aG]⟩) (XT d)
def SR.X5{H:Env}{F:aC}{w:World}(h:SR P H F w):zL aJ.tabs H.ro w:=⟨h.jH,h.tabs⟩
def St.azi{H:Env}{F:aC}{w w':World}{ro':Qf}(h:SR P H F w)(k:Js H.ro ro' w w'):St P H F w ⟨H.pl,ro',H.gh⟩ F w':=by
 have d:(H:Env).le ⟨H.pl,ro',H.gh⟩:=⟨λ_ _ h=>h,k.le,λ_ h=>h⟩
 refine⟨d,⟨h.oN,h.dom,λid o m=>?_,h.lq,h.sep,k.at',λid o q j a2 l=>?_,λp n=>(h.tabs p n).mono d⟩,k.kept.size,λs g _=>k.kept.keep s g,λid o q h1 t u v=>.inr ⟨id,o,q,h1,t,u,v,rfl⟩,k.kept.os,k.kept.tape,k.kept.output,rfl,dP _,λ_ h=>.inl h,λb g=>?_⟩
 ·exact((h.live id o m).heap λq _ i=>k.kept.keep _ i.lt).mono d
 ·have i:=h.at j (show H id=some q from l);cases e:ro' q.bl with
  |none=>exact e
  |some A=>
   rcases k.new q.bl (by rw[e];simp)with h1|h1
   ·exact absurd (h.ny id o q j a2 l) h1
   ·have:=i.lt;omega
 ·rcases k.new b g with h1|h1
  ·exact .inl h1
  ·exact .inr (.inl h1)
end
@[reducible] def Tg(tabs:QP)(gs:Q1)(ka:Nat):aJ:={nodes:=[],dec:=[],ka:=ka,tabs:=tabs,I:=λ_ _=>none,val:=λn=>gs[n]?,uq:=by intro n d h;simp at h,Dw:=by intro n b h;simp at h}
def rU{α:Type}:List (Nat×α)->Tr α
 |[]=>.nil
 |(k,v)::l=>(rU l).set k (some v)
def Sm{α:Type}:∀{l:List (Nat×α)}{k:Nat}{v:α},(rU l).get k=some v->(k,v)∈l
 |[],k,v,h=>by simp[rU]at h
 |(j,u)::l,k,v,h=>by
  rw[rU,Tr.wX]at h;split at h
  ·next e=>cases h;subst e;simp
  ·exact zG _ (Sm h)
structure iR where
 np:Nat
 n:Nat
 gn:Nat
 next:Nat
 slots:Wo
 objs:YY
 ka:Nat:=0
 al:List W2:=[]
abbrev K0:=List (fV×iR)
def yw(tabs:QP):YY:=tabs.map λp=>(p.1,.cells p.2 0 false false)
def iR.act(s:iR):bM:=⟨rU s.slots,s.n,s.gn⟩
def iR.st(tabs:QP)(s:iR):aC:=⟨rU (s.objs++yw tabs),s.next,0⟩
def UD(P:Program)(tabs:QP)(s:iR)(gs:Q1)(w0:Base)(d:Qf)(A:Act)(w:World):Prop:=∃H,@lF (Tg tabs gs s.ka) P w0 d H (s.st tabs) w/\@TR (Tg tabs gs s.ka) P H s.act A
def dV{α:Type}(k:Nat):List (Nat×α)->Option α
 |[]=>none
 |p::l=>bif Nat.beq k p.1 then some p.2 else dV k l
def Wp{α:Type}{k:Nat}{v:α}:∀{l:List (Nat×α)},dV k l=some v->(k,v)∈l
 |[],h=>by simp[dV]at h
 |p::l,h=>by
  simp only[dV]at h;cases d:Nat.beq k p.1 with
  |true=>rw[d]at h;simp only[cond_true,bD]at h;rw[bV d,<-h];simp
  |false=>rw[d]at h;simp only[cond_false]at h;exact zG _ (Wp h)
def D7(r:W8)(i:Nat)(x:W2):Bool:=
 match dV i r,x with
 |some (some a),some b=>Nat.beq a b
 |some none,none=>true
 |_,_=>false
section
variable[iM]
def Oz(m:Nat):Bool:=match iM.nodes[m]? with
 |some (.ml [])=>true
 |_=>false
def Wn(P:Program)(F:aC)(fz:Q2)(a:AV)(m:Nat):Bool:=
 match a with
 |.sv id n=>fz.contains id&&match F.get id with
  |some (.vec e _ _)=>Nat.beq e m&&yj 100 e n
  |_=>false
 |.sl id g len h=>fz.contains id&&match F.get id with
  |some (.cells c i true j)=>(match listOf P F i (.sl id g len h),sizeT P i with
   |some e,some d=>Nat.beq e m&&Nat.blt 0 d
   |_,_=>false)
  |_=>false
 |_=>false
def capEq:W2->Option Nat->Bool
 |none,none=>true
 |some a,some b=>Nat.beq a b
 |_,_=>false
mutual
def mV(P:Program)(G:Nat)(F:aC)(fz:Q2)(r:W8)(ps:Q2):AV->AV->Bool
 |.nd j,a=>match ps[j]? with
  |some m=>(match jE a with
   |some h=>Nat.beq m h
   |none=>false) ||Wn P F fz a m
  |none=>false
 |.sv i j,a=>match ps[j]? with
  |some m=>match a with
   |.sv id n=>Nat.blt G i&&D7 r i (some id)&&yj 100 m n
   |.iw=>Nat.blt G i&&D7 r i none&&Oz m
   |_=>false
  |none=>false
 |.p i off,a=>match a with
  |.p id d=>Nat.beq off d&&(if i<=G then Nat.beq i id else D7 r i (some id))
  |_=>false
 |.rx j off,a=>match a with
  |.rx m d=>Nat.beq off d&&(match ps[j]? with|some h=>Nat.beq m h|none=>false)
  |_=>false
 |.fn f fi cs,a=>match a with
  |.fn s o p=>Nat.beq f s&&DR P G F fz r ps fi o&&DR P G F fz r ps cs p
  |_=>false
 |.agg l,a=>match a with
  |.agg q=>DR P G F fz r ps l q
  |_=>false
 |.fK l,a=>match a with
  |.fK q=>DR P G F fz r ps l q
  |_=>false
 |.jM t x,a=>match a with
  |.jM u v=>Nat.beq t u&&mV P G F fz r ps x v
  |_=>false
 |.b x,a=>match a with|.b y=>(bif x then y else !y)|_=>false
 |.i k n,a=>match a with|.i A B=>Nat.beq (kc k) (kc A)&&Kt n B|_=>false
 |.s x,a=>match a with|.s y=>Dp x y|_=>false
 |.kL,a=>match a with|.kL=>true|_=>false
 |.iw,a=>match a with|.iw=>true|_=>false
 |.AU,a=>match a with|.AU=>true|_=>false
 |.vS,a=>match a with|.vS=>true|_=>false
 |.rQ,a=>match a with|.rQ=>true|_=>false
 |.mp i,a=>match a with
  |.mp id=>Nat.blt G i&&D7 r i (some id)
  |_=>false
 |.sl i off len cap,a=>match a with
  |.sl id d e g=>Nat.blt G i&&D7 r i (some id)&&(Nat.beq off d&&(Nat.beq len e&&capEq cap g))
  |_=>false
 |_,_=>false
def DR(P:Program)(G:Nat)(F:aC)(fz:Q2)(r:W8)(ps:Q2):Q3->List AV->Bool
 |[],l=>match l with|[]=>true|_=>false
 |a::l,m=>match m with
  |b::d=>mV P G F fz r ps a b&&DR P G F fz r ps l d
  |[]=>false
end
def mO(P:Program)(G:Nat)(F:aC)(fz:Q2)(r:W8)(ps:Q2)(i:Nat)(o:bP):Bool:=
 match dV i r with
 |some (some id)=>!(fz.contains id)&&match o with
  |.cells l e q g=>match F.get id with
   |some (.cells c h d p)=>Nat.beq e h&&(bif q then d else !d)&&(bif g then p else !p)&&DR P G F fz r ps l c
   |_=>false
  |.vec j e f=>match F.get id with
   |some (.vec m h s)=>Nat.beq e h&&(!f ||s)&&(match ps[j]? with|some k=>Nat.beq m k|none=>false)
   |_=>false
  |.smap j t u=>match F.get id with
   |some (.smap m v n)=>Oq t v&&TK u n&&(match ps[j]? with|some k=>Nat.beq m k|none=>false)
   |some (.map [])=>(match ps[j]? with|some m=>Oz m|none=>false)
   |_=>false
  |.map []=>(match F.get id with
   |some (.map [])=>true
   |_=>false)
  |_=>false
 |some none=>match o with
  |.vec j _ _=>(match ps[j]? with|some m=>Oz m|none=>false)
  |_=>false
 |none=>false
def Xt(P:Program)(G:Nat)(F:aC)(fz:Q2)(r:W8)(ps:Q2)(t:Tr AV):Wo->Bool
 |[]=>true
 |p::l=>(match t.get p.1 with|some v=>mV P G F fz r ps p.2 v|none=>false)&&Xt P G F fz r ps t l
def Ov(P:Program)(G next:Nat)(F:aC)(fz:Q2)(r:W8)(ps:Q2):YY->Bool
 |[]=>true
 |p::l=>Nat.blt G p.1&&Nat.blt p.1 next&&mO P G F fz r ps p.1 p.2&&Ov P G next F fz r ps l
def Qh(r:W8):Nat->Nat->Bool
 |_,0=>true
 |i,n+1=>D7 r (i+1) (some (i+1))&&Qh r (i+1) n
def LD:W8->Bool
 |[]=>true
 |p::l=>(match p.2 with
  |some a=>l.all λq=>match q.2 with|some b=>!(Nat.beq a b)|none=>true
  |none=>true)&&LD l
def abT(P:Program)(s:iR)(a:bM)(F:aC)(fz:Q2)(r:W8)(ps:Q2):Bool:=
 Nat.beq s.ka iM.ka&&Nat.blt (s.gn+s.ka) s.next&&Qh r s.gn s.ka&&Nat.beq s.n a.n&&Nat.beq s.gn a.gn&&Nat.blt s.gn s.next&&LD r&&Xt P s.gn F fz r ps a.t s.slots&&Ov P s.gn s.next F fz r ps s.objs
end
def kills(F:aC):Q2->aC
 |[]=>F
 |id::l=>(kills F l).kill id
def Fh{F:aC}{k:Nat}:∀{l:Q2},(kills F l).get k=if k∈l then none else F.get k
 |[]=>by simp[kills]
 |id::l=>by
  rw[kills,aC.AL,Fh];by_cases h:k=id
  ·simp[h]
  ·simp[h]
def Oo{F:aC}:∀l:Q2,(kills F l).lock=F.lock
 |[]=>rfl
 |_::l=>Oo l
def abH{F:aC}:∀l:Q2,(kills F l).next=F.next
 |[]=>rfl
 |_::l=>abH l
section
variable[aJ]
def Wl{w0:Base}{I:Qf}{H:Env}{F:aC}{w:World}(L:lF P w0 I H F w)(A:F.lock=0):∀fz:Q2,∃dQ,(∀b o,H.ro b=some o->dQ b=some o)/\lF P w0 I ⟨H.pl,dQ,H.gh⟩ (kills F fz) w/\
 (∀id∈fz,∀o q,F.get id=some o->o.own=true->H id=some q->dQ q.bl=w.heap[q.bl]?)
 |[]=>⟨H.ro,λ_ _ h=>h,L,aA⟩
 |id::fz=>by
  obtain⟨dQ,h1,l,B⟩:=Wl L A fz;by_cases M:∃o q,(kills F fz).get id=some o/\o.own=true/\H id=some q
  ·obtain⟨o,q,U,p,N⟩:=M;have D:=St.freeze l.rel U p (by rw[Oo,A];exact vG _) (show(⟨H.pl,dQ,H.gh⟩:Env) id=some q from N);have E:=l.step (by rw[Oo,A]) D;refine⟨IL dQ w q.bl,λb o V=>X3 l.rel.jH q.bl b o (h1 b o V),E,?_⟩;intro i m s n j d g;show(if n.bl=q.bl then w.heap[q.bl]? else dQ n.bl)=_
   split
   ·next e=>rw[e]
   ·next e=>
    rcases bH.1 m with rfl|m
    ·rw[N]at g;cases g;exact absurd rfl e
    ·exact B i m s n j d g
  ·refine⟨dQ,h1,⟨l.rel.sub (λk u t=>?_) (dP _),l.kept,λk u q v a2 W=>?_,l.xq,l.tC,l.uO⟩,?_⟩
   ·rw[kills,aC.AL]at t;split at t;cases t;exact t
   ·rw[kills,aC.AL]at v;split at v;cases v;exact l.own k u q v a2 W
   ·intro i m s n j d g;rcases bH.1 m with rfl|m
    ·by_cases O:i∈fz
     ·exact B i O s n j d g
     ·exact absurd ⟨s,n,by rw[Fh,aj O];exact j,d,g⟩ M
    ·exact B i m s n j d g
end
def I5{val:Wc}:∀{ps:Q2}{gs:Q1},valsOf val ps=some gs->∀{j m:Nat},ps[j]? =some m->gs[j]? =val m/\∃g,val m=some g
 |[],gs,h,j,m,d=>by simp at d
 |p::ps,gs,h,j,m,d=>by
  simp only[valsOf]at h;split at h
  ·next g r h1 e=>
   cases h;cases j with
   |zero=>simp at d;subst d;exact⟨by simp[h1],g,h1⟩
   |succ j=>simpa using I5 e (j:=j) (by simpa using d)
  ·cases h
def SX{r:W8}{i id:Nat}(h:D7 r i (some id)=true):dV i r=some (some id):=by
 unfold D7 at h;split at h
 ·next a b e d=>cases d;rw[e,bV h]
 ·next e d=>cases d
 ·cases h
def aBt{r:W8}{i:Nat}(h:D7 r i none=true):dV i r=some none:=by
 unfold D7 at h;split at h
 ·next a b d e=>cases e
 ·next d e=>exact d
 ·cases h
def CS(tabs:QP)(i:Nat):Nat:=match dV i tabs with
 |some c=>c.length
 |none=>0
def vO(tabs:QP)(G next:Nat)(r:W8)(H:Env)(dQ:Qf):Env where
 pl:=λi=>if i<=G then some ⟨i,0,CS tabs i,0⟩else if i<next then match dV i r with
  |some (some id)=>H id
  |_=>none
  else none
 ro:=dQ
 gh:=λi=>decide (G<i)&&decide (i<next)&&match dV i r with
  |some (some id)=>H.gh id
  |some none=>true
  |none=>false
structure yF(T:aJ)(P:Program)(tabs:QP)(G next:Nat)(H:Env)(F:aC)(w:World)(fz:Q2)(r:W8)(ps:Q2)(gs:Q1)(dQ:Qf):Prop where
 rel:@SR T P H F w
 vals:valsOf T.val ps=some gs
 xq:∀b o,H.ro b=some o->dQ b=some o
 vK:∀id∈fz,∀o q,F.get id=some o->o.own=true->H id=some q->dQ q.bl=w.heap[q.bl]?
 gn:G=P.globals.size
 lt:G<next
variable{T:aJ}{ka:Nat}{tabs:QP}{G next:Nat}{H:Env}{F:aC}{w:World}{fz:Q2}{r:W8}{ps:Q2}{gs:Q1}{dQ:Qf}
def Iq{i id:Nat}(g:G<i)(d:i<next)(e:dV i r=some (some id)):(vO tabs G next r H dQ) i=H id:=by
 show(if i<=G then some (⟨i,0,CS tabs i,0⟩:Place)else if i<next then _ else none)=_
 rw[aj ah,au d,e]
def Xr{i:Nat}(d:i<=G):(vO tabs G next r H dQ) i=some ⟨i,0,CS tabs i,0⟩:=by
 show(if i<=G then some (⟨i,0,CS tabs i,0⟩:Place)else _)=_
 rw[au d]
def ajN{i id:Nat}(d:G<i)(e:i<next)(g:dV i r=some (some id)):(vO tabs G next r H dQ).gh i=H.gh id:=by
 show(decide (G<i)&&decide (i<next)&&_)=_
 rw[g];simp[d,e]
def ajO{i:Nat}(d:G<i)(e:i<next)(g:dV i r=some none):(vO tabs G next r H dQ).gh i=true:=by
 show(decide (G<i)&&decide (i<next)&&_)=_
 rw[g];simp[d,e]
def ahY(C:yF T P tabs G next H F w fz r ps gs dQ){a:AV}{m:Nat}{v:Value}(h:@Wn T.toiM P F fz a m=true)(L:@VR T H a v){g:GV}(Y:T.val m=some g):g.scalar=true/\GR dQ g v:=by
 letI:=T
 unfold Wn at h;split at h
 ·next id n=>
  rw[aO]at h;obtain⟨h1,h⟩:=h;have t:id∈fz:=by simpa using h1
  split at h
  ·next W et f o=>
   rw[aO]at h;have e:=bV h.1;subst e;simp only[VR]at L;obtain⟨ys,X,L⟩:=L;rcases L with⟨q,j,u,rfl⟩|⟨Z,rfl,rfl⟩
   ·have A:=C.rel.at o j;obtain⟨xs,x1,x2,x3,x4,x5,x6,x7,x8⟩:=A.OA;have M:T.val W=some (.l xs):=x1;rw[Y]at M;cases M;have p:=AZ 100 h.2 x1 X;refine⟨rfl,?_⟩;have aa:=JM x2;have:=GR.acd (ro':=dQ) (off:=0) (n:=ys.length) (size:=q.es) (cap:=q.sz/q.es) (cs:=bY xs) (gs:=xs) x8 C.xq (C.vK id t _ q o rfl j) (by unfold takeN;rw[dY,<-p,mF ah,au aa]) p u x4 (λx hx=>⟨x2 x hx,x7 x hx⟩) (λH' vs D l=>by unfold bY at l⊢;exact(qX _ _).1 (aV.mono D _ _ ((qX _ _).2 l)))
    simpa using this
   ·rcases C.rel.live id _ o with⟨q,j,_⟩|⟨_,n2,ai,f2,e2,ab⟩
    ·rw[(C.rel.lq id Z).1]at j;cases j
    ·cases e2;have WU:T.val W=some (.l []):=ab;rw[Y]at WU;cases WU;exact⟨rfl,by simp[GR]⟩
  ·cases h
 ·next id k len B=>
  rw[aO]at h;obtain⟨h1,h⟩:=h;have t:id∈fz:=by simpa using h1
  split at h
  ·next c et ak o=>
   split at h
   ·next W d i ac=>
    rw[aO]at h;have e:=bV h.1;subst e;have h0:0<d:=by have:=h.2;rwa [jY]at this
    simp only[VR]at L;obtain⟨q,j,u,rfl⟩:=L;unfold listOf at i;simp only[o,ac]at i;split at i
    ·next c' JX al Sv ad ae e1 e2 ha=>
     cases e1;cases e2;split at i
     ·next hc=>
      rw[aO,qF,aO]at hc;split at i
      ·next cs E=>
       split at i
       ·next ns N=>
        have s:ae=false->d=1:=by
         intro e;subst e;rcases hc.2 with h1|h1
         ·simp at h1
         ·exact bV h1
        obtain⟨g',g1,g2⟩:=iJ i;have O:T.val W=some g':=g1;rw[Y]at O;cases O;have A:=C.rel.at o j;obtain⟨ws,ag,fr,hb,rr⟩:=A;have U:=(vg E).2.1;have af:=rr.Bd E;obtain⟨gl,X,k2,k3,k4,I⟩:=Hy (H:=H) s len N af U;simp only[Nd.den,X,iO,bD]at g2;subst g2;refine⟨rfl,?_⟩;have:=GR.acd (ro':=dQ) (off:=k) (n:=len) (size:=d) (cap:=B.getD ((q.sz-k)/q.es)) (cs:=cs) (gs:=gl) (C.rel.at o j) C.xq (C.vK id t _ q o rfl j) E k2 u h0 I (λH' vs D l=>by obtain⟨am,V,an,WX,_⟩:=Hy (H:=H) s len N l U;rw[X]at V;cases V;unfold bY at WX⊢;exact(qX _ _).1 (aV.mono D _ _ ((qX _ _).2 WX)))
        exact this
       ·cases i
      ·cases i
     ·cases i
    ·cases i
   ·cases h
  ·cases h
 ·cases h
def ao2:∀{a b:W2},capEq a b=true->a=b
 |none,none,_=>rfl
 |some _,some _,h=>uT some (bV h)
 |none,some _,h=>by cases h
 |some _,none,h=>by cases h
mutual
def abU(C:yF T P tabs G next H F w fz r ps gs dQ):∀(p a:AV)(v:Value),p.under next=true->@mV T.toiM P G F fz r ps p a=true->@VR T H a v->@VR (Tg tabs gs ka) (vO tabs G next r H dQ) p v
 |.nd j,a,v,o,h,d=>by
  letI:=T
  simp only[mV]at h;split at h
  ·next m X=>
   obtain⟨E,g,u⟩:=I5 C.vals X;simp only[VR];refine⟨g,by show gs[j]? =_;rw[E,u],?_⟩;rw[qF]at h;rcases h with h|h
   ·split at h
    ·next m' aa=>
     have e:=bV h;subst e;obtain⟨g',s,L,k3⟩:=nV aa d;have A:T.val m=some g':=s;rw[u]at A;cases A;exact⟨L,GR.mono C.xq _ _ k3⟩
    ·cases h
   ·exact ahY C h d u
  ·cases h
 |.sv i j,a,v,o,h,d=>by
  letI:=T
  simp only[AV.under,jY]at o;simp only[mV]at h;split at h
  ·next m X=>
   obtain⟨E,g,u⟩:=I5 C.vals X;split at h
   ·next id n=>
    rw[aO,aO,jY]at h;obtain⟨⟨M,V⟩,I⟩:=h;have hr:=SX V;simp only[VR]at d⊢;obtain⟨xs,s,d⟩:=d;have hx:∃W,g=.l W/\W.length=xs.length:=by obtain⟨W,rfl⟩:=aEo 100 I u s;exact⟨W,rfl,AZ 100 I u s⟩
    obtain⟨W,rfl,B⟩:=hx;refine⟨W,by show gs[j]? =_;rw[E,u],?_⟩;rcases d with⟨q,N,D,rfl⟩|⟨ab,rfl,rfl⟩
    ·exact .inl ⟨q,by rw[Iq M o hr];exact N,by rw[B];exact D,by rw[B]⟩
    ·exact .inr ⟨by rw[ajN M o hr];exact ab,kP (by simpa using B),rfl⟩
   ·rw[aO,aO,jY]at h;obtain⟨⟨M,V⟩,I⟩:=h;have hr:=aBt V;simp only[VR]at d⊢;unfold Oz at I;split at I
    ·next hn=>
     obtain⟨g',s,L⟩:=T.uq m _ hn aA;rw[u]at s;cases s;simp only[Nd.den,valsOf,iO,bD]at L;subst L;exact⟨[],by show gs[j]? =_;rw[E,u],.inr ⟨ajO M o hr,rfl,d⟩⟩
    ·cases I
   ·cases h
  ·cases h
 |.p i Y,a,v,o,h,d=>by
  letI:=T
  simp only[AV.under,jY]at o;simp only[mV]at h;split at h
  ·next id O=>
   rw[aO]at h;have e:=bV h.1;subst e;simp only[VR]at d⊢;obtain⟨q,N,rfl⟩:=d;split at h
   ·next D=>
    have e:=bV h.2;subst e;obtain⟨sz,es,hg⟩:=C.rel.oN i (by rw[<-C.gn];exact D);rw[N]at hg;cases hg;exact⟨_,Xr D,rfl⟩
   ·next D=>exact⟨q,by rw[Iq ah o (SX h.2)];exact N,rfl⟩
  ·cases h
 |.rx j Y,a,v,o,h,d=>by
  letI:=T
  simp only[mV]at h;split at h
  ·next m O=>
   rw[aO]at h;have e:=bV h.1;subst e;split at h
   ·next m' X=>
    have e:=bV h.2;subst e;obtain⟨E,g,u⟩:=I5 C.vals X;simp only[VR]at d⊢;obtain⟨g',bl,base,cs,Z,fr,x,s,L,k3,k4,k5⟩:=d;have A:T.val m=some g':=s;rw[u]at A;cases A;exact⟨g,bl,base,cs,Z,fr,x,by show gs[j]? =_;rw[E,u],C.xq _ _ L,GR.mono C.xq _ _ k3,k4,k5⟩
   ·simp at h
  ·cases h
 |.fn f fi cs,a,v,o,h,d=>by
  letI:=T
  simp only[AV.under,aO]at o;simp only[mV]at h;split at h
  ·next f' ac ad=>
   rw[aO,aO]at h;obtain⟨⟨M,V⟩,I⟩:=h;have e:=bV M;subst e;simp only[VR]at d⊢;obtain⟨us,U,rfl,s,L⟩:=d;exact⟨us,U,rfl,Ir C fi ac us o.1 V s,Ir C cs ad U o.2 I L⟩
  ·cases h
 |.agg l,a,v,o,h,d=>by
  letI:=T
  simp only[AV.under]at o;simp only[mV]at h;split at h
  ·next l'=>simp only[VR]at d⊢;obtain⟨U,rfl,s⟩:=d;exact⟨U,rfl,Ir C l l' U o h s⟩
  ·cases h
 |.fK l,a,v,o,h,d=>by
  letI:=T
  simp only[AV.under]at o;simp only[mV]at h;split at h
  ·next l'=>simp only[VR]at d⊢;obtain⟨U,rfl,s⟩:=d;exact⟨U,rfl,Ir C l l' U o h s⟩
  ·cases h
 |.jM t x,a,v,o,h,d=>by
  letI:=T
  simp only[AV.under]at o;simp only[mV]at h;split at h
  ·next t' x'=>
   rw[aO]at h;have e:=bV h.1;subst e;simp only[VR]at d⊢;obtain⟨y,rfl,s⟩:=d;exact⟨y,rfl,abU C x x' y o h.2 s⟩
  ·cases h
 |.b x,a,v,o,h,d=>by
  letI:=T
  simp only[mV]at h;split at h
  ·next y=>have:=U7.1 h;subst this;simp only[VR]at d⊢;exact d
  ·cases h
 |.i k n,a,v,o,h,d=>by
  letI:=T
  simp only[mV]at h;split at h
  ·next k' n'=>
   rw[aO]at h;have E:=WZ h.1;have u:=ai3 h.2;subst E;subst u;simp only[VR]at d⊢;exact d
  ·cases h
 |.s x,a,v,o,h,d=>by
  letI:=T
  simp only[mV]at h;split at h
  ·next y=>have:=ZR h;subst this;simp only[VR]at d⊢;exact d
  ·cases h
 |.kL,a,v,o,h,d=>by letI:=T;simp only[mV]at h;split at h;(simp only[VR]at d⊢;exact d);cases h
 |.iw,a,v,o,h,d=>by letI:=T;simp only[mV]at h;split at h;(simp only[VR]at d⊢;exact d);cases h
 |.AU,a,v,o,h,d=>by letI:=T;simp only[mV]at h;split at h;(simp only[VR]at d⊢;exact d);cases h
 |.vS,a,v,o,h,d=>by letI:=T;simp only[mV]at h;split at h;(simp only[VR]at d⊢;exact d);cases h
 |.rQ,a,v,o,h,d=>by letI:=T;simp only[mV]at h;split at h;(simp only[VR]at d⊢;exact d);cases h
 |.sl i Y len ag,a,v,o,h,d=>by
  letI:=T
  simp only[AV.under,jY]at o;simp only[mV]at h;split at h
  ·next id O ae af=>
   simp only[aO,jY]at h;obtain⟨⟨M,V⟩,I,h4,h5⟩:=h;have E:=bV I;have u:=bV h4;have e3:=ao2 h5;subst E;subst u;subst e3;simp only[VR]at d⊢;obtain⟨q,N,s,rfl⟩:=d;exact⟨q,by rw[Iq M o (SX V)];exact N,s,rfl⟩
  ·cases h
 |.mp i,a,v,o,h,d=>by
  letI:=T
  simp only[AV.under,jY]at o;simp only[mV]at h;split at h
  ·next id=>
   rw[aO,jY]at h;simp only[VR]at d⊢;obtain⟨q,N,rfl⟩:=d;exact⟨q,by rw[Iq h.1 o (SX h.2)];exact N,rfl⟩
  ·cases h
 |.z _ _ _,_,_,_,h,_=>by simp[mV]at h
 |.ro _,_,_,_,h,_=>by simp[mV]at h
 |.rp _ _,_,_,_,h,_=>by simp[mV]at h
 |.pv _ _ _,_,_,_,h,_=>by simp[mV]at h
 |.pd _ _,_,_,_,h,_=>by simp[mV]at h
def Ir(C:yF T P tabs G next H F w fz r ps gs dQ):∀(p a:Q3)(v:Q6),AV.rX next p=true->@DR T.toiM P G F fz r ps p a=true->@aG T H a v->@aG (Tg tabs gs ka) (vO tabs G next r H dQ) p v
 |[],a,v,e,h,d=>by
  letI:=T
  simp only[DR]at h;split at h
  ·simp only[aG]at d⊢;exact d
  ·cases h
 |p::l,a,v,e,h,d=>by
  letI:=T
  simp only[AV.rX,aO]at e;simp only[DR]at h;split at h
  ·next b i=>
   rw[aO]at h;simp only[aG]at d⊢;obtain⟨x,g,rfl,j,k⟩:=d;exact⟨x,g,rfl,abU C p b x e.1 h.1 j,Ir C l i g e.2 h.2 k⟩
  ·cases h
end
def ajQ{t:Tr AV}[iM]:∀{l:Wo},Xt P G F fz r ps t l=true->∀k p,(k,p)∈l->∃v,t.get k=some v/\mV P G F fz r ps p v=true
 |[],_,k,p,hk=>by simp at hk
 |q::l,h,k,p,hk=>by
  simp only[Xt,aO]at h;rcases bH.1 hk with e|hk
  ·subst e;have h1:=h.1;split at h1
   ·next v d=>exact⟨v,d,h1⟩
   ·cases h1
  ·exact ajQ h.2 k p hk
def ajP[iM]:∀{l:YY},Ov P G next F fz r ps l=true->∀i o,(i,o)∈l->G<i/\i<next/\mO P G F fz r ps i o=true
 |[],_,i,o,hk=>by simp at hk
 |q::l,h,i,o,hk=>by
  simp only[Ov,aO,jY]at h;rcases bH.1 hk with e|hk
  ·subst e;exact⟨h.1.1.1,h.1.1.2,h.1.2⟩
  ·exact ajP h.2 i o hk
def ads:∀{r:W8},LD r=true->∀i j a,dV i r=some (some a)->dV j r=some (some a)->i=j
 |[],_,i,j,a,h1,_=>by simp[dV]at h1
 |p::l,h,i,j,a,h1,d=>by
  simp only[LD,aO]at h;simp only[dV]at h1 d;cases e:Nat.beq i p.1<;>cases g:Nat.beq j p.1<;>rw[e]at h1<;>rw[g]at d<;>simp only[cond_true,cond_false,bD]at h1 d
  ·exact ads h.2 i j a h1 d
  ·have m:=Wp h1;have k:=h.1;rw[d]at k;have:=List.all_eq_true.1 k _ m;simp at this
  ·have m:=Wp d;have k:=h.1;rw[h1]at k;have:=List.all_eq_true.1 k _ m;simp at this
  ·rw[bV e,bV g]
def ax4(C:yF T P tabs G next H F w fz r ps gs dQ){i:Nat}{o:bP}(hG:G<i)(hn:i<next)(hb:Dk next o=true)(h:@mO T.toiM P G F fz r ps i o=true):
 @Live (Tg tabs gs ka) P (vO tabs G next r H dQ) w i o/\(∀id,dV i r=some (some id)->id∉fz/\∃o',F.get id=some o'/\o'.own=o.own):=by
 letI:=T
 unfold mO at h;split at h
 ·next id B=>
  rw[aO]at h;obtain⟨h1,h⟩:=h;have u:id∉fz:=by intro D;rw[aeX.2 D]at h1;simp at h1
  have v:(vO tabs G next r H dQ) i=H id:=Iq hG hn B;split at h
  ·next l Z xu ae=>
   split at h
   ·next c JX am Sv p=>
    rw[aO,aO,aO]at h;obtain⟨⟨⟨h2,h3⟩,E⟩,h5⟩:=h;have s:=bV h2;have A:=U7.1 h3;have e3:=U7.1 E;subst s;subst A;subst e3;refine⟨?_,λI t=>by rw[B]at t;cases t;exact⟨u,_,p,rfl⟩⟩;obtain⟨q,L,cs,n,fr,af,M⟩:=C.rel.obj _ _ p rfl;refine .inl ⟨q,by rw[v];exact L,cs,n,fr,af,?_⟩;have aa:@aG T H c ((cs.toList.drop q.ba).take c.length):=by have al:=M.fits;have an:=M.le;refine aG.of (by simp;omega) λk a N=>?_;obtain⟨x,hx,hv⟩:=M.cell k a N;have ab:=(gy.1 N).1;exact⟨x,by rw[oh,au ab,uJ];simpa using hx,hv⟩
    have ac:=Ir (ka:=ka) C l c _ hb h5 aa;have V:l.length=c.length:=by have h6:=@aG.length (Tg tabs gs ka) _ _ _ ac;have h7:=aa.length;omega
    exact @vC.mk (Tg tabs gs ka) P (vO tabs G next r H dQ) q l Z xu ae cs n fr M.fits (by rw[V];exact M.le) (λe=>by rw[V];exact M.shut e) (λk a N=>by obtain⟨x,hx,hv⟩:=@aG.at (Tg tabs gs ka) _ _ _ ac k a N;have ab:=(gy.1 N).1;rw[oh,au ah,uJ]at hx;exact⟨x,by simpa using hx,hv⟩) M.free M.whole M.room
   ·cases h
  ·next j Z f=>
   split at h
   ·next m JX f' p=>
    rw[aO,aO]at h;obtain⟨⟨h2,h3⟩,E⟩:=h;have s:=bV h2;subst s;refine⟨?_,λI t=>by rw[B]at t;cases t;exact⟨u,_,p,rfl⟩⟩;split at E
    ·next m' D=>
     have e:=bV E;subst e;obtain⟨s,g,A⟩:=I5 C.vals D;rcases C.rel.live id _ p with⟨q,L,ag⟩|⟨ai,n2,ao,f2,e3,ak⟩
     ·obtain⟨xs,cs,n,fr,ys,O,U,k3,k4,k5,k6,k7,k8,k9⟩:=ag;have W:T.val m=some (.l xs):=O;refine .inl ⟨q,by rw[v];exact L,xs,cs,n,fr,ys,by show gs[j]? =_;rw[s,W],U,aV.mono C.xq _ _ k3,k4,k5,k6,@vC.mk (Tg tabs gs ka) P (vO tabs G next r H dQ) q [] Z true true cs n fr k7.fits k7.le k7.shut (λk a N=>by simp at N) k7.free k7.whole k7.room,k8,λe=>k9 ?_⟩;rw[e]at h3;simpa using h3
     ·cases e3;have WU:T.val m=some (.l []):=ak;exact .inr ⟨by rw[ajN hG hn B];exact ai,j,Z,f,rfl,by show gs[j]? =_;rw[s,WU]⟩
    ·simp at E
   ·cases h
  ·next j kk sz=>
   split at h
   ·next m Fj ap p=>
    rw[aO,aO]at h;obtain⟨⟨h2,h3⟩,E⟩:=h;have s:=Xd h2;have A:=ad8 h3;subst s;subst A;refine⟨?_,λI t=>by rw[B]at t;cases t;exact⟨u,_,p,rfl⟩⟩;split at E
    ·next m' D=>
     have e:=bV E;subst e;obtain⟨s,g,A⟩:=I5 C.vals D;obtain⟨q,L,xs,ms,d,O,U,k3⟩:=C.rel.obj _ _ p rfl;have W:T.val m=some (.l xs):=O;exact .inl ⟨q,by rw[v];exact L,xs,ms,d,by show gs[j]? =_;rw[s,W],U,k3.mono C.xq⟩
    ·simp at E
   ·next p=>
    refine⟨?_,λI t=>by rw[B]at t;cases t;exact⟨u,_,p,rfl⟩⟩;split at h
    ·next m D=>
     obtain⟨s,g,A⟩:=I5 C.vals D;unfold Oz at h;split at h
     ·next X=>
      obtain⟨g',O,U⟩:=T.uq m _ X aA;rw[A]at O;cases O;simp only[Nd.den,valsOf,iO,bD]at U;subst U;obtain⟨q,L,ms,d,hb,Y,_⟩:=C.rel.obj _ _ p rfl;refine .inl ⟨q,by rw[v];exact L,[],ms,d,by show gs[j]? =_;rw[s,A],hb,?_⟩;simp only[vF];have:ms.size=0:=by simpa using Y
      simpa using aeB this
     ·cases h
    ·simp at h
   ·cases h
  ·split at h
   ·next p=>
    refine⟨?_,λI t=>by rw[B]at t;cases t;exact⟨u,_,p,rfl⟩⟩;obtain⟨q,L,ms,d,hb,Y,_⟩:=C.rel.obj _ _ p rfl;exact .inl ⟨q,by rw[v];exact L,ms,d,hb,Y,λk e N=>by simp at N⟩
   ·cases h
  ·cases h
 ·next B=>
  refine⟨?_,λid ad=>by rw[B]at ad;cases ad⟩;split at h
  ·next j Z f=>
   split at h
   ·next m D=>
    obtain⟨s,g,A⟩:=I5 C.vals D;unfold Oz at h;split at h
    ·next X=>
     obtain⟨g',O,U⟩:=T.uq m _ X aA;rw[A]at O;cases O;simp only[Nd.den,valsOf,iO,bD]at U;subst U;exact .inr ⟨ajO hG hn B,j,Z,f,rfl,by show gs[j]? =_;rw[s,A]⟩
    ·cases h
   ·cases h
  ·cases h
 ·cases h
end
noncomputable section
variable{P:Program}
variable{T:aJ}{tabs:QP}{G next:Nat}{H:Env}{F:aC}{w:World}{fz:Q2}{r:W8}{ps:Q2}{gs:Q1}{dQ:Qf}
def G5(n:Nat):Wo->Bool
 |[]=>true
 |p::l=>p.2.under n&&G5 n l
def afP{n:Nat}:∀{l:Wo},G5 n l=true->∀k p,(k,p)∈l->p.under n=true
 |[],_,k,p,h=>by simp at h
 |q::l,h,k,p,hk=>by
  simp only[G5,aO]at h;rcases bH.1 hk with e|hk
  ·subst e;exact h.1
  ·exact afP h.2 k p hk
def iR.ok(s:iR):Bool:=Nat.blt s.gn s.next&&G5 s.next s.slots&&s.objs.all λp=>Dk s.next p.2
structure xG(tabs:QP)(G:Nat):Prop where
 low:∀p∈tabs,p.1<=G
 one:∀p∈tabs,dV p.1 tabs=some p.2
def aFY(T:aJ){H:Env}{a:AV}{v:Value}(h:a.toVal 4=some v):@VR T H a v:=@amZ T H 4 a v h
def abX{ka:Nat}{s:iR}(Y:T.tabs=tabs)(v:xG tabs P.globals.size)(J9:s.objs.all (λp=>Dk s.next p.2)=true)(h3:s.gn<s.next)(Z:s.gn=P.globals.size)
 (C:yF T P tabs s.gn s.next H F w fz r ps gs dQ) (f1:∀b o,dQ b=some o->w.heap[b]? =some o) (f2:∀id o q,id∉fz->F.get id=some o->o.own=true->H id=some q->dQ q.bl=none) (h4:LD r=true) (h6:@Ov T.toiM P s.gn s.next F fz r ps s.objs=true):
 @SR (Tg tabs gs ka) P (vO tabs s.gn s.next r H dQ) (s.st tabs) w/\(∀i o q,(s.st tabs).get i=some o->o.own=true->(vO tabs s.gn s.next r H dQ) i=some q->∃id o',dV i r=some (some id)/\id∉fz/\F.get id=some o'/\o'.own=true/\H id=some q):=by
 letI:=T
 have obj:∀i o,(s.st tabs).get i=some o->(s.gn<i/\i<s.next/\@Live (Tg tabs gs ka) P (vO tabs s.gn s.next r H dQ) w i o/\(∀id,dV i r=some (some id)->id∉fz/\∃o',F.get id=some o'/\o'.own=o.own))\/
  (i<=s.gn/\∃c,o=.cells c 0 false false/\(i,c)∈tabs):=by
  intro i o hi;have d:=Sm hi;rcases jQ.1 d with d|d
  ·obtain⟨O,E,g3⟩:=ajP h6 i o d;have hb:=List.all_eq_true.1 J9 _ d;obtain⟨g4,g5⟩:=ax4 C O E hb g3;exact .inl ⟨O,E,g4,g5⟩
  ·obtain⟨p,U,e⟩:=rZ.1 d;cases e;exact .inr ⟨by rw[Z];exact v.low p U,p.2,rfl,U⟩
 have own:∀i o q,(s.st tabs).get i=some o->o.own=true->(vO tabs s.gn s.next r H dQ) i=some q->∃id o',dV i r=some (some id)/\id∉fz/\F.get id=some o'/\o'.own=true/\H id=some q:=by
  intro i o q hi ho hq;rcases obj i o hi with⟨O,E,_,g4⟩|⟨_,c,rfl,_⟩
  ·have j:(if i<=s.gn then some ⟨i,0,CS tabs i,0⟩else if i<s.next then(match dV i r with|some (some id)=>H id|_=>none)else none)=some q:=hq;rw[aj ah,au E]at j;split at j
   ·next id m=>
    obtain⟨t,o',n,A⟩:=g4 id m;exact⟨id,o',m,t,n,A.trans ho,j⟩
   ·cases j
  ·cases ho
 have aa:∀p∈tabs,@GI (vO tabs s.gn s.next r H dQ) p.1 p.2:=by intro p U;obtain⟨I,l,L,t,n⟩:=C.rel.tabs p (by rw[Y];exact U);exact⟨I,l,L,C.xq _ _ t,n⟩
 refine⟨@SR.mk (Tg tabs gs ka) P _ _ w ?_ ?_ ?_ ?_ ?_ ?_ ?_ ?_,own⟩
 ·intro g hg;exact⟨_,_,Xr ah⟩
 ·intro i q hq;have j:(if i<=s.gn then some ⟨i,0,CS tabs i,0⟩else if i<s.next then(match dV i r with|some (some id)=>H id|_=>none)else none)=some q:=hq;show i<s.next
  split at j
  ·omega
  ·split at j
   ·next h=>exact h
   ·cases j
 ·intro i o hi;rcases obj i o hi with⟨_,_,g3,_⟩|⟨D,c,rfl,d⟩
  ·exact g3
  ·obtain⟨I,l,L,t,n,A⟩:=C.rel.tabs (i,c) (by rw[Y];exact d);have hb:=C.rel.jH _ _ t;have ab:CS tabs i=c.length:=by unfold CS;rw[v.one (i,c) d]
   refine .inl ⟨⟨i,0,CS tabs i,0⟩,Xr D,I,l,L,hb,?_⟩;refine @vC.mk (Tg tabs gs ka) P _ _ c 0 false false I l L (by simp only at n⊢;omega) (by simp only;omega) (λ_=>by simp only;omega) (λk a hk=>?_) (λh=>by cases h) (λh=>absurd rfl h) (λh=>by cases h);obtain⟨x,hx,hv⟩:=A.1 k a hk;exact⟨x,by simpa using hx,@UE.vr (Tg tabs gs ka) _ _ _ hv⟩
 ·intro i hg;have M:(decide (s.gn<i)&&decide (i<s.next)&&(match dV i r with|some (some id)=>H.gh id|some none=>true|none=>false))=true:=hg;rw[aO,aO,decide_eq_true_iff,decide_eq_true_iff]at M;obtain⟨⟨t,n⟩,A⟩:=M;refine⟨?_,n⟩;show(if i<=s.gn then some ⟨i,0,CS tabs i,0⟩else if i<s.next then(match dV i r with|some (some id)=>H id|_=>none)else none)=none
  rw[aj ah,au n];split at A
  ·next id m=>rw[m];exact(C.rel.lq id A).1
  ·next m=>rw[m]
  ·cases A
 ·intro i o B o' q q' a1 a2 a3 a4 a5 a6;obtain⟨id,u,b1,b2,V,W,X⟩:=own i o q a1 a2 a5;rcases obj B o' a3 with⟨O,E,_,g4⟩|⟨D,c,rfl,d⟩
  ·have j:(if B<=s.gn then some ⟨B,0,CS tabs B,0⟩else if B<s.next then(match dV B r with|some (some id)=>H id|_=>none)else none)=some q':=a6;rw[aj ah,au E]at j;split at j
   ·next N kS=>
    obtain⟨t,u',n,A⟩:=g4 N kS;exact C.rel.sep id u N u' q q' V W n (λe=>a4 (by subst e;exact ads h4 i B id b1 kS)) X j
   ·cases j
  ·intro e;rw[Xr D]at a6;cases a6;obtain⟨I,l,L,t,_⟩:=C.rel.tabs (B,c) (by rw[Y];exact d);have:=C.rel.ny id u q V W X;simp only at e;rw[e]at this;rw[t]at this;cases this
 ·exact f1
 ·intro i o q a1 a2 a3;obtain⟨id,u,b1,b2,V,W,X⟩:=own i o q a1 a2 a3;exact f2 id u q b2 V W X
 ·exact aa
def ZI{r:W8}:∀{n i:Nat},Qh r i n=true->∀j,i<j->j<=i+n->dV j r=some (some j)
 |0,i,_,j,h1,d=>ah
 |n+1,i,h,j,h1,d=>by
  simp only[Qh,aO]at h;by_cases e:j=i+1
  ·subst e;exact SX h.1
  ·exact ZI h.2 j ah ah
def abW{w0:Base}{m:Qf}{a:bM}{A:Act}{s:iR}(X:T.tabs=tabs)(g:xG tabs P.globals.size)(d:s.ok=true)(h:@lF T P w0 m H F w)(Y:F.lock=0)(j:@TR T P H a A)(n:@abT T.toiM P s a F fz r ps=true)(t:valsOf T.val ps=some gs):UD P tabs s gs w0 m A w:=by
 letI:=T
 unfold abT at n;simp only[aO,jY]at n;obtain⟨⟨⟨⟨⟨⟨⟨⟨B,k2⟩,Z⟩,h1⟩,h2⟩,U⟩,h4⟩,h5⟩,h6⟩:=n;have B:=bV B;have e1:=bV h1;have e2:=bV h2;unfold iR.ok at d;rw[aO,aO]at d;obtain⟨⟨_,D⟩,J9⟩:=d;have e:s.gn=P.globals.size:=by rw[e2];exact j.gn
 obtain⟨dQ,f1,l,f3⟩:=Wl h Y fz;have C:yF T P tabs s.gn s.next H F w fz r ps gs dQ:=⟨h.rel,t,f1,f3,e,U⟩
 obtain⟨hS,own⟩:=abX (ka:=s.ka) X g J9 U e C l.rel.jH (λid o q V E I L=>l.rel.ny id o q (by rw[Fh,aj V];exact E) I L) h4 h6;refine⟨vO tabs s.gn s.next r H dQ,?_,?_⟩
 ·refine @lF.mk (Tg tabs gs s.ka) P w0 m _ _ w hS h.kept ?_ ?_ ?_ ?_
  ·intro i o q M a2 N;obtain⟨id,u,b1,V,E,I,L⟩:=own i o q M a2 N;exact h.own id u q E I L
  ·exact l.xq
  ·exact l.tC
  ·intro i q hi;obtain⟨M,a2,N⟩:=h.uO i q hi;have O:i<=P.globals.size+s.ka:=by rw[B];exact N
   refine⟨?_,a2,O⟩;rw[Iq ah ah (ZI Z i ah ah)];exact M
 ·refine @TR.mk (Tg tabs gs s.ka) P _ _ A ?_ ?_ j.none ?_
  ·exact e
  ·show A.tmps.size=s.n
   rw[e1];exact j.size
  ·intro k p W;obtain⟨v,v1,v2⟩:=ajQ h5 k p (Sm W);obtain⟨x,hx,hv⟩:=j.slot k v v1;exact⟨x,hx,abU C p v x (afP D k p (Sm W)) v2 hv⟩
end
noncomputable section
variable{P:Program}
mutual
def AV.fP(f:Nat->Nat):AV->AV
 |.nd j=>.nd (f j)
 |.rx j off=>.rx (f j) off
 |.sv id j=>.sv id (f j)
 |.pv id j off=>.pv id (f j) off
 |.pd id j=>.pd id (f j)
 |.fn g fi cs=>.fn g (AV.sU f fi) (AV.sU f cs)
 |.jM t a=>.jM t (a.fP f)
 |.agg l=>.agg (AV.sU f l)
 |.fK l=>.fK (AV.sU f l)
 |.ro l=>.ro (AV.sU f l)
 |.rp a off=>.rp (a.fP f) off
 |a=>a
def AV.sU(f:Nat->Nat):Q3->List AV
 |[]=>[]
 |a::l=>a.fP f::AV.sU f l
end
def Xu(f:Nat->Nat):∀l:Q3,AV.sU f l=l.map (AV.fP f)
 |[]=>rfl
 |a::l=>by simp[AV.sU,Xu f l]
def bP.fP(f:Nat->Nat):bP->bP
 |.cells c et rw opn=>.cells (AV.sU f c) et rw opn
 |.iter s pos=>.iter s pos
 |.map es=>.map (es.map λe=>(e.1.fP f,e.2.fP f))
 |.iterM m=>.iterM m
 |.vec j et b=>.vec (f j) et b
 |.smap j d sz=>.smap (f j) d sz
 |.pmap es=>.pmap (es.map λe=>(e.1,e.2.fP f))
def bP.aya(f:Nat->Nat)(o:bP):(o.fP f).own=o.own:=by cases o<;>rfl
section
variable{S T:aJ}{f:Nat->Nat}{H:Env}
mutual
def VR.fP(h:∀j g,S.val j=some g->T.val (f j)=some g):∀(a:AV)(v:Value),@VR S H a v->@VR T H (a.fP f) v
 |.b _,_,d=>by simpa only[VR,AV.fP]using d
 |.i _ _,_,d=>by simpa only[VR,AV.fP]using d
 |.s _,_,d=>by simpa only[VR,AV.fP]using d
 |.kL,_,d=>by simpa only[VR,AV.fP]using d
 |.p _ _,_,d=>by simpa only[VR,AV.fP]using d
 |.iw,_,d=>by simpa only[VR,AV.fP]using d
 |.sl _ _ _ _,_,d=>by simpa only[VR,AV.fP]using d
 |.rQ,_,d=>by simpa only[VR,AV.fP]using d
 |.mp _,_,d=>by simpa only[VR,AV.fP]using d
 |.AU,_,d=>by simpa only[VR,AV.fP]using d
 |.fn _ fi cs,_,d=>by simp only[VR,AV.fP]at d⊢;obtain⟨B,vs,e,h1,m⟩:=d;exact⟨B,vs,e,aG.fP h fi B h1,aG.fP h cs vs m⟩
 |.vS,_,d=>by simpa only[VR,AV.fP]using d
 |.jM _ a,_,d=>by simp only[VR,AV.fP]at d⊢;obtain⟨x,e,h1⟩:=d;exact⟨x,e,VR.fP h a x h1⟩
 |.agg l,_,d=>by simp only[VR,AV.fP]at d⊢;obtain⟨x,e,h1⟩:=d;exact⟨x,e,aG.fP h l x h1⟩
 |.fK l,_,d=>by simp only[VR,AV.fP]at d⊢;obtain⟨x,e,h1⟩:=d;exact⟨x,e,aG.fP h l x h1⟩
 |.z _ _ _,_,d=>by simpa only[VR,AV.fP]using d
 |.ro l,_,d=>by
  simp only[VR,AV.fP]at d⊢;have D:(AV.sU f l).length=l.length:=by rw[Xu];simp
  rcases d with⟨rfl,d⟩|⟨s,u,c,o,E,e,I,h1,m,t⟩
  ·exact .inl ⟨rfl,d⟩
  ·rw[D];exact .inr ⟨s,u,c,o,E,e,I,aG.fP h l o h1,m,λL=>t (by intro M;apply L;rw[M];rfl)⟩
 |.rp a _,_,d=>by simp only[VR,AV.fP]at d⊢;obtain⟨s,base,cs,n,A,x,h1,m,t⟩:=d;exact⟨s,base,cs,n,A,x,h1,VR.fP h a x m,t⟩
 |.nd _,_,d=>by simp only[VR,AV.fP]at d⊢;obtain⟨g,h1,m⟩:=d;exact⟨g,h _ _ h1,m⟩
 |.rx _ _,_,d=>by simp only[VR,AV.fP]at d⊢;obtain⟨g,s,base,cs,n,A,x,h1,m⟩:=d;exact⟨g,s,base,cs,n,A,x,h _ _ h1,m⟩
 |.sv _ _,_,d=>by simp only[VR,AV.fP]at d⊢;obtain⟨o,h1,m⟩:=d;exact⟨o,h _ _ h1,m⟩
 |.pv _ _ _,_,d=>by simp only[VR,AV.fP]at d⊢;obtain⟨q,k,i,h1,m,t⟩:=d;exact⟨q,k,i,h1,h _ _ m,t⟩
 |.pd _ _,_,d=>by simp only[VR,AV.fP]at d⊢;obtain⟨o,p,h1,m⟩:=d;exact⟨o,p,h _ _ h1,m⟩
def aG.fP(h:∀j g,S.val j=some g->T.val (f j)=some g):∀(l:Q3)(vs:Q6),@aG S H l vs->@aG T H (AV.sU f l) vs
 |[],_,d=>by simpa only[aG,AV.sU]using d
 |a::l,_,d=>by simp only[aG,AV.sU]at d⊢;obtain⟨x,xs,e,h1,i⟩:=d;exact⟨x,xs,e,VR.fP h a x h1,aG.fP h l xs i⟩
end
def OR.fP(h:∀j g,S.val j=some g->T.val (f j)=some g){q:Place}{w:World}{o:bP}(r:@OR S P H q w o):@OR T P H q w (o.fP f):=by
 cases o with
 |cells c A xu B=>
  obtain⟨n,i,p,t,⟨r1,r2,r3,r4,D,E,I⟩⟩:=r;have hl:(AV.sU f c).length=c.length:=by rw[Xu];simp
  refine⟨n,i,p,t,@vC.mk T P H q _ A xu B n i p r1 (by rw[hl];exact r2) (λe=>by rw[hl];exact r3 e) (λk a l=>?_) D E I⟩;rw[Xu,jA]at l;obtain⟨a0,u,rfl⟩:=bI.1 l;obtain⟨x,hx,hv⟩:=r4 k a0 u;exact⟨x,hx,VR.fP h a0 x hv⟩
 |iter s pos=>exact r
 |map es=>obtain⟨v,d,t,u,L⟩:=r;refine⟨v,d,t,by simpa using u,λk e l=>?_⟩;rw[jA]at l;obtain⟨M,N,rfl⟩:=bI.1 l;obtain⟨m,O,U,V⟩:=L k M N;exact⟨m,O,VR.fP h _ _ U,VR.fP h _ _ V⟩
 |iterM m=>cases m<;>exact r
 |smap j kk sz=>obtain⟨W,v,d,X,Y,Z⟩:=r;exact⟨W,v,d,h _ _ X,Y,Z⟩
 |pmap es=>obtain⟨hn,v,d,aa,t,hp,u,L⟩:=r;refine⟨by simpa[List.map_map,Function.comp_def]using hn,v,d,aa,t,hp,by simpa using u,λk e l=>?_⟩;rw[jA]at l;obtain⟨M,N,rfl⟩:=bI.1 l;obtain⟨m,O,U,V⟩:=L k M N;exact⟨m,O,U,VR.fP h _ _ V⟩
 |vec j A b=>obtain⟨W,n,i,p,ys,X,Y,Z,k4,k5,k6,⟨r1,r2,r3,r4,D,E,I⟩,k8⟩:=r;exact⟨W,n,i,p,ys,h _ _ X,Y,Z,k4,k5,k6,@vC.mk T P H q [] A true true n i p r1 r2 r3 (λk a l=>by simp at l) D E I,k8⟩
def Live.fP(h:∀j g,S.val j=some g->T.val (f j)=some g){w:World}{i:Nat}{o:bP}(r:@Live S P H w i o):@Live T P H w i (o.fP f):=by
 rcases r with⟨q,d,e⟩|⟨k,n,l,b,rfl,m⟩
 ·exact .inl ⟨q,d,OR.fP h e⟩
 ·exact .inr ⟨k,f n,l,b,rfl,h _ _ m⟩
end
def Lc{α:Type}:∀(l:List (Nat×α))(k:Nat),(rU l).get k=dV k l
 |[],k=>by simp[rU,dV]
 |(j,u)::l,k=>by
  rw[rU,Tr.wX,dV];cases d:Nat.beq k j with
  |true=>rw[au (bV d)];rfl
  |false=>rw[aj (λe=>by rw[e,Nat.beq_refl]at d;cases d)];exact Lc l k
def aaY{α β:Type}(g:α->β):∀(l:List (Nat×α))(m:List (Nat×β))(d:List (Nat×α))(k:Nat)(o:β),dV k (l.map (λp=>(p.1,g p.2))++m)=some o->(∃o0,dV k (l++d)=some o0/\o=g o0)\/(dV k m=some o/\(∀o',dV k d=some o'->dV k (l++d)=some o'))
 |[],m,d,k,o,h=>.inr ⟨h,λo' i=>i⟩
 |p::l,m,d,k,o,h=>by
  simp only[jc,bG,dV]at h⊢;cases e:Nat.beq k p.1 with
  |true=>rw[e]at h;simp only[cond_true,bD]at h⊢;exact .inl ⟨p.2,rfl,h.symm⟩
  |false=>rw[e]at h;simp only[cond_false]at h⊢;exact aaY g l m d k o h
def iR.UZ(s:iR)(f:Nat->Nat):bM:=⟨rU (s.slots.map λp=>(p.1,p.2.fP f)),s.n,s.gn⟩
def iR.Gj(tabs:QP)(s:iR)(f:Nat->Nat):aC:=⟨rU (s.objs.map (λp=>(p.1,p.2.fP f))++yw tabs),s.next,0⟩
def ahW{T:aJ}{tabs:QP}{s:iR}{gs:Q1}{f:Nat->Nat}{w0:Base}{w:World}{N:Qf}{H:Env}(wY:T.tabs=tabs)(O:T.ka=s.ka)(hf:∀j g,gs[j]? =some g->T.val (f j)=some g)(h:@lF (Tg tabs gs s.ka) P w0 N H (s.st tabs) w):
 @lF T P w0 N H (s.Gj tabs f) w:=by
 obtain⟨⟨U,A,l,V,B,W,X,n⟩,v,D,Y,Z,aa⟩:=h;have ab:∀j g,(Tg tabs gs s.ka).val j=some g->T.val (f j)=some g:=hf;have obj:∀i o,(s.Gj tabs f).get i=some o->(∃o0,(s.st tabs).get i=some o0/\o=o0.fP f)\/(∃c,o=.cells c 0 false false/\(i,c)∈tabs/\(s.st tabs).get i=some o):=by
  intro i o hi;have ac:dV i (s.objs.map (λp=>(p.1,p.2.fP f))++yw tabs)=some o:=(Lc _ i).symm.trans hi;rcases aaY (bP.fP f) s.objs (yw tabs) (yw tabs) i o ac with⟨o0,d,h2⟩|⟨d,h2⟩
  ·exact .inl ⟨o0,(Lc _ i).trans d,h2⟩
  ·have hm:=Wp d;obtain⟨p,hp,e⟩:=rZ.1 hm;cases e;exact .inr ⟨p.2,rfl,hp,(Lc _ _).trans (h2 _ d)⟩
 have own:∀i o,(s.Gj tabs f).get i=some o->∃o0,(s.st tabs).get i=some o0/\o0.own=o.own:=by
  intro i o hi;rcases obj i o hi with⟨o0,d,rfl⟩|⟨c,rfl,_,d⟩
  ·exact⟨o0,d,(bP.aya f o0).symm⟩
  ·exact⟨_,d,rfl⟩
 refine @lF.mk T P w0 N _ _ w (@SR.mk T P _ _ w U A ?_ V ?_ W ?_ ?_) v ?_ Y Z (by rw[O];exact aa)
 ·intro i o hi;rcases obj i o hi with⟨o0,d,rfl⟩|⟨c,rfl,hm,d⟩
  ·exact Live.fP ab (l i o0 d)
  ·rcases l i _ d with⟨q,hq,cs,t,fr,hb,⟨r1,r2,r3,r4,r5,r6,r7⟩⟩|⟨_,_,_,_,e,_⟩
   rotate_left
   ·cases e
   obtain⟨ae,NK,NZ,k1,k2,k3⟩:=n (i,c) hm;refine .inl ⟨q,hq,cs,t,fr,hb,@vC.mk T P _ _ c 0 false false cs t fr r1 r2 r3 (λk a hk=>?_) r5 r6 r7⟩;obtain⟨x,hx,hv⟩:=r4 k a hk;obtain⟨y,hy,m⟩:=k3.1 k a hk;rcases m with m|⟨_,_,_,_,rfl,rfl,_,_⟩
   ·have:x=y:=@am0 (Tg tabs gs s.ka) _ 4 a y x m hv;subst this;exact⟨x,hx,aFY T m⟩
   ·exact⟨x,hx,by simpa only[VR]using hv⟩
 ·intro i o i' o' q q' E a2 I a4 a5 a6;obtain⟨u,L,M⟩:=own i o E;obtain⟨u',ad,af⟩:=own i' o' I;exact B i u i' u' q q' L (M.trans a2) ad a4 a5 a6
 ·intro i o q E a2 I;obtain⟨u,L,M⟩:=own i o E;exact X i u q L (M.trans a2) I
 ·rw[wY];exact n
 ·intro i o q E a2 I;obtain⟨u,L,M⟩:=own i o E;exact D i u q L (M.trans a2) I
def adO{T:aJ}{tabs:QP}{s:iR}{gs:Q1}{f:Nat->Nat}{w0:Base}{w:World}{t:Qf}{A:Act}(D:T.tabs=tabs)(e:T.ka=s.ka)(u:∀j g,gs[j]? =some g->T.val (f j)=some g)(h:UD P tabs s gs w0 t A w):
 ∃H,@lF T P w0 t H (s.Gj tabs f) w/\@TR T P H (s.UZ f) A:=by
 obtain⟨H,E,⟨i,l,m,n⟩⟩:=h;have o:∀j g,(Tg tabs gs s.ka).val j=some g->T.val (f j)=some g:=u;refine⟨H,ahW D e u E,@TR.mk T P _ _ A i l m ?_⟩
 ·intro k v I;have q:dV k (s.slots.map (λp=>(p.1,p.2.fP f))++[])=some v:=by rw[pY];exact(Lc _ k).symm.trans I
  rcases aaY (AV.fP f) s.slots [] [] k v q with⟨B,d,rfl⟩|⟨d,_⟩
  ·rw[pY]at d;obtain⟨x,L,M⟩:=n k B ((Lc _ k).trans d);exact⟨x,L,VR.fP o B x M⟩
  ·simp[dV]at d
