/- Pure programs: trees of nodes; what they compute; how a check of all their ways serves all values. -/
import Derived.Test.YtcnekfnipdihgaaGreatDoorAbsH
import Derived.Control
set_option linter.all false
namespace Go.aP
noncomputable section
inductive Tree where
 |step (nd:Nd) (t:Tree)
 |ite (n:Nat) (t e:Tree)
 |ret (l:Q4)
 |tail (f:Nat) (l:Q4)
 |dead
 deriving Inhabited
abbrev je:=Nat->List GV->Option Q3
def Tree.den(I:je):Tree->List GV->Option Q3
 |.step nd t,d=>match nd.den I (λn=>d[n]?)with
  |some g=>t.den I (d++[g])
  |none=>none
 |.ite n t e,d=>match d[n]? with
  |some (.b true)=>t.den I d
  |some (.b false)=>e.den I d
  |_=>none
 |.ret l,d=>valsOf (λn=>d[n]?) l
 |.tail f l,d=>match valsOf (λn=>d[n]?) l with
  |some gs=>I f gs
  |none=>none
 |.dead,_=>none
inductive Leaf where
 |ret (l:Q4)
 |tail (f:Nat) (l:Q4)
def Tree.chk(p:List Nd->List (Nat×Bool)->Leaf->Bool):Tree->List Nd->List (Nat×Bool)->Bool
 |.step nd t,d,g=>t.chk p (d++[nd]) g
 |.ite n t e,d,g=>t.chk p d ((n,true)::g)&&e.chk p d ((n,false)::g)
 |.ret l,d,g=>p d g (.ret l)
 |.tail f l,d,g=>p d g (.tail f l)
 |.dead,_,_=>true
def TK{val d:Wc}(h:∀n g,val n=some g->d n=some g):∀{l:Q4}{gs:Q3},valsOf val l=some gs->valsOf d l=some gs
 |[],gs,e=>e
 |n::l,gs,e=>by
  simp only[valsOf]at e⊢;split at e
  ·next g r h1 i=>rw[h n g h1,TK h i];exact e
  ·cases e
def Nd.agG{I:je}{val m:Wc}(h:∀n g,val n=some g->m n=some g){nd:Nd}{g:GV}(d:nd.den I val=some g):nd.den I m=some g:=by
 cases nd<;>simp only[Nd.den]at d⊢
 case ci=>exact d
 case cb=>exact d
 case cs=>exact d
 case arg=>exact d
 case mk l=>
  split at d
  ·next gs p=>rw[TK h p];exact d
  ·cases d
 case ml l=>obtain⟨gs,p,e⟩:=bG.1 d;rw[TK h p];simpa using e
 case call f l j=>
  split at d
  ·next gs p=>rw[TK h p];exact d
  ·cases d
 case upd size off a i vs=>
  split at d
  ·next t k j gs o q s=>rw[h _ _ o,h _ _ q,TK h s];exact d
  ·cases d
 all_goals
  split at d
  all_goals first
   |(cases d;done)
   |(simp only[h _ _ (by assumption)];exact d)
   |(rename_i o q s;rw[h _ _ o,h _ _ q,h _ _ s];exact d)
   |(rename_i o q;rw[h _ _ o,h _ _ q];exact d)
   |(rename_i o;rw[h _ _ o];exact d)
structure Eh(I:je)(ns:List Nd)(ds:Wm)(env:Q3):Prop where
 len:ns.length=env.length
 node:∀(n:Nat) nd,ns[n]? =some nd->nd≠.arg->∃g,env[n]? =some g/\nd.den I (λk=>env[k]?)=some g
 dec:∀(n:Nat)(b:Bool),(n,b)∈ds->env[n]? =some (.b b)
def Wi{α:Type}{l:List α}{x a:α}{n:Nat}(h:l[n]? =some a):(l++[x])[n]? =some a:=by have:=(fV.1 h).1;rw[oG this];exact h
def Tree.Np{I:je}{p:List Nd->List (Nat×Bool)->Leaf->Bool}:∀(t:Tree){q:List Nd}{u:Wm}{d j:Q3},t.chk p q u=true->Eh I q u d->t.den I d=some j->
 ∃v A h H,p v A H=true/\Eh I v A h/\(∃s,h=d++s)/\(match H with|.ret l=>valsOf (λn=>h[n]?) l=some j|.tail f l=>∃gs,valsOf (λn=>h[n]?) l=some gs/\I f gs=some j)
 |.step nd t,q,u,d,j,B,m,i=>by
  simp only[Tree.den]at i;split at i
  ·next g L=>
   have M:Eh I (q++[nd]) u (d++[g]):=by
    refine⟨by simp[m.len],λn x D X=>?_,λn b o=>Wi (m.dec n b o)⟩;by_cases N:n<q.length
    ·rw[oG N]at D;obtain⟨Y,O,U⟩:=m.node n x D X;exact⟨Y,Wi O,Nd.agG (λk a W=>Wi W) U⟩
    ·have E:n=q.length:=by have:=(fV.1 D).1;simp at this;omega
     subst E;simp at D;subst D;exact⟨g,by rw[m.len];simp,Nd.agG (λk a W=>Wi W) L⟩
   obtain⟨v,A,h,H,O,U,⟨s,Z⟩,h4⟩:=Tree.Np t B M i;exact⟨v,A,h,H,O,U,⟨[g]++s,by rw[Z,List.append_assoc]⟩,h4⟩
  ·cases i
 |.ite n t e,q,u,d,j,B,m,i=>by
  simp only[Tree.chk,aO]at B;simp only[Tree.den]at i;split at i
  ·next D=>
   refine Tree.Np t B.1 ⟨m.len,m.node,λk b o=>?_⟩ i;rcases bJ.1 o with o|o
   ·cases o;exact D
   ·exact m.dec k b o
  ·next D=>
   refine Tree.Np e B.2 ⟨m.len,m.node,λk b o=>?_⟩ i;rcases bJ.1 o with o|o
   ·cases o;exact D
   ·exact m.dec k b o
  ·cases i
 |.ret l,q,u,d,j,B,m,i=>⟨q,u,d,.ret l,B,m,⟨[],aA⟩,i⟩
 |.tail f l,q,u,d,j,B,m,i=>by
  simp only[Tree.den]at i;split at i
  ·next gs L=>exact⟨q,u,d,.tail f l,B,m,⟨[],aA⟩,gs,L,i⟩
  ·cases i
 |.dead,_,_,_,_,_,_,i=>by simp[Tree.den]at i
inductive pR where
 |sc
 |ag (n:Nat)
abbrev WP:=List pR
def pK:WP->List GV->Bool
 |[],[]=>true
 |.sc::l,g::m=>g.scalar&&pK l m
 |.ag n::l,g::m=>!g.scalar&&Nat.beq g.cells.length n&&pK l m
 |_,_=>false
inductive aH where
 |tree (n:Nat) (t:Tree)
 |fn (yN Am:WP) (t:Tree)
 |uH (f:Q3->Option Q3)
abbrev Wb:=List aH
def aH.den(I:je):aH->List GV->Option Q3
 |.tree n t,gs=>if gs.length=n then t.den I gs else none
 |.fn e g t,gs=>if pK e gs=true then match t.den I gs with
  |some d=>if pK g d=true then some d else none
  |none=>none
  else none
 |.uH f,gs=>f gs
abbrev jg:=Nat->Option aH
def jg.run(TT:jg):Nat->je
 |0,_,_=>none
 |n+1,k,gs=>match TT k with
  |some d=>d.den (jg.run TT n) gs
  |none=>none
def je.le(I e:je):Prop:=∀k gs d,I k gs=some d->e k gs=some d
def Nd.Bd{I e:je}(h:I.le e){val:Wc}{nd:Nd}{g:GV}(d:nd.den I val=some g):nd.den e val=some g:=by
 cases nd with
 |call f l j=>
  simp only[Nd.den]at d⊢;split at d
  ·next gs k=>
   split at d
   ·next r i=>rw[h f gs r i];exact d
   ·cases d
  ·cases d
 |_=>exact d
def Tree.Bd{I k:je}(h:I.le k):∀(t:Tree){i j:Q3},t.den I i=some j->t.den k i=some j
 |.step nd t,i,j,d=>by
  simp only[Tree.den]at d⊢;split at d
  ·next g m=>rw[Nd.Bd h m];exact Tree.Bd h t d
  ·cases d
 |.ite n t e,i,j,d=>by
  simp only[Tree.den]at d⊢;split at d
  ·exact Tree.Bd h t d
  ·exact Tree.Bd h e d
  ·cases d
 |.ret l,i,j,d=>d
 |.tail f l,i,j,d=>by
  simp only[Tree.den]at d⊢;split at d
  ·exact h _ _ _ d
  ·cases d
 |.dead,_,_,d=>by simp[Tree.den]at d
def aH.Bd{I i:je}(h:I.le i)(d:aH){gs g:Q3}(e:d.den I gs=some g):d.den i gs=some g:=by
 cases d with
 |tree n t=>
  simp only[aH.den]at e⊢;split at e
  ·next j=>rw[au j];exact t.Bd h e
  ·cases e
 |fn m p t=>
  simp only[aH.den]at e⊢;split at e
  ·next k=>
   split at e
   ·next o l=>rw[au k,t.Bd h l];exact e
   ·cases e
  ·cases e
 |uH f=>exact e
def jg.alp(TT:jg):∀n,(TT.run n).le (TT.run (n+1))
 |0,k,gs,e,h=>by simp[jg.run]at h
 |n+1,k,gs,e,h=>by
  simp only[jg.run]at h;rw[jg.run];split at h
  ·next d g=>exact d.Bd (jg.alp TT n) h
  ·cases h
def jg.X6(TT:jg){n m:Nat}(h:n<=m):(TT.run n).le (TT.run m):=by
 induction h with
 |refl=>exact λ_ _ _ h=>h
 |step _ e=>exact λk gs d g=>jg.alp TT _ k gs d (e k gs d g)
open Classical in
def jg.lim(TT:jg):je:=λk gs=>if h:∃d n,TT.run n k gs=some d then some (Classical.choose h)else none
def jg.JU{TT:jg}{n k:Nat}{gs d:Q3}(h:TT.run n k gs=some d):TT.lim k gs=some d:=by
 unfold jg.lim;have e:∃d n,TT.run n k gs=some d:=⟨d,n,h⟩
 rw[dif_pos e];obtain⟨m,i⟩:=am7 e;have j:=TT.X6 (Nat.le_max_left n m) k gs d h;have g:=TT.X6 (Nat.le_max_right n m) k gs _ i;rw[j]at g;exact g.symm
def jg.ab3{TT:jg}{k:Nat}{gs d:Q3}(h:TT.lim k gs=some d):∃n,TT.run n k gs=some d:=by
 unfold jg.lim at h;split at h
 ·next e=>
  cases h;exact am7 e
 ·cases h
def Nd.Ju{TT:jg}{val:Wc}{nd:Nd}{g:GV}(d:nd.den TT.lim val=some g):∃n,nd.den (TT.run n) val=some g:=by
 cases nd with
 |call f l j=>
  simp only[Nd.den]at d⊢;split at d
  ·next gs i=>
   split at d
   ·next r e=>
    obtain⟨n,h⟩:=jg.ab3 e;exact⟨n,by rw[h];exact d⟩
   ·cases d
  ·cases d
 |_=>exact⟨0,d⟩
def Tree.Ju{TT:jg}:∀(t:Tree){i j:Q3},t.den TT.lim i=some j->∃n,t.den (TT.run n) i=some j
 |.step nd t,i,j,d=>by
  simp only[Tree.den]at d;split at d
  ·next g o=>
   obtain⟨n,p⟩:=Nd.Ju o;obtain⟨m,k⟩:=Tree.Ju t d;refine⟨max n m,?_⟩;simp only[Tree.den];rw[Nd.Bd (TT.X6 (Nat.le_max_left n m)) p];exact t.Bd (TT.X6 (Nat.le_max_right n m)) k
  ·cases d
 |.ite n t e,i,j,d=>by
  simp only[Tree.den]at d⊢;split at d
  ·next h=>obtain⟨m,k⟩:=Tree.Ju t d;exact⟨m,k⟩
  ·next h=>obtain⟨m,k⟩:=Tree.Ju e d;exact⟨m,k⟩
  ·cases d
 |.ret l,i,j,d=>⟨0,d⟩
 |.tail f l,i,j,d=>by
  simp only[Tree.den]at d⊢;split at d
  ·exact jg.ab3 d
  ·cases d
 |.dead,_,_,d=>by simp[Tree.den]at d
def jg.awS{TT:jg}{k:Nat}{d:aH}(g:TT k=some d){gs e:Q3}(h:d.den TT.lim gs=some e):TT.lim k gs=some e:=by
 cases d with
 |tree m t=>
  simp only[aH.den]at h;split at h
  ·next j=>
   obtain⟨n,i⟩:=Tree.Ju t h;exact jg.JU (n:=n+1) (by simp only[jg.run,g,aH.den,au j];exact i)
  ·cases h
 |fn q s t=>
  simp only[aH.den]at h;split at h
  ·next l=>
   split at h
   ·next o p=>
    obtain⟨n,i⟩:=Tree.Ju t p;exact jg.JU (n:=n+1) (by simp only[jg.run,g,aH.den,l,if_true,i];exact h)
   ·cases h
  ·cases h
 |uH f=>exact jg.JU (n:=1) (by simp only[jg.run,g];exact h)
def jg.awU{TT:jg}{C:Nat->List GV->List GV->Prop}(h:∀k d,TT k=some d->∀I:je,(∀k gs e,I k gs=some e->C k gs e)->∀gs e,d.den I gs=some e->C k gs e):∀k gs e,TT.lim k gs=some e->C k gs e:=by
 have:∀n k gs e,TT.run n k gs=some e->C k gs e:=by
  intro n;induction n with
  |zero=>intro k gs e g;simp[jg.run]at g
  |succ n i=>
   intro k gs e g;simp only[jg.run]at g;split at g
   ·next d j=>exact h k d j _ i gs e g
   ·cases g
 intro k gs e g;obtain⟨n,l⟩:=jg.ab3 g;exact this n k gs e l
end
open Go
def adV(R w:Nat):Nat->Nat->List Nat->List Nat
 |0,_,l=>l
 |f+1,s,l=>match Nat.blt s 256 with
  |true=>s::l
  |false=>adV R w f ((R >>>(2*w*(s-256)))%2^w) (adV R w f ((R >>>(2*w*(s-256)+w))%2^w) l)
def toks(R w b:Nat):Nat->Nat->List Nat
 |0,_=>[]
 |n+1,x=>adV R w 1000 (x%b) (toks R w b n (x/b))
def dg(c:Nat):Nat:=match Nat.blt c 58 with
 |true=>c-48
 |false=>match Nat.blt c 91 with
  |true=>c-55
  |false=>match Nat.beq c 95 with
   |true=>62
   |false=>c-61
def sN(s:String):Nat:=s.toList.foldl (λa c=>a*63+dg c.toNat) 0
def rN:Q4->Nat×Q4
 |t::u::l=>match Nat.blt t 224 with
  |true=>(t,u::l)
  |false=>((t-224)*256+u,l)
 |[t]=>(t,[])
 |[]=>(0,[])
def rR(n:Nat)(l:Q4):Nat×Q4:=match rN l with|(a,l)=>(n-a,l)
def rL(n:Nat):Nat->Nat->List Nat->List Nat×Q4
 |0,_,l=>([],l)
 |k+1,p,t::l=>match Nat.blt t 128 with
  |true=>match rL n k (p+t-64) l with
   |(x,l)=>((p+t-64)::x,l)
  |false=>match rR n l with
   |(a,l)=>match rL n k a l with
    |(x,l)=>(a::x,l)
 |_,_,[]=>([],[])
def OE(n:Nat)(l:Q4):Q4×Q4:=match rN l with|(k,l)=>rL n k n l
def rK:Nat->IntKind
 |0=>.i64|1=>.u64|2=>.u8|3=>.i32|4=>.u32|5=>.i16|6=>.u16|_=>.i8
def rO:Nat->BinOp
 |0=>.eql|1=>.add|2=>.neq|3=>.lss|4=>.gtr|5=>.sub|6=>.geq|7=>.leq
 |8=>.and|9=>.quo|10=>.shr|11=>.mul|12=>.rem|13=>.xor|14=>.or|_=>.shl
def r1(n:Nat)(f:Nat->Nd)(l:Q4):Nd×Q4:=match rR n l with|(a,l)=>(f a,l)
def r2(n:Nat)(f:Nat->Nat->Nd)(l:Q4):Nd×Q4:=match rR n l with|(a,l)=>r1 n (f a) l
def r3(n:Nat)(f:Nat->Nat->Nat->Nd)(l:Q4):Nd×Q4:=match rR n l with|(a,l)=>r2 n (f a) l
def r0(f:Nat->Nd)(l:Q4):Nd×Q4:=match rN l with|(a,l)=>(f a,l)
def xK(g:Nat->List Nat->Nd×Q4)(l:Q4):Nd×Q4:=match rN l with|(a,l)=>g a l
def rLs(n:Nat)(f:Q4->Nd)(l:Q4):Nd×Q4:=match OE n l with|(a,l)=>(f a,l)
def rNd(cI:Nat->Int)(cT:Nat->List UInt8)(n t:Nat)(l:Q4):Nd×Q4:=
 if t=4 then(xK λo=>r2 n (.bin (rO o))) l else
 if t=5 then(xK λk=>r0 λa=>.ci (rK k) (cI a)) l else
 if t=6 then(xK λo=>r1 n (.cell o)) l else
 if t=7 then(xK λf l=>match OE n l with|(a,l)=>r0 (λj=>.call f a j) l) l else
 if t=8 then(r0 λa=>.cs (cT a)) l else
 if t=9 then rLs n .mk l else
 if t=10 then rLs n .ml l else
 if t=11 then(r0 λb=>.cb (Nat.beq b 1)) l else
 if t=12 then r1 n .len l else
 if t=13 then(xK λk=>r1 n (.conv (rK k))) l else
 if t=14 then r1 n .slen l else
 if t=15 then(xK λs=>r2 n (.at s)) l else
 if t=16 then r3 n .Ik l else
 if t=17 then r1 n (.un .not) l else
 if t=18 then(xK λs=>xK λz=>r2 n (.app s z)) l else
 if t=19 then r2 n .Ij l else
 if t=20 then(xK λo l=>match OE 0 l with|(d,l)=>r2 n (.Gs (rO o) d) l) l else
 if t=21 then r2 n .idx l else
 if t=22 then r1 n .str l else
 if t=23 then r1 n .bytes l else
 if t=24 then(xK λs=>xK λz=>r3 n (.rep s z)) l else
 if t=25 then r3 n .HY l else
 if t=26 then(xK λs=>r3 n (.ES s)) l else
 if t=27 then(xK λs=>xK λo l=>match rR n l with|(a,l)=>match rR n l with|(b,l)=>rLs n (.upd s o a b) l) l else
 if t=28 then r2 n (.mm false) l else
 if t=29 then r2 n (.mm true) l else
 if t=30 then r3 n .Dq l else
 if t=31 then r2 n .H6 l else
 if t=32 then r1 n (.un .neg) l else
 if t=33 then r2 n .BA l else
 if t=37 then r1 n (.un .xor) l else
 if t=34 then r2 n .same l else
 if t=35 then r1 n .Ii l else
 (xK λo=>r2 n (.Gq (rO o))) l
def rT(cI:Nat->Int)(cT:Nat->List UInt8)(h:Tree):Nat->Nat->List Nat->Tree×Q4
 |0,_,l=>(.dead,l)
 |_,_,[]=>(.dead,[])
 |f+1,n,t::l=>match t with
  |0=>(h,l)
  |1=>match rR n l with|(a,l)=>match rT cI cT h f n l with|(x,l)=>match rT cI cT h f n l with|(y,l)=>(.ite a x y,l)
  |2=>match OE n l with|(a,l)=>(.ret a,l)
  |3=>match rN l with|(g,l)=>match OE n l with|(a,l)=>(.tail g a,l)
  |38=>(.dead,l)
  |_=>match rNd cI cT n t l with|(d,l)=>match rT cI cT h f (n+1) l with|(x,l)=>(.step d x,l)
def rS(l:Q4):WP×Q4:=match OE 0 l with|(a,l)=>(a.map λk=>match k with
 |0=>.sc
 |k+1=>.ag (k+1),l)
def rP(cI:Nat->Int)(cT:Nat->List UInt8)(h:Tree):Q4->aH
 |0::l=>match rS l with|(a,l)=>match rS l with|(b,l)=>.fn a b (rT cI cT h 2000 a.length l).1
 |_::l=>match rN l with|(n,l)=>.tree n (rT cI cT h 2000 n l).1
 |[]=>.tree 0 .dead
def gT:Wb->Nat->aH
 |a::_,0=>a
 |_::l,n+1=>gT l n
 |[],_=>.tree 0 .dead
noncomputable section
variable{P:Program}
def BX(P:Program)(c:Code)(Q:Exit->Act->World->Prop)(a:Act)(w:World):Prop:=∀b k d,∃e a' g,Q e a' g/\Arrives P (lone (b.at a (.code c::.inLoop c::k)) d w) b k d e a' g
def BX.step{c:Code}{Q:Exit->Act->World->Prop}{a:Act}{w:World}(h:c.wp P (Exit.then (BX P c Q) Q) a w):BX P c Q a w:=by
 intro b k o;obtain⟨e,j,m,i,d⟩:=h b (.inLoop c::k) o;cases e with
 |normal=>obtain⟨p,q,s,n,g⟩:=i b k o;exact⟨p,q,s,n,.of_steps (Steps.trans d (.one step_inLoop)) g⟩
 |exit id=>exact⟨_,j,m,i,.pass (x:=.inLoop c) rfl (λ_ _=>.inl aA) d⟩
 |goto l=>exact⟨_,j,m,i,.pass (x:=.inLoop c) rfl (λ_ _=>.inl aA) d⟩
 |ret=>exact⟨_,j,m,i,.pass (x:=.inLoop c) rfl (λ_ _=>.inl aA) d⟩
 |panic t=>exact⟨_,j,m,i,.pass (x:=.inLoop c) rfl (λ_ _=>.inl aA) d⟩
 |outgrown=>exact⟨_,j,m,i,.pass (x:=.inLoop c) rfl (λ_ _=>.inl aA) d⟩
def BX.loop{c:Code}{Q:Exit->Act->World->Prop}{a:Act}{w:World}(h:BX P c Q a w):(Code.loop c).wp P Q a w:=by intro b k g;obtain⟨e,a',i,j,d⟩:=h b k g;exact⟨e,a',i,j,.of_steps (.one step_loop) d⟩
section
variable[aJ]
def AT(P:Program)(c:Code)(a:bK)(J:aC)(Q:fM->bK->aC->Prop):Prop:=
 ∀w0 d F w A K,kY P w0 d F J w->J.lock=0->TR P F a A->(∀e a' J' g h i,Q e a' J'->kY P w0 d g J' i->J'.lock=0->TR P g a' h->K e.toExit h i)->c.wp P K A w
variable{c b x y z:Code}{a a' a2:bK}{J J' J2:aC}{Q R:fM->bK->aC->Prop}
def AT.mono(h:AT P c a J R)(d:∀e a' J',R e a' J'->Q e a' J'):AT P c a J Q:=
 λw0 g F w A K i j k l=>h w0 g F w A K i j k λe a' J' m n o p=>l e a' J' m n o (d _ _ _ p)
def ads(P:Program)(y:Code)(Q:fM->bK->aC->Prop):fM->bK->aC->Prop
 |.normal,a,J=>AT P y a J Q
 |e,a,J=>Q e a J
def AT.seq(h:AT P x a J (ads P y Q)):AT P (.seq x y) a J Q:=by
 intro w0 o F w A K p q s j;refine wp_seq ?_;refine h w0 o F w A _ p q s ?_;intro e a' J' k l m n d g i;cases e with
 |normal=>exact n w0 o k m l K d g i j
 |exit id=>exact j _ a' J' k l m n d g i
 |ret=>exact j _ a' J' k l m n d g i
def AT.cond{o:Operand}{t:Bool}(e:dB (a.eval o)=some (.b t))(h:AT P (if t then y else z) a J Q):AT P (.cond o y z) a J Q:=by intro w0 k F w A K g l i m;obtain⟨n,e,d⟩:=Jt e;have j:=d _ _ (QS g.rel i o _ e);simp only[VR]at j;exact wp_cond j (h w0 k F w A K g l i m)
def Jd(id:Nat)(Q:fM->bK->aC->Prop):fM->bK->aC->Prop
 |.exit d,a,J=>if d=id then Q .normal a J else Q (.exit d) a J
 |e,a,J=>Q e a J
def AT.block{id:Nat}(h:AT P b a J (Jd id Q)):AT P (.block id b) a J Q:=by
 intro w0 p F w A K q s t k;refine wp_block ?_;refine h w0 p F w A _ q s t ?_;intro e a' J' l m n j d g i;cases e with
 |normal=>exact k .normal a' J' l m n j d g i
 |ret=>exact k .ret a' J' l m n j d g i
 |exit o=>
  simp only[Jd]at j;simp only[fM.toExit,Exit.inBlock];split at j
  ·next e=>rw[au e];exact k .normal a' J' l m n j d g i
  ·next e=>rw[aj e];exact k (.exit o) a' J' l m n j d g i
def D7(P:Program)(b:Code)(a:bK)(J:aC)(Q:fM->bK->aC->Prop):Prop:=
 ∀w0 d F w A K,kY P w0 d F J w->J.lock=0->TR P F a A->(∀e a' J' g h i,Q e a' J'->kY P w0 d g J' i->J'.lock=0->TR P g a' h->K e.toExit h i)->BX P b K A w
def D7.at(h:D7 P b a J Q):AT P (.loop b) a J Q:=
 λw0 d F w A K e g i j=>(h w0 d F w A K e g i j).loop
def abJ(P:Program)(b:Code)(Q:fM->bK->aC->Prop):fM->bK->aC->Prop
 |.normal,a,J=>D7 P b a J Q
 |e,a,J=>Q e a J
def D7.step(h:AT P b a J (abJ P b Q)):D7 P b a J Q:=by
 intro w0 o F w A K p q s j;refine BX.step ?_;refine h w0 o F w A _ p q s ?_;intro e a' J' k l m n d g i;cases e with
 |normal=>exact n w0 o k m l K d g i j
 |exit id=>exact j _ a' J' k l m n d g i
 |ret=>exact j _ a' J' k l m n d g i
def AT.run{run:Code->bK->aC->Option (fM×bK×aC)}(k:PY P run){e:fM}(h:run c a J=some (e,a',J'))(l:Q e a' J'):AT P c a J Q:=by intro w0 s F w A K i j m n;refine k c a J e a' J' h F w A K i.rel m ?_;intro o p q d g;exact n e a' J' o p q l (i.step j d) (d.lock.trans j) g
end
inductive AC where
 |plain (c:Code)
 |seq (x y:AC)
 |cond (o:Operand) (y z:AC)
 |block (id:Nat) (b:AC)
 |loop (k:Nat) (b:Code)
 |peel (x:AC) (k:Nat) (b:Code)
def AC.erase:AC->Code
 |.plain c=>c
 |.seq x y=>.seq x.erase y.erase
 |.cond o y z=>.cond o y.erase z.erase
 |.block id b=>.block id b.erase
 |.loop _ b=>.loop b
 |.peel _ _ b=>.loop b
def AC.Good:AC->Prop
 |.plain _=>True
 |.seq x y=>x.Good/\y.Good
 |.cond _ y z=>y.Good/\z.Good
 |.block _ b=>b.Good
 |.loop _ _=>True
 |.peel x _ b=>x.erase=b/\x.Good
def ng(ps:Q4):Code->Nat->AC×Nat
 |.seq x y,n=>match ng ps x n with
  |(a,d)=>match ng ps y d with
   |(b,e)=>(.seq a b,e)
 |.cond o y z,n=>match ng ps y n with
  |(a,d)=>match ng ps z d with
   |(b,e)=>(.cond o a b,e)
 |.block id b,n=>match ng ps b n with
  |(a,d)=>(.block id a,d)
 |.loop b,n=>if ps.contains (2*n+1)then(.plain (.loop b),n+1)else match ng ps b (n+1)with
  |(x,d)=>if ps.contains (2*n)then(.peel x n b,d)else(.loop n b,n+1)
 |c,n=>(.plain c,n)
def oI(ps:Q4)(c:Code):AC:=(ng ps c 0).1
def zU(ps:Q4):∀(c:Code)(n:Nat),(ng ps c n).1.erase=c/\(ng ps c n).1.Good
 |.seq x y,n=>by have h1:=zU ps x n;have d:=zU ps y (ng ps x n).2;simp only[ng,AC.erase,AC.Good];exact⟨by rw[h1.1,d.1],h1.2,d.2⟩
 |.cond o y z,n=>by have h1:=zU ps y n;have d:=zU ps z (ng ps y n).2;simp only[ng,AC.erase,AC.Good];exact⟨by rw[h1.1,d.1],h1.2,d.2⟩
 |.block id b,n=>by have h1:=zU ps b n;simp only[ng,AC.erase,AC.Good];exact⟨by rw[h1.1],h1.2⟩
 |.loop b,n=>by
  have h1:=zU ps b (n+1);simp only[ng];split
  ·exact⟨rfl,trivial⟩
  ·split
   ·exact⟨rfl,h1.1,h1.2⟩
   ·exact⟨rfl,trivial⟩
 |.skip,_|.region _ _ _,_|.rangeFunc _ _ _ _,_|.exit _,_|.scope _,_|.label _,_|.goto _,_|.ret,_|.refuse _,_=>⟨rfl,trivial⟩
def AC.qE(k:Nat)(b:Code):AC->Prop
 |.plain _=>False
 |.seq x y=>x.qE k b\/y.qE k b
 |.cond _ y z=>y.qE k b\/z.qE k b
 |.block _ x=>x.qE k b
 |.loop d e=>d=k/\e=b
 |.peel x d e=>(d=k/\e=b)\/x.qE k b
abbrev Zf:=Nat->bK->aC->Option (fM×bK×aC)
def yt[iD](d:Zf)(run:Code->bK->aC->Option (fM×bK×aC)):AC->bK->aC->Option (fM×bK×aC)
 |.plain c,a,J=>run c a J
 |.seq x y,a,J=>match yt d run x a J with
  |some (.normal,a',J')=>yt d run y a' J'
  |r=>r
 |.cond o y z,a,J=>match dB (a.eval o)with
  |some (.b t)=>if t then yt d run y a J else yt d run z a J
  |_=>none
 |.block id b,a,J=>match yt d run b a J with
  |some (.exit e,a',J')=>if e=id then some (.normal,a',J')else some (.exit e,a',J')
  |r=>r
 |.loop k _,a,J=>d k a J
 |.peel x k _,a,J=>match yt d run x a J with
  |some (.normal,a',J')=>d k a' J'
  |r=>r
def Zw[aJ]{L:Zf}{run:Code->bK->aC->Option (fM×bK×aC)}(M:PY P run):∀(n:AC),n.Good->(∀k b,n.qE k b->∀a J e a' J',L k a J=some (e,a',J')->∀Q:fM->bK->aC->Prop,Q e a' J'->D7 P b a J Q)->
 ∀(a:bK)(J:aC)(e:fM)(a':bK)(J':aC),yt L run n a J=some (e,a',J')->∀Q:fM->bK->aC->Prop,Q e a' J'->AT P n.erase a J Q:=by
 intro n;induction n with
 |plain c=>intro i j a J e a' J' h Q d;exact AT.run M h d
 |loop k b=>intro i j a J e a' J' h Q d;exact(j k b ⟨rfl,rfl⟩ a J e a' J' h Q d).at
 |peel x k b p=>
  intro i j a J e a' J' h Q d;simp only[yt]at h;refine D7.at (D7.step ?_);obtain⟨rfl,i⟩:=i;split at h
  ·next q s u=>
   exact p i (λB D g=>j B D (.inr g)) a J _ q s u (abJ P x.erase Q) (j k _ (.inl ⟨rfl,rfl⟩) q s e a' J' h Q d)
  ·next l=>
   refine p i (λB D g=>j B D (.inr g)) a J e a' J' h (abJ P x.erase Q) ?_;cases e with
   |normal=>exact absurd h (by intro v;exact l _ _ v)
   |exit id=>exact d
   |ret=>exact d
 |seq x y A m=>
  intro i j a J e a' J' h Q d;simp only[yt]at h;split at h
  ·next q s u=>
   exact AT.seq (A i.1 (λk b g=>j k b (.inl g)) a J _ q s u (ads P y.erase Q) (m i.2 (λk b g=>j k b (.inr g)) q s e a' J' h Q d))
  ·next l=>
   refine AT.seq (A i.1 (λk b g=>j k b (.inl g)) a J e a' J' h (ads P y.erase Q) ?_);cases e with
   |normal=>exact absurd h (by intro v;exact l _ _ v)
   |exit id=>exact d
   |ret=>exact d
 |cond o y z m E=>
  intro i j a J e a' J' h Q d;simp only[yt]at h;split at h
  ·next t N=>
   refine AT.cond N ?_;cases t with
   |true=>exact m i.1 (λk b g=>j k b (.inl g)) a J e a' J' h Q d
   |false=>exact E i.2 (λk b g=>j k b (.inr g)) a J e a' J' h Q d
  ·cases h
 |block id b p=>
  intro i j a J e a' J' h Q d;simp only[yt]at h;split at h
  ·next H q s u=>
   split at h
   ·next I=>
    cases h;exact AT.block (p i (λk b g=>j k b g) a J _ _ _ u (Jd id Q) (by simp only[Jd];rw[au I];exact d))
   ·next I=>
    cases h;exact AT.block (p i (λk b g=>j k b g) a J _ _ _ u (Jd id Q) (by simp only[Jd];rw[aj I];exact d))
  ·next l=>
   refine AT.block (p i (λk b g=>j k b g) a J e a' J' h (Jd id Q) ?_);cases e with
   |normal=>exact d
   |exit H=>exact absurd h (by intro v;exact l _ _ _ v)
   |ret=>exact d
def DY:Qt->Value
 |[v]=>v
 |l=>.tuple ⟨l⟩
structure yZ(tabs:QQ)(ro:QP)(w:World):Prop where
 at':∀b o,ro b=some o->w.heap[b]? =some o
 tab:∀p∈tabs,∃cs elem fr,ro p.1=some (.cells cs elem fr)/\p.2.length<=cs.size/\Zl p.2 cs
structure F9(ro ro':QP)(w w':World):Prop where
 kept:Kept w w'
 le:∀b o,ro b=some o->ro' b=some o
 new:∀b,ro' b≠none->ro b≠none\/w.heap.size<=b
 at':∀b o,ro' b=some o->w'.heap[b]? =some o
def yJ:W8->List Value->List Value
 |none::st,v::vs=>v::yJ st vs
 |none::_,[]=>[]
 |some g::st,vs=>.func (.func g) ⟨[]⟩ ⟨[]⟩::yJ st vs
 |[],vs=>vs
def yI:W8->List AV->List AV
 |none::st,v::vs=>v::yI st vs
 |none::_,[]=>[]
 |some g::st,vs=>.fn g [] []::yI st vs
 |[],vs=>vs
def DV:W8->List AV->Option Q6
 |[],l=>some l
 |none::st,a::l=>(DV st l).map (a::·)
 |some g::st,.fn d [] []::l=>if d=g then DV st l else none
 |_,_=>none
def anl(P:Program)(tabs:QQ)(f:FuncId)(st:W8)(gs e:Q3):Prop:=∀g w h,yZ tabs g w->aT g gs h->lY P f ⟨yJ st h⟩ w λv j=>∃d,F9 g d w j/\∃i,v=DY i/\aT d e i
section
variable[aJ]
def YG{F:Env}:∀{st:W8}{l r:Q6}{vs:Qt},DV st l=some r->aG F l vs->∃d,vs=yJ st d/\aG F r d
 |[],l,r,vs,h,i=>by simp only[DV,bf]at h;subst h;exact⟨vs,rfl,i⟩
 |none::st,[],r,vs,h,i=>by simp[DV]at h
 |none::st,a::l,r,vs,h,i=>by simp only[DV,bG]at h;obtain⟨u,h1,rfl⟩:=h;obtain⟨x,p,rfl,k,j⟩:=i;obtain⟨d,rfl,m⟩:=YG h1 j;exact⟨x::d,rfl,aG.cons k m⟩
 |some g::st,[],r,vs,h,i=>by simp[DV]at h
 |some g::st,a::l,r,vs,h,i=>by
  unfold DV at h;split at h
  ·next e=>cases e
  ·next e _=>cases e
  ·next g0 q v A s t=>
   cases s;cases t;split at h
   ·next e=>
    subst e;obtain⟨x,p,rfl,k,j⟩:=i;obtain⟨d,rfl,m⟩:=YG h j;simp only[VR]at k;obtain⟨B,D,rfl,n,o⟩:=k;simp only[aG]at n o;subst n;subst o;exact⟨d,rfl,m⟩
   ·cases h
  ·cases h
def XO{F:Env}:∀{st:W8}{l:Q6}{vs:Qt},aG F l vs->aG F (yI st l) (yJ st vs)
 |[],l,vs,d=>d
 |none::st,[],vs,d=>by simp only[aG]at d;subst d;simp[yI,yJ,aG]
 |none::st,a::l,vs,d=>by obtain⟨x,xs,rfl,h,e⟩:=d;exact aG.cons h (XO e)
 |some g::st,l,vs,d=>aG.cons (by simp only[VR];exact⟨[],[],rfl,by simp[aG],by simp[aG]⟩) (XO d)
def SR.X3{F:Env}{J:aC}{w:World}(h:SR P F J w):yZ aJ.tabs F.ro w:=⟨h.jl,h.tabs⟩
def St.ajY{F:Env}{J:aC}{w w':World}{ro':QP}(h:SR P F J w)(k:F9 F.ro ro' w w'):St P F J w ⟨F.pl,ro',F.gh⟩ J w':=by
 have d:(F:Env).le ⟨F.pl,ro',F.gh⟩:=⟨λ_ _ h=>h,k.le,λ_ h=>h⟩
 refine⟨d,⟨h.nR,h.dom,λid o m=>?_,h.kH,h.sep,k.at',λid o q j a2 l=>?_,λp n=>(h.tabs p n).mono d⟩,k.kept.size,λs g _=>k.kept.keep s g,λid o q h1 t u v=>.inr ⟨id,o,q,h1,t,u,v,rfl⟩,k.kept.os,k.kept.tape,k.kept.output,rfl,dK _,λ_ h=>.inl h,λb g=>?_⟩
 ·exact((h.live id o m).heap λq _ i=>k.kept.keep _ i.lt).mono d
 ·have i:=h.at j (show F id=some q from l);cases e:ro' q.bl with
  |none=>exact e
  |some A=>
   rcases k.new q.bl (by rw[e];simp)with h1|h1
   ·exact absurd (h.lU id o q j a2 l) h1
   ·have:=i.lt;omega
 ·rcases k.new b g with h1|h1
  ·exact .inl h1
  ·exact .inr (.inl h1)
end
@[reducible] def Tg(tabs:QQ)(gs:Q3)(ka:Nat):aJ:={nodes:=[],dec:=[],ka:=ka,tabs:=tabs,I:=λ_ _=>none,val:=λn=>gs[n]?,tH:=by intro n d h;simp at h,CX:=by intro n b h;simp at h}
def qU{α:Type}:List (Nat×α)->Tr α
 |[]=>.nil
 |(k,v)::l=>(qU l).set k (some v)
def Sl{α:Type}:∀{l:List (Nat×α)}{k:Nat}{v:α},(qU l).get k=some v->(k,v)∈l
 |[],k,v,h=>by simp[qU]at h
 |(j,u)::l,k,v,h=>by
  rw[qU,Tr.wE]at h;split at h
  ·next e=>cases h;subst e;simp
  ·exact yU _ (Sl h)
structure iK where
 np:Nat
 n:Nat
 gn:Nat
 next:Nat
 slots:Wr
 objs:XS
 ka:Nat:=0
 al:List W3:=[]
abbrev K2:=List (fM×iK)
def xP(tabs:QQ):XS:=tabs.map λp=>(p.1,.cells p.2 0 false false)
def iK.act(s:iK):bK:=⟨qU s.slots,s.n,s.gn⟩
def iK.st(tabs:QQ)(s:iK):aC:=⟨qU (s.objs++xP tabs),s.next,0⟩
def Us(P:Program)(tabs:QQ)(s:iK)(gs:Q3)(w0:Base)(d:QP)(A:Act)(w:World):Prop:=∃F,@kY (Tg tabs gs s.ka) P w0 d F (s.st tabs) w/\@TR (Tg tabs gs s.ka) P F s.act A
def dW{α:Type}(k:Nat):List (Nat×α)->Option α
 |[]=>none
 |p::l=>bif Nat.beq k p.1 then some p.2 else dW k l
def V9{α:Type}{k:Nat}{v:α}:∀{l:List (Nat×α)},dW k l=some v->(k,v)∈l
 |[],h=>by simp[dW]at h
 |p::l,h=>by
  simp only[dW]at h;cases d:Nat.beq k p.1 with
  |true=>rw[d]at h;simp only[cond_true,bf]at h;rw[bQ d,<-h];simp
  |false=>rw[d]at h;simp only[cond_false]at h;exact yU _ (V9 h)
def DC(r:Wa)(i:Nat)(x:W3):Bool:=
 match dW i r,x with
 |some (some a),some b=>Nat.beq a b
 |some none,none=>true
 |_,_=>false
section
variable[iD]
def Oh(m:Nat):Bool:=match iD.nodes[m]? with
 |some (.ml [])=>true
 |_=>false
def V7(P:Program)(J:aC)(fz:Q4)(a:AV)(m:Nat):Bool:=
 match a with
 |.sv id n=>fz.contains id&&match J.get id with
  |some (.vec e _ _)=>Nat.beq e m&&xM 100 e n
  |_=>false
 |.sl id g len h=>fz.contains id&&match J.get id with
  |some (.cells c i true j)=>(match listOf P J i (.sl id g len h),sizeT P i with
   |some e,some d=>Nat.beq e m&&Nat.blt 0 d
   |_,_=>false)
  |_=>false
 |_=>false
def capEq:W3->Option Nat->Bool
 |none,none=>true
 |some a,some b=>Nat.beq a b
 |_,_=>false
mutual
def mV(P:Program)(G:Nat)(J:aC)(fz:Q4)(r:Wa)(ps:Q4):AV->AV->Bool
 |.nd j,a=>match ps[j]? with
  |some m=>(match jy a with
   |some h=>Nat.beq m h
   |none=>false) ||V7 P J fz a m
  |none=>false
 |.sv i j,a=>match ps[j]? with
  |some m=>match a with
   |.sv id n=>Nat.blt G i&&DC r i (some id)&&xM 100 m n
   |.gX=>Nat.blt G i&&DC r i none&&Oh m
   |_=>false
  |none=>false
 |.p i off,a=>match a with
  |.p id d=>Nat.beq off d&&(if i<=G then Nat.beq i id else DC r i (some id))
  |_=>false
 |.rx j off,a=>match a with
  |.rx m d=>Nat.beq off d&&(match ps[j]? with|some h=>Nat.beq m h|none=>false)
  |_=>false
 |.fn f fi cs,a=>match a with
  |.fn s o p=>Nat.beq f s&&Dp P G J fz r ps fi o&&Dp P G J fz r ps cs p
  |_=>false
 |.agg l,a=>match a with
  |.agg q=>Dp P G J fz r ps l q
  |_=>false
 |.fG l,a=>match a with
  |.fG q=>Dp P G J fz r ps l q
  |_=>false
 |.jE t x,a=>match a with
  |.jE u v=>Nat.beq t u&&mV P G J fz r ps x v
  |_=>false
 |.b x,a=>match a with|.b y=>(bif x then y else !y)|_=>false
 |.i k n,a=>match a with|.i A B=>Nat.beq (kc k) (kc A)&&JL n B|_=>false
 |.s x,a=>match a with|.s y=>CU x y|_=>false
 |.kC,a=>match a with|.kC=>true|_=>false
 |.gX,a=>match a with|.gX=>true|_=>false
 |.Ai,a=>match a with|.Ai=>true|_=>false
 |.vF,a=>match a with|.vF=>true|_=>false
 |.qQ,a=>match a with|.qQ=>true|_=>false
 |.mp i,a=>match a with
  |.mp id=>Nat.blt G i&&DC r i (some id)
  |_=>false
 |.sl i off len cap,a=>match a with
  |.sl id d e g=>Nat.blt G i&&DC r i (some id)&&(Nat.beq off d&&(Nat.beq len e&&capEq cap g))
  |_=>false
 |_,_=>false
def Dp(P:Program)(G:Nat)(J:aC)(fz:Q4)(r:Wa)(ps:Q4):Q6->List AV->Bool
 |[],l=>match l with|[]=>true|_=>false
 |a::l,m=>match m with
  |b::d=>mV P G J fz r ps a b&&Dp P G J fz r ps l d
  |[]=>false
end
def mO(P:Program)(G:Nat)(J:aC)(fz:Q4)(r:Wa)(ps:Q4)(i:Nat)(o:bM):Bool:=
 match dW i r with
 |some (some id)=>!(fz.contains id)&&match o with
  |.cells l e q g=>match J.get id with
   |some (.cells c h d p)=>Nat.beq e h&&(bif q then d else !d)&&(bif g then p else !p)&&Dp P G J fz r ps l c
   |_=>false
  |.vec j e f=>match J.get id with
   |some (.vec m h s)=>Nat.beq e h&&(!f ||s)&&(match ps[j]? with|some k=>Nat.beq m k|none=>false)
   |_=>false
  |.smap j t u=>match J.get id with
   |some (.smap m v n)=>Ob t v&&Tz u n&&(match ps[j]? with|some k=>Nat.beq m k|none=>false)
   |some (.map [])=>(match ps[j]? with|some m=>Oh m|none=>false)
   |_=>false
  |.map []=>(match J.get id with
   |some (.map [])=>true
   |_=>false)
  |_=>false
 |some none=>match o with
  |.vec j _ _=>(match ps[j]? with|some m=>Oh m|none=>false)
  |_=>false
 |none=>false
def Xm(P:Program)(G:Nat)(J:aC)(fz:Q4)(r:Wa)(ps:Q4)(t:Tr AV):Wr->Bool
 |[]=>true
 |p::l=>(match t.get p.1 with|some v=>mV P G J fz r ps p.2 v|none=>false)&&Xm P G J fz r ps t l
def Og(P:Program)(G next:Nat)(J:aC)(fz:Q4)(r:Wa)(ps:Q4):XS->Bool
 |[]=>true
 |p::l=>Nat.blt G p.1&&Nat.blt p.1 next&&mO P G J fz r ps p.1 p.2&&Og P G next J fz r ps l
def Qd(r:Wa):Nat->Nat->Bool
 |_,0=>true
 |i,n+1=>DC r (i+1) (some (i+1))&&Qd r (i+1) n
def KR:Wa->Bool
 |[]=>true
 |p::l=>(match p.2 with
  |some a=>l.all λq=>match q.2 with|some b=>!(Nat.beq a b)|none=>true
  |none=>true)&&KR l
def abK(P:Program)(s:iK)(a:bK)(J:aC)(fz:Q4)(r:Wa)(ps:Q4):Bool:=
 Nat.beq s.ka iD.ka&&Nat.blt (s.gn+s.ka) s.next&&Qd r s.gn s.ka&&Nat.beq s.n a.n&&Nat.beq s.gn a.gn&&Nat.blt s.gn s.next&&KR r&&Xm P s.gn J fz r ps a.t s.slots&&Og P s.gn s.next J fz r ps s.objs
end
def kills(J:aC):Q4->aC
 |[]=>J
 |id::l=>(kills J l).kill id
def EN{J:aC}{k:Nat}:∀{l:Q4},(kills J l).get k=if k∈l then none else J.get k
 |[]=>by simp[kills]
 |id::l=>by
  rw[kills,aC.Ad,EN];by_cases h:k=id
  ·simp[h]
  ·simp[h]
def N9{J:aC}:∀l:Q4,(kills J l).lock=J.lock
 |[]=>rfl
 |_::l=>N9 l
def abx{J:aC}:∀l:Q4,(kills J l).next=J.next
 |[]=>rfl
 |_::l=>abx l
section
variable[aJ]
def V5{w0:Base}{H:QP}{F:Env}{J:aC}{w:World}(I:kY P w0 H F J w)(A:J.lock=0):∀fz:Q4,∃dG,(∀b o,F.ro b=some o->dG b=some o)/\kY P w0 H ⟨F.pl,dG,F.gh⟩ (kills J fz) w/\
 (∀id∈fz,∀o q,J.get id=some o->o.own=true->F id=some q->dG q.bl=w.heap[q.bl]?)
 |[]=>⟨F.ro,λ_ _ h=>h,I,aA⟩
 |id::fz=>by
  obtain⟨dG,h1,l,B⟩:=V5 I A fz;by_cases L:∃o q,(kills J fz).get id=some o/\o.own=true/\F id=some q
  ·obtain⟨o,q,O,p,M⟩:=L;have D:=St.freeze l.rel O p (by rw[N9,A];exact sG _) (show(⟨F.pl,dG,F.gh⟩:Env) id=some q from M);have E:=l.step (by rw[N9,A]) D;refine⟨Ic dG w q.bl,λb o U=>XY l.rel.jl q.bl b o (h1 b o U),E,?_⟩;intro i m s n j d g;show(if n.bl=q.bl then w.heap[q.bl]? else dG n.bl)=_
   split
   ·next e=>rw[e]
   ·next e=>
    rcases bJ.1 m with rfl|m
    ·rw[M]at g;cases g;exact absurd rfl e
    ·exact B i m s n j d g
  ·refine⟨dG,h1,⟨l.rel.sub (λk u t=>?_) (dK _),l.kept,λk u q v a2 W=>?_,l.wO,l.rW,l.uo⟩,?_⟩
   ·rw[kills,aC.Ad]at t;split at t;cases t;exact t
   ·rw[kills,aC.Ad]at v;split at v;cases v;exact l.own k u q v a2 W
   ·intro i m s n j d g;rcases bJ.1 m with rfl|m
    ·by_cases N:i∈fz
     ·exact B i N s n j d g
     ·exact absurd ⟨s,n,by rw[EN,aj N];exact j,d,g⟩ L
    ·exact B i m s n j d g
end
def Iq{val:Wc}:∀{ps:Q4}{gs:Q3},valsOf val ps=some gs->∀{j m:Nat},ps[j]? =some m->gs[j]? =val m/\∃g,val m=some g
 |[],gs,h,j,m,d=>by simp at d
 |p::ps,gs,h,j,m,d=>by
  simp only[valsOf]at h;split at h
  ·next g r h1 e=>
   cases h;cases j with
   |zero=>simp at d;subst d;exact⟨by simp[h1],g,h1⟩
   |succ j=>simpa using Iq e (j:=j) (by simpa using d)
  ·cases h
def SN{r:Wa}{i id:Nat}(h:DC r i (some id)=true):dW i r=some (some id):=by
 unfold DC at h;split at h
 ·next a b e d=>cases d;rw[e,bQ h]
 ·next e d=>cases d
 ·cases h
def aAs{r:Wa}{i:Nat}(h:DC r i none=true):dW i r=some none:=by
 unfold DC at h;split at h
 ·next a b d e=>cases e
 ·next d e=>exact d
 ·cases h
def BQ(tabs:QQ)(i:Nat):Nat:=match dW i tabs with
 |some c=>c.length
 |none=>0
def vw(tabs:QQ)(G next:Nat)(r:Wa)(F:Env)(dG:QP):Env where
 pl:=λi=>if i<=G then some ⟨i,0,BQ tabs i,0⟩else if i<next then match dW i r with
  |some (some id)=>F id
  |_=>none
  else none
 ro:=dG
 gh:=λi=>decide (G<i)&&decide (i<next)&&match dW i r with
  |some (some id)=>F.gh id
  |some none=>true
  |none=>false
structure wY(T:aJ)(P:Program)(tabs:QQ)(G next:Nat)(F:Env)(J:aC)(w:World)(fz:Q4)(r:Wa)(ps:Q4)(gs:Q3)(dG:QP):Prop where
 rel:@SR T P F J w
 vals:valsOf T.val ps=some gs
 wO:∀b o,F.ro b=some o->dG b=some o
 uY:∀id∈fz,∀o q,J.get id=some o->o.own=true->F id=some q->dG q.bl=w.heap[q.bl]?
 gn:G=P.globals.size
 lt:G<next
variable{T:aJ}{ka:Nat}{tabs:QQ}{G next:Nat}{F:Env}{J:aC}{w:World}{fz:Q4}{r:Wa}{ps:Q4}{gs:Q3}{dG:QP}
def Hy{i id:Nat}(g:G<i)(d:i<next)(e:dW i r=some (some id)):(vw tabs G next r F dG) i=F id:=by
 show(if i<=G then some (⟨i,0,BQ tabs i,0⟩:Place)else if i<next then _ else none)=_
 rw[aj ah,au d,e]
def Xl{i:Nat}(d:i<=G):(vw tabs G next r F dG) i=some ⟨i,0,BQ tabs i,0⟩:=by
 show(if i<=G then some (⟨i,0,BQ tabs i,0⟩:Place)else _)=_
 rw[au d]
def ajn{i id:Nat}(d:G<i)(e:i<next)(g:dW i r=some (some id)):(vw tabs G next r F dG).gh i=F.gh id:=by
 show(decide (G<i)&&decide (i<next)&&_)=_
 rw[g];simp[d,e]
def ajo{i:Nat}(d:G<i)(e:i<next)(g:dW i r=some none):(vw tabs G next r F dG).gh i=true:=by
 show(decide (G<i)&&decide (i<next)&&_)=_
 rw[g];simp[d,e]
def ahD(C:wY T P tabs G next F J w fz r ps gs dG){a:AV}{m:Nat}{v:Value}(h:@V7 T.toiD P J fz a m=true)(I:@VR T F a v){g:GV}(Y:T.val m=some g):g.scalar=true/\GR dG g v:=by
 letI:=T
 unfold V7 at h;split at h
 ·next id n=>
  rw[aO]at h;obtain⟨h1,h⟩:=h;have t:id∈fz:=by simpa using h1
  split at h
  ·next W et f o=>
   rw[aO]at h;have e:=bQ h.1;subst e;simp only[VR]at I;obtain⟨ys,X,I⟩:=I;rcases I with⟨q,j,u,rfl⟩|⟨Z,rfl,rfl⟩
   ·have A:=C.rel.at o j;obtain⟨xs,x1,x2,x3,x4,x5,x6,x7,x8⟩:=A.Oi;have L:T.val W=some (.l xs):=x1;rw[Y]at L;cases L;have p:=Ak 100 h.2 x1 X;refine⟨rfl,?_⟩;have aa:=Jp x2;have:=GR.abZ (ro':=dG) (off:=0) (n:=ys.length) (size:=q.es) (cap:=q.sz/q.es) (cs:=bW xs) (gs:=xs) x8 C.wO (C.uY id t _ q o rfl j) (by unfold takeN;rw[dY,<-p,lS ah,au aa]) p u x4 (λx hx=>⟨x2 x hx,x7 x hx⟩) (λF' vs D l=>by unfold bW at l⊢;exact(qC _ _).1 (aT.mono D _ _ ((qC _ _).2 l)))
    simpa using this
   ·rcases C.rel.live id _ o with⟨q,j,_⟩|⟨_,n2,ai,f2,e2,ab⟩
    ·rw[(C.rel.kH id Z).1]at j;cases j
    ·cases e2;have WO:T.val W=some (.l []):=ab;rw[Y]at WO;cases WO;exact⟨rfl,by simp[GR]⟩
  ·cases h
 ·next id k len B=>
  rw[aO]at h;obtain⟨h1,h⟩:=h;have t:id∈fz:=by simpa using h1
  split at h
  ·next c et ak o=>
   split at h
   ·next W d i ac=>
    rw[aO]at h;have e:=bQ h.1;subst e;have h0:0<d:=by have:=h.2;rwa [jM]at this
    simp only[VR]at I;obtain⟨q,j,u,rfl⟩:=I;unfold listOf at i;simp only[o,ac]at i;split at i
    ·next c' Jw al Sv ad ae e1 e2 ha=>
     cases e1;cases e2;split at i
     ·next hc=>
      rw[aO,oV,aO]at hc;split at i
      ·next cs E=>
       split at i
       ·next ns M=>
        have s:ae=false->d=1:=by
         intro e;subst e;rcases hc.2 with h1|h1
         ·simp at h1
         ·exact bQ h1
        obtain⟨g',g1,g2⟩:=iq i;have N:T.val W=some g':=g1;rw[Y]at N;cases N;have A:=C.rel.at o j;obtain⟨ws,ag,fr,hb,rr⟩:=A;have O:=(uJ E).2.1;have af:=rr.Ar E;obtain⟨gl,X,k2,k3,k4,H⟩:=GN (F:=F) s len M af O;simp only[Nd.den,X,iH,bf]at g2;subst g2;refine⟨rfl,?_⟩;have:=GR.abZ (ro':=dG) (off:=k) (n:=len) (size:=d) (cap:=B.getD ((q.sz-k)/q.es)) (cs:=cs) (gs:=gl) (C.rel.at o j) C.wO (C.uY id t _ q o rfl j) E k2 u h0 H (λF' vs D l=>by obtain⟨am,U,an,WS,_⟩:=GN (F:=F) s len M l O;rw[X]at U;cases U;unfold bW at WS⊢;exact(qC _ _).1 (aT.mono D _ _ ((qC _ _).2 WS)))
        exact this
       ·cases i
      ·cases i
     ·cases i
    ·cases i
   ·cases h
  ·cases h
 ·cases h
def aoq:∀{a b:W3},capEq a b=true->a=b
 |none,none,_=>rfl
 |some _,some _,h=>uD some (bQ h)
 |none,some _,h=>by cases h
 |some _,none,h=>by cases h
mutual
def abL(C:wY T P tabs G next F J w fz r ps gs dG):∀(p a:AV)(v:Value),p.under next=true->@mV T.toiD P G J fz r ps p a=true->@VR T F a v->@VR (Tg tabs gs ka) (vw tabs G next r F dG) p v
 |.nd j,a,v,o,h,d=>by
  letI:=T
  simp only[mV]at h;split at h
  ·next m X=>
   obtain⟨E,g,u⟩:=Iq C.vals X;simp only[VR];refine⟨g,by show gs[j]? =_;rw[E,u],?_⟩;rw[oV]at h;rcases h with h|h
   ·split at h
    ·next m' aa=>
     have e:=bQ h;subst e;obtain⟨g',s,I,k3⟩:=nK aa d;have A:T.val m=some g':=s;rw[u]at A;cases A;exact⟨I,GR.mono C.wO _ _ k3⟩
    ·cases h
   ·exact ahD C h d u
  ·cases h
 |.sv i j,a,v,o,h,d=>by
  letI:=T
  simp only[AV.under,jM]at o;simp only[mV]at h;split at h
  ·next m X=>
   obtain⟨E,g,u⟩:=Iq C.vals X;split at h
   ·next id n=>
    rw[aO,aO,jM]at h;obtain⟨⟨L,U⟩,H⟩:=h;have hr:=SN U;simp only[VR]at d⊢;obtain⟨xs,s,d⟩:=d;have hx:∃W,g=.l W/\W.length=xs.length:=by obtain⟨W,rfl⟩:=aDa 100 H u s;exact⟨W,rfl,Ak 100 H u s⟩
    obtain⟨W,rfl,B⟩:=hx;refine⟨W,by show gs[j]? =_;rw[E,u],?_⟩;rcases d with⟨q,M,D,rfl⟩|⟨ab,rfl,rfl⟩
    ·exact .inl ⟨q,by rw[Hy L o hr];exact M,by rw[B];exact D,by rw[B]⟩
    ·exact .inr ⟨by rw[ajn L o hr];exact ab,jT (by simpa using B),rfl⟩
   ·rw[aO,aO,jM]at h;obtain⟨⟨L,U⟩,H⟩:=h;have hr:=aAs U;simp only[VR]at d⊢;unfold Oh at H;split at H
    ·next hn=>
     obtain⟨g',s,I⟩:=T.tH m _ hn aA;rw[u]at s;cases s;simp only[Nd.den,valsOf,iH,bf]at I;subst I;exact⟨[],by show gs[j]? =_;rw[E,u],.inr ⟨ajo L o hr,rfl,d⟩⟩
    ·cases H
   ·cases h
  ·cases h
 |.p i Y,a,v,o,h,d=>by
  letI:=T
  simp only[AV.under,jM]at o;simp only[mV]at h;split at h
  ·next id N=>
   rw[aO]at h;have e:=bQ h.1;subst e;simp only[VR]at d⊢;obtain⟨q,M,rfl⟩:=d;split at h
   ·next D=>
    have e:=bQ h.2;subst e;obtain⟨sz,es,hg⟩:=C.rel.nR i (by rw[<-C.gn];exact D);rw[M]at hg;cases hg;exact⟨_,Xl D,rfl⟩
   ·next D=>exact⟨q,by rw[Hy ah o (SN h.2)];exact M,rfl⟩
  ·cases h
 |.rx j Y,a,v,o,h,d=>by
  letI:=T
  simp only[mV]at h;split at h
  ·next m N=>
   rw[aO]at h;have e:=bQ h.1;subst e;split at h
   ·next m' X=>
    have e:=bQ h.2;subst e;obtain⟨E,g,u⟩:=Iq C.vals X;simp only[VR]at d⊢;obtain⟨g',bl,base,cs,Z,fr,x,s,I,k3,k4,k5⟩:=d;have A:T.val m=some g':=s;rw[u]at A;cases A;exact⟨g,bl,base,cs,Z,fr,x,by show gs[j]? =_;rw[E,u],C.wO _ _ I,GR.mono C.wO _ _ k3,k4,k5⟩
   ·simp at h
  ·cases h
 |.fn f fi cs,a,v,o,h,d=>by
  letI:=T
  simp only[AV.under,aO]at o;simp only[mV]at h;split at h
  ·next f' ac ad=>
   rw[aO,aO]at h;obtain⟨⟨L,U⟩,H⟩:=h;have e:=bQ L;subst e;simp only[VR]at d⊢;obtain⟨us,O,rfl,s,I⟩:=d;exact⟨us,O,rfl,Hz C fi ac us o.1 U s,Hz C cs ad O o.2 H I⟩
  ·cases h
 |.agg l,a,v,o,h,d=>by
  letI:=T
  simp only[AV.under]at o;simp only[mV]at h;split at h
  ·next l'=>simp only[VR]at d⊢;obtain⟨O,rfl,s⟩:=d;exact⟨O,rfl,Hz C l l' O o h s⟩
  ·cases h
 |.fG l,a,v,o,h,d=>by
  letI:=T
  simp only[AV.under]at o;simp only[mV]at h;split at h
  ·next l'=>simp only[VR]at d⊢;obtain⟨O,rfl,s⟩:=d;exact⟨O,rfl,Hz C l l' O o h s⟩
  ·cases h
 |.jE t x,a,v,o,h,d=>by
  letI:=T
  simp only[AV.under]at o;simp only[mV]at h;split at h
  ·next t' x'=>
   rw[aO]at h;have e:=bQ h.1;subst e;simp only[VR]at d⊢;obtain⟨y,rfl,s⟩:=d;exact⟨y,rfl,abL C x x' y o h.2 s⟩
  ·cases h
 |.b x,a,v,o,h,d=>by
  letI:=T
  simp only[mV]at h;split at h
  ·next y=>have:=U1.1 h;subst this;simp only[VR]at d⊢;exact d
  ·cases h
 |.i k n,a,v,o,h,d=>by
  letI:=T
  simp only[mV]at h;split at h
  ·next k' n'=>
   rw[aO]at h;have E:=WU h.1;have u:=aiE h.2;subst E;subst u;simp only[VR]at d⊢;exact d
  ·cases h
 |.s x,a,v,o,h,d=>by
  letI:=T
  simp only[mV]at h;split at h
  ·next y=>have:=ZO h;subst this;simp only[VR]at d⊢;exact d
  ·cases h
 |.kC,a,v,o,h,d=>by letI:=T;simp only[mV]at h;split at h;(simp only[VR]at d⊢;exact d);cases h
 |.gX,a,v,o,h,d=>by letI:=T;simp only[mV]at h;split at h;(simp only[VR]at d⊢;exact d);cases h
 |.Ai,a,v,o,h,d=>by letI:=T;simp only[mV]at h;split at h;(simp only[VR]at d⊢;exact d);cases h
 |.vF,a,v,o,h,d=>by letI:=T;simp only[mV]at h;split at h;(simp only[VR]at d⊢;exact d);cases h
 |.qQ,a,v,o,h,d=>by letI:=T;simp only[mV]at h;split at h;(simp only[VR]at d⊢;exact d);cases h
 |.sl i Y len ag,a,v,o,h,d=>by
  letI:=T
  simp only[AV.under,jM]at o;simp only[mV]at h;split at h
  ·next id N ae af=>
   simp only[aO,jM]at h;obtain⟨⟨L,U⟩,H,h4,h5⟩:=h;have E:=bQ H;have u:=bQ h4;have e3:=aoq h5;subst E;subst u;subst e3;simp only[VR]at d⊢;obtain⟨q,M,s,rfl⟩:=d;exact⟨q,by rw[Hy L o (SN U)];exact M,s,rfl⟩
  ·cases h
 |.mp i,a,v,o,h,d=>by
  letI:=T
  simp only[AV.under,jM]at o;simp only[mV]at h;split at h
  ·next id=>
   rw[aO,jM]at h;simp only[VR]at d⊢;obtain⟨q,M,rfl⟩:=d;exact⟨q,by rw[Hy h.1 o (SN h.2)];exact M,rfl⟩
  ·cases h
 |.z _ _ _,_,_,_,h,_=>by simp[mV]at h
 |.ro _,_,_,_,h,_=>by simp[mV]at h
 |.rp _ _,_,_,_,h,_=>by simp[mV]at h
 |.pv _ _ _,_,_,_,h,_=>by simp[mV]at h
 |.pd _ _,_,_,_,h,_=>by simp[mV]at h
def Hz(C:wY T P tabs G next F J w fz r ps gs dG):∀(p a:Q6)(v:Qt),AV.qW next p=true->@Dp T.toiD P G J fz r ps p a=true->@aG T F a v->@aG (Tg tabs gs ka) (vw tabs G next r F dG) p v
 |[],a,v,e,h,d=>by
  letI:=T
  simp only[Dp]at h;split at h
  ·simp only[aG]at d⊢;exact d
  ·cases h
 |p::l,a,v,e,h,d=>by
  letI:=T
  simp only[AV.qW,aO]at e;simp only[Dp]at h;split at h
  ·next b i=>
   rw[aO]at h;simp only[aG]at d⊢;obtain⟨x,g,rfl,j,k⟩:=d;exact⟨x,g,rfl,abL C p b x e.1 h.1 j,Hz C l i g e.2 h.2 k⟩
  ·cases h
end
def ajq{t:Tr AV}[iD]:∀{l:Wr},Xm P G J fz r ps t l=true->∀k p,(k,p)∈l->∃v,t.get k=some v/\mV P G J fz r ps p v=true
 |[],_,k,p,hk=>by simp at hk
 |q::l,h,k,p,hk=>by
  simp only[Xm,aO]at h;rcases bJ.1 hk with e|hk
  ·subst e;have h1:=h.1;split at h1
   ·next v d=>exact⟨v,d,h1⟩
   ·cases h1
  ·exact ajq h.2 k p hk
def ajp[iD]:∀{l:XS},Og P G next J fz r ps l=true->∀i o,(i,o)∈l->G<i/\i<next/\mO P G J fz r ps i o=true
 |[],_,i,o,hk=>by simp at hk
 |q::l,h,i,o,hk=>by
  simp only[Og,aO,jM]at h;rcases bJ.1 hk with e|hk
  ·subst e;exact⟨h.1.1.1,h.1.1.2,h.1.2⟩
  ·exact ajp h.2 i o hk
def adb:∀{r:Wa},KR r=true->∀i j a,dW i r=some (some a)->dW j r=some (some a)->i=j
 |[],_,i,j,a,h1,_=>by simp[dW]at h1
 |p::l,h,i,j,a,h1,d=>by
  simp only[KR,aO]at h;simp only[dW]at h1 d;cases e:Nat.beq i p.1<;>cases g:Nat.beq j p.1<;>rw[e]at h1<;>rw[g]at d<;>simp only[cond_true,cond_false,bf]at h1 d
  ·exact adb h.2 i j a h1 d
  ·have m:=V9 h1;have k:=h.1;rw[d]at k;have:=List.all_eq_true.1 k _ m;simp at this
  ·have m:=V9 d;have k:=h.1;rw[h1]at k;have:=List.all_eq_true.1 k _ m;simp at this
  ·rw[bQ e,bQ g]
def aw4(C:wY T P tabs G next F J w fz r ps gs dG){i:Nat}{o:bM}(hG:G<i)(hn:i<next)(hb:CS next o=true)(h:@mO T.toiD P G J fz r ps i o=true):
 @Live (Tg tabs gs ka) P (vw tabs G next r F dG) w i o/\(∀id,dW i r=some (some id)->id∉fz/\∃o',J.get id=some o'/\o'.own=o.own):=by
 letI:=T
 unfold mO at h;split at h
 ·next id B=>
  rw[aO]at h;obtain⟨h1,h⟩:=h;have u:id∉fz:=by intro D;rw[aeD.2 D]at h1;simp at h1
  have v:(vw tabs G next r F dG) i=F id:=Hy hG hn B;split at h
  ·next l Z wP ae=>
   split at h
   ·next c Jw am Sv p=>
    rw[aO,aO,aO]at h;obtain⟨⟨⟨h2,h3⟩,E⟩,h5⟩:=h;have s:=bQ h2;have A:=U1.1 h3;have e3:=U1.1 E;subst s;subst A;subst e3;refine⟨?_,λH t=>by rw[B]at t;cases t;exact⟨u,_,p,rfl⟩⟩;obtain⟨q,I,cs,n,fr,af,L⟩:=C.rel.obj _ _ p rfl;refine .inl ⟨q,by rw[v];exact I,cs,n,fr,af,?_⟩;have aa:@aG T F c ((cs.toList.drop q.ba).take c.length):=by have al:=L.fits;have an:=L.le;refine aG.of (by simp;omega) λk a M=>?_;obtain⟨x,hx,hv⟩:=L.cell k a M;have ab:=(fV.1 M).1;exact⟨x,by rw[mW,au ab,uh];simpa using hx,hv⟩
    have ac:=Hz (ka:=ka) C l c _ hb h5 aa;have U:l.length=c.length:=by have h6:=@aG.length (Tg tabs gs ka) _ _ _ ac;have h7:=aa.length;omega
    exact @uO.mk (Tg tabs gs ka) P (vw tabs G next r F dG) q l Z wP ae cs n fr L.fits (by rw[U];exact L.le) (λe=>by rw[U];exact L.shut e) (λk a M=>by obtain⟨x,hx,hv⟩:=@aG.at (Tg tabs gs ka) _ _ _ ac k a M;have ab:=(fV.1 M).1;rw[mW,au ah,uh]at hx;exact⟨x,by simpa using hx,hv⟩) L.free L.whole L.room
   ·cases h
  ·next j Z f=>
   split at h
   ·next m Jw f' p=>
    rw[aO,aO]at h;obtain⟨⟨h2,h3⟩,E⟩:=h;have s:=bQ h2;subst s;refine⟨?_,λH t=>by rw[B]at t;cases t;exact⟨u,_,p,rfl⟩⟩;split at E
    ·next m' D=>
     have e:=bQ E;subst e;obtain⟨s,g,A⟩:=Iq C.vals D;rcases C.rel.live id _ p with⟨q,I,ag⟩|⟨ai,n2,ao,f2,e3,ak⟩
     ·obtain⟨xs,cs,n,fr,ys,N,O,k3,k4,k5,k6,k7,k8,k9⟩:=ag;have W:T.val m=some (.l xs):=N;refine .inl ⟨q,by rw[v];exact I,xs,cs,n,fr,ys,by show gs[j]? =_;rw[s,W],O,aT.mono C.wO _ _ k3,k4,k5,k6,@uO.mk (Tg tabs gs ka) P (vw tabs G next r F dG) q [] Z true true cs n fr k7.fits k7.le k7.shut (λk a M=>by simp at M) k7.free k7.whole k7.room,k8,λe=>k9 ?_⟩;rw[e]at h3;simpa using h3
     ·cases e3;have WO:T.val m=some (.l []):=ak;exact .inr ⟨by rw[ajn hG hn B];exact ai,j,Z,f,rfl,by show gs[j]? =_;rw[s,WO]⟩
    ·simp at E
   ·cases h
  ·next j kk sz=>
   split at h
   ·next m EO ap p=>
    rw[aO,aO]at h;obtain⟨⟨h2,h3⟩,E⟩:=h;have s:=WZ h2;have A:=adO h3;subst s;subst A;refine⟨?_,λH t=>by rw[B]at t;cases t;exact⟨u,_,p,rfl⟩⟩;split at E
    ·next m' D=>
     have e:=bQ E;subst e;obtain⟨s,g,A⟩:=Iq C.vals D;obtain⟨q,I,xs,ms,d,N,O,k3⟩:=C.rel.obj _ _ p rfl;have W:T.val m=some (.l xs):=N;exact .inl ⟨q,by rw[v];exact I,xs,ms,d,by show gs[j]? =_;rw[s,W],O,k3.mono C.wO⟩
    ·simp at E
   ·next p=>
    refine⟨?_,λH t=>by rw[B]at t;cases t;exact⟨u,_,p,rfl⟩⟩;split at h
    ·next m D=>
     obtain⟨s,g,A⟩:=Iq C.vals D;unfold Oh at h;split at h
     ·next X=>
      obtain⟨g',N,O⟩:=T.tH m _ X aA;rw[A]at N;cases N;simp only[Nd.den,valsOf,iH,bf]at O;subst O;obtain⟨q,I,ms,d,hb,Y,_⟩:=C.rel.obj _ _ p rfl;refine .inl ⟨q,by rw[v];exact I,[],ms,d,by show gs[j]? =_;rw[s,A],hb,?_⟩;simp only[uP];have:ms.size=0:=by simpa using Y
      simpa using aef this
     ·cases h
    ·simp at h
   ·cases h
  ·split at h
   ·next p=>
    refine⟨?_,λH t=>by rw[B]at t;cases t;exact⟨u,_,p,rfl⟩⟩;obtain⟨q,I,ms,d,hb,Y,_⟩:=C.rel.obj _ _ p rfl;exact .inl ⟨q,by rw[v];exact I,ms,d,hb,Y,λk e M=>by simp at M⟩
   ·cases h
  ·cases h
 ·next B=>
  refine⟨?_,λid ad=>by rw[B]at ad;cases ad⟩;split at h
  ·next j Z f=>
   split at h
   ·next m D=>
    obtain⟨s,g,A⟩:=Iq C.vals D;unfold Oh at h;split at h
    ·next X=>
     obtain⟨g',N,O⟩:=T.tH m _ X aA;rw[A]at N;cases N;simp only[Nd.den,valsOf,iH,bf]at O;subst O;exact .inr ⟨ajo hG hn B,j,Z,f,rfl,by show gs[j]? =_;rw[s,A]⟩
    ·cases h
   ·cases h
  ·cases h
 ·cases h
end
noncomputable section
variable{P:Program}
variable{T:aJ}{tabs:QQ}{G next:Nat}{F:Env}{J:aC}{w:World}{fz:Q4}{r:Wa}{ps:Q4}{gs:Q3}{dG:QP}
def Gp(n:Nat):Wr->Bool
 |[]=>true
 |p::l=>p.2.under n&&Gp n l
def afx{n:Nat}:∀{l:Wr},Gp n l=true->∀k p,(k,p)∈l->p.under n=true
 |[],_,k,p,h=>by simp at h
 |q::l,h,k,p,hk=>by
  simp only[Gp,aO]at h;rcases bJ.1 hk with e|hk
  ·subst e;exact h.1
  ·exact afx h.2 k p hk
def iK.ok(s:iK):Bool:=Nat.blt s.gn s.next&&Gp s.next s.slots&&s.objs.all λp=>CS s.next p.2
structure xk(tabs:QQ)(G:Nat):Prop where
 low:∀p∈tabs,p.1<=G
 one:∀p∈tabs,dW p.1 tabs=some p.2
def aEI(T:aJ){F:Env}{a:AV}{v:Value}(h:a.toVal 4=some v):@VR T F a v:=@amr T F 4 a v h
def abO{ka:Nat}{s:iK}(Z:T.tabs=tabs)(v:xk tabs P.globals.size)(JI:s.objs.all (λp=>CS s.next p.2)=true)(h3:s.gn<s.next)(aa:s.gn=P.globals.size)
 (C:wY T P tabs s.gn s.next F J w fz r ps gs dG) (f1:∀b o,dG b=some o->w.heap[b]? =some o) (f2:∀id o q,id∉fz->J.get id=some o->o.own=true->F id=some q->dG q.bl=none) (h4:KR r=true) (h6:@Og T.toiD P s.gn s.next J fz r ps s.objs=true):
 @SR (Tg tabs gs ka) P (vw tabs s.gn s.next r F dG) (s.st tabs) w/\(∀i o q,(s.st tabs).get i=some o->o.own=true->(vw tabs s.gn s.next r F dG) i=some q->∃id o',dW i r=some (some id)/\id∉fz/\J.get id=some o'/\o'.own=true/\F id=some q):=by
 letI:=T
 have obj:∀i o,(s.st tabs).get i=some o->(s.gn<i/\i<s.next/\@Live (Tg tabs gs ka) P (vw tabs s.gn s.next r F dG) w i o/\(∀id,dW i r=some (some id)->id∉fz/\∃o',J.get id=some o'/\o'.own=o.own))\/
  (i<=s.gn/\∃c,o=.cells c 0 false false/\(i,c)∈tabs):=by
  intro i o hi;have d:=Sl hi;rcases iP.1 d with d|d
  ·obtain⟨O,E,g3⟩:=ajp h6 i o d;have hb:=List.all_eq_true.1 JI _ d;obtain⟨H,g5⟩:=aw4 C O E hb g3;exact .inl ⟨O,E,H,g5⟩
  ·obtain⟨p,U,e⟩:=su.1 d;cases e;exact .inr ⟨by rw[aa];exact v.low p U,p.2,rfl,U⟩
 have own:∀i o q,(s.st tabs).get i=some o->o.own=true->(vw tabs s.gn s.next r F dG) i=some q->∃id o',dW i r=some (some id)/\id∉fz/\J.get id=some o'/\o'.own=true/\F id=some q:=by
  intro i o q hi ho hq;rcases obj i o hi with⟨O,E,_,H⟩|⟨_,c,rfl,_⟩
  ·have j:(if i<=s.gn then some ⟨i,0,BQ tabs i,0⟩else if i<s.next then(match dW i r with|some (some id)=>F id|_=>none)else none)=some q:=hq;rw[aj ah,au E]at j;split at j
   ·next id m=>
    obtain⟨t,o',n,A⟩:=H id m;exact⟨id,o',m,t,n,A.trans ho,j⟩
   ·cases j
  ·cases ho
 have ab:∀p∈tabs,@Gf (vw tabs s.gn s.next r F dG) p.1 p.2:=by intro p U;obtain⟨I,l,L,t,n⟩:=C.rel.tabs p (by rw[Z];exact U);exact⟨I,l,L,C.wO _ _ t,n⟩
 refine⟨@SR.mk (Tg tabs gs ka) P _ _ w ?_ ?_ ?_ ?_ ?_ ?_ ?_ ?_,own⟩
 ·intro g hg;exact⟨_,_,Xl ah⟩
 ·intro i q hq;have j:(if i<=s.gn then some ⟨i,0,BQ tabs i,0⟩else if i<s.next then(match dW i r with|some (some id)=>F id|_=>none)else none)=some q:=hq;show i<s.next
  split at j
  ·omega
  ·split at j
   ·next h=>exact h
   ·cases j
 ·intro i o hi;rcases obj i o hi with⟨_,_,g3,_⟩|⟨D,c,rfl,d⟩
  ·exact g3
  ·obtain⟨I,l,L,t,n,A⟩:=C.rel.tabs (i,c) (by rw[Z];exact d);have hb:=C.rel.jl _ _ t;have ac:BQ tabs i=c.length:=by unfold BQ;rw[v.one (i,c) d]
   refine .inl ⟨⟨i,0,BQ tabs i,0⟩,Xl D,I,l,L,hb,?_⟩;refine @uO.mk (Tg tabs gs ka) P _ _ c 0 false false I l L (by simp only at n⊢;omega) (by simp only;omega) (λ_=>by simp only;omega) (λk a hk=>?_) (λh=>by cases h) (λh=>absurd rfl h) (λh=>by cases h);obtain⟨x,hx,hv⟩:=A.1 k a hk;exact⟨x,by simpa using hx,@Ut.vr (Tg tabs gs ka) _ _ _ hv⟩
 ·intro i hg;have M:(decide (s.gn<i)&&decide (i<s.next)&&(match dW i r with|some (some id)=>F.gh id|some none=>true|none=>false))=true:=hg;rw[aO,aO,decide_eq_true_iff,decide_eq_true_iff]at M;obtain⟨⟨t,n⟩,A⟩:=M;refine⟨?_,n⟩;show(if i<=s.gn then some ⟨i,0,BQ tabs i,0⟩else if i<s.next then(match dW i r with|some (some id)=>F id|_=>none)else none)=none
  rw[aj ah,au n];split at A
  ·next id m=>rw[m];exact(C.rel.kH id A).1
  ·next m=>rw[m]
  ·cases A
 ·intro i o B o' q q' a1 a2 a3 a4 a5 a6;obtain⟨id,u,b1,b2,W,X,Y⟩:=own i o q a1 a2 a5;rcases obj B o' a3 with⟨O,E,_,H⟩|⟨D,c,rfl,d⟩
  ·have j:(if B<=s.gn then some ⟨B,0,BQ tabs B,0⟩else if B<s.next then(match dW B r with|some (some id)=>F id|_=>none)else none)=some q':=a6;rw[aj ah,au E]at j;split at j
   ·next N kJ=>
    obtain⟨t,u',n,A⟩:=H N kJ;exact C.rel.sep id u N u' q q' W X n (λe=>a4 (by subst e;exact adb h4 i B id b1 kJ)) Y j
   ·cases j
  ·intro e;rw[Xl D]at a6;cases a6;obtain⟨I,l,L,t,_⟩:=C.rel.tabs (B,c) (by rw[Z];exact d);have:=C.rel.lU id u q W X Y;simp only at e;rw[e]at this;rw[t]at this;cases this
 ·exact f1
 ·intro i o q a1 a2 a3;obtain⟨id,u,b1,b2,W,X,Y⟩:=own i o q a1 a2 a3;exact f2 id u q b2 W X Y
 ·exact ab
def ZC{r:Wa}:∀{n i:Nat},Qd r i n=true->∀j,i<j->j<=i+n->dW j r=some (some j)
 |0,i,_,j,h1,d=>ah
 |n+1,i,h,j,h1,d=>by
  simp only[Qd,aO]at h;by_cases e:j=i+1
  ·subst e;exact SN h.1
  ·exact ZC h.2 j ah ah
def abN{w0:Base}{m:QP}{a:bK}{A:Act}{s:iK}(X:T.tabs=tabs)(g:xk tabs P.globals.size)(d:s.ok=true)(h:@kY T P w0 m F J w)(Y:J.lock=0)(j:@TR T P F a A)(n:@abK T.toiD P s a J fz r ps=true)(t:valsOf T.val ps=some gs):Us P tabs s gs w0 m A w:=by
 letI:=T
 unfold abK at n;simp only[aO,jM]at n;obtain⟨⟨⟨⟨⟨⟨⟨⟨B,k2⟩,Z⟩,h1⟩,h2⟩,O⟩,h4⟩,h5⟩,h6⟩:=n;have B:=bQ B;have e1:=bQ h1;have e2:=bQ h2;unfold iK.ok at d;rw[aO,aO]at d;obtain⟨⟨_,D⟩,JI⟩:=d;have e:s.gn=P.globals.size:=by rw[e2];exact j.gn
 obtain⟨dG,f1,l,f3⟩:=V5 h Y fz;have C:wY T P tabs s.gn s.next F J w fz r ps gs dG:=⟨h.rel,t,f1,f3,e,O⟩
 obtain⟨hS,own⟩:=abO (ka:=s.ka) X g JI O e C l.rel.jl (λid o q U E H I=>l.rel.lU id o q (by rw[EN,aj U];exact E) H I) h4 h6;refine⟨vw tabs s.gn s.next r F dG,?_,?_⟩
 ·refine @kY.mk (Tg tabs gs s.ka) P w0 m _ _ w hS h.kept ?_ ?_ ?_ ?_
  ·intro i o q L a2 M;obtain⟨id,u,b1,U,E,H,I⟩:=own i o q L a2 M;exact h.own id u q E H I
  ·exact l.wO
  ·exact l.rW
  ·intro i q hi;obtain⟨L,a2,M⟩:=h.uo i q hi;have N:i<=P.globals.size+s.ka:=by rw[B];exact M
   refine⟨?_,a2,N⟩;rw[Hy ah ah (ZC Z i ah ah)];exact L
 ·refine @TR.mk (Tg tabs gs s.ka) P _ _ A ?_ ?_ j.none ?_
  ·exact e
  ·show A.tmps.size=s.n
   rw[e1];exact j.size
  ·intro k p W;obtain⟨v,v1,v2⟩:=ajq h5 k p (Sl W);obtain⟨x,hx,hv⟩:=j.slot k v v1;exact⟨x,hx,abL C p v x (afx D k p (Sl W)) v2 hv⟩
end
noncomputable section
variable{P:Program}
mutual
def AV.fJ(f:Nat->Nat):AV->AV
 |.nd j=>.nd (f j)
 |.rx j off=>.rx (f j) off
 |.sv id j=>.sv id (f j)
 |.pv id j off=>.pv id (f j) off
 |.pd id j=>.pd id (f j)
 |.fn g fi cs=>.fn g (AV.rQ f fi) (AV.rQ f cs)
 |.jE t a=>.jE t (a.fJ f)
 |.agg l=>.agg (AV.rQ f l)
 |.fG l=>.fG (AV.rQ f l)
 |.ro l=>.ro (AV.rQ f l)
 |.rp a off=>.rp (a.fJ f) off
 |a=>a
def AV.rQ(f:Nat->Nat):Q6->List AV
 |[]=>[]
 |a::l=>a.fJ f::AV.rQ f l
end
def Xn(f:Nat->Nat):∀l:Q6,AV.rQ f l=l.map (AV.fJ f)
 |[]=>rfl
 |a::l=>by simp[AV.rQ,Xn f l]
def bM.fJ(f:Nat->Nat):bM->bM
 |.cells c et rw opn=>.cells (AV.rQ f c) et rw opn
 |.iter s pos=>.iter s pos
 |.map es=>.map (es.map λe=>(e.1.fJ f,e.2.fJ f))
 |.iterM m=>.iterM m
 |.vec j et b=>.vec (f j) et b
 |.smap j d sz=>.smap (f j) d sz
 |.pmap es=>.pmap (es.map λe=>(e.1,e.2.fJ f))
def bM.axa(f:Nat->Nat)(o:bM):(o.fJ f).own=o.own:=by cases o<;>rfl
section
variable{S T:aJ}{f:Nat->Nat}{F:Env}
mutual
def VR.fJ(h:∀j g,S.val j=some g->T.val (f j)=some g):∀(a:AV)(v:Value),@VR S F a v->@VR T F (a.fJ f) v
 |.b _,_,d=>by simpa only[VR,AV.fJ]using d
 |.i _ _,_,d=>by simpa only[VR,AV.fJ]using d
 |.s _,_,d=>by simpa only[VR,AV.fJ]using d
 |.kC,_,d=>by simpa only[VR,AV.fJ]using d
 |.p _ _,_,d=>by simpa only[VR,AV.fJ]using d
 |.gX,_,d=>by simpa only[VR,AV.fJ]using d
 |.sl _ _ _ _,_,d=>by simpa only[VR,AV.fJ]using d
 |.qQ,_,d=>by simpa only[VR,AV.fJ]using d
 |.mp _,_,d=>by simpa only[VR,AV.fJ]using d
 |.Ai,_,d=>by simpa only[VR,AV.fJ]using d
 |.fn _ fi cs,_,d=>by simp only[VR,AV.fJ]at d⊢;obtain⟨B,vs,e,h1,m⟩:=d;exact⟨B,vs,e,aG.fJ h fi B h1,aG.fJ h cs vs m⟩
 |.vF,_,d=>by simpa only[VR,AV.fJ]using d
 |.jE _ a,_,d=>by simp only[VR,AV.fJ]at d⊢;obtain⟨x,e,h1⟩:=d;exact⟨x,e,VR.fJ h a x h1⟩
 |.agg l,_,d=>by simp only[VR,AV.fJ]at d⊢;obtain⟨x,e,h1⟩:=d;exact⟨x,e,aG.fJ h l x h1⟩
 |.fG l,_,d=>by simp only[VR,AV.fJ]at d⊢;obtain⟨x,e,h1⟩:=d;exact⟨x,e,aG.fJ h l x h1⟩
 |.z _ _ _,_,d=>by simpa only[VR,AV.fJ]using d
 |.ro l,_,d=>by
  simp only[VR,AV.fJ]at d⊢;have D:(AV.rQ f l).length=l.length:=by rw[Xn];simp
  rcases d with⟨rfl,d⟩|⟨s,u,c,o,E,e,H,h1,m,t⟩
  ·exact .inl ⟨rfl,d⟩
  ·rw[D];exact .inr ⟨s,u,c,o,E,e,H,aG.fJ h l o h1,m,λI=>t (by intro L;apply I;rw[L];rfl)⟩
 |.rp a _,_,d=>by simp only[VR,AV.fJ]at d⊢;obtain⟨s,base,cs,n,A,x,h1,m,t⟩:=d;exact⟨s,base,cs,n,A,x,h1,VR.fJ h a x m,t⟩
 |.nd _,_,d=>by simp only[VR,AV.fJ]at d⊢;obtain⟨g,h1,m⟩:=d;exact⟨g,h _ _ h1,m⟩
 |.rx _ _,_,d=>by simp only[VR,AV.fJ]at d⊢;obtain⟨g,s,base,cs,n,A,x,h1,m⟩:=d;exact⟨g,s,base,cs,n,A,x,h _ _ h1,m⟩
 |.sv _ _,_,d=>by simp only[VR,AV.fJ]at d⊢;obtain⟨o,h1,m⟩:=d;exact⟨o,h _ _ h1,m⟩
 |.pv _ _ _,_,d=>by simp only[VR,AV.fJ]at d⊢;obtain⟨q,k,i,h1,m,t⟩:=d;exact⟨q,k,i,h1,h _ _ m,t⟩
 |.pd _ _,_,d=>by simp only[VR,AV.fJ]at d⊢;obtain⟨o,p,h1,m⟩:=d;exact⟨o,p,h _ _ h1,m⟩
def aG.fJ(h:∀j g,S.val j=some g->T.val (f j)=some g):∀(l:Q6)(vs:Qt),@aG S F l vs->@aG T F (AV.rQ f l) vs
 |[],_,d=>by simpa only[aG,AV.rQ]using d
 |a::l,_,d=>by simp only[aG,AV.rQ]at d⊢;obtain⟨x,xs,e,h1,i⟩:=d;exact⟨x,xs,e,VR.fJ h a x h1,aG.fJ h l xs i⟩
end
def OR.fJ(h:∀j g,S.val j=some g->T.val (f j)=some g){q:Place}{w:World}{o:bM}(r:@OR S P F q w o):@OR T P F q w (o.fJ f):=by
 cases o with
 |cells c A wP B=>
  obtain⟨n,i,p,t,⟨r1,r2,r3,r4,D,E,H⟩⟩:=r;have hl:(AV.rQ f c).length=c.length:=by rw[Xn];simp
  refine⟨n,i,p,t,@uO.mk T P F q _ A wP B n i p r1 (by rw[hl];exact r2) (λe=>by rw[hl];exact r3 e) (λk a l=>?_) D E H⟩;rw[Xn,iO]at l;obtain⟨a0,u,rfl⟩:=bG.1 l;obtain⟨x,hx,hv⟩:=r4 k a0 u;exact⟨x,hx,VR.fJ h a0 x hv⟩
 |iter s pos=>exact r
 |map es=>obtain⟨v,d,t,u,I⟩:=r;refine⟨v,d,t,by simpa using u,λk e l=>?_⟩;rw[iO]at l;obtain⟨L,M,rfl⟩:=bG.1 l;obtain⟨m,N,O,U⟩:=I k L M;exact⟨m,N,VR.fJ h _ _ O,VR.fJ h _ _ U⟩
 |iterM m=>cases m<;>exact r
 |smap j kk sz=>obtain⟨W,v,d,X,Y,Z⟩:=r;exact⟨W,v,d,h _ _ X,Y,Z⟩
 |pmap es=>obtain⟨hn,v,d,aa,t,hp,u,I⟩:=r;refine⟨by simpa[List.map_map,Function.comp_def]using hn,v,d,aa,t,hp,by simpa using u,λk e l=>?_⟩;rw[iO]at l;obtain⟨L,M,rfl⟩:=bG.1 l;obtain⟨m,N,O,U⟩:=I k L M;exact⟨m,N,O,VR.fJ h _ _ U⟩
 |vec j A b=>obtain⟨W,n,i,p,ys,X,Y,Z,k4,k5,k6,⟨r1,r2,r3,r4,D,E,H⟩,k8⟩:=r;exact⟨W,n,i,p,ys,h _ _ X,Y,Z,k4,k5,k6,@uO.mk T P F q [] A true true n i p r1 r2 r3 (λk a l=>by simp at l) D E H,k8⟩
def Live.fJ(h:∀j g,S.val j=some g->T.val (f j)=some g){w:World}{i:Nat}{o:bM}(r:@Live S P F w i o):@Live T P F w i (o.fJ f):=by
 rcases r with⟨q,d,e⟩|⟨k,n,l,b,rfl,m⟩
 ·exact .inl ⟨q,d,OR.fJ h e⟩
 ·exact .inr ⟨k,f n,l,b,rfl,h _ _ m⟩
end
def KE{α:Type}:∀(l:List (Nat×α))(k:Nat),(qU l).get k=dW k l
 |[],k=>by simp[qU,dW]
 |(j,u)::l,k=>by
  rw[qU,Tr.wE,dW];cases d:Nat.beq k j with
  |true=>rw[au (bQ d)];rfl
  |false=>rw[aj (λe=>by rw[e,Nat.beq_refl]at d;cases d)];exact KE l k
def aaP{α β:Type}(g:α->β):∀(l:List (Nat×α))(m:List (Nat×β))(d:List (Nat×α))(k:Nat)(o:β),dW k (l.map (λp=>(p.1,g p.2))++m)=some o->(∃o0,dW k (l++d)=some o0/\o=g o0)\/(dW k m=some o/\(∀o',dW k d=some o'->dW k (l++d)=some o'))
 |[],m,d,k,o,h=>.inr ⟨h,λo' i=>i⟩
 |p::l,m,d,k,o,h=>by
  simp only[iU,bg,dW]at h⊢;cases e:Nat.beq k p.1 with
  |true=>rw[e]at h;simp only[cond_true,bf]at h⊢;exact .inl ⟨p.2,rfl,h.symm⟩
  |false=>rw[e]at h;simp only[cond_false]at h⊢;exact aaP g l m d k o h
def iK.UL(s:iK)(f:Nat->Nat):bK:=⟨qU (s.slots.map λp=>(p.1,p.2.fJ f)),s.n,s.gn⟩
def iK.FK(tabs:QQ)(s:iK)(f:Nat->Nat):aC:=⟨qU (s.objs.map (λp=>(p.1,p.2.fJ f))++xP tabs),s.next,0⟩
def ahB{T:aJ}{tabs:QQ}{s:iK}{gs:Q3}{f:Nat->Nat}{w0:Base}{w:World}{M:QP}{F:Env}(wH:T.tabs=tabs)(N:T.ka=s.ka)(hf:∀j g,gs[j]? =some g->T.val (f j)=some g)(h:@kY (Tg tabs gs s.ka) P w0 M F (s.st tabs) w):
 @kY T P w0 M F (s.FK tabs f) w:=by
 obtain⟨⟨O,A,l,U,B,W,X,n⟩,v,D,Y,Z,aa⟩:=h;have ab:∀j g,(Tg tabs gs s.ka).val j=some g->T.val (f j)=some g:=hf;have obj:∀i o,(s.FK tabs f).get i=some o->(∃o0,(s.st tabs).get i=some o0/\o=o0.fJ f)\/(∃c,o=.cells c 0 false false/\(i,c)∈tabs/\(s.st tabs).get i=some o):=by
  intro i o hi;have ac:dW i (s.objs.map (λp=>(p.1,p.2.fJ f))++xP tabs)=some o:=(KE _ i).symm.trans hi;rcases aaP (bM.fJ f) s.objs (xP tabs) (xP tabs) i o ac with⟨o0,d,h2⟩|⟨d,h2⟩
  ·exact .inl ⟨o0,(KE _ i).trans d,h2⟩
  ·have hm:=V9 d;obtain⟨p,hp,e⟩:=su.1 hm;cases e;exact .inr ⟨p.2,rfl,hp,(KE _ _).trans (h2 _ d)⟩
 have own:∀i o,(s.FK tabs f).get i=some o->∃o0,(s.st tabs).get i=some o0/\o0.own=o.own:=by
  intro i o hi;rcases obj i o hi with⟨o0,d,rfl⟩|⟨c,rfl,_,d⟩
  ·exact⟨o0,d,(bM.axa f o0).symm⟩
  ·exact⟨_,d,rfl⟩
 refine @kY.mk T P w0 M _ _ w (@SR.mk T P _ _ w O A ?_ U ?_ W ?_ ?_) v ?_ Y Z (by rw[N];exact aa)
 ·intro i o hi;rcases obj i o hi with⟨o0,d,rfl⟩|⟨c,rfl,hm,d⟩
  ·exact Live.fJ ab (l i o0 d)
  ·rcases l i _ d with⟨q,hq,cs,t,fr,hb,⟨r1,r2,r3,r4,r5,r6,r7⟩⟩|⟨_,_,_,_,e,_⟩
   rotate_left
   ·cases e
   obtain⟨ae,Jv,JA,k1,k2,k3⟩:=n (i,c) hm;refine .inl ⟨q,hq,cs,t,fr,hb,@uO.mk T P _ _ c 0 false false cs t fr r1 r2 r3 (λk a hk=>?_) r5 r6 r7⟩;obtain⟨x,hx,hv⟩:=r4 k a hk;obtain⟨y,hy,m⟩:=k3.1 k a hk;rcases m with m|⟨_,_,_,_,rfl,rfl,_,_⟩
   ·have:x=y:=@ams (Tg tabs gs s.ka) _ 4 a y x m hv;subst this;exact⟨x,hx,aEI T m⟩
   ·exact⟨x,hx,by simpa only[VR]using hv⟩
 ·intro i o i' o' q q' E a2 H a4 a5 a6;obtain⟨u,I,L⟩:=own i o E;obtain⟨u',ad,af⟩:=own i' o' H;exact B i u i' u' q q' I (L.trans a2) ad a4 a5 a6
 ·intro i o q E a2 H;obtain⟨u,I,L⟩:=own i o E;exact X i u q I (L.trans a2) H
 ·rw[wH];exact n
 ·intro i o q E a2 H;obtain⟨u,I,L⟩:=own i o E;exact D i u q I (L.trans a2) H
def ady{T:aJ}{tabs:QQ}{s:iK}{gs:Q3}{f:Nat->Nat}{w0:Base}{w:World}{t:QP}{A:Act}(D:T.tabs=tabs)(e:T.ka=s.ka)(u:∀j g,gs[j]? =some g->T.val (f j)=some g)(h:Us P tabs s gs w0 t A w):
 ∃F,@kY T P w0 t F (s.FK tabs f) w/\@TR T P F (s.UL f) A:=by
 obtain⟨F,E,⟨i,l,m,n⟩⟩:=h;have o:∀j g,(Tg tabs gs s.ka).val j=some g->T.val (f j)=some g:=u;refine⟨F,ahB D e u E,@TR.mk T P _ _ A i l m ?_⟩
 ·intro k v H;have q:dW k (s.slots.map (λp=>(p.1,p.2.fJ f))++[])=some v:=by rw[lQ];exact(KE _ k).symm.trans H
  rcases aaP (AV.fJ f) s.slots [] [] k v q with⟨B,d,rfl⟩|⟨d,_⟩
  ·rw[lQ]at d;obtain⟨x,I,L⟩:=n k B ((KE _ k).trans d);exact⟨x,I,VR.fJ o B x L⟩
  ·simp[dW]at d
