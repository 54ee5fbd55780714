/- Loops by contract: the step that the evaluator takes at a loop, and how a loop's contract is proved. -/
import Derived.Test.YtboioicpmmipfaaGreatDoorAbsI
import Derived.ChangeArms
import Derived.Deep.Slices
import Derived.Carry
import Derived.ProofKit
import Derived.OpenShut
import Derived.Deep.DeepHandedRow
set_option linter.all false
namespace Go.aP
noncomputable section
variable{P:Program}
structure US where
 r:W8
 p:WF
 fz:Q2
def US.JB(u:US)(j m:Nat):US:=match dV j u.p with
 |some _=>u
 |none=>{u with p:=(j,m)::u.p}
def US.Qo(u:US)(i:Nat)(x:W2):US:=match dV i u.r with
 |some _=>u
 |none=>{u with r:=(i,x)::u.r}
section
variable[iM]
def OH(P:Program)(F:aC)(a:AV):Option (Nat×W2):=
 match jE a with
 |some m=>some (m,none)
 |none=>match a with
  |.sv id _=>match F.get id with
   |some (.vec m _ _)=>some (m,some id)
   |_=>none
  |.sl id b len c=>match F.get id with
   |some (.cells _ d _ _)=>(listOf P F d (.sl id b len c)).map λm=>(m,some id)
   |_=>none
  |_=>none
mutual
def uV(P:Program)(G:Nat)(F:aC):AV->AV->US->US
 |.nd j,a,u=>match OH P F a with
  |some (m,some id)=>{u.JB j m with fz:=id::u.fz}
  |some (m,none)=>u.JB j m
  |none=>u
 |.sv i _,a,u=>match a with
  |.sv id _=>u.Qo i (some id)
  |.iw=>u.Qo i none
  |_=>u
 |.p i _,a,u=>match a with
  |.p id _=>if i<=G then u else u.Qo i (some id)
  |_=>u
 |.mp i,a,u=>match a with
  |.mp id=>u.Qo i (some id)
  |_=>u
 |.sl i _ _ _,a,u=>match a with
  |.sl id _ _ _=>u.Qo i (some id)
  |_=>u
 |.rx j _,a,u=>match a with
  |.rx m _=>u.JB j m
  |_=>u
 |.fn _ e g,a,u=>match a with
  |.fn _ b c=>I4 P G F g c (I4 P G F e b u)
  |_=>u
 |.agg l,a,u=>match a with
  |.agg d=>I4 P G F l d u
  |_=>u
 |.fK l,a,u=>match a with
  |.fK d=>I4 P G F l d u
  |_=>u
 |.jM _ x,a,u=>match a with
  |.jM _ h=>uV P G F x h u
  |_=>u
 |_,_,u=>u
def I4(P:Program)(G:Nat)(F:aC):Q3->List AV->US->US
 |[],_,u=>u
 |a::l,m,u=>match m with
  |b::c=>I4 P G F l c (uV P G F a b u)
  |[]=>u
end
def am6(P:Program)(G:Nat)(F:aC)(t:Tr AV):Wo->US->US
 |[],u=>u
 |p::l,u=>am6 P G F t l (match t.get p.1 with|some v=>uV P G F p.2 v u|none=>u)
def YO(P:Program)(G:Nat)(F:aC):YY->US->US
 |[],u=>u
 |p::l,u=>YO P G F l (match dV p.1 u.r with
  |some (some id)=>match p.2,F.get id with
   |.cells c _ _ _,some (.cells a _ _ _)=>I4 P G F c a u
   |.vec j _ _,some (.vec m _ _)=>u.JB j m
   |.smap j _ _,some (.smap m _ _)=>u.JB j m
   |.smap j _ _,some (.map [])=>match gB (.ml [])with
    |some m=>u.JB j m
    |none=>u
   |_,_=>u
  |some none=>match p.2 with
   |.vec j _ _=>match gB (.ml [])with
    |some m=>u.JB j m
    |none=>u
   |_=>u
  |none=>u)
def adl(p:WF):Nat->Nat->Option Q2
 |_,0=>some []
 |j,n+1=>match dV j p,adl p (j+1) n with
  |some m,some r=>some (m::r)
  |_,_=>none
def ZG:Nat->Nat->List (Nat×W2)
 |_,0=>[]
 |i,n+1=>(i+1,some (i+1))::ZG (i+1) n
def fit(P:Program)(s:iR)(a:bM)(F:aC):US:=YO P s.gn F s.objs (am6 P s.gn F a.t s.slots ⟨ZG s.gn s.ka,[],[]⟩)
def fits(P:Program)(s:iR)(a:bM)(F:aC)(ps:Q2):Bool:=Nat.beq ps.length s.np&&match fit P s a F with
 |⟨r,_,fz⟩=>abT P s a F fz r ps
structure aN where
 key:Nat
 pre:iR
 posts:K0
abbrev Wz:=List aN
abbrev Ww:=List (Nat×aN)
def Lp(tag:Nat):K0->Nat->Option (fV×iR)
 |[],_=>none
 |[p],_=>some p
 |p::q::l,t=>match gB (.ci .i64 t)with
  |some c=>match gB (.bin .eql tag c)with
   |some b=>match aaw b with
    |some true=>some p
    |some false=>Lp tag (q::l) (t+1)
    |none=>none
   |none=>none
  |none=>none
def DY(a:Nat)(ps:Q2):List W2->Nat->Nat->Option Q2
 |_,_,0=>some []
 |some i::b,j,n+1=>match ps[i]?,DY a ps b j n with
  |some m,some r=>some (m::r)
  |_,_=>none
 |none::b,j,n+1=>match gB (.call a ps j),DY a ps b (j+1) n with
  |some m,some r=>some (m::r)
  |_,_=>none
 |[],j,n+1=>match gB (.call a ps j),DY a ps [] (j+1) n with
  |some m,some r=>some (m::r)
  |_,_=>none
def abJ(P:Program)(tabs:QP)(b:aN)(a:bM)(F:aC):Wd:=
 match adl (fit P b.pre a F).p 0 b.pre.np with
 |some ps=>if fits P b.pre a F ps then
   match gB (.call b.key ps 0)with
   |some tag=>match Lp tag b.posts 0 with
    |some (e,s)=>if Nat.beq s.ka iM.ka then match DY b.key ps s.al 1 s.np with
     |some c=>some (e,s.UZ (λj=>c.getD j 0),s.Gj tabs (λj=>c.getD j 0))
     |none=>none
     else none
    |none=>none
   |none=>none
  else none
 |none=>none
end
def wR:List W2->List GV->List GV->Option Q1
 |[],_,r=>some r
 |some i::a,gs,r=>match gs[i]?,wR a gs r with
  |some g,some l=>some (g::l)
  |_,_=>none
 |none::a,gs,x::r=>match wR a gs r with
  |some l=>some (x::l)
  |none=>none
 |none::_,_,[]=>none
def ER(a:Nat):List W2->List Nat->Option Q2
 |[],r=>some r
 |some i::b,r=>bif Nat.blt i a then(match ER a b r with
  |some l=>some (i::l)
  |none=>none)else none
 |none::b,x::r=>match ER a b r with
  |some l=>some (x::l)
  |none=>none
 |none::_,[]=>none
def Jv(a:Nat)(l:Q2):List W2->Bool
 |[]=>true
 |none::b=>Jv a l b
 |some i::b=>Nat.blt i a&&((match l[i]? with|some m=>Nat.beq m i|none=>false)&&Jv a l b)
def U2(a:Nat)(l:Q2):K0->Bool
 |[]=>true
 |p::ps=>Jv a l p.2.al&&U2 a l ps
def aep{val:Wc}:∀{l:Q2}{gs:Q1},valsOf val l=some gs->∀(i m:Nat),l[i]? =some m->gs[i]? =val m
 |[],gs,h,i,m,a=>by simp at a
 |x::l,gs,h,i,m,a=>by
  simp only[valsOf]at h;split at h
  ·next g r h5 h6=>
   cases h;cases i with
   |zero=>simp at a;subst a;simp[h5]
   |succ i=>simpa using aep h6 i m (by simpa using a)
  ·cases h
def VX{k:Nat}{gs b e:Q1}(a:b=gs++e)(q:gs.length=k):∀{j:List W2}{l d:Q2}{r:Q1},ER k j l=some d->valsOf (λn=>b[n]?) l=some r->∃rest,valsOf (λn=>b[n]?) d=some rest/\wR j gs r=some rest
 |[],l,d,r,h,c=>by simp only[ER,bD]at h;subst h;exact⟨r,c,rfl⟩
 |some i::j,l,d,r,h,c=>by
  simp only[ER]at h;cases m:Nat.blt i k with
  |false=>rw[m]at h;cases h
  |true=>
   rw[m]at h;simp only[cond_true]at h;rw[jY]at m;split at h
   ·next s o=>
    cases h;obtain⟨rest,p,h5⟩:=VX a q o c;have hi:b[i]? =some (gs[i]'(by omega)):=by rw[a,pF ah,cO ah]
    refine⟨gs[i]'(by omega)::rest,?_,?_⟩
    ·simp only[valsOf,hi,p]
    ·simp only[wR,h5,cO (ah:i<gs.length)]
   ·cases h
 |none::j,[],d,r,h,c=>by simp[ER]at h
 |none::j,x::l,d,r,h,c=>by
  simp only[ER]at h;split at h
  ·next s o=>
   cases h;simp only[valsOf]at c;split at c
   ·next g v t u=>
    cases c;obtain⟨rest,p,h5⟩:=VX a q o u;exact⟨g::rest,by simp only[valsOf,t,p],by simp only[wR,h5]⟩
   ·cases c
  ·cases h
def aaJ{k:Nat}{gs b e c:Q1}(a:b=gs++e)(o:gs.length=k){l:Q2}(g:valsOf (λn=>b[n]?) l=some c):∀{d:List W2},Jv k l d=true->∀r,wR d c r=wR d gs r
 |[],_,r=>rfl
 |none::d,h,[]=>rfl
 |none::d,h,x::r=>by simp only[Jv]at h;simp only[wR,aaJ a o g h r]
 |some i::d,h,r=>by
  simp only[Jv,aO,jY]at h;obtain⟨h1,j,p⟩:=h;split at j
  ·next m q=>
   have:=bV j;subst this;have s:c[m]? =gs[m]?:=by
    rw[aep g m m q];show b[m]? =gs[m]?
    rw[a,pF ah]
   simp only[wR,aaJ a o g p r,s]
  ·cases j
def afA{c:Nat}{l:Q2}:∀{a:K0},U2 c l a=true->∀p∈a,Jv c l p.2.al=true
 |q::a,h,p,b=>by
  simp only[U2,aO]at h;rcases bH.1 b with rfl|b
  ·exact h.1
  ·exact afA h.2 p b
def xC(P:Program)(tabs:QP)(b:Code)(d:iR)(c:K0)(gs g:Q1):Prop:=
 ∃(t:Nat)(r a:Q1)(e:fV)(s:iR),g=GV.i .i64 t::r/\c[t]? =some (e,s)/\wR s.al gs r=some a/\a.length=s.np/\∀w0 h A w K,UD P tabs d gs w0 h A w->(∀i j,UD P tabs s a w0 h i j->K e.toExit i j)->CW P b K A w
def acG{T:aJ}{tag:Nat}{d:Nat}(g:T.val tag=some (.i .i64 (d:Nat))):∀(l:K0)(t:Nat){p:fV×iR},@Lp T.toiM tag l t=some p->t<=d->∀q,l[d-t]? =some q->p=q
 |[],t,p,h,_,q,a=>by simp[Lp]at h
 |[x],t,p,h,k,q,a=>by
  simp only[Lp,bD]at h;cases j:d-t with
  |zero=>rw[j]at a;simp at a;rw[<-h,a]
  |succ n=>rw[j]at a;simp at a
 |x::y::l,t,p,h,k,q,a=>by
  letI:=T
  simp only[Lp]at h;split at h
  ·next c z=>
   split at h
   ·next b A=>
    obtain⟨D,B,s⟩:=iJ z;simp only[Nd.den,bD]at s;subst s;obtain⟨u,v,m⟩:=iJ A;have o:aJ.val tag=some (.i .i64 (d:Nat)):=g;simp only[Nd.den,o,B,jg,if_true,dA,bD]at m;split at h
    ·next j=>
     cases h;have:=T.Dw b true (QM j);have i:T.val b=some u:=v;rw[i]at this;cases this;simp at m;have:d-t=0:=ah;rw[this]at a;simpa using a
    ·next j=>
     have:=T.Dw b false (QM j);have i:T.val b=some u:=v;rw[i]at this;cases this;simp at m;have e:d-t=(d-(t+1))+1:=ah;rw[e,xA]at a;exact acG g (y::l) (t+1) h ah q a
    ·cases h
   ·cases h
  ·cases h
def SA{T:aJ}{d:Nat}{ps:Q2}{gs e:Q1}(b:valsOf T.val ps=some gs)(v:T.I d gs=some e):∀(n j:Nat)(p:List W2){o:Q2}{r rest:Q1},(∀k:Nat,r[k]? =e[j+k]?)->wR p gs r=some rest->@DY T.toiM d ps p j n=some o->o.length=n/\∀(i m:Nat),o[i]? =some m->T.val m=rest[i]?
 |0,j,p,o,r,rest,_,_,h=>by
  letI:=T
  have:o=[]:=by unfold DY at h;simpa using h.symm
  subst this;simp
 |n+1,j,some M::p,o,r,rest,q,a,h=>by
  letI:=T
  simp only[DY]at h;simp only[wR]at a;split at a
  ·next g l N E=>
   cases a;split at h
   ·next m L y c=>
    cases h;obtain⟨z,A⟩:=SA b v n j p q E c;refine⟨by simp[z],λi B hi=>?_⟩;cases i with
    |zero=>simp at hi;subst hi;have:=aep b M m y;rw[mD,<-N];exact this.symm
    |succ i=>simpa using A i B (by simpa using hi)
   ·cases h
  ·cases a
 |n+1,j,none::p,o,[],rest,q,a,h=>by simp[wR]at a
 |n+1,j,none::p,o,x::r,rest,q,a,h=>by
  letI:=T
  simp only[DY]at h;simp only[wR]at a;split at a
  ·next l E=>
   cases a;split at h
   ·next m L y c=>
    cases h;obtain⟨z,A⟩:=SA b v n (j+1) p (r:=r) (λk=>by have:=q (k+1);rw[xA]at this;rw[this];congr 1;omega) E c
    refine⟨by simp[z],λi B hi=>?_⟩;cases i with
    |zero=>simp at hi;subst hi;obtain⟨g,I,D⟩:=iJ y;have s:valsOf aJ.val ps=some gs:=b;have t:aJ.I d gs=some e:=v;simp only[Nd.den,s,t]at D;have u:T.val m=some g:=I;have:=q 0;simp only[mD,qg]at this;rw[u,mD,this];exact D.symm
    |succ i=>simpa using A i B (by simpa using hi)
   ·cases h
  ·cases a
 |n+1,j,[],o,r,rest,q,a,h=>by
  letI:=T
  simp only[DY]at h;simp only[wR,bD]at a;subst a;split at h
  ·next m L y c=>
   cases h;obtain⟨z,A⟩:=SA b v n (j+1) [] (r:=r.tail) (λk=>by have:=q (k+1);rw[List.getElem?_tail,this];congr 1;omega) rfl c
   refine⟨by simp[z],λi B hi=>?_⟩;cases i with
   |zero=>simp at hi;subst hi;obtain⟨g,I,D⟩:=iJ y;have s:valsOf aJ.val ps=some gs:=b;have t:aJ.I d gs=some e:=v;simp only[Nd.den,s,t]at D;have u:T.val m=some g:=I;have:=q 0;rw[qg]at this;rw[u,this];exact D.symm
   |succ i=>have:=A i B (by simpa using hi);rw[this,List.getElem?_tail]
  ·cases h
def abK{T:aJ}{tabs:QP}(O:T.tabs=tabs)(o:xG tabs P.globals.size){n:aN}(x:n.pre.ok=true){b:Code}(Y:∀gs d,T.I n.key gs=some d->xC P tabs b n.pre n.posts gs d)
 {a R:bM} {F F':aC} {e:fV} (h:@abJ T.toiM P tabs n a F=some (e,R,F')) {Q:fV->bM->aC->Prop} (Z:Q e R F'):@En T P b a F Q:=by
 letI:=T
 unfold abJ at h;split at h
 ·next ps aa=>
  split at h
  ·next c=>
   split at h
   ·next tag p=>
    split at h
    ·next e' s i=>
     split at h;rotate_left
     ·cases h
     next l=>
     have l:=bV l;split at h
     ·next v y=>
      cases h;obtain⟨gt,t1,m⟩:=iJ p;simp only[Nd.den]at m;split at m
      ·next gs q=>
       split at m
       ·next d V=>
        obtain⟨t,r,W,e2,s2,rfl,z,B,ab,u⟩:=Y gs d V;simp only[mD,bD]at m;subst m;have D:=acG t1 n.posts 0 i (vG _) (e2,s2) (by simpa using z);cases D;obtain⟨n1,n2⟩:=SA q V _ 1 s.al (r:=r) (λk=>by rw[MS,xA]) B y;intro w0 fD H w A K hF hl ht hK;unfold fits at c;rw[aO]at c;have E:=abW O o x hF hl ht c.2 q;refine u w0 fD A w K E λA' w' I=>?_;obtain⟨H',L,M⟩:=adO (T:=T) (f:=λj=>v.getD j 0) O l.symm (λj g X=>by
         have N:j<v.length:=by have:=(gy.1 X).1;omega
         have hm:v[j]? =some (v.getD j 0):=by rw[Aj,cO N];rfl
         rw[n2 j _ hm];exact X) I
        exact hK e _ _ H' A' w' Z L rfl M
       ·cases m
      ·cases m
     ·cases h
    ·cases h
   ·cases h
  ·cases h
 ·cases h
def aeo{val:Wc}:∀{l:Q2}{gs:Q1},valsOf val l=some gs->gs.length=l.length
 |[],gs,h=>by simp only[valsOf,bD]at h;subst h;rfl
 |x::l,gs,h=>by
  simp only[valsOf]at h;split at h
  ·next h5 h6=>cases h;simp[aeo h6]
  ·cases h
def fV.eq:fV->fV->Bool
 |.normal,.normal=>true
 |.ret,.ret=>true
 |.exit a,.exit b=>Nat.beq a b
 |_,_=>false
def fV.eq_of{a b:fV}(h:a.eq b=true):a=b:=by
 cases a<;>cases b<;>first|rfl|(cases h;done)|skip
 rw[bV h]
abbrev nK:=iM->List (FuncId×eU)
def Ak(P:Program)(tabs:QP)(I:jl)(pl:nK):Prop:=∀T:aJ,T.tabs=tabs->T.I=I->∀p∈pl T.toiM,@eG T P p.1 p.2
def LJ(P:Program)(N:iM)(pl:nK)(fuel:Nat):Code->bM->aC->Option (fV×bM×aC):=@GK N P (Zx P) (adk (pl N)) fuel
def Gl(P:Program)(tabs:QP)(N:iM)(b:Ww):Zk:=λk a F=>match dV k b with
 |some c=>@abJ N P tabs c a F
 |none=>none
def Xk(P:Program)(tabs:QP)(pl:nK)(b:Ww)(fuel:Nat)(a:aN)(i:AC)(c:List Nd)(d:Wk)(k:Leaf):Bool:=
 match @yL ⟨c,d,a.pre.ka⟩ (Gl P tabs ⟨c,d,a.pre.ka⟩ b) (LJ P ⟨c,d,a.pre.ka⟩ pl fuel) i (a.pre.UZ λj=>j) (a.pre.Gj tabs λj=>j)with
 |some (e,g,h)=>match k with
  |.ret (m::l)=>match c[m]? with
   |some (.ci .i64 t)=>match a.posts[t.toNat]? with
    |some (n,s)=>decide (0<=t)&&!(e.eq .normal)&&e.eq n&&s.ok&&(match ER a.pre.np s.al l with|some o=>@fits ⟨c,d,a.pre.ka⟩ P s g h o|none=>false)
    |none=>false
   |_=>false
  |.tail f l=>Nat.beq f a.key&&e.eq .normal&&(U2 a.pre.np l a.posts&&@fits ⟨c,d,a.pre.ka⟩ P a.pre g h l)
  |_=>false
 |none=>false
@[reducible] def Tw(tabs:QP)(I:jl)(ka:Nat){b:List Nd}{c:Wk}{a:Q1}(h:EC I b c a):aJ:={nodes:=b,dec:=c,ka:=ka,tabs:=tabs,I:=I,val:=λn=>a[n]?,uq:=h.node,Dw:=h.dec}
def EC.start(I:jl)(gs:Q1)(n:Nat)(h:gs.length=n):EC I (List.replicate n .arg) [] gs:=
 ⟨by simp[h],λk e a c=>absurd (afa.1 (tN a)).2 c,λk b d=>by simp at d⟩
def adD{T:aJ}(a:P.follows .mixedOrders=true)(b:yG P){pl:nK}(c:∀p∈pl T.toiM,@eG T P p.1 p.2)(fuel:Nat):@Qb T P (LJ P T.toiM pl fuel):=
 (@agD T P _ _ (ahh a) (alf c) b fuel).1
def xC.Sr{tabs:QP}(p:xG tabs P.globals.size)(hm:P.follows .mixedOrders=true)(hn:yG P){pl:nK}{I:jl}(aa:Ak P tabs I pl){h:Ww}{fuel:Nat}{m:aN}(ab:m.pre.ok=true){ps:Q2}{b:Code}{t:Tree}
 (Kr:∀k i,dV k h=some i->i.pre.ok=true/\∀c,(pJ ps b).qY k c->∀gs d,I i.key gs=some d->xC P tabs c i.pre i.posts gs d)
 (B:∀gs d,I m.key gs=some d->xC P tabs b m.pre m.posts gs d)
 (BU:t.chk (Xk P tabs pl h fuel m (pJ ps b)) (List.replicate m.pre.np .arg) []=true) {gs d:Q1} (q:gs.length=m.pre.np) (hd:t.den I gs=some d):xC P tabs b m.pre m.posts gs d:=by
 obtain⟨ns,ds,O,lf,o,h2,⟨an,h3⟩,R⟩:=Tree.ND t BU (EC.start I gs _ q) hd;let T:aJ:=Tw tabs I m.pre.ka h2
 unfold Xk at o;split at o
 ·next e a' F' V=>
  have Oa:∀Q:fV->bM->aC->Prop,Q e a' F'->@AT T P b (m.pre.UZ λj=>j) (m.pre.Gj tabs λj=>j) Q:=by
   intro Q hq;have:=@ZB P T (Gl P tabs ⟨ns,ds,m.pre.ka⟩ h) (LJ P ⟨ns,ds,m.pre.ka⟩ pl fuel) (adD (T:=T) hm hn (aa T rfl rfl) fuel) (pJ ps b) (Ar ps b 0).2 (λk c hk a F Z a1 F1 hs Q' ac=>by
    unfold Gl at hs;split at hs
    ·next i ad=>
     obtain⟨k1,k2⟩:=Kr k i ad;exact abK (T:=T) rfl p k1 (λgs d hI=>k2 c hk gs d hI) hs ac
    ·cases hs) _ _ _ _ _ V Q hq
   rwa [show(pJ ps b).erase=b from(Ar ps b 0).1]at this
  have x:∀j g,gs[j]? =some g->T.val ((λj=>j) j)=some g:=by
   intro j g hj;show O[j]? =some g
   rw[h3];have:=(gy.1 hj).1;rw[pF this];exact hj
  split at o
  ·next tn l=>
   split at o
   ·next tt ae=>
    split at o
    ·next e' s D=>
     simp only[aO,decide_eq_true_iff]at o;obtain⟨⟨⟨⟨t0,t1⟩,t2⟩,W⟩,y⟩:=o;split at y;rotate_left
     ·cases y
     next l2 af=>
     have Z:=fV.eq_of t2;subst Z;simp only[valsOf]at R;split at R
     ·next g r hg ag=>
      cases R;obtain⟨g',k1,k2⟩:=h2.node tn _ ae aA;have ai:O[tn]? =some g:=hg;rw[ai]at k1;cases k1;simp only[Nd.den,bD]at k2;subst k2;obtain⟨n,u,ak⟩:=VX h3 q af ag;have al:n.length=s.np:=by unfold fits at y;rw[aO]at y;rw[<-bV y.1];exact aeo u
      refine⟨tt.toNat,r,n,e,s,by rw[Jf t0],D,ak,al,λw0 fD A w K hS hK=>CW.step ?_⟩;obtain⟨H,hF,ht⟩:=adO (T:=T) (f:=λj=>j) rfl rfl x hS;refine Oa (λv X Y=>v=e/\X=a'/\Y=F') ⟨rfl,rfl,rfl⟩ w0 fD H w A _ hF rfl ht ?_;rintro v X Y H' A' w' ⟨rfl,rfl,rfl⟩ E L M
      unfold fits at y;rw[aO]at y;have N:=abW (T:=T) rfl p W E L M y.2 u;have:=hK A' w' N;cases v with
      |normal=>simp[fV.eq]at t1
      |exit id=>exact this
      |ret=>exact this
     ·cases R
    ·cases o
   ·cases o
  ·next f l=>
   simp only[aO]at o;obtain⟨⟨t1,t2⟩,t5,W⟩:=o;have Z:=fV.eq_of t2;subst Z;have v:=bV t1;subst v;obtain⟨am,z,hI⟩:=R;obtain⟨tn,r,n,v,s,r1,r2,r5,r3,r4⟩:=B am d hI;refine⟨tn,r,n,v,s,r1,r2,by rw[<-aaJ h3 q z (afA t5 _ (tN r2)) r];exact r5,r3,λw0 fD A w K hS hK=>CW.step ?_⟩;obtain⟨H,hF,ht⟩:=adO (T:=T) (f:=λj=>j) rfl rfl x hS;refine Oa (λv X Y=>v=.normal/\X=a'/\Y=F') ⟨rfl,rfl,rfl⟩ w0 fD H w A _ hF rfl ht ?_;rintro e3 X Y H' A' w' ⟨rfl,rfl,rfl⟩ E L M
   unfold fits at W;rw[aO]at W;have N:=abW (T:=T) rfl p ab E L M W.2 z;exact r4 w0 fD A' w' K N hK
  ·cases o
 ·cases o
structure qG(P:Program)(tabs:QP)(f:FuncId)(st:W7)(sh:WN)(gs out:Q1):Prop where
 call:anU P tabs f st gs out
 fits:qE sh out=true
section
variable[iM]
def Vo(P:Program)(F:aC)(fz:Q2)(a:AV):W2:=
 match OH P F a with
 |some (m,none)=>some m
 |some (m,some _)=>if Wn P F fz a m then some m else none
 |none=>none
def QD(P:Program)(F:aC)(fz:Q2):Q3->Option Q2
 |[]=>some []
 |a::l=>match Vo P F fz a,QD P F fz l with
  |some m,some r=>some (m::r)
  |_,_=>none
def YT(P:Program)(F:aC)(fz:Q2):AV->Option Nat
 |.agg l=>match QD P F fz l with
  |some b=>gB (.mk b)
  |none=>none
 |a=>Vo P F fz a
def valsN(P:Program)(F:aC)(fz:Q2):Q3->Option Q2
 |[]=>some []
 |a::l=>match YT P F fz a,valsN P F fz l with
  |some m,some r=>some (m::r)
  |_,_=>none
def ah2(P:Program)(F:aC)(a:AV):Q2:=match OH P F a with
 |some (_,some id)=>[id]
 |_=>[]
def EX(P:Program)(F:aC):Q3->List Nat
 |[]=>[]
 |.agg l::r=>l.flatMap (ah2 P F)++EX P F r
 |a::r=>ah2 P F a++EX P F r
def XG(k:Nat)(a:Q2)(j:Nat):qH->Option AV
 |.sc=>lV (.call k a j)
 |.ag n=>match gB (.call k a j)with
  |some m=>(JL m 0 n).map .agg
  |none=>none
def Le(k:Nat)(b:Q2):Nat->List qH->Option Q3
 |_,[]=>some []
 |j,s::l=>match XG k b j s,Le k b (j+1) l with
  |some a,some r=>some (a::r)
  |_,_=>none
def XI(P:Program)(k:Nat)(st:W7)(b:WN):eU:=λc F=>match Ee st c with
 |none=>none
 |some args=>
 let fz:=EX P F args
 if fz.all (Nat.ble F.lock ·)then
  match valsN P F fz args with
  |some d=>match Le k d 0 b with
   |some (a::l)=>some (LW (a::l),kills F fz)
   |_=>none
  |none=>none
 else none
end
def aaW{T:aJ}{H:Env}{F:aC}{w:World}(h:@SR T P H F w):∀fz:Q2,(∀id∈fz,F.lock<=id)->∃dQ,(∀b o,H.ro b=some o->dQ b=some o)/\@St T P H F w ⟨H.pl,dQ,H.gh⟩ (kills F fz) w/\
 (∀id∈fz,∀o q,F.get id=some o->o.own=true->H id=some q->dQ q.bl=w.heap[q.bl]?)
 |[],_=>⟨H.ro,λ_ _ h=>h,@St.refl T _ _ _ _ h,aA⟩
 |id::fz,l=>by
  letI:=T
  obtain⟨dQ,u,p,s⟩:=aaW h fz (λk z=>l k (zG _ z));by_cases v:∃o q,(kills F fz).get id=some o/\o.own=true/\H id=some q
  ·obtain⟨o,q,A,m,x⟩:=v;have t:=St.freeze p.rel A m (by rw[Oo];exact l id aA) (show(⟨H.pl,dQ,H.gh⟩:Env) id=some q from x);refine⟨IL dQ w q.bl,λb o B=>X3 p.rel.jH q.bl b o (u b o B),p.trans t,?_⟩;intro d i n j g a c;show(if j.bl=q.bl then w.heap[q.bl]? else dQ j.bl)=_
   split
   ·next e=>rw[e]
   ·next e=>
    rcases bH.1 i with rfl|i
    ·rw[x]at c;cases c;exact absurd rfl e
    ·exact s d i n j g a c
  ·refine⟨dQ,u,p.Xc id,?_⟩;intro d i n j g a c;rcases bH.1 i with rfl|i
   ·by_cases y:d∈fz
    ·exact s d y n j g a c
    ·exact absurd ⟨n,j,by rw[Fh,aj y];exact g,a,c⟩ v
   ·exact s d i n j g a c
section
variable{T:aJ}{tabs:QP}{G next:Nat}{H:Env}{F:aC}{w:World}{fz:Q2}{r:W8}{ps:Q2}{gs:Q1}{dQ:Qf}
def azy{a:AV}{m:Nat}(h:@OH T.toiM P F a=some (m,none)):@jE T.toiM a=some m:=by
 letI:=T
 unfold OH at h;split at h
 ·next b c=>cases h;exact c
 ·split at h
  ·split at h<;>cases h
  ·split at h
   ·obtain⟨b,_,e⟩:=bI.1 h;cases e
   ·cases h
  ·cases h
def agj(C:yF T P tabs G next H F w fz r ps gs dQ){a:AV}{m:Nat}{v:Value}(h:@Vo T.toiM P F fz a=some m)(s:@VR T H a v):∃g,T.val m=some g/\g.scalar=true/\GR dQ g v:=by
 letI:=T
 unfold Vo at h;split at h
 ·next t b=>
  cases h;obtain⟨g,k,l,u⟩:=nV (azy b) s;exact⟨g,k,l,GR.mono C.xq _ _ u⟩
 ·next t id b=>
  split at h
  ·next x=>
   cases h;have j:∃g,T.val m=some g:=by
    unfold OH at b;split at b
    ·cases b
    ·split at b
     ·next y n=>
      split at b
      ·next z A f i=>
       cases b;rcases C.rel.live _ _ i with⟨q,M,o⟩|⟨_,N,B,O,D,p⟩
       ·obtain⟨Q,E,_⟩:=o.OA;exact⟨_,E⟩
       ·cases D;exact⟨_,p⟩
      ·cases b
     ·split at b
      ·next c A R I i=>
       obtain⟨z,d,e⟩:=bI.1 b;cases e;unfold listOf at d;simp only[i]at d;split at d
       ·split at d
        ·split at d
         ·split at d
          ·obtain⟨g,L,_⟩:=iJ d;exact⟨g,L⟩
          ·cases d
         ·cases d
        ·cases d
       ·cases d
      ·cases b
     ·cases b
   obtain⟨g,i⟩:=j;obtain⟨k,l⟩:=ahY C x s i;exact⟨g,i,k,l⟩
  ·cases h
 ·cases h
def agq(C:yF T P tabs G next H F w fz r ps gs dQ):∀{l:Q3}{d:Q2}{vs:Q6},@QD T.toiM P F fz l=some d->@aG T H l vs->∃b,valsOf T.val d=some b/\b.all GV.scalar=true/\aV dQ b vs
 |[],d,vs,h,c=>by simp only[QD,bD]at h;subst h;simp only[aG]at c;subst c;exact⟨[],rfl,rfl,by simp[aV]⟩
 |a::l,d,vs,h,c=>by
  letI:=T
  simp only[QD]at h;split at h
  ·next m u e i=>
   cases h;simp only[aG]at c;obtain⟨x,j,rfl,k,n⟩:=c;obtain⟨g,o,p,g3⟩:=agj C e k;obtain⟨b,q,s,t⟩:=agq C i n;exact⟨g::b,by simp only[valsOf,o,q],by simp[p,s],by simp only[aV];exact⟨x,j,rfl,g3,t⟩⟩
  ·cases h
def aGs(C:yF T P tabs G next H F w fz r ps gs dQ){a:AV}{m:Nat}{v:Value}(h:@YT T.toiM P F fz a=some m)(e:@VR T H a v):∃g,T.val m=some g/\GR dQ g v/\(match a with|.agg l=>∃b,g=.g b/\b.length=l.length|_=>g.scalar=true):=by
 letI:=T
 cases a;case agg l=>
  simp only[YT]at h;split at h
  ·next o i=>
   simp only[VR]at e;obtain⟨p,rfl,c⟩:=e;obtain⟨b,q,s,n⟩:=agq C i c;obtain⟨g,j,d⟩:=iJ h;have k:valsOf aJ.val o=some b:=q;simp only[Nd.den,k,s,if_true,bD]at d;subst d;exact⟨_,j,by simp only[GR];exact⟨p,rfl,n⟩,b,rfl,by rw[n.length,c.length]⟩
  ·cases h
 all_goals
  simp only[YT]at h;obtain⟨g,j,d,g3⟩:=agj C h e;exact⟨g,j,g3,d⟩
def aen(C:yF T P tabs G next H F w fz r ps gs dQ):∀{l:Q3}{c:Q2}{vs:Q6},@valsN T.toiM P F fz l=some c->@aG T H l vs->∃d,valsOf T.val c=some d/\aV dQ d vs
 |[],c,vs,h,b=>by simp only[valsN,bD]at h;subst h;simp only[aG]at b;subst b;exact⟨[],rfl,by simp[aV]⟩
 |a::l,c,vs,h,b=>by
  letI:=T
  simp only[valsN]at h;split at h
  ·next m t e i=>
   cases h;simp only[aG]at b;obtain⟨x,j,rfl,k,n⟩:=b;obtain⟨g,o,p,_⟩:=aGs C e k;obtain⟨d,q,s⟩:=aen C i n;exact⟨g::d,by simp only[valsOf,o,q],by simp only[aV];exact⟨x,j,rfl,p,s⟩⟩
  ·cases h
def acp{k:Nat}{A:Q2}{B e:Q1}(p:valsOf T.val A=some B)(E:T.I k B=some e){H':Env}:∀{I:WN}{j:Nat}{l:Q3}{D:Q6}{rest:Q1},@Le T.toiM k A j I=some l->qE I rest=true->(∀i,rest[i]? =e[j+i]?)->aV H'.ro rest D->@aG T H' l D
 |[],j,l,D,rest,h,d,L,q=>by
  cases rest with
  |cons a b=>simp[qE]at d
  |nil=>simp only[Le,bD]at h;subst h;simp only[aV]at q;subst q;simp[aG]
 |s::I,j,l,D,rest,h,d,L,q=>by
  letI:=T
  cases rest with
  |nil=>cases s<;>simp[qE]at d
  |cons g rest=>
   simp only[Le]at h;split at h
   ·next a r' t v=>
    cases h;simp only[aV]at q;obtain⟨u,x,rfl,M,W⟩:=q;have X:=L 0;simp only[mD,qg]at X;have o:(Nd.call k A j).den aJ.I aJ.val=some g:=by have N:valsOf aJ.val A=some B:=p;have O:aJ.I k B=some e:=E;simp only[Nd.den,N,O];exact X.symm
    have c:∀i,rest[i]? =e[j+1+i]?:=λi=>by have:=L (i+1);rw[xA]at this;rw[this];congr 1;omega
    cases s with
    |sc=>simp only[qE,aO]at d;refine⟨u,x,rfl,?_,acp p E v d.2 c W⟩;obtain⟨_,g',_,y,k3⟩:=oQ (H:=H') t;rw[o]at y;cases y;exact k3 u d.1 M
    |ag n=>
     simp only[qE,aO]at d;refine⟨u,x,rfl,?_,acp p E v d.2 c W⟩;simp only[XG]at t;split at t
     ·next m hm=>
      obtain⟨l',Q,rfl⟩:=bI.1 t;obtain⟨g',k1,y⟩:=iJ hm;rw[o]at y;cases y;obtain⟨aa,h5,h6⟩:=Vp (H:=H') k1 n 0 Q;cases g with
      |g Y=>have z:=bV d.1.2;simp only[GR]at M;obtain⟨Z,rfl,R⟩:=M;simp only[VR];refine⟨Z,rfl,h6 Z ?_⟩;obtain⟨e1,e2,_⟩:=vg h5;have V:Y.length=n:=z;rw[e1,dY,mF (by rw[oG];show Y.length<=n;omega)];exact(qX _ _).1 R
      |_=>simp[GV.scalar]at d
     ·cases t
   ·cases h
def am5{T:aJ}{H:Env}{l:Q3}{d:Q6}(h:@aG T H l d):@VR T H (LW l) (Eh d):=by
 letI:=T
 have c:=h.length;match l,d,h,c with
 |[a],[u],h,_=>simp only[aG]at h;obtain⟨x,i,e,g,j⟩:=h;cases e;exact g
 |[],[],h,_=>show VR H (.fK []) (.tuple ⟨[]⟩);simp only[VR];exact⟨_,rfl,h⟩
 |a::b::l,u::k::d,h,_=>show VR H (.fK _) (.tuple ⟨_⟩);simp only[VR];exact⟨_,rfl,h⟩
 |[],_::_,_,c=>simp at c
 |[_],[],_,c=>simp at c
 |[_],_::_::_,_,c=>simp at c
 |_::_::_,[],_,c=>simp at c
 |_::_::_,[_],_,c=>simp at c
def akz{f:FuncId}{k:Nat}{st:W7}{q:WN}(V:∀gs a,T.I k gs=some a->qG P T.tabs f st q gs a):@eG T P f (@XI T.toiM P k st q):=by
 letI:=T
 intro Qj F rr F' c H w W O x;unfold XI at c;split at c
 ·cases c
 next args y=>
 obtain⟨X,rfl,Y⟩:=YL y x;simp only at c;split at c
 ·next z=>
  have Z:∀id∈EX P F args,F.lock<=id:=λid A=>wB (List.all_eq_true.1 z id A);split at c
  ·next Q B=>
   split at c
   ·next a0 l o=>
    cases c;obtain⟨dQ,f1,D,f3⟩:=aaW O (EX P F args) Z;have C:yF T P T.tabs P.globals.size (P.globals.size+1) H F w (EX P F args) [] [] [] dQ:=⟨O,rfl,f1,f3,rfl,Eu _⟩
    obtain⟨t,R,k2⟩:=aen C B Y;have u:∃a,T.I k t=some a:=by
     have d:∀{m g},gB (.call k Q 0)=some m->aJ.val m=some g->∃a,T.I k t=some a:=by
      intro m g e hg;obtain⟨g',_,d2⟩:=iJ e;have E:valsOf aJ.val Q=some t:=R;simp only[Nd.den,E]at d2;split at d2
      ·next r hr=>exact⟨r,hr⟩
      ·cases d2
     cases q with
     |nil=>simp[Le]at o
     |cons s q=>
      simp only[Le]at o;split at o
      ·next a1 r1 b _=>
       cases s with
       |sc=>
        simp only[XG,lV]at b;split at b
        ·next m e=>obtain⟨g,I,_⟩:=iJ e;exact d e I
        ·cases b
       |ag n=>
        simp only[XG]at b;split at b
        ·next m e=>obtain⟨g,I,_⟩:=iJ e;exact d e I
        ·cases b
      ·cases o
    obtain⟨a,u⟩:=u;obtain⟨h,p⟩:=V t a u;refine nH.mono (h dQ w X D.rel.X5 k2) ?_;rintro v w' ⟨j,L,us,rfl,M⟩
    have N:=St.azi (ro':=j) D.rel L;refine⟨_,D.trans N,am5 (acp R u (H':=⟨H.pl,j,H.gh⟩) o p (λi=>aA) M)⟩
   ·cases c
  ·cases c
 ·cases c
def adA:WN->List AV->Bool
 |[],[]=>true
 |.sc::l,a::m=>(match a with|.agg _=>false|_=>true)&&adA l m
 |.ag n::l,a::m=>(match a with|.agg c=>Nat.beq c.length n|_=>false)&&adA l m
 |_,_=>false
section
variable[iM]
def Jz:Nat->List qH->Option Q3
 |_,[]=>some []
 |j,.sc::l=>match Jz (j+1) l with
  |some r=>some (.nd j::r)
  |none=>none
 |j,.ag n::l=>match JL j 0 n,Jz (j+1) l with
  |some c,some r=>some (.agg c::r)
  |_,_=>none
end
def ZL{H:Env}:∀{p:WN}{j:Nat}{l:Q3}{vs:Q6}{rest:Q1},@Jz T.toiM j p=some l->qE p rest=true->(∀i g,rest[i]? =some g->T.val (j+i)=some g)->aV H.ro rest vs->@aG T H l vs
 |[],j,l,vs,rest,h,e,q,m=>by
  cases rest with
  |cons a b=>simp[qE]at e
  |nil=>simp only[Jz,bD]at h;subst h;simp only[aV]at m;subst m;simp[aG]
 |s::p,j,l,vs,rest,h,e,q,m=>by
  letI:=T
  cases rest with
  |nil=>cases s<;>simp[qE]at e
  |cons g rest=>
   simp only[aV]at m;obtain⟨u,y,rfl,t,z⟩:=m;have A:=q 0 g aA;have d:∀i g,rest[i]? =some g->T.val (j+1+i)=some g:=λi g hi=>by have:=q (i+1) g (by simpa using hi);rw[<-this];congr 1;omega
   cases s with
   |sc=>
    simp only[Jz]at h;split at h
    ·next D k=>
     cases h;simp only[qE,aO]at e;exact⟨u,y,rfl,by simp only[VR];exact⟨g,A,e.1,t⟩,ZL k e.2 d z⟩
    ·cases h
   |ag n=>
    simp only[Jz]at h;split at h
    ·next c D E k=>
     cases h;simp only[qE,aO]at e;refine⟨u,y,rfl,?_,ZL k e.2 d z⟩;obtain⟨I,L,M⟩:=Vp (H:=H) A n 0 E;cases g with
     |g B=>have o:=bV e.1.2;simp only[GR]at t;obtain⟨vs,rfl,v⟩:=t;simp only[VR];refine⟨vs,rfl,M vs ?_⟩;obtain⟨N,O,_⟩:=vg L;have x:B.length=n:=o;rw[N,dY,mF (by rw[oG];show B.length<=n;omega)];exact(qX _ _).1 v
     |_=>simp[GV.scalar]at e
    ·cases h
def abO(P:Program)(tabs:QP)(pl:nK)(a:Ww)(fuel:Nat)(st:W7)(j k:WN)(b:Nat)(g:List ResultVar)(m:AC)(c:List Nd)(d:Wk)(o:Leaf):Bool:=
 match o with
 |.ret l=>match @Jz ⟨c,d,0⟩ 0 j with
  |some args=>match @yL ⟨c,d,0⟩ (Gl P tabs ⟨c,d,0⟩ a) (LJ P ⟨c,d,0⟩ pl fuel) m {t:=BJ (yX st args) 0 .nil,n:=max (yX st args).length b,gn:=P.globals.size} ⟨rU (yw tabs),P.globals.size+1,0⟩with
   |some (e,p,h)=>(match e with|.exit _=>false|_=>true)&&match Dh P h p g with
    |some i=>adA k i&&match @valsN ⟨c,d,0⟩ P h (@EX ⟨c,d,0⟩ P h i) i with
     |some q=>zX l q
     |none=>false
    |none=>false
   |none=>false
  |none=>false
 |_=>false
def YI(a:xG tabs P.globals.size)(c:T.tabs=tabs):@BH T ⟨rU (yw tabs),P.globals.size+1,0⟩ P.globals.size:=by refine⟨Nat.lt_succ_self _,λid o d=>?_⟩;have g:=Sm (show(rU (yw tabs)).get id=some o from d);obtain⟨p,b,e⟩:=rZ.1 g;cases e;exact⟨p.2,rfl,by rw[c];exact b,a.low p b⟩
def qG.Sr{tabs:QP}(O:xG tabs P.globals.size)(hm:P.follows .mixedOrders=true)(hn:yG P){pl:nK}{I:jl}(ai:Ak P tabs I pl){y:Ww}{fuel:Nat}{f:FuncId}{fn:Func}{c:Code}{Z:Q2}{st:W7}{zk Ba:WN}{t:Tree}
 (hf:P.funcs[f]? =some fn) (hc:fn.body=some c)
 (Kr:∀k z,dV k y=some z->z.pre.ok=true/\∀b,(pJ Z c).qY k b->∀gs d,I z.key gs=some d->xC P tabs b z.pre z.posts gs d)
 (BU:t.chk (abO P tabs pl y fuel st zk Ba fn.ntmps fn.results.toList (pJ Z c)) (List.replicate zk.length .arg) []=true) {gs d:Q1} (D:(aH.fn zk Ba t).den I gs=some d):qG P tabs f st Ba gs d:=by
 simp only[aH.den]at D;split at D;rotate_left
 ·cases D
 next q=>
 split at D;rotate_left
 ·cases D
 next aL aa=>
 split at D;rotate_left
 ·cases D
 next ak=>
 cases D;have D:=aa;have ab:gs.length=zk.length:=by
  clear D aa BU;induction zk generalizing gs with
  |nil=>cases gs with|nil=>rfl|cons _ _=>simp[qE]at q
  |cons s sh ih=>cases gs with
   |nil=>cases s<;>simp[qE]at q
   |cons g gs=>cases s<;>simp only[qE,aO]at q<;>simp[ih q.2]
 obtain⟨ns,ds,R,lf,m,h2,⟨aE,h3⟩,h4⟩:=Tree.ND t BU (EC.start I gs _ ab) D;let T:aJ:=Tw tabs I 0 h2
 unfold abO at m;split at m
 ·next l=>
  split at m
  ·next args V=>
   split at m
   ·next e a' F' ac=>
    rw[aO]at m;obtain⟨he,m⟩:=m;split at m
    ·next rs al=>
     rw[aO]at m;obtain⟨aM,m⟩:=m;split at m
     ·next l' am=>
      have an:=ab3 m;subst an;have Oa:∀Q:fV->bM->aC->Prop,Q e a' F'->@AT T P c {t:=BJ (yX st args) 0 .nil,n:=max (yX st args).length fn.ntmps,gn:=P.globals.size} ⟨rU (yw tabs),P.globals.size+1,0⟩ Q:=by
       intro Q hq;have:=@ZB P T (Gl P tabs ⟨ns,ds,0⟩ y) (LJ P ⟨ns,ds,0⟩ pl fuel) (adD (T:=T) hm hn (ai T rfl rfl) fuel) (pJ Z c) (Ar Z c 0).2 (λk b hk a F e1 a1 F1 hs Q' ao=>by
        unfold Gl at hs;split at hs
        ·next z ap=>
         obtain⟨k1,k2⟩:=Kr k z ap;exact abK (T:=T) rfl O k1 (λgs d hI=>k2 b hk gs d hI) hs ao
        ·cases hs) _ _ _ _ _ ac Q hq
       rwa [show(pJ Z c).erase=c from(Ar Z c 0).1]at this
      have ad:∀i g,gs[i]? =some g->T.val (0+i)=some g:=by
       intro j g hj;show R[0+j]? =some g
       rw[h3,mW];have:=(gy.1 hj).1;rw[pF this];exact hj
      have aq:∀E w vs,zL tabs E w->aV E gs vs->Calls P f ⟨yY st vs⟩ w λen A=>∃v,en=.returned v/\∃L,Js E L w A/\∃x,v=Eh x/\aV L d x:=by
       intro E w vs B W;letI:=T
       have X:BH (⟨rU (yw tabs),P.globals.size+1,0⟩:aC) P.globals.size:=YI (T:=T) O rfl
       have ar:SR P (xM P.globals.size ⟨rU (yw tabs),P.globals.size+1,0⟩ E) ⟨rU (yw tabs),P.globals.size+1,0⟩ w:=
        Nb X.1 (λid o ho=>by obtain⟨c,rfl,ae,av⟩:=X.2 id o ho;obtain⟨cs,af,fr,k1,k2,k3⟩:=B.tab _ ae;exact⟨av,c,rfl,⟨cs,af,fr,B.at' _ _ k1,k2,k3⟩⟩) B.at' (λp hp=>B.tab p hp)
       have aw:aG (xM P.globals.size ⟨rU (yw tabs),P.globals.size+1,0⟩ E) (yX st args) (yY st vs):=XT (ZL (T:=T) V q ad W);refine calls_of_wp hf hc ?_;refine Oa (λe2 a2 F2=>e2=e/\a2=a'/\F2=F') ⟨rfl,rfl,rfl⟩ (.shut w) E (xM P.globals.size ⟨rU (yw tabs),P.globals.size+1,0⟩ E) w _ _ (lF.start ar X.own) rfl (aaG aw) ?_;rintro e2 a2 F2 H1 A' A ⟨rfl,rfl,rfl⟩ hF ax ht
       obtain⟨x,r1,r2⟩:=Tc hF.rel ht (fun|.tmp t=>pure (A'.tmps.getD t undef)|.cell a t=>do loadVar t (<-asAddr (A'.tmps.getD a undef))) (λ_=>rfl) (λ_ _=>rfl) _ _ al;obtain⟨dQ,f1,f2,f3⟩:=Wl hF ax (@EX ⟨ns,ds,0⟩ P F2 rs);have C:yF T P tabs P.globals.size (P.globals.size+1) H1 F2 A (@EX ⟨ns,ds,0⟩ P F2 rs) [] [] [] dQ:=⟨hF.rel,rfl,f1,f3,rfl,Eu _⟩
       obtain⟨gl,k1,k2⟩:=aen C am r2;have ay:gl=d:=by have ag:valsOf (λn=>R[n]?) l=some d:=h4;have az:valsOf (λn=>R[n]?) l=some gl:=k1;rw[az]at ag;cases ag;rfl
       subst ay;have M:(results fn A'.tmps).run P A=.ok (if h:(⟨x⟩:QR).size=1 then(⟨x⟩:QR)[0]else .tuple ⟨x⟩) A:=by unfold results;rw[Y6];simp only[aY,Zp];exact uT (λr:Result Q6=>(r.andThen λa A=>Result.ok a.toArray A).andThen λa A=>Sem.run P (pure (if h:a.size=1 then a[0]else Value.tuple a)) A) r1
       have aD:(if h:(⟨x⟩:QR).size=1 then(⟨x⟩:QR)[0]else .tuple ⟨x⟩)=Eh x:=by
        match x with
        |[]=>rfl
        |[u]=>rfl
        |u::u'::x=>rfl
       rw[aD]at M
       have N:A'.defers=[]/\∃v,(results fn A'.tmps).run P A=.ok v A/\∃v',Ending.returned v=.returned v'/\(∃L,Js E L w A/\∃x,v'=Eh x/\aV L gl x):=
        ⟨ht.none,_,M,_,rfl,⟨dQ,⟨hF.kept.shut,f2.xq,f2.alL,f2.rel.jH⟩,x,rfl,k2⟩⟩
       cases e2 with
       |normal=>exact N
       |ret=>exact N
       |exit id=>simp at he
      refine⟨λE w vs B W=>?_,?_⟩
      ·right;refine⟨?_,Calls.mono' (aq E w vs B W) ?_⟩
       ·have Y:=hn f fn c hf hc;simp only[callFunc,aY,program,Sem.run,aX,hf];simp only[Y,iI,if_false,hc,MZ,bQ]
       ·rintro en A ⟨v,rfl,h5⟩
        exact⟨v,rfl,h5⟩
      ·exact ak
     ·cases m
    ·cases m
   ·cases m
  ·cases m
 ·cases m
end
end
open Go.RowKit
noncomputable section
variable{P:Program}
section
variable[iM]
end
def aV.plain{ro a:Qf}:∀{l:Q1}{vs:Q6},(∀g∈l,(∃x,g=.s x)\/∃k n,g=.i k n)->aV ro l vs->aV a l vs
 |[],vs,_,h=>h
 |g::l,vs,b,h=>by simp only[aV]at h⊢;obtain⟨x,xs,rfl,h1,c⟩:=h;refine⟨x,xs,rfl,?_,aV.plain (λg d=>b g (by simp[d])) c⟩;rcases b g aA with⟨y,rfl⟩|⟨k,n,rfl⟩<;>exact h1
end
noncomputable section
variable{P:Program}
def iR.args(s:iR):Q3:=s.slots.map (·.2)
def PN(P:Program)(tabs:QP)(s:iR)(gs:Q1)(w0:Base)(a:Qf)(vs:Q6)(w:World):Prop:=
 ∃H,@lF (Tg tabs gs s.ka) P w0 a H (s.st tabs) w/\@aG (Tg tabs gs s.ka) H s.args vs
def PU(P:Program)(tabs:QP)(f:FuncId)(st:W7)(c:iR)(b:K0)(gs d:Q1):Prop:=
 ∃(t:Nat)(r a:Q1)(e:fV)(s:iR),d=GV.i .i64 t::r/\b[t]? =some (e,s)/\wR s.al gs r=some a/\a.length=s.np/\
  ∀w0 g w h,PN P tabs c gs w0 g h w->nH P f ⟨yY st h⟩ w λv j=>∃i,v=Eh i/\PN P tabs s a w0 g i j
mutual
def AV.ren(U f:Nat->Nat):AV->AV
 |.nd j=>.nd (f j)
 |.rx j off=>.rx (f j) off
 |.sv id j=>.sv (U id) (f j)
 |.p id off=>.p (U id) off
 |.mp id=>.mp (U id)
 |.sl id off len cap=>.sl (U id) off len cap
 |.fn g fi cs=>.fn g (AV.yZ U f fi) (AV.yZ U f cs)
 |.jM t a=>.jM t (a.ren U f)
 |.agg l=>.agg (AV.yZ U f l)
 |.fK l=>.fK (AV.yZ U f l)
 |a=>a
def AV.yZ(U f:Nat->Nat):Q3->List AV
 |[]=>[]
 |a::l=>a.ren U f::AV.yZ U f l
end
mutual
def AV.okS(G:Nat):AV->Bool
 |.sv id _=>Nat.blt G id
 |.sl id _ _ _=>Nat.blt G id
 |.fn _ fi cs=>AV.CO G fi&&AV.CO G cs
 |.jM _ a=>a.okS G
 |.agg l=>AV.CO G l
 |.fK l=>AV.CO G l
 |.nd _|.rx _ _|.p _ _|.mp _|.b _|.i _ _|.s _|.kL|.iw|.AU|.vS|.rQ=>true
 |_=>false
def AV.CO(G:Nat):Q3->Bool
 |[]=>true
 |a::l=>a.okS G&&AV.CO G l
end
def bP.ren(U f:Nat->Nat):bP->bP
 |.cells c et rw opn=>.cells (AV.yZ U f c) et rw opn
 |.vec j et b=>.vec (f j) et b
 |.smap j a sz=>.smap (f j) a sz
 |o=>o
def bP.okS(G:Nat):bP->Bool
 |.cells c _ rw _=>AV.CO G c&&rw
 |.vec _ _ _=>true
 |.smap _ _ _=>true
 |_=>false
def adx(U f:Nat->Nat):∀l:Q3,AV.yZ U f l=l.map (AV.ren U f)
 |[]=>rfl
 |a::l=>by simp[AV.yZ,adx U f l]
structure Qa(S T:aJ)(G:Nat)(U f:Nat->Nat)(H H':Env):Prop where
 val:∀j g,S.val j=some g->T.val (f j)=some g
 pl:∀i q,G<i->H i=some q->H' (U i)=some q
 gl:∀i q,i<=G->H i=some q->∃q',H' (U i)=some q'/\q'.bl=q.bl/\q'.ba=q.ba
 gh:∀i,G<i->H.gh i=true->H'.gh (U i)=true
 ro:∀b o,H.ro b=some o->H'.ro b=some o
section
variable{S T:aJ}{G:Nat}{U f:Nat->Nat}{H H':Env}
mutual
def VR.ren(h:Qa S T G U f H H'):∀(a:AV)(v:Value),a.okS G=true->@VR S H a v->@VR T H' (a.ren U f) v
 |.b _,_,_,b=>by simpa only[VR,AV.ren]using b
 |.i _ _,_,_,b=>by simpa only[VR,AV.ren]using b
 |.s _,_,_,b=>by simpa only[VR,AV.ren]using b
 |.kL,_,_,b=>by simpa only[VR,AV.ren]using b
 |.p i off,v,_,b=>by
  simp only[VR,AV.ren]at b⊢;obtain⟨q,m,rfl⟩:=b;by_cases hi:i<=G
  ·obtain⟨p,d,k,n⟩:=h.gl i q hi m;exact⟨p,d,by rw[k,n]⟩
  ·exact⟨q,h.pl i q ah m,rfl⟩
 |.iw,_,_,b=>by simpa only[VR,AV.ren]using b
 |.sl i off len z,v,c,b=>by simp only[AV.okS,jY]at c;simp only[VR,AV.ren]at b⊢;obtain⟨q,m,d,rfl⟩:=b;exact⟨q,h.pl i q c m,d,rfl⟩
 |.rQ,_,_,b=>by simpa only[VR,AV.ren]using b
 |.mp i,v,_,b=>by
  simp only[VR,AV.ren]at b⊢;obtain⟨q,m,rfl⟩:=b;by_cases hi:i<=G
  ·obtain⟨p,d,k,n⟩:=h.gl i q hi m;exact⟨p,d,by rw[k]⟩
  ·exact⟨q,h.pl i q ah m,rfl⟩
 |.AU,_,_,b=>by simpa only[VR,AV.ren]using b
 |.fn _ A s,_,c,b=>by simp only[AV.okS,aO]at c;simp only[VR,AV.ren]at b⊢;obtain⟨t,u,e,d,k⟩:=b;exact⟨t,u,e,aG.ren h A t c.1 d,aG.ren h s u c.2 k⟩
 |.vS,_,_,b=>by simpa only[VR,AV.ren]using b
 |.jM _ a,_,c,b=>by simp only[AV.okS]at c;simp only[VR,AV.ren]at b⊢;obtain⟨x,e,d⟩:=b;exact⟨x,e,VR.ren h a x c d⟩
 |.agg l,_,c,b=>by simp only[AV.okS]at c;simp only[VR,AV.ren]at b⊢;obtain⟨x,e,d⟩:=b;exact⟨x,e,aG.ren h l x c d⟩
 |.fK l,_,c,b=>by simp only[AV.okS]at c;simp only[VR,AV.ren]at b⊢;obtain⟨x,e,d⟩:=b;exact⟨x,e,aG.ren h l x c d⟩
 |.z _ _ _,_,c,_=>by simp[AV.okS]at c
 |.ro _,_,c,_=>by simp[AV.okS]at c
 |.rp _ _,_,c,_=>by simp[AV.okS]at c
 |.nd _,_,_,b=>by simp only[VR,AV.ren]at b⊢;obtain⟨g,d,k,n⟩:=b;exact⟨g,h.val _ _ d,k,GR.mono h.ro _ _ n⟩
 |.rx _ _,_,_,b=>by simp only[VR,AV.ren]at b⊢;obtain⟨g,B,base,s,o,D,x,d,k,n,E⟩:=b;exact⟨g,B,base,s,o,D,x,h.val _ _ d,h.ro _ _ k,GR.mono h.ro _ _ n,E⟩
 |.sv i j,_,c,b=>by
  simp only[AV.okS,jY]at c;simp only[VR,AV.ren]at b⊢;obtain⟨y,d,⟨q,m,k⟩|⟨I,k⟩⟩:=b
  ·exact⟨y,h.val _ _ d,.inl ⟨q,h.pl i q c m,k⟩⟩
  ·exact⟨y,h.val _ _ d,.inr ⟨h.gh i c I,k⟩⟩
 |.pv _ _ _,_,c,_=>by simp[AV.okS]at c
 |.pd _ _,_,c,_=>by simp[AV.okS]at c
def aG.ren(h:Qa S T G U f H H'):∀(l:Q3)(vs:Q6),AV.CO G l=true->@aG S H l vs->@aG T H' (AV.yZ U f l) vs
 |[],_,_,b=>by simpa only[aG,AV.yZ]using b
 |a::l,_,c,b=>by simp only[AV.CO,aO]at c;simp only[aG,AV.yZ]at b⊢;obtain⟨x,xs,e,h1,d⟩:=b;exact⟨x,xs,e,VR.ren h a x c.1 h1,aG.ren h l xs c.2 d⟩
end
def OR.ren(h:Qa S T G U f H H'){q:Place}{w:World}{o:bP}(i:o.okS G=true)(r:@OR S P H q w o):@OR T P H' q w (o.ren U f):=by
 cases o with
 |cells c v V y=>
  simp only[bP.okS,aO]at i;obtain⟨n,d,p,W,⟨r1,r2,r3,O,z,A,B⟩⟩:=r;have Q:(AV.yZ U f c).length=c.length:=by rw[adx];simp
  have D:∀a∈c,a.okS G=true:=by
   have:∀l:Q3,AV.CO G l=true->∀a∈l,a.okS G=true:=by
    intro l;induction l with
    |nil=>intro _ a t;simp at t
    |cons b l X=>
     intro h a t;simp only[AV.CO,aO]at h;rcases bH.1 t with rfl|t
     ·exact h.1
     ·exact X h.2 a t
   exact this c i.1
  refine⟨n,d,p,W,@vC.mk T P H' q _ v V y n d p r1 (by rw[Q];exact r2) (λe=>by rw[Q];exact r3 e) (λk a u=>?_) z A B⟩;rw[adx,jA]at u;obtain⟨E,R,rfl⟩:=bI.1 u;obtain⟨x,Y,Z⟩:=O k E R;exact⟨x,Y,VR.ren h E x (D E (tN R)) Z⟩
 |iter s pos=>simp[bP.okS]at i
 |map es=>simp[bP.okS]at i
 |pmap es=>simp[bP.okS]at i
 |iterM m=>simp[bP.okS]at i
 |smap j kk sz=>obtain⟨I,ms,g,L,M,N⟩:=r;exact⟨I,ms,g,h.val _ _ L,M,N.mono h.ro⟩
 |vec j v b=>obtain⟨I,n,d,p,ys,L,M,N,k4,k5,k6,⟨r1,r2,r3,O,z,A,B⟩,k8⟩:=r;exact⟨I,n,d,p,ys,h.val _ _ L,M,aV.mono h.ro _ _ N,k4,k5,k6,@vC.mk T P H' q [] v true true n d p r1 r2 r3 (λk a u=>by simp at u) z A B,k8⟩
def Live.ren(h:Qa S T G U f H H'){w:World}{i:Nat}{o:bP}(hi:G<i)(a:o.okS G=true)(r:@Live S P H w i o):@Live T P H' w (U i) (o.ren U f):=by
 rcases r with⟨q,c,d⟩|⟨e,n,g,b,rfl,j⟩
 ·exact .inl ⟨q,h.pl i q hi c,OR.ren h a d⟩
 ·exact .inr ⟨h.gh i hi e,f n,g,b,rfl,h.val _ _ j⟩
end
def bP.aci{G:Nat}{o:bP}(h:o.okS G=true):o.own=true:=by
 cases o<;>simp only[bP.okS,aO,iI]at h<;>simp[bP.own]
 exact h.2
def rhoC(G ka next:Nat)(r:W8)(i:Nat):Nat:=if i<=G then i else if i<=G+ka then(match dV i r with|some (some id)=>id|_=>0)else next+(i-(G+ka+1))
def OW(U f:Nat->Nat):YY->Tr bP->Tr bP
 |[],h=>h
 |p::l,h=>(OW U f l h).set (U p.1) (some (p.2.ren U f))
def rH:W8->List Nat
 |[]=>[]
 |p::l=>match p.2 with
  |some id=>id::rH l
  |none=>rH l
def VN{α:Type}:List (Nat×α)->Bool
 |[]=>true
 |p::l=>(match dV p.1 l with|none=>true|some _=>false)&&VN l
def EF(r:W8)(F:aC):Nat->Nat->Bool
 |_,0=>true
 |i,n+1=>(match dV (i+1) r with
  |some (some id)=>(match F.get id with|some (.cells _ _ _ _)=>true|_=>false)
  |_=>false)&&EF r F (i+1) n
def adh(s:iR):Bool:=Nat.blt (s.gn+s.ka) s.next&&AV.CO s.gn s.args&&VN s.objs&&s.objs.all λp=>Nat.blt s.gn p.1&&Nat.blt p.1 s.next&&p.2.okS s.gn
section
variable[iM]
def auU(P:Program)(s:iR)(l:Q3)(F:aC):US:=YO P s.gn F s.objs (I4 P s.gn F s.args l ⟨[],[],[]⟩)
def auV(P:Program)(s:iR)(l:Q3)(F:aC):US:=YO P s.gn F s.objs (I4 P s.gn F s.args l ⟨ZG s.gn s.ka,[],[]⟩)
def Xq(P:Program)(s:iR)(l:Q3)(F:aC)(fz:Q2)(r:W8)(ps:Q2):Bool:=
 Nat.beq s.gn P.globals.size&&Nat.blt (s.gn+s.ka) s.next&&LD r&&DR P s.gn F fz r ps s.args l&&Ov P s.gn s.next F fz r ps s.objs
def acu(P:Program)(st:W7)(a:aN):eU:=λc F=>match Ee st c with
 |none=>none
 |some args=>match auU P a.pre args F with
  |⟨r,p,fz⟩=>match adl p 0 a.pre.np with
   |none=>none
   |some ps=>
    if Xq P a.pre args F fz r ps&&(fz.all (Nat.ble F.lock ·)&&((rH r).all (λid=>Nat.ble F.lock id&&!(fz.contains id))&&EF r F a.pre.gn a.pre.ka))then
     match gB (.call a.key ps 0)with
     |some tag=>match Lp tag a.posts 0 with
      |some (_,s)=>if adh s&&(Nat.beq s.ka a.pre.ka&&Nat.beq s.gn a.pre.gn)then match DY a.key ps s.al 1 s.np with
       |some b=>some (LW (AV.yZ (rhoC s.gn s.ka F.next r) (λj=>b.getD j 0) s.args),⟨OW (rhoC s.gn s.ka F.next r) (λj=>b.getD j 0) s.objs (kills (kills F fz) (rH r)).h,F.next+(s.next-(s.gn+s.ka+1)),F.lock⟩)
       |none=>none
       else none
      |none=>none
     |none=>none
    else none
end
def ahn{α:Type}:∀{l:List (Nat×α)},VN l=true->∀{k:Nat}{v:α},(k,v)∈l->dV k l=some v
 |[],_,k,v,h=>by simp at h
 |p::l,a,k,v,h=>by
  simp only[VN,aO]at a;rcases bH.1 h with e|h
  ·subst e;simp[dV]
  ·have h1:=ahn a.2 h;simp only[dV];cases c:Nat.beq k p.1 with
   |true=>have e:=bV c;have b:=a.1;rw[<-e,h1]at b;cases b
   |false=>exact h1
def ah6{α:Type}:∀{l m:List (Nat×α)}{k:Nat}{v:α},dV k l=some v->dV k (l++m)=some v
 |[],m,k,v,h=>by simp[dV]at h
 |p::l,m,k,v,h=>by
  simp only[bG,dV]at h⊢;cases a:Nat.beq k p.1 with
  |true=>rw[a]at h;exact h
  |false=>rw[a]at h;exact ah6 h
def alo{U f:Nat->Nat}:∀{l:YY}{h:Tr bP}{k:Nat}{o:bP},(OW U f l h).get k=some o->(∃i o0,(i,o0)∈l/\U i=k/\o=o0.ren U f)\/(h.get k=some o/\∀p∈l,U p.1≠k)
 |[],h,k,o,a=>.inr ⟨a,λp b=>by simp at b⟩
 |q::l,h,k,o,a=>by
  simp only[OW,Tr.wX]at a;split at a
  ·next e=>cases a;exact .inl ⟨q.1,q.2,aA,e.symm,rfl⟩
  ·next e=>
   rcases alo a with⟨i,o0,h1,c,d⟩|⟨h1,c⟩
   ·exact .inl ⟨i,o0,zG _ h1,c,d⟩
   ·refine .inr ⟨h1,λp b=>?_⟩;rcases bH.1 b with rfl|b
    ·exact λg=>e g.symm
    ·exact c p b
def aiV{r:W8}:∀{i id:Nat},dV i r=some (some id)->id∈rH r:=by
 induction r with
 |nil=>intro i id h;simp[dV]at h
 |cons p l b=>
  intro i id h;simp only[dV]at h;cases a:Nat.beq i p.1 with
  |true=>rw[a]at h;simp only[cond_true,bD]at h;simp only[rH,h];simp
  |false=>
   rw[a]at h;have:=b h;simp only[rH];split
   ·exact zG _ this
   ·exact this
def ZH{r:W8}{F:aC}:∀{n i:Nat},EF r F i n=true->∀j,i<j->j<=i+n->∃id c et rw opn,dV j r=some (some id)/\F.get id=some (.cells c et rw opn)
 |0,i,_,j,h1,d=>ah
 |n+1,i,h,j,h1,d=>by
  simp only[EF,aO]at h;by_cases e:j=i+1
  ·subst e;have a:=h.1;split at a
   ·next id b=>
    split at a
    ·next c et rw opn g=>exact⟨id,c,et,rw,opn,b,g⟩
    ·cases a
   ·cases a
  ·exact ZH h.2 j ah ah
def St.azk{T:aJ}{tabs:QP}(wY:T.tabs=tabs){G ka:Nat}(hG:G=P.globals.size){H v:Env}{F:aC}{w w':World}(h:@SR T P H F w){r:W8}(ad:LD r=true)(aa:∀id∈rH r,F.lock<=id)(ak:EF r F G ka=true)
 {s:iR} (hs:adh s=true) (al:s.ka=ka) (am:s.gn=G) {gs:Q1} {f:Nat->Nat} (hf:∀j g,gs[j]? =some g->T.val (f j)=some g)
 (hF:@lF (Tg tabs gs s.ka) P ⟨w,λb=>∃id o q,id∈rH r/\F.get id=some o/\o.own=true/\H id=some q/\q.bl=b,λi=>if G<i/\i<=G+ka then(match dV i r with|some (some id)=>H id|_=>none)else none⟩ H.ro v (s.st tabs) w')
 {vs:Q6} (hv:@aG (Tg tabs gs s.ka) v s.args vs):
 ∃H',@St T P H F w H' ⟨OW (rhoC s.gn s.ka F.next r) f s.objs (kills F (rH r)).h,F.next+(s.next-(s.gn+s.ka+1)),F.lock⟩ w'/\@aG T H' (AV.yZ (rhoC s.gn s.ka F.next r) f s.args) vs:=by
 obtain⟨⟨an,ae,ao,ab,ap,aq,ar,av⟩,Pm,aw,ax,af,ay⟩:=hF;letI:=T
 subst al;subst am;unfold adh at hs;simp only[aO,jY]at hs;obtain⟨⟨⟨p1,p2⟩,p3⟩,p4⟩:=hs;have Lj:∀i o,(i,o)∈s.objs->s.gn<i/\i<s.next/\o.okS s.gn=true:=by intro i o I;have:=List.all_eq_true.1 p4 _ I;simp only[aO,jY]at this;exact⟨this.1.1,this.1.2,this.2⟩
 have TD:∀i o,(i,o)∈s.objs->(s.st tabs).get i=some o:=by
  intro i o I;show(rU (s.objs++yw tabs)).get i=some o
  rw[Lc];exact ah6 (ahn p3 I)
 let B:Nat:=s.gn+s.ka+1
 let H':Env:=⟨λid=>if id<F.next then H id else v (id-F.next+B),v.ro,λid=>if id<F.next then H.gh id else v.gh (id-F.next+B)⟩
 have az:∀b o,H.ro b=some o->v.ro b=some o:=ax;have z:H.le H':=by
  refine⟨λid q a=>?_,az,λid m=>?_⟩
  ·show(if id<F.next then H id else _)=some q
   rw[au (h.dom id q a)];exact a
  ·show(if id<F.next then H.gh id else _)=true
   rw[au (h.lq id m).2];exact m
 have uO:∀i,s.gn<i->i<=s.gn+s.ka->∃id q,dV i r=some (some id)/\H id=some q/\v i=some q/\id<F.next/\(∃o,F.get id=some o):=by intro i d t;obtain⟨id,c,et,xu,bh,D,g2⟩:=ZH ak i d t;obtain⟨q,a,_⟩:=h.obj _ _ g2 rfl;have:=(ay i q (by show(if s.gn<i/\i<=s.gn+s.ka then _ else _)=_;rw[au ⟨d,t⟩,D];exact a)).1;exact⟨id,q,D,a,this,h.dom id q a,_,g2⟩
 have O1:∀i id,s.gn<i->i<=s.gn+s.ka->dV i r=some (some id)->rhoC s.gn s.ka F.next r i=id:=by intro i id d t h3;unfold rhoC;rw[aj ah,au t,h3]
 have LH:∀i,s.gn+s.ka<i->rhoC s.gn s.ka F.next r i=F.next+(i-B):=by intro i d;unfold rhoC;rw[aj ah,aj ah]
 have Lr:∀i,s.gn+s.ka<i->H' (F.next+(i-B))=v i/\H'.gh (F.next+(i-B))=v.gh i:=by
  intro i d;have e:F.next+(i-B)-F.next+B=i:=by show F.next+(i-(s.gn+s.ka+1))-F.next+(s.gn+s.ka+1)=i;omega
  constructor
  ·show(if F.next+(i-B)<F.next then _ else v (F.next+(i-B)-F.next+B))=_
   rw[aj ah,e]
  ·show(if F.next+(i-B)<F.next then _ else v.gh (F.next+(i-B)-F.next+B))=_
   rw[aj ah,e]
 have ag:Qa (Tg tabs gs s.ka) T s.gn (rhoC s.gn s.ka F.next r) f v H':=by
  refine⟨hf,λi q hi a=>?_,λi q hi a=>?_,λi hi m=>?_,λ_ _ h=>h⟩
  ·by_cases V:i<=s.gn+s.ka
   ·obtain⟨id,O,D,g2,g3,g4,_⟩:=uO i hi V;rw[O1 i id hi V D];rw[a]at g3;cases g3;exact z.pl _ _ g2
   ·rw[LH i ah,(Lr i ah).1];exact a
  ·obtain⟨sz,es,e1⟩:=an i ah;rw[a]at e1;cases e1;obtain⟨aD,aE,e2⟩:=h.oN i ah;refine⟨⟨i,0,aD,aE⟩,?_,rfl,rfl⟩;show H' (rhoC s.gn s.ka F.next r i)=_
   unfold rhoC;rw[au hi];exact z.pl _ _ e2
  ·by_cases V:i<=s.gn+s.ka
   ·obtain⟨id,O,D,g2,g3,_⟩:=uO i hi V;rw[(ab i m).1]at g3;cases g3
   ·rw[LH i ah,(Lr i ah).2];exact m
 have aL:∀id o,(kills F (rH r)).get id=some o->id∉rH r/\F.get id=some o:=by
  intro id o m;rw[Fh]at m;split at m
  ·cases m
  ·next I=>exact⟨I,m⟩
 have XD:∀id o q,id∉rH r->F.get id=some o->H id=some q->∀fC o0 X,fC∈rH r->F.get fC=some o0->o0.own=true->H fC=some X->X.bl≠q.bl:=by intro id o q I m a fC o0 X aM aR a0 a7;exact h.sep fC o0 id o X q aR a0 m (λe=>I (e▸aM)) a7 a
 have a8:∀id o q,id∉rH r->F.get id=some o->H id=some q->q.bl<w.heap.size->w'.heap[q.bl]? =w.heap[q.bl]?:=by
  intro id o q I m a E;refine Pm.keep q.bl E ?_;rintro⟨fC,o0,X,A,M,Q,R,a5⟩
  exact XD id o q I m a fC o0 X A M Q R a5
 have obj:∀k o,(OW (rhoC s.gn s.ka F.next r) f s.objs (kills F (rH r)).h).get k=some o->(∃i o0,(i,o0)∈s.objs/\rhoC s.gn s.ka F.next r i=k/\o=o0.ren (rhoC s.gn s.ka F.next r) f)\/(k∉rH r/\F.get k=some o/\∀p∈s.objs,rhoC s.gn s.ka F.next r p.1≠k):=by
  intro k o V;rcases alo V with d|⟨d,t⟩
  ·exact .inl d
  ·obtain⟨h3,h4⟩:=aL k o d;exact .inr ⟨h3,h4,t⟩
 have OO:∀k o q,F.get k=some o->H' k=some q->H k=some q:=by intro k o q m a;have E:k<F.next:=h.hasLt (h.Rf m);have u:(if k<F.next then H k else _)=some q:=a;rw[au E]at u;exact u
 have l:∀i o q,(i,o)∈s.objs->H' (rhoC s.gn s.ka F.next r i)=some q->v i=some q:=by
  intro i o q I a;obtain⟨D,g2,g3⟩:=Lj i o I;by_cases V:i<=s.gn+s.ka
  ·obtain⟨id,O,A,M,Q,R,_⟩:=uO i D V;rw[O1 i id D V A]at a;have:=z.pl _ _ M;rw[a]at this;cases this;exact Q
  ·rw[LH i ah,(Lr i ah).1]at a;exact a
 have bi:∀i j oi oj,(i,oi)∈s.objs->(j,oj)∈s.objs->rhoC s.gn s.ka F.next r i=rhoC s.gn s.ka F.next r j->i=j:=by
  intro i j oi oj hi hj e;obtain⟨D,g2,_⟩:=Lj i oi hi;obtain⟨W,k2,_⟩:=Lj j oj hj;by_cases n:i<=s.gn+s.ka<;>by_cases L:j<=s.gn+s.ka
  ·obtain⟨id,_,A,_,_,_,_⟩:=uO i D n;obtain⟨a9,_,N,_,_,_,_⟩:=uO j W L;rw[O1 i id D n A,O1 j a9 W L N]at e;subst e;exact ads ad i j id A N
  ·obtain⟨id,_,A,_,_,R,_⟩:=uO i D n;rw[O1 i id D n A,LH j ah]at e;omega
  ·obtain⟨id,_,A,_,_,R,_⟩:=uO j W L;rw[O1 j id W L A,LH i ah]at e;omega
  ·rw[LH i ah,LH j ah]at e;have hB:B=s.gn+s.ka+1:=rfl;omega
 have ac:∀i o q,(i,o)∈s.objs->v i=some q->w.heap.size<=q.bl\/∃id o0 X,id∈rH r/\F.get id=some o0/\o0.own=true/\H id=some X/\X.bl=q.bl:=by intro i o q I a;exact aw i o q (TD i o I) (bP.aci (Lj i o I).2.2) a
 have E:∀k o q,F.get k=some o->H k=some q->q.bl<w.heap.size:=λk o q m a=>(h.at m a).lt;refine⟨H',⟨z,⟨?_,?_,?_,?_,?_,aq,?_,?_⟩,Pm.size,?_,?_,Pm.os,Pm.tape,Pm.output,rfl,Nat.le_add_right _ _,?_,?_⟩,aG.ren ag _ _ p2 hv⟩
 ·intro g m;obtain⟨sz,es,e⟩:=h.oN g m;exact⟨sz,es,z.pl _ _ e⟩
 ·intro id q a;show id<F.next+(s.next-(s.gn+s.ka+1))
  by_cases Y:id<F.next
  ·omega
  ·have u:(if id<F.next then H id else v (id-F.next+B))=some q:=a;rw[aj Y]at u;have:=ae _ _ u;have:id-F.next+(s.gn+s.ka+1)<s.next:=this;omega
 ·intro k o V;rcases obj k o V with⟨i,o0,d,rfl,rfl⟩|⟨d,t,_⟩
  ·obtain⟨D,g2,g3⟩:=Lj i o0 d;exact Live.ren ag D g3 (ao i o0 (TD i o0 d))
  ·refine((h.live k o t).heap λq a ba=>?_).mono z
   exact a8 k o q d t a ba.lt
 ·intro id m;have y:(if id<F.next then H.gh id else v.gh (id-F.next+B))=true:=m;show(if id<F.next then H id else v (id-F.next+B))=none/\id<F.next+(s.next-(s.gn+s.ka+1))
  by_cases Y:id<F.next
  ·rw[au Y]at y⊢;exact⟨(h.lq id y).1,ah⟩
  ·rw[aj Y]at y⊢;obtain⟨A,M⟩:=ab _ y;have bj:id-F.next+(s.gn+s.ka+1)<s.next:=M;exact⟨A,ah⟩
 ·intro k o k' o' q O A M Q R a5 a6;rcases obj k o A with⟨i,o0,d,rfl,rfl⟩|⟨d,t,_⟩<;>rcases obj k' o' Q with⟨j,Sl,W,rfl,rfl⟩|⟨W,k2,_⟩
  ·have N:=l i o0 q d a5;have b2:=l j Sl O W a6;exact ap i o0 j Sl q O (TD i o0 d) (bP.aci (Lj i o0 d).2.2) (TD j Sl W) (λe=>R (by rw[e])) N b2
  ·have N:=l i o0 q d a5;have b2:=OO k' o' O k2 a6;rcases ac i o0 q d N with n|⟨id,o1,Z,n,L,c3,c4,c5⟩
   ·have:=E k' o' O k2 b2;omega
   ·rw[<-c5];exact XD k' o' O W k2 b2 id o1 Z n L c3 c4
  ·have N:=OO k o q t a5;have b2:=l j Sl O W a6;rcases ac j Sl O W b2 with n|⟨id,o1,Z,n,L,c3,c4,c5⟩
   ·have:=E k o q t N;omega
   ·rw[<-c5];exact λe=>XD k o q d t N id o1 Z n L c3 c4 e.symm
  ·exact h.sep k o k' o' q O t M k2 R (OO k o q t a5) (OO k' o' O k2 a6)
 ·intro k o q A M Q;rcases obj k o A with⟨i,o0,d,rfl,rfl⟩|⟨d,t,_⟩
  ·exact ar i o0 q (TD i o0 d) (bP.aci (Lj i o0 d).2.2) (l i o0 q d Q)
  ·have N:=OO k o q t Q;show v.ro q.bl=none
   cases bb:v.ro q.bl with
   |none=>rfl
   |some x=>
    rcases af q.bl (by rw[bb];simp)with n|n|⟨id,o1,Z,n,L,c3,c4,c5⟩
    ·exact absurd (h.ny k o q t M N) n
    ·have:=E k o q t N;have bk:w.heap.size<=q.bl:=n;omega
    ·exact absurd c5 (XD k o q d t N id o1 Z n L c3 c4)
 ·intro p hp;have bc:p∈tabs:=by rw[<-wY];exact hp
  obtain⟨cs,ai,fr,e1,e2⟩:=av p bc;exact⟨cs,ai,fr,e1,e2⟩
 ·intro bl bd be;refine Pm.keep bl bd ?_;rintro⟨id,o,q,A,M,Q,R,a5⟩
  exact be id o q M Q (aa id A) R a5
 ·intro k o q A M Q R;rcases obj k o A with⟨i,o0,d,rfl,rfl⟩|⟨d,t,_⟩
  ·rcases ac i o0 q d (l i o0 q d R)with n|⟨id,o1,Z,n,L,c3,c4,c5⟩
   ·exact .inl n
   ·exact .inr ⟨id,o1,Z,L,c3,aa id n,c4,c5⟩
  ·exact .inr ⟨k,o,q,t,M,Q,OO k o q t R,rfl⟩
 ·intro id hh;by_cases Y:id<F.next
  ·left;rcases hh with⟨q,a⟩|m
   ·have u:(if id<F.next then H id else _)=some q:=a;rw[au Y]at u;exact .inl ⟨q,u⟩
   ·have y:(if id<F.next then H.gh id else _)=true:=m;rw[au Y]at y;exact .inr y
  ·right;refine⟨ah,?_⟩;show id<F.next+(s.next-(s.gn+s.ka+1))
   rcases hh with⟨q,a⟩|m
   ·have u:(if id<F.next then H id else v (id-F.next+B))=some q:=a;rw[aj Y]at u;have:id-F.next+(s.gn+s.ka+1)<s.next:=ae _ _ u;omega
   ·have y:(if id<F.next then H.gh id else v.gh (id-F.next+B))=true:=m;rw[aj Y]at y;have:id-F.next+(s.gn+s.ka+1)<s.next:=(ab _ y).2;omega
 ·intro b hb;rcases af b hb with n|n|⟨id,o1,Z,n,L,c3,c4,c5⟩
  ·exact .inl n
  ·exact .inr (.inl n)
  ·exact .inr (.inr ⟨id,o1,Z,L,c3,aa id n,c4,c5⟩)
def azC{T:aJ}(M:xG T.tabs P.globals.size){f:FuncId}{st:W7}{d:aN}(D:d.pre.ok=true)(hC:∀gs A,T.I d.key gs=some A->PU P T.tabs f st d.pre d.posts gs A):@eG T P f (@acu T.toiM P st d):=by
 letI:=T
 intro Qj F rr F' m H w ay hS ad;unfold acu at m;split at m
 ·cases m
 next args ae=>
 obtain⟨vs,rfl,hv⟩:=YL ae ad;split at m;next r p fz ax=>
 split at m
 ·cases m
 next ps az=>
 split at m;rotate_left
 ·cases m
 next z=>
 split at m;rotate_left
 ·cases m
 next tag N=>
 split at m;rotate_left
 ·cases m
 next e s E=>
 split at m;rotate_left
 ·cases m
 next x=>
 split at m;rotate_left
 ·cases m
 next ns af=>
 cases m;rw[aO,aO,aO]at z;obtain⟨z,ag,O,Q⟩:=z;unfold Xq at z;simp only[aO,jY]at z;obtain⟨⟨⟨⟨R,m2⟩,m3⟩,m4⟩,m5⟩:=z;have R:=bV R;rw[aO,aO]at x;obtain⟨q1,q2,q3⟩:=x;have q2:=bV q2;have q3:=bV q3;unfold iR.ok at D;rw[aO,aO]at D;obtain⟨⟨_,I⟩,J9⟩:=D;have I:AV.rX d.pre.next d.pre.args=true:=by
  have:∀l:Wo,G5 d.pre.next l=true->AV.rX d.pre.next (l.map (·.2))=true:=by
   intro l;induction l with
   |nil=>intro _;rfl
   |cons a l ih=>intro h;simp only[G5,aO]at h;simp only[jc,AV.rX,aO];exact⟨h.1,ih h.2⟩
  exact this _ I
 have ai:∀id∈fz,F.lock<=id:=λid u=>wB (List.all_eq_true.1 ag id u);have V:∀id∈rH r,F.lock<=id:=λid u=>by have:=List.all_eq_true.1 O id u;rw[aO]at this;exact wB this.1
 have ak:∀id∈rH r,id∉fz:=λid u z=>by have:=List.all_eq_true.1 O id u;rw[aO,aeX.2 z]at this;simp at this
 obtain⟨dQ,f1,f2,f3⟩:=aaW hS fz ai;obtain⟨gt,t1,L⟩:=iJ N;simp only[Nd.den]at L;split at L;rotate_left
 ·cases L
 next gs W=>
 split at L;rotate_left
 ·cases L
 next A hI=>
 obtain⟨t,r0,X,e2,s2,rfl,al,am,aD,Y⟩:=hC gs A hI;simp only[mD,bD]at L;subst L;have an:=acG t1 d.posts 0 E (vG _) (e2,s2) (by simpa using al);cases an;obtain⟨n1,n2⟩:=SA W hI _ 1 s.al (r:=r0) (λk=>by rw[MS,xA]) am af;have Z:∀j g,X[j]? =some g->T.val (ns.getD j 0)=some g:=by
  intro j g hj;have ao:j<ns.length:=by have:=(gy.1 hj).1;omega
  have z:ns[j]? =some (ns.getD j 0):=by rw[Aj,cO ao];rfl
  rw[n2 j _ z];exact hj
 have C:yF T P T.tabs d.pre.gn d.pre.next H F w fz r ps gs dQ:=⟨hS,W,f1,f3,R,ah⟩
 obtain⟨hR,aa⟩:=abX (ka:=d.pre.ka) rfl M J9 ah R C f2.rel.jH (λid o q b2 b3 b4 b5=>f2.rel.ny id o q (by rw[Fh,aj b2];exact b3) b4 b5) m3 m5;let F1:aC:=kills F fz
 let H1:Env:=⟨H.pl,dQ,H.gh⟩
 let w0:Base:=⟨w,λb=>∃id o q,id∈rH r/\F1.get id=some o/\o.own=true/\H1 id=some q/\q.bl=b,λi=>if d.pre.gn<i/\i<=d.pre.gn+d.pre.ka then(match dV i r with|some (some id)=>H1 id|_=>none)else none⟩
 have hF:@lF (Tg T.tabs gs d.pre.ka) P w0 dQ (vO T.tabs d.pre.gn d.pre.next r H dQ) (d.pre.st T.tabs) w:=by
  refine @lF.mk (Tg T.tabs gs d.pre.ka) P w0 dQ _ _ w hR ⟨rfl,rfl,rfl,dP _,λ_ _ _=>rfl⟩ ?_ (λ_ _ h=>h) (λ_ h=>.inl h) ?_
  ·intro i o q a1 a2 a3;obtain⟨id,o',b1,b2,b3,b4,b5⟩:=aa i o q a1 a2 a3;exact .inr ⟨id,o',q,aiV b1,by show(kills F fz).get id=_;rw[Fh,aj b2];exact b3,b4,b5,rfl⟩
  ·intro i q hi;have y:(if d.pre.gn<i/\i<=d.pre.gn+d.pre.ka then(match dV i r with|some (some id)=>H1 id|_=>none)else none)=some q:=hi;split at y
   ·next hr=>
    split at y
    ·next id u=>
     refine⟨?_,ah,by show i<=P.globals.size+d.pre.ka;omega⟩;rw[Iq hr.1 ah u];exact y
    ·cases y
   ·cases y
 have ap:=Ir (ka:=d.pre.ka) C _ _ _ I m4 hv;refine nH.mono (Y w0 dQ w vs ⟨_,hF,ap⟩) ?_;rintro v w' ⟨us,rfl,H2,aq,ar⟩
 have av:EF r F1 d.pre.gn d.pre.ka=true:=by
  have:∀n i,(∀j,i<j->j<=i+n->∃id,dV j r=some (some id)/\id∉fz)->EF r F i n=true->EF r F1 i n=true:=by
   intro n;induction n with
   |zero=>intro i _ _;rfl
   |succ n ih=>
    intro i ab h;simp only[EF,aO]at h⊢;obtain⟨id,h1,h2⟩:=ab (i+1) ah ah;refine⟨?_,ih (i+1) (λj a b=>ab j ah ah) h.2⟩;have h3:=h.1;rw[h1]at h3⊢;simp only at h3⊢;show(match(kills F fz).get id with|some (.cells _ _ _ _)=>true|_=>false)=true
    rw[Fh,aj h2];exact h3
  refine this _ _ (λj a b=>?_) Q;obtain⟨id,c,et,xu,aE,g1,g2⟩:=ZH Q j a b;exact⟨id,g1,ak id (aiV g1)⟩
 obtain⟨H',aw,ac⟩:=St.azk (T:=T) (tabs:=T.tabs) (G:=d.pre.gn) (ka:=d.pre.ka) rfl R f2.rel m3 (by rw[Oo];exact V) av q1 q2 q3 Z aq ar;have B:=f2.trans aw;rw[abH,Oo]at B;rw[abH]at ac;exact⟨H',B,am5 ac⟩
def abP(P:Program)(tabs:QP)(pl:nK)(b:Ww)(fuel:Nat)(st:W7)(a:aN)(c:Nat)(h:List ResultVar)(o:AC)(d:List Nd)(g:Wk)(p:Leaf):Bool:=
 match p with
 |.ret (q::l)=>match @yL ⟨d,g,a.pre.ka⟩ (Gl P tabs ⟨d,g,a.pre.ka⟩ b) (LJ P ⟨d,g,a.pre.ka⟩ pl fuel) o {t:=BJ (yX st (AV.sU (λj=>j) a.pre.args)) 0 .nil,n:=max (yX st (AV.sU (λj=>j) a.pre.args)).length c,gn:=P.globals.size} (a.pre.Gj tabs λj=>j)with
  |some (e,u,i)=>(match e with|.exit _=>false|_=>true)&&match Dh P i u h with
   |some k=>match d[q]? with
    |some (.ci .i64 t)=>match a.posts[t.toNat]? with
     |some (_,s)=>decide (0<=t)&&(s.ok&&(Nat.beq s.ka a.pre.ka&&(match ER a.pre.np s.al l with
      |some m=>Nat.beq m.length s.np&&(match @auV ⟨d,g,a.pre.ka⟩ P s k i with
       |⟨r,_,fz⟩=>Qh r s.gn s.ka&&@Xq ⟨d,g,a.pre.ka⟩ P s k i fz r m)
      |none=>false)))
     |none=>false
    |_=>false
   |none=>false
  |none=>false
 |_=>false
def PU.Sr{tabs:QP}(N:xG tabs P.globals.size)(hm:P.follows .mixedOrders=true)(hn:yG P){pl:nK}{I:jl}(ac:Ak P tabs I pl){z:Ww}{fuel:Nat}{f:FuncId}{fn:Func}{c:Code}{Y:Q2}{st:W7}{D:aN}{n:Nat}(ad:n=D.pre.np){t:Tree}
 (hf:P.funcs[f]? =some fn) (hc:fn.body=some c)
 (Kr:∀k A,dV k z=some A->A.pre.ok=true/\∀b,(pJ Y c).qY k b->∀gs x,I A.key gs=some x->xC P tabs b A.pre A.posts gs x)
 (BU:t.chk (abP P tabs pl z fuel st D fn.ntmps fn.results.toList (pJ Y c)) (List.replicate D.pre.np .arg) []=true) {gs x:Q1} (hd:(aH.tree n t).den I gs=some x):PU P tabs f st D.pre D.posts gs x:=by
 simp only[aH.den]at hd;split at hd;rotate_left
 ·cases hd
 next O=>
 subst ad;obtain⟨ns,ds,V,lf,d,h2,⟨aL,h3⟩,h4⟩:=Tree.ND t BU (EC.start I gs _ O) hd;let T:aJ:=Tw tabs I D.pre.ka h2
 unfold abP at d;split at d;rotate_left
 ·cases d
 next tn l=>
 split at d;rotate_left
 ·cases d
 next e a' F' aa=>
 rw[aO]at d;obtain⟨he,d⟩:=d;split at d;rotate_left
 ·cases d
 next rs ae=>
 split at d;rotate_left
 ·cases d
 next tt af=>
 split at d;rotate_left
 ·cases d
 next e' s p=>
 rw[aO,aO,aO,decide_eq_true_iff]at d;obtain⟨c1,c2,c3,d⟩:=d;split at d;rotate_left
 ·cases d
 next l2 ag=>
 rw[aO]at d;obtain⟨c4,d⟩:=d;have c3:=bV c3;have c4:=bV c4;split at d;next r pp fz aM=>
 rw[aO]at d;obtain⟨c5,c6⟩:=d;unfold Xq at c6;simp only[aO,jY]at c6;obtain⟨⟨⟨⟨m1,m2⟩,m3⟩,m4⟩,m5⟩:=c6;have m1:=bV m1;have M:valsOf (λn=>V[n]?) (tn::l)=some x:=h4;simp only[valsOf]at M;split at M;rotate_left
 ·cases M
 next g r0 hg ai=>
 cases M;obtain⟨m,E,ak⟩:=VX h3 O ag ai;obtain⟨g',k1,k2⟩:=h2.node tn _ af aA;have al:V[tn]? =some g:=hg;rw[al]at k1;cases k1;simp only[Nd.den,bD]at k2;subst k2;unfold iR.ok at c2;rw[aO,aO]at c2;obtain⟨⟨_,W⟩,J9⟩:=c2;have W:AV.rX s.next s.args=true:=by
  have:∀l:Wo,G5 s.next l=true->AV.rX s.next (l.map (·.2))=true:=by
   intro l;induction l with
   |nil=>intro _;rfl
   |cons a l ih=>intro h;simp only[G5,aO]at h;simp only[jc,AV.rX,aO];exact⟨h.1,ih h.2⟩
  exact this _ W
 refine⟨tt.toNat,r0,m,e',s,by rw[Jf c1],p,ak,by rw[<-c4];exact aeo E,λw0 fD w vs hA=>?_⟩;have Oa:∀Q:fV->bM->aC->Prop,Q e a' F'->@AT T P c {t:=BJ (yX st (AV.sU (λj=>j) D.pre.args)) 0 .nil,n:=max (yX st (AV.sU (λj=>j) D.pre.args)).length fn.ntmps,gn:=P.globals.size} (D.pre.Gj tabs λj=>j) Q:=by
  intro Q hq;have:=@ZB P T (Gl P tabs ⟨ns,ds,D.pre.ka⟩ z) (LJ P ⟨ns,ds,D.pre.ka⟩ pl fuel) (adD (T:=T) hm hn (ac T rfl rfl) fuel) (pJ Y c) (Ar Y c 0).2 (λk b hk a F e1 a1 F1 hs Q' am=>by
   unfold Gl at hs;split at hs
   ·next A an=>
    obtain⟨k1,k2⟩:=Kr k A an;exact abK (T:=T) rfl N k1 (λgs x hI=>k2 b hk gs x hI) hs am
   ·cases hs) _ _ _ _ _ aa Q hq
  rwa [show(pJ Y c).erase=c from(Ar Y c 0).1]at this
 have R:∀j g,gs[j]? =some g->T.val ((λj=>j) j)=some g:=by
  intro j g hj;show V[j]? =some g
  rw[h3];have:=(gy.1 hj).1;rw[pF this];exact hj
 obtain⟨H,ao,ap⟩:=hA;have aq:=ahW (T:=T) (f:=λj=>j) rfl rfl R ao;have ar:@aG T H (AV.sU (λj=>j) D.pre.args) vs:=aG.fP (S:=Tg tabs gs D.pre.ka) (T:=T) R _ _ ap;have av:Calls P f ⟨yY st vs⟩ w λen B=>∃v,en=.returned v/\∃y,v=Eh y/\PN P tabs s m w0 fD y B:=by
  letI:=T
  have aw:aG H (yX st (AV.sU (λj=>j) D.pre.args)) (yY st vs):=XT ar;refine calls_of_wp hf hc ?_;refine Oa (λe2 Z F2=>e2=e/\Z=a'/\F2=F') ⟨rfl,rfl,rfl⟩ w0 fD H w _ _ aq rfl (aaG aw) ?_;rintro e2 Z F2 H1 A' B ⟨rfl,rfl,rfl⟩ hF ax ht
  obtain⟨y,r1,r2⟩:=Tc hF.rel ht (fun|.tmp t=>pure (A'.tmps.getD t undef)|.cell a t=>do loadVar t (<-asAddr (A'.tmps.getD a undef))) (λ_=>rfl) (λ_ _=>rfl) _ _ ae;obtain⟨dQ,f1,f2,f3⟩:=Wl hF ax fz;have C:yF T P tabs s.gn s.next H1 F2 B fz r l2 m dQ:=⟨hF.rel,E,f1,f3,m1,ah⟩
  obtain⟨hR,ab⟩:=abX (ka:=s.ka) (T:=T) rfl N J9 ah m1 C f2.rel.jH (λid o q b2 b3 b4 b5=>f2.rel.ny id o q (by rw[Fh,aj b2];exact b3) b4 b5) m3 m5;have ay:=Ir (ka:=s.ka) C _ _ _ W m4 r2;have az:PN P tabs s m w0 fD y B:=by
   refine⟨_,@lF.mk (Tg tabs m s.ka) P w0 fD _ _ B hR hF.kept ?_ f2.xq f2.tC ?_,ay⟩
   ·intro i o q a1 Z a3;obtain⟨id,u,b1,b2,b3,b4,b5⟩:=ab i o q a1 Z a3;exact hF.own id u q b3 b4 b5
   ·intro i q hi;obtain⟨a1,Z,a3⟩:=hF.uO i q hi;have aD:i<=P.globals.size+s.ka:=by rw[c3];exact a3
    refine⟨?_,Z,aD⟩;rw[Iq ah ah (ZI c5 i ah ah)];exact a1
  have L:(results fn A'.tmps).run P B=.ok (if h:(⟨y⟩:QR).size=1 then(⟨y⟩:QR)[0]else .tuple ⟨y⟩) B:=by unfold results;rw[Y6];simp only[aY,Zp];exact uT (λr:Result Q6=>(r.andThen λa B=>Result.ok a.toArray B).andThen λa B=>Sem.run P (pure (if h:a.size=1 then a[0]else Value.tuple a)) B) r1
  have aE:(if h:(⟨y⟩:QR).size=1 then(⟨y⟩:QR)[0]else .tuple ⟨y⟩)=Eh y:=by
   match y with
   |[]=>rfl
   |[u]=>rfl
   |u::u'::y=>rfl
  rw[aE]at L
  have p:A'.defers=[]/\∃v,(results fn A'.tmps).run P B=.ok v B/\∃v',Ending.returned v=.returned v'/\∃y,v'=Eh y/\PN P tabs s m w0 fD y B:=
   ⟨ht.none,_,L,_,rfl,y,rfl,az⟩
  cases e2 with
  |normal=>exact p
  |ret=>exact p
  |exit id=>simp at he
 right;refine⟨?_,Calls.mono' av ?_⟩
 ·have X:=hn f fn c hf hc;simp only[callFunc,aY,program,Sem.run,aX,hf];simp only[X,iI,if_false,hc,MZ,bQ]
 ·rintro en B ⟨v,rfl,h5⟩
  exact⟨v,rfl,h5⟩
end
noncomputable section
variable{P:Program}{Hx:Type}{enc:TypeId×Value->Hx}
inductive dh where
 |bool
 |int (k:IntKind)
 |str
 |list (agg:Bool) (e:List dh)
abbrev WK:=List dh
def fieldTys(P:Program)(r:TypeId->Option WK):Nat->List Field->Option WK
 |_,[]=>some []
 |off,f::fs=>match r f.type with
  |some l=>if Nat.beq f.offset off&&Nat.beq (P.cellsOf f.type) l.length then match fieldTys P r (off+l.length) fs with
   |some m=>some (l++m)
   |none=>none
   else none
  |none=>none
def Aw(P:Program):Nat->TypeId->Option WK
 |0,_=>none
 |n+1,t=>match P.underlying t with
  |some .bool=>some [.bool]
  |some (.int k)=>some [.int k]
  |some .string=>some [.str]
  |some (.slice e)=>match Aw P n e,qw P e with
   |some l,some b=>if Nat.beq (P.cellsOf e) l.length&&Nat.ble 1 l.length&&Nat.ble 1 (P.bytesOf e)&&(b ||Nat.beq l.length 1)then some [.list b l]else none
   |_,_=>none
  |some (.struct fs)=>match fieldTys P (Aw P n) 0 fs.toList with
   |some l=>if Nat.beq (P.cellsOf t) l.length then some l else none
   |none=>none
  |_=>none
mutual
def dh.has:dh->GV->Prop
 |.bool,g=>∃b,g=.b b
 |.int k,g=>∃n,g=.i k n/\k.min<=n/\n<=k.max
 |.str,g=>∃s,g=.s s/\s.length<=reachBytes
 |.list agg e,g=>∃xs,g=.l xs/\xs.length<=reachBytes/\∀x∈xs,dh.jK e x.cells/\x.scalar = !agg
def dh.jK:WK->List GV->Prop
 |[],gs=>gs=[]
 |t::ts,gs=>∃g r,gs=g::r/\dh.has t g/\dh.jK ts r
end
def dh.has.scalar{t:dh}{g:GV}(h:t.has g):g.scalar=true:=by
 cases t<;>simp only[dh.has]at h
 ·obtain⟨b,rfl⟩:=h;rfl
 ·obtain⟨b,rfl,_⟩:=h;rfl
 ·obtain⟨b,rfl,_⟩:=h;rfl
 ·obtain⟨b,rfl,_⟩:=h;rfl
def dh.jK.scalars:∀{l:WK}{gs:Q1},dh.jK l gs->gs.all GV.scalar=true/\gs.length=l.length
 |[],gs,h=>by simp only[dh.jK]at h;subst h;exact⟨rfl,rfl⟩
 |t::l,gs,h=>by simp only[dh.jK]at h;obtain⟨g,r,rfl,h1,a⟩:=h;have:=dh.jK.scalars a;simp[h1.scalar,this.1,this.2]
def dh.jK.append:∀{l m:WK}{gs a:Q1},dh.jK l gs->dh.jK m a->dh.jK (l++m) (gs++a)
 |[],m,gs,a,h,b=>by simp only[dh.jK]at h;subst h;simpa using b
 |t::l,m,gs,a,h,b=>by simp only[dh.jK]at h;obtain⟨g,r,rfl,h1,c⟩:=h;simp only[bG,dh.jK];exact⟨g,r++a,rfl,h1,dh.jK.append c b⟩
def aV.append{ro:Qf}:∀{l m:Q1}{vs b:Q6},aV ro l vs->aV ro m b->aV ro (l++m) (vs++b)
 |[],m,vs,b,h,c=>by simp only[aV]at h;subst h;simpa using c
 |a::l,m,vs,b,h,c=>by simp only[aV]at h;obtain⟨x,xs,rfl,h1,d⟩:=h;simp only[bG,aV];exact⟨x,xs++b,rfl,h1,aV.append d c⟩
def anz:∀{e:TypeId}{a:List (DataW Hx)}{d:DataW Hx},d∈a->∀z∈d.weights P e,z∈DataW.weightsAll P e a
 |e,[],d,h,z,_=>by simp at h
 |e,c::a,d,h,z,b=>by
  simp only[DataW.weightsAll,jQ];rcases bH.1 h with rfl|h
  ·exact .inl b
  ·exact .inr (anz h z b)
def AO(w:World):Nat->Option Obj:=λb=>w.heap[b]?
def cell?_at {w:World} {a:Addr} {v:Value} (h:w.cell? a=some v):a.spot=none/\∃c elem b,w.heap[a.block]? =some (.cells c elem b)/\c[a.off]? =some v:=by
 unfold World.cell? at h;split at h
 ·next c elem b d=>
  split at h
  ·cases h
  ·next e=>exact⟨by simpa using e,c,elem,b,d,h⟩
 ·cases h
def ahK{w:World}{r:TypeId->Option WK}{fuel:Nat}{cs:Q6}
 (e:∀t l ch (x:DataW Hx×List MemPlace),r t=some l->DataW.trod enc P w 0 (λ_=>true) true fuel t ch=some x->(∀z∈x.1.weights P t,z<=reachBytes)->∃gs,aV (AO w) gs ch/\dh.jK l gs):
 ∀(fs:List Field)(xs:List (DataW Hx×List MemPlace))(off:Nat)(l:WK),fieldTys P r off fs=some l->xs.length=fs.length->
  (∀(i:Nat)(f:Field),fs[i]? =some f->DataW.trod enc P w 0 (λ_=>true) true fuel f.type ((cs.drop f.offset).take (P.cellsOf f.type))=xs[i]?)->
  (∀z∈DataW.weightsEach P (fs.map (·.type)) (xs.map (·.1)),z<=reachBytes)->
  ∃gs,aV (AO w) gs ((cs.drop off).take l.length)/\dh.jK l gs
 |[],xs,off,l,h,_,_,_=>by simp only[fieldTys,bD]at h;subst h;exact⟨[],by simp[aV],by simp[dh.jK]⟩
 |f::fs,[],off,l,_,b,_,_=>by simp at b
 |f::fs,x::xs,off,l,h,b,g,j=>by
  simp only[fieldTys]at h;split at h
  ·next a h1=>
   split at h
   ·next c=>
    rw[aO]at c;have o:=bV c.1;have p:=bV c.2;split at h
    ·next m q=>
     cases h;have k:=g 0 f rfl;simp only[mD]at k;obtain⟨gs,n,s⟩:=e f.type a _ x h1 k (λz d=>j z (by simp only[jc,DataW.weightsEach,jQ];exact .inl d))
     obtain⟨u,v,y⟩:=ahK e fs xs (off+a.length) m q (by simpa using b) (λi A B=>by have:=g (i+1) A (by simpa using B);simpa using this)
      (λz d=>j z (by simp only[jc,DataW.weightsEach,jQ];exact .inr d))
     refine⟨gs++u,?_,s.append y⟩;rw[o,p]at n;have:(cs.drop off).take (a++m).length=(cs.drop off).take a.length++(cs.drop (off+a.length)).take m.length:=by rw[eP,Et,tK]
     rw[this];exact aV.append n v
    ·cases h
   ·cases h
  ·cases h
def ahp{c:Nat}{ch:Nat->List Value}{arr:QR}{off:Nat}:∀(n:Nat)(_:∀i,i<n->(ch i).length=c/\∀j,j<c->arr[off+i*c+j]? =(ch i)[j]?),
 ((List.range n).flatMap ch).length=n*c/\∀(k:Nat) x,((List.range n).flatMap ch)[k]? =some x->arr[off+k]? =some x
 |0,_=>aA
 |n+1,h=>by
  obtain⟨h1,b⟩:=ahp n λi hi=>h i ah;obtain⟨d,e⟩:=h n ah;rw[List.range_succ,ae2];simp only[kY,List.flatMap_nil,pY];refine⟨by rw[eP,h1,d,uK,Jo],λk x a=>?_⟩;by_cases g:k<n*c
  ·rw[pF ah]at a;exact b k x a
  ·rw[yD ah,h1]at a;have l:=(gy.1 a).1;have:=e (k-n*c) ah;rw[a]at this;rw[<-this];congr 1;omega
def aV.ofFn{ro:Qf}{G:Nat->GV}{Y:Nat->Value}:∀(l:Q2),(∀i∈l,GR ro (G i) (Y i))->aV ro (l.map G) (l.map Y)
 |[],_=>by simp[aV]
 |i::l,h=>by simp only[jc,aV];exact⟨_,_,rfl,h i aA,aV.ofFn l λj a=>h j (by simp[a])⟩
def aeh{w:World}:∀(n m:Nat)(t:TypeId)(cs:Q6)(x:DataW Hx×List MemPlace)(l:WK),Aw P n t=some l->DataW.trod enc P w 0 (λ_=>true) true m t cs=some x->
 (∀z∈x.1.weights P t,z<=reachBytes)->∃gs,aV (AO w) gs cs/\dh.jK l gs
 |0,m,t,cs,x,l,q,h,hw=>by simp[Aw]at q
 |n+1,m,t,cs,x,l,q,h,hw=>by
  simp only[Aw]at q;split at q
  ·next B=>
   cases q;obtain⟨b,rfl,rfl⟩:=DataW.trod_bool B h;exact⟨[.b b],by simp[aV,GR],by simp only[dh.jK];exact⟨_,_,rfl,by simp[dh.has],rfl⟩⟩
  ·next k B=>
   cases q;obtain⟨b,rfl,rfl,ai⟩:=DataW.trod_int B h;have aa:k.min<=b/\b<=k.max:=by simpa[Lit.wf]using ai
   exact⟨[.i k b],by simp[aV,GR],by simp only[dh.jK];exact⟨_,_,rfl,by simp only[dh.has];exact⟨b,rfl,aa⟩,rfl⟩⟩
  ·next B=>
   cases q;obtain⟨s,rfl,rfl,hs⟩:=DataW.trod_string B h;refine⟨[.s s.data.toList],by simp only[aV,GR];exact⟨_,_,rfl,by cases s with|mk a=>cases a;rfl,rfl⟩,by simp only[dh.jK];exact⟨_,_,rfl,by simp only[dh.has];exact⟨_,rfl,hw _ (by simp[DataW.weights])⟩,rfl⟩⟩
  ·next e B=>
   split at q
   ·next le N he ax=>
    split at q
    ·next E=>
     cases q;simp only[aO,qF]at E;obtain⟨⟨⟨c1,c2⟩,c3⟩,c4⟩:=E;have c1:=bV c1;have c2:=wB c2;have c3:=wB c3;rcases Deep.open_slice B h with⟨rfl,rfl⟩|⟨a,len,ar,I,n',D,Pl,rfl,hb,hl,hm,rfl,rfl,hi⟩
     ·exact⟨[.l []],by simp[aV,GR],by simp only[dh.jK];exact⟨_,_,rfl,by simp only[dh.has];exact⟨[],rfl,aA,aA⟩,rfl⟩⟩
     have ak:I*P.bytesOf e<=reachBytes:=by have:=hw (I*P.bytesOf e) (by simp only[DataW.weights,B,bH,gU,List.length_range];left;rw[Uu hl]);exact this
     have al:I<=reachBytes:=kZ (anQ _ c3) ak;have one:∀i,i<len->∃o gs,(o.length=P.cellsOf e/\∀j,j<P.cellsOf e->w.cell? (((a.add (i*P.cellsOf e))).add j)=o[j]?)/\aV (AO w) gs o/\dh.jK le gs:=by
      intro i d;obtain⟨o,R,Z⟩:=hi i ah;obtain⟨_,h3,h4⟩:=World.cells?_some R;obtain⟨gs,g1,g2⟩:=aeh n n' e o _ le he Z (λz hz=>hw z (by simp only[DataW.weights,B,bH,jQ];right;left;exact anz (by simp only[rZ,Bq];exact⟨i,d,rfl⟩) z hz))
      exact⟨o,gs,⟨h3,h4⟩,g1,g2⟩
     by_cases hz:I=0
     ·have am:len=0:=ah;subst hz;subst am;refine⟨[.l []],by simp only[aV,GR];exact⟨_,_,rfl,.inl ⟨trivial,_,rfl⟩,rfl⟩,by simp only[dh.jK];exact⟨_,_,rfl,by simp only[dh.has];exact⟨[],rfl,aA,aA⟩,rfl⟩⟩
     have ha:a.spot=none/\∃v L fr,w.heap[a.block]? =some (.cells v L fr):=by obtain⟨o,R,Z⟩:=hi 0 ah;obtain⟨_,h3,h4⟩:=World.cells?_some R;have h5:=h4 0 ah;have V:o[0]? =some o[0]:=cO ah;rw[V]at h5;have O:=cell?_at h5;simp only[Nat.zero_mul,Addr.add,if_true]at O;exact⟨O.1,O.2.choose,O.2.choose_spec.choose,O.2.choose_spec.choose_spec.choose,O.2.choose_spec.choose_spec.choose_spec.1⟩
     obtain⟨ab,v,L,fr,M⟩:=ha;obtain⟨bl,A,sp⟩:=a;simp only at ab M;subst ab;have ac:∀i j:Nat,((Addr.mk bl A none).add i).add j=⟨bl,A+i+j,none⟩:=by intro i j;unfold Addr.add;split<;>split<;>simp_all
     have an:∃(o:Nat->List Value)(G:Nat->List GV),∀i,i<len->(o i).length=P.cellsOf e/\(∀j,j<P.cellsOf e->v[A+i*P.cellsOf e+j]? =(o i)[j]?)/\aV (AO w) (G i) (o i)/\dh.jK le (G i):=by refine⟨λi=>if d:i<len then(one i d).choose else[],λi=>if d:i<len then(one i d).choose_spec.choose else[],λi d=>?_⟩;simp only[dif_pos d];obtain⟨⟨R,Z⟩,h3,h4⟩:=(one i d).choose_spec.choose_spec;refine⟨R,λj hj=>?_,h3,h4⟩;have:=Z j hj;rw[ac]at this;rw[<-this];have V:=cO (l:=(one i d).choose) (i:=j) ah;rw[V]at this;have O:=cell?_at this;simp only at O;obtain⟨_,c',e',f',h7,h8⟩:=O;rw[M]at h7;cases h7;rw[this,h8]
     obtain⟨o,G,hG⟩:=an;obtain⟨q1,q2⟩:=ahp (c:=P.cellsOf e) (ch:=o) (arr:=v) (off:=A) len λi d=>⟨(hG i d).1,λj hj=>(hG i d).2.1 j hj⟩
     have ao:∀i,i<len->(G i).length=le.length:=λi d=>(hG i d).2.2.2.scalars.2;let X:Nat->GV:=λi=>if N then .g (G i)else(G i).headD (.l [])
     let Y:Nat->Value:=λi=>if N then .agg ⟨o i⟩else(o i).headD undef
     have hX:∀i,i<len->(X i).cells=G i/\(X i).scalar = !N/\GR (AO w) (X i) (Y i)/\(Y i).cells.toList=o i:=by
      intro i d;obtain⟨p1,p2,p3,p4⟩:=hG i d;cases N with
      |true=>simp only[X,Y,if_true];exact⟨rfl,rfl,by simp only[GR];exact⟨_,rfl,p3⟩,rfl⟩
      |false=>
       have Q:le.length=1:=by simpa using c4
       obtain⟨g,hg⟩:∃g,G i=[g]:=Zf.1 (by rw[ao i d,Q]);obtain⟨y,hy⟩:∃y,o i=[y]:=Zf.1 (by rw[p1,c1,Q]);have W:g.scalar=true:=by have:=p4.scalars.1;rw[hg]at this;simpa using this
       have Oi:GR (AO w) g y:=by rw[hg,hy]at p3;simp only[aV]at p3;obtain⟨u,us,e1,e2,_⟩:=p3;cases e1;exact e2
       simp only[X,Y,hg,hy,List.headD_cons,iI,if_false,Bool.not_false];refine⟨by cases g<;>first|rfl|(simp[GV.scalar]at W),W,Oi,?_⟩;cases g<;>simp only[GR]at Oi
       ·subst Oi;rfl
       ·subst Oi;rfl
       ·subst Oi;rfl
       ·rcases Oi with⟨_,_,rfl⟩|⟨_,_,_,_,_,rfl,_⟩<;>rfl
       ·simp[GV.scalar]at W
     refine⟨[.l ((List.range len).map X)],?_,?_⟩
     ·simp only[aV];refine⟨_,_,rfl,?_,rfl⟩;simp only[GR];right;have ad:eX ((List.range len).map Y)=(List.range len).flatMap o:=by unfold eX;rw[List.flatMap_map];rw[List.flatMap_def,List.flatMap_def,List.map_congr_left λi p=>(hX i (Bq.1 p)).2.2.2]
      refine⟨bl,A,I,(List.range len).map Y,P.cellsOf e,aA,by simpa using hl,aV.ofFn _ λi p=>(hX i (Bq.1 p)).2.2.1,?_,λap=>⟨v,L,fr,M,?_,?_⟩⟩
      ·intro y hy;obtain⟨i,p,rfl⟩:=rZ.1 hy;have:=(hX i (Bq.1 p)).2.2.2;rw[<-MC,this];exact(hG i (Bq.1 p)).1
      ·rw[ad,q1];have ae:0<len:=by
        rcases Uw len with h0|h0
        ·subst h0;simp at ap
        ·exact h0
       have af:0<P.cellsOf e:=ah;have hk:len*P.cellsOf e-1<((List.range len).flatMap o).length:=by rw[q1];have:0<len*P.cellsOf e:=P6 ae af;omega
       have:=q2 _ _ (cO hk);have:=(tH.1 this).1;have:0<len*P.cellsOf e:=P6 ae af;omega
      ·rw[ad];exact q2
     ·simp only[dh.jK];refine⟨_,_,rfl,?_,rfl⟩;simp only[dh.has];refine⟨_,rfl,by simp;omega,λy hy=>?_⟩;obtain⟨i,p,rfl⟩:=rZ.1 hy;obtain⟨k1,k2,_⟩:=hX i (Bq.1 p);rw[k1];exact⟨(hG i (Bq.1 p)).2.2.2,k2⟩
    ·cases q
   ·cases q
  ·next fs B=>
   split at q
   ·next l' hf=>
    split at q
    ·next ag=>
     cases q;have ag:=bV ag;obtain⟨xs,n',rfl,rfl,av,aq,hx⟩:=DataW.trod_struct B h
     obtain⟨gs,g1,g2⟩:=ahK (enc:=enc) (P:=P) (w:=w) (fuel:=n') (cs:=cs) (r:=Aw P n) (λt l o x R Z h3=>aeh n n' t o x l R Z h3) fs.toList xs 0 l hf (by simpa using aq)
      (λi f hi=>hx i f (by simpa using hi)) (λz hz=>hw z (by simp only[DataW.weights,B];simpa using hz))
     refine⟨gs,?_,g2⟩;rw[dY,mF ah]at g1;exact g1
    ·cases q
   ·cases q
  ·cases q
def argTys(P:Program)(n:Nat):List TypeId->Option (List (Bool×WK))
 |[]=>some []
 |t::ts=>match Aw P n t,qw P t,argTys P n ts with
  |some l,some b,some r=>if b ||Nat.beq l.length 1 then some ((b,l)::r)else none
  |_,_,_=>none
def hasArgs:List (Bool×WK)->List GV->Prop
 |[],gs=>gs=[]
 |(b,l)::r,gs=>∃g a,gs=g::a/\dh.jK l g.cells/\g.scalar = !b/\hasArgs r a
def azo{w:World}{r:Reach}{c:Nat}{t:TypeId}{v:Value}(h:Value.okWide P w r c t v):(qw P t=some true->∃cs,v=.agg cs)/\
 (qw P t=some false->v.cells =#[v]\/∀n,Aw P n t=none):=by
 unfold Value.okWide at h;unfold qw;constructor
 ·intro a;split at a
  ·next b=>rw[b]at h;simp only at h;obtain⟨cs,rfl,_⟩:=h;exact⟨cs,rfl⟩
  ·next b=>rw[b]at h;simp only at h;obtain⟨cs,rfl,_⟩:=h;exact⟨cs,rfl⟩
  ·cases a
  ·cases a
 ·intro a;split at a
  ·cases a
  ·cases a
  ·next u d e b=>
   rw[b]at h
   cases u<;>first
    |(exact absurd rfl (d _))
    |(exact absurd rfl (e _ _))
    |(right;intro n;cases n<;>simp[Aw,b];done)
    |(left;simp only[Cell.okWide,b,Cell.ok]at h;cases v<;>first|rfl|(simp only at h;done)|(cases h;done))
  ·cases a
def Kept.below{W a:World}(h:Kept W a):Go.RowKit.Below W.heap.size W a:=⟨h.os,h.tape,h.output,h.size,h.keep⟩
def am4{W g:World}(i:laidOutB P=true)(j:Kept W g){k:Nat->Bool}:∀{ts:List TypeId}{vs:Q6}{e:List (DataW Hx)}{ps:List MemPlace},DataW.TrodAll enc P W 0 (λ_=>true) true ts vs e ps->
 (∀t∈ts,P.readableRec t=true/\t<P.types.size)->(∀x∈ps,x.block<W.heap.size)->(∀x∈ps,k x.block=true)->DataW.TrodAll enc P g 0 k true ts vs e ps
 |[],[],[],ps,h,_,_,_=>h
 |t::ts,v::vs,d::e,ps,h,l,b,c=>by
  obtain⟨p,q,h1,m,rfl⟩:=h;obtain⟨r1,r2⟩:=l t aA
  exact⟨p,q,WideElems.Trod_stays i r1 r2 h1 (λx a=>j.below.same (b x (Zi _ a))) (λx a=>c x (Zi _ a)),
   am4 i j m (λn o=>l n (by simp[o])) (λx a=>b x (ae7 _ a)) (λx a=>c x (ae7 _ a)),rfl⟩
 |[],_::_,_,_,h,_,_,_=>by simp[DataW.TrodAll]at h
 |[],[],_::_,_,h,_,_,_=>by simp[DataW.TrodAll]at h
 |_::_,[],_,_,h,_,_,_=>by simp[DataW.TrodAll]at h
 |_::_,_::_,[],_,h,_,_,_=>by simp[DataW.TrodAll]at h
end
open Go.ChangeShapes Go.WideShapes Go.ChangeAt Go.RowKit
noncomputable section
variable{P:Program}
def apw{g:aJ}{call:Caller}{f:FuncId}{F0 F':aC}(b:@uD g P call)(h0:@BH g F0 P.globals.size)(d:call f [] F0=some (.b true,F')){ro:Qf}{w:World}(a:zL g.tabs ro w):
 nH P f ⟨[]⟩ w λv w'=>v=.bool true/\Kept w w':=by
 letI:=g
 have k:SR P (xM P.globals.size F0 ro) F0 w:=Nb h0.1 (λid o l=>by obtain⟨c,rfl,m,h⟩:=h0.2 id o l;obtain⟨n,e,q,s,t,u⟩:=a.tab _ m;exact⟨h,c,rfl,⟨n,e,q,a.at' _ _ s,t,u⟩⟩) a.at' (λp x=>a.tab p x)
 refine nH.mono (b f [] F0 _ _ d _ w [] k rfl) ?_;rintro v w' ⟨H',i,j⟩
 simp only[VR]at j;exact⟨j,i.kept h0.own⟩
def azD{T:aJ}{f:FuncId}(h:∀ro w,zL T.tabs ro w->nH P f ⟨[]⟩ w λv w'=>v=.bool true/\Kept w w'):@eG T P f Ll:=by
 letI:=T
 intro args F r e a H w g b c;unfold Ll at a;split at a
 ·cases a;simp only[aG]at c;subst c;refine nH.mono (h H.ro w b.X5) ?_;rintro v w' ⟨rfl,d⟩
  exact⟨H,St.acg b d,by simp only[VR]⟩
 ·cases a
def AC.rM:AC->Nat->Option Code
 |.plain _,_=>none
 |.seq x y,k=>match x.rM k with
  |some b=>some b
  |none=>y.rM k
 |.cond _ y z,k=>match y.rM k with
  |some b=>some b
  |none=>z.rM k
 |.block _ x,k=>x.rM k
 |.loop a b,k=>if Nat.beq a k then some b else none
 |.peel x a b,k=>if Nat.beq a k then some b else x.rM k
def AC.Ip{k:Nat}{b:Code}:∀{x:AC},x.rM k=some b->x.qY k b
 |.plain _,h=>by simp[AC.rM]at h
 |.seq x y,h=>by
  simp only[AC.rM]at h;split at h
  ·next a=>cases h;exact .inl (AC.Ip a)
  ·exact .inr (AC.Ip h)
 |.cond _ x y,h=>by
  simp only[AC.rM]at h;split at h
  ·next a=>cases h;exact .inl (AC.Ip a)
  ·exact .inr (AC.Ip h)
 |.block _ x,h=>AC.Ip (x:=x) h
 |.loop c d,h=>by
  simp only[AC.rM]at h;split at h
  ·next e=>cases h;exact⟨Nat.eq_of_beq_eq_true e,rfl⟩
  ·cases h
 |.peel x c d,h=>by
  simp only[AC.rM]at h;split at h
  ·next e=>cases h;exact .inl ⟨Nat.eq_of_beq_eq_true e,rfl⟩
  ·exact .inr (AC.Ip h)
def Jw(ps:Q2):∀(c:Code)(n:Nat),n<=(nN ps c n).2/\∀k b,(nN ps c n).1.qY k b->(n<=k/\k<(nN ps c n).2)/\(nN ps c n).1.rM k=some b
 |.seq x y,n=>by
  obtain⟨h1,a⟩:=Jw ps x n;obtain⟨j,d⟩:=Jw ps y (nN ps x n).2;simp only[nN,AC.qY,AC.rM];refine⟨ah,λk b h=>?_⟩;rcases h with h|h
  ·obtain⟨r,e⟩:=a k b h;exact⟨ah,by rw[e]⟩
  ·obtain⟨r,e⟩:=d k b h;refine⟨ah,?_⟩;cases g:(nN ps x n).1.rM k with
   |none=>exact e
   |some i=>have:=(a k i (AC.Ip g)).1;omega
 |.cond _ x y,n=>by
  obtain⟨h1,a⟩:=Jw ps x n;obtain⟨j,d⟩:=Jw ps y (nN ps x n).2;simp only[nN,AC.qY,AC.rM];refine⟨ah,λk b h=>?_⟩;rcases h with h|h
  ·obtain⟨r,e⟩:=a k b h;exact⟨ah,by rw[e]⟩
  ·obtain⟨r,e⟩:=d k b h;refine⟨ah,?_⟩;cases g:(nN ps x n).1.rM k with
   |none=>exact e
   |some i=>have:=(a k i (AC.Ip g)).1;omega
 |.block id x,n=>Jw ps x n
 |.loop x,n=>by
  obtain⟨h1,a⟩:=Jw ps x (n+1);simp only[nN];split
  ·exact⟨aA,λk b h=>by simp[AC.qY]at h⟩
  ·split
   ·simp only[AC.qY,AC.rM];refine⟨ah,λk b h=>?_⟩;rcases h with⟨rfl,rfl⟩|h
    ·exact⟨ah,aA⟩
    ·obtain⟨r,e⟩:=a k b h;refine⟨ah,?_⟩;have:Nat.beq n k=false:=by cases l:Nat.beq n k with|false=>rfl|true=>have:=bV l;omega
     rw[this];exact e
   ·simp only[AC.qY,AC.rM];refine⟨ah,λk b h=>?_⟩;obtain⟨rfl,rfl⟩:=h;exact⟨ah,aA⟩
 |.skip,n|.region _ _ _,n|.rangeFunc _ _ _ _,n|.exit _,n|.scope _,n|.label _,n|.goto _,n|.ret,n|.refuse _,n=>⟨Nat.le_refl _,λk b h=>by simp[nN,AC.qY]at h⟩
def ax1{ps:Q2}{c:Code}{k:Nat}{b:Code}(h:(pJ ps c).qY k b):(pJ ps c).rM k=some b:=((Jw ps c 0).2 k b h).2
def yN:Code->List (Q2×Nat)->Code
 |c,[]=>c
 |c,(ps,k)::r=>yN (((pJ ps c).rM k).getD .skip) r
def aoF{ps:Q2}{c:Code}{k:Nat}{b:Code}(h:(pJ ps c).qY k b):yN c [(ps,k)]=b:=by simp only[yN,ax1 h,tX]
def afV{ps:Q2}{k:Nat}:∀(r:Xs)(c:Code),yN c (r++[(ps,k)])=yN (yN c r) [(ps,k)]
 |[],_=>rfl
 |(_,_)::r,_=>afV r _
abbrev Je:=Q1->List GV->Prop
def PS(b:List Je)(k:Nat)(gs a:Q1):Prop:=match b[k]? with
 |some c=>c gs a
 |none=>False
def wG(Ds:Wb):jo:=λk=>Ds[k]?
def MJ(C:Nat->List GV->List GV->Prop)(d:aH)(c:Je):Prop:=∀I:jl,(∀k gs a,I k gs=some a->C k gs a)->∀gs a,d.den I gs=some a->c gs a
def Me(C:Nat->List GV->List GV->Prop):Wb->List Je->Prop
 |[],[]=>True
 |d::a,c::cs=>MJ C d c/\Me C a cs
 |_,_=>False
def Me.at{C:Nat->List GV->List GV->Prop}:∀{b:Wb}{cs:List Je},Me C b cs->∀{k:Nat}{d:aH},b[k]? =some d->∃c,cs[k]? =some c/\MJ C d c
 |[],[],_,k,d,a=>by simp at a
 |i::b,e::cs,h,k,d,a=>by
  cases k with
  |zero=>simp at a;subst a;exact⟨e,rfl,h.1⟩
  |succ k=>obtain⟨c,h1,g⟩:=Me.at h.2 (k:=k) (by simpa using a);exact⟨c,by simpa using h1,g⟩
 |[],_::_,h,_,_,_=>h.elim
 |_::_,[],h,_,_,_=>h.elim
def axT{Ds:Wb}{b:List Je}(h:Me (PS b) Ds b):∀k gs a,(wG Ds).lim k gs=some a->PS b k gs a:=by refine jo.axU λk d e I g gs a i=>?_;obtain⟨c,j,l⟩:=h.at e;unfold PS;rw[j];exact l I g gs a i
def Ey(P:Program)(tabs:QP)(I:jl)(e:AC)(c:Ww):Prop:=
 ∀k a,dV k c=some a->a.pre.ok=true/\∀b,e.qY k b->∀gs d,I a.key gs=some d->xC P tabs b a.pre a.posts gs d
def Ey.nil{tabs:QP}{I:jl}{a:AC}:Ey P tabs I a []:=λk b h=>by simp[dV]at h
def Ey.cons{tabs:QP}{I:jl}{ps:Q2}{c:Code}{k:Nat}{g:aN}{a:Ww}(i:g.pre.ok=true)(n:∀gs d,I g.key gs=some d->xC P tabs (yN c [(ps,k)]) g.pre g.posts gs d)
 (r:Ey P tabs I (pJ ps c) a):Ey P tabs I (pJ ps c) ((k,g)::a):=by
 intro m j h;simp only[dV]at h;cases e:Nat.beq m k with
 |true=>rw[e]at h;cases h;have e:=bV e;subst e;exact⟨i,λb l gs d o=>by rw[<-aoF l];exact n gs d o⟩
 |false=>rw[e]at h;exact r m j h
def xC.azm{tabs:QP}(g:xG tabs P.globals.size)(m:P.follows .mixedOrders=true)(o:yG P){pl:nK}{I:jl}(j:Ak P tabs I pl){a:Ww}{fuel:Nat}{d:aN}(k:d.pre.ok=true){n:Nat}(l:n=d.pre.np)
 {ps:Q2} {b:Code} {t:Tree} (p:Ey P tabs I (pJ ps b) a) (e:∀gs c,I d.key gs=some c->xC P tabs b d.pre d.posts gs c)
 (q:t.chk (Xk P tabs pl a fuel d (pJ ps b)) (List.replicate d.pre.np .arg) []=true) {gs c:Q1} (i:(aH.tree n t).den I gs=some c):xC P tabs b d.pre d.posts gs c:=by
 simp only[aH.den]at i;split at i
 ·next h=>exact xC.Sr g m o j k p e q (by rw[h,l]) i
 ·cases i
def PL.nil:nK:=λ_=>[]
def PL.cons(f:FuncId)(p:iM->eU)(l:nK):nK:=λN=>(f,p N)::l N
def PL.azp{tabs:QP}{I:jl}:Ak P tabs I PL.nil:=λT _ _ p a=>by simp[PL.nil]at a
def PL.XE{tabs:QP}{I:jl}{f:FuncId}{p:iM->eU}{l:nK}(h:∀T:aJ,T.tabs=tabs->T.I=I->@eG T P f (p T.toiM))(d:Ak P tabs I l):Ak P tabs I (PL.cons f p l):=by
 intro T b c q a;rcases bH.1 a with rfl|a
 ·exact h T b c
 ·exact d T b c q a
def orP(p q:eU):eU:=λargs F=>match p args F with
 |some r=>some r
 |none=>q args F
def azw{T:aJ}{f:FuncId}{p q:eU}(c:@eG T P f p)(d:@eG T P f q):@eG T P f (orP p q):=by
 letI:=T
 intro args F r b a;unfold orP at a;split at a
 ·next r0 e=>cases a;exact c args F r b e
 ·exact d args F r b a
