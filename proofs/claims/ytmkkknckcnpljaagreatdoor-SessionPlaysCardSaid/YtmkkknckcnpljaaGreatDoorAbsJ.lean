/- Loops by contract: the step that the evaluator takes at a loop, and how a loop's contract is proved. -/
import Derived.Test.YtmkkknckcnpljaaGreatDoorAbsI
import Derived.ChangeArms
import Derived.Deep.Slices
import Derived.Carry
import Derived.ProofKit
import Derived.OpenShut
import Derived.Deep.DeepHandedRow
set_option linter.all false
namespace Go.aO
noncomputable section
variable{P:Program}
structure US where
 r:W6
 p:Wt
 fz:Q2
def US.H9(u:US)(j m:Nat):US:=match dJ j u.p with
 |some _=>u
 |none=>{u with p:=(j,m)::u.p}
def US.Oa(u:US)(i:Nat)(x:QR):US:=match dJ i u.r with
 |some _=>u
 |none=>{u with r:=(i,x)::u.r}
section
variable[gY]
def L9(P:Program)(J:aA)(a:AV):Option (Nat×QR):=
 match iU a with
 |some m=>some (m,none)
 |none=>match a with
  |.sv id _=>match J.get id with
   |some (.vec m _ _)=>some (m,some id)
   |_=>none
  |.sl id b len c=>match J.get id with
   |some (.cells _ d _ _)=>(listOf P J d (.sl id b len c)).map λm=>(m,some id)
   |_=>none
  |_=>none
mutual
def uV(P:Program)(G:Nat)(J:aA):AV->AV->US->US
 |.nd j,a,u=>match L9 P J a with
  |some (m,some id)=>{u.H9 j m with fz:=id::u.fz}
  |some (m,none)=>u.H9 j m
  |none=>u
 |.sv i _,a,u=>match a with
  |.sv id _=>u.Oa i (some id)
  |.gu=>u.Oa i none
  |_=>u
 |.p i _,a,u=>match a with
  |.p id _=>if i<=G then u else u.Oa i (some id)
  |_=>u
 |.mp i,a,u=>match a with
  |.mp id=>u.Oa i (some id)
  |_=>u
 |.sl i _ _ _,a,u=>match a with
  |.sl id _ _ _=>u.Oa i (some id)
  |_=>u
 |.rx j _,a,u=>match a with
  |.rx m _=>u.H9 j m
  |_=>u
 |.fn _ e g,a,u=>match a with
  |.fn _ b c=>GN P G J g c (GN P G J e b u)
  |_=>u
 |.agg l,a,u=>match a with
  |.agg d=>GN P G J l d u
  |_=>u
 |.eG l,a,u=>match a with
  |.eG d=>GN P G J l d u
  |_=>u
 |.jc _ x,a,u=>match a with
  |.jc _ h=>uV P G J x h u
  |_=>u
 |_,_,u=>u
def GN(P:Program)(G:Nat)(J:aA):Q3->List AV->US->US
 |[],_,u=>u
 |a::l,m,u=>match m with
  |b::c=>GN P G J l c (uV P G J a b u)
  |[]=>u
end
def ajU(P:Program)(G:Nat)(J:aA)(t:Tr AV):Wf->US->US
 |[],u=>u
 |p::l,u=>ajU P G J t l (match t.get p.1 with|some v=>uV P G J p.2 v u|none=>u)
def Wj(P:Program)(G:Nat)(J:aA):Ys->US->US
 |[],u=>u
 |p::l,u=>Wj P G J l (match dJ p.1 u.r with
  |some (some id)=>match p.2,J.get id with
   |.cells c _ _ _,some (.cells a _ _ _)=>GN P G J c a u
   |.vec j _ _,some (.vec m _ _)=>u.H9 j m
   |.smap j _ _,some (.smap m _ _)=>u.H9 j m
   |.smap j _ _,some (.map [])=>match fG (.ml [])with
    |some m=>u.H9 j m
    |none=>u
   |_,_=>u
  |some none=>match p.2 with
   |.vec j _ _=>match fG (.ml [])with
    |some m=>u.H9 j m
    |none=>u
   |_=>u
  |none=>u)
def aa1(p:Wt):Nat->Nat->Option Q2
 |_,0=>some []
 |j,n+1=>match dJ j p,aa1 p (j+1) n with
  |some m,some r=>some (m::r)
  |_,_=>none
def Xx:Nat->Nat->List (Nat×QR)
 |_,0=>[]
 |i,n+1=>(i+1,some (i+1))::Xx (i+1) n
def fit(P:Program)(s:gV)(a:bn)(J:aA):US:=Wj P s.gn J s.objs (ajU P s.gn J a.t s.slots ⟨Xx s.gn s.ka,[],[]⟩)
def fits(P:Program)(s:gV)(a:bn)(J:aA)(ps:Q2):Bool:=Nat.beq ps.length s.np&&match fit P s a J with
 |⟨r,_,fz⟩=>ZU P s a J fz r ps
structure aJ where
 key:Nat
 pre:gV
 posts:Xs
abbrev WF:=List aJ
abbrev Wo:=List (Nat×aJ)
def Jp(tag:Nat):Xs->Nat->Option (eU×gV)
 |[],_=>none
 |[p],_=>some p
 |p::q::l,t=>match fG (.ci .i64 t)with
  |some c=>match fG (.bin .eql tag c)with
   |some b=>match Yi b with
    |some true=>some p
    |some false=>Jp tag (q::l) (t+1)
    |none=>none
   |none=>none
  |none=>none
def BN(a:Nat)(ps:Q2):List QR->Nat->Nat->Option Q2
 |_,_,0=>some []
 |some i::b,j,n+1=>match ps[i]?,BN a ps b j n with
  |some m,some r=>some (m::r)
  |_,_=>none
 |none::b,j,n+1=>match fG (.call a ps j),BN a ps b (j+1) n with
  |some m,some r=>some (m::r)
  |_,_=>none
 |[],j,n+1=>match fG (.call a ps j),BN a ps [] (j+1) n with
  |some m,some r=>some (m::r)
  |_,_=>none
def ZE(P:Program)(tabs:Qt)(b:aJ)(a:bn)(J:aA):Wa:=
 match aa1 (fit P b.pre a J).p 0 b.pre.np with
 |some ps=>if fits P b.pre a J ps then
   match fG (.call b.key ps 0)with
   |some tag=>match Jp tag b.posts 0 with
    |some (e,s)=>if Nat.beq s.ka gY.ka then match BN b.key ps s.al 1 s.np with
     |some c=>some (e,s.Ru (λj=>c.getD j 0),s.Eo tabs (λj=>c.getD j 0))
     |none=>none
     else none
    |none=>none
   |none=>none
  else none
 |none=>none
end
def uf:List QR->List GV->List GV->Option Q1
 |[],_,r=>some r
 |some i::a,gs,r=>match gs[i]?,uf a gs r with
  |some g,some l=>some (g::l)
  |_,_=>none
 |none::a,gs,x::r=>match uf a gs r with
  |some l=>some (x::l)
  |none=>none
 |none::_,_,[]=>none
def Dp(a:Nat):List QR->List Nat->Option Q2
 |[],r=>some r
 |some i::b,r=>bif Nat.blt i a then(match Dp a b r with
  |some l=>some (i::l)
  |none=>none)else none
 |none::b,x::r=>match Dp a b r with
  |some l=>some (x::l)
  |none=>none
 |none::_,[]=>none
def Hz(a:Nat)(l:Q2):List QR->Bool
 |[]=>true
 |none::b=>Hz a l b
 |some i::b=>Nat.blt i a&&((match l[i]? with|some m=>Nat.beq m i|none=>false)&&Hz a l b)
def Rx(a:Nat)(l:Q2):Xs->Bool
 |[]=>true
 |p::ps=>Hz a l p.2.al&&Rx a l ps
def ab1{val:W8}:∀{l:Q2}{gs:Q1},valsOf val l=some gs->∀(i m:Nat),l[i]? =some m->gs[i]? =val m
 |[],gs,h,i,m,a=>by simp at a
 |x::l,gs,h,i,m,a=>by
  simp only[valsOf]at h;split at h
  ·next g r h5 h6=>
   cases h;cases i with
   |zero=>simp at a;subst a;simp[h5]
   |succ i=>simpa using ab1 h6 i m (by simpa using a)
  ·cases h
def Tz{k:Nat}{gs b e:Q1}(a:b=gs++e)(q:gs.length=k):∀{j:List QR}{l d:Q2}{r:Q1},Dp k j l=some d->valsOf (λn=>b[n]?) l=some r->∃rest,valsOf (λn=>b[n]?) d=some rest/\uf j gs r=some rest
 |[],l,d,r,h,c=>by simp only[Dp,aZ]at h;subst h;exact⟨r,c,rfl⟩
 |some i::j,l,d,r,h,c=>by
  simp only[Dp]at h;cases m:Nat.blt i k with
  |false=>rw[m]at h;cases h
  |true=>
   rw[m]at h;simp only[cond_true]at h;rw[jm]at m;split at h
   ·next s o=>
    cases h;obtain⟨rest,p,h5⟩:=Tz a q o c;have hi:b[i]? =some (gs[i]'(by omega)):=by rw[a,ny (by omega),bP (by omega)]
    refine⟨gs[i]'(by omega)::rest,?_,?_⟩
    ·simp only[valsOf,hi,p]
    ·simp only[uf,h5,bP (show i<gs.length by omega)]
   ·cases h
 |none::j,[],d,r,h,c=>by simp[Dp]at h
 |none::j,x::l,d,r,h,c=>by
  simp only[Dp]at h;split at h
  ·next s o=>
   cases h;simp only[valsOf]at c;split at c
   ·next g v t u=>
    cases c;obtain⟨rest,p,h5⟩:=Tz a q o u;exact⟨g::rest,by simp only[valsOf,t,p],by simp only[uf,h5]⟩
   ·cases c
  ·cases h
def Yt{k:Nat}{gs b e c:Q1}(a:b=gs++e)(o:gs.length=k){l:Q2}(g:valsOf (λn=>b[n]?) l=some c):∀{d:List QR},Hz k l d=true->∀r,uf d c r=uf d gs r
 |[],_,r=>rfl
 |none::d,h,[]=>rfl
 |none::d,h,x::r=>by simp only[Hz]at h;simp only[uf,Yt a o g h r]
 |some i::d,h,r=>by
  simp only[Hz,aK,jm]at h;obtain⟨h1,j,p⟩:=h;split at j
  ·next m q=>
   have:=bH j;subst this;have s:c[m]? =gs[m]?:=by
    rw[ab1 g m m q];show b[m]? =gs[m]?
    rw[a,ny (by omega)]
   simp only[uf,Yt a o g p r,s]
  ·cases j
def ac9{c:Nat}{l:Q2}:∀{a:Xs},Rx c l a=true->∀p∈a,Hz c l p.2.al=true
 |q::a,h,p,b=>by
  simp only[Rx,aK]at h;rcases bD.1 b with rfl|b
  ·exact h.1
  ·exact ac9 h.2 p b
def uJ(P:Program)(tabs:Qt)(b:Code)(d:gV)(c:Xs)(gs g:Q1):Prop:=
 ∃(t:Nat)(r a:Q1)(e:eU)(s:gV),g=GV.i .i64 t::r/\c[t]? =some (e,s)/\uf s.al gs r=some a/\a.length=s.np/\∀h i A w K,QY P tabs d gs h i A w->(∀j k,QY P tabs s a h i j k->K e.toExit j k)->Au P b K A w
def aav{T:aI}{tag:Nat}{d:Nat}(g:T.val tag=some (.i .i64 (d:Nat))):∀(l:Xs)(t:Nat){p:eU×gV},@Jp T.togY tag l t=some p->t<=d->∀q,l[d-t]? =some q->p=q
 |[],t,p,h,_,q,a=>by simp[Jp]at h
 |[x],t,p,h,j,q,a=>by
  simp only[Jp,aZ]at h;cases i:d-t with
  |zero=>rw[i]at a;simp at a;rw[<-h,a]
  |succ n=>rw[i]at a;simp at a
 |x::y::l,t,p,h,j,q,a=>by
  letI:=T
  simp only[Jp]at h;split at h
  ·next c v=>
   split at h
   ·next b z=>
    obtain⟨g1,A,s⟩:=gQ v;simp only[Nd.den,aZ]at s;subst s;obtain⟨g2,u,k⟩:=gQ z;have m:aI.val tag=some (.i .i64 (d:Nat)):=g;simp only[Nd.den,m,A,iD,if_true,gG,aZ]at k;split at h
    ·next i=>
     cases h;have:=T.Bg b true (OO i);have o:T.val b=some g2:=u;rw[o]at this;cases this;simp at k;have:d-t=0:=by omega
     rw[this]at a;simpa using a
    ·next i=>
     have:=T.Bg b false (OO i);have o:T.val b=some g2:=u;rw[o]at this;cases this;simp at k;have e:d-t=(d-(t+1))+1:=by omega
     rw[e,uH]at a;exact aav g (y::l) (t+1) h (by omega) q a
    ·cases h
   ·cases h
  ·cases h
def P5{T:aI}{d:Nat}{ps:Q2}{gs e:Q1}(b:valsOf T.val ps=some gs)(u:T.I d gs=some e):∀(n j:Nat)(p:List QR){o:Q2}{r rest:Q1},(∀k:Nat,r[k]? =e[j+k]?)->uf p gs r=some rest->@BN T.togY d ps p j n=some o->o.length=n/\∀(i m:Nat),o[i]? =some m->T.val m=rest[i]?
 |0,j,p,o,r,rest,_,_,h=>by
  letI:=T
  have:o=[]:=by unfold BN at h;simpa using h.symm
  subst this;simp
 |n+1,j,some L::p,o,r,rest,q,a,h=>by
  letI:=T
  simp only[BN]at h;simp only[uf]at a;split at a
  ·next g l M D=>
   cases a;split at h
   ·next m I v c=>
    cases h;obtain⟨y,z⟩:=P5 b u n j p q D c;refine⟨by simp[y],λi A hi=>?_⟩;cases i with
    |zero=>simp at hi;subst hi;have:=ab1 b L m v;rw[kW,<-M];exact this.symm
    |succ i=>simpa using z i A (by simpa using hi)
   ·cases h
  ·cases a
 |n+1,j,none::p,o,[],rest,q,a,h=>by simp[uf]at a
 |n+1,j,none::p,o,x::r,rest,q,a,h=>by
  letI:=T
  simp only[BN]at h;simp only[uf]at a;split at a
  ·next l D=>
   cases a;split at h
   ·next m I v c=>
    cases h;obtain⟨y,z⟩:=P5 b u n (j+1) p (r:=r) (λk=>by have:=q (k+1);rw[uH]at this;rw[this];congr 1;omega) D c
    refine⟨by simp[y],λi A hi=>?_⟩;cases i with
    |zero=>simp at hi;subst hi;obtain⟨g,E,B⟩:=gQ v;have F:valsOf aI.val ps=some gs:=b;have s:aI.I d gs=some e:=u;simp only[Nd.den,F,s]at B;have t:T.val m=some g:=E;have:=q 0;simp only[kW,lD]at this;rw[t,kW,this];exact B.symm
    |succ i=>simpa using z i A (by simpa using hi)
   ·cases h
  ·cases a
 |n+1,j,[],o,r,rest,q,a,h=>by
  letI:=T
  simp only[BN]at h;simp only[uf,aZ]at a;subst a;split at h
  ·next m I v c=>
   cases h;obtain⟨y,z⟩:=P5 b u n (j+1) [] (r:=r.tail) (λk=>by have:=q (k+1);rw[List.getElem?_tail,this];congr 1;omega) rfl c
   refine⟨by simp[y],λi A hi=>?_⟩;cases i with
   |zero=>simp at hi;subst hi;obtain⟨g,E,B⟩:=gQ v;have F:valsOf aI.val ps=some gs:=b;have s:aI.I d gs=some e:=u;simp only[Nd.den,F,s]at B;have t:T.val m=some g:=E;have:=q 0;rw[lD]at this;rw[t,this];exact B.symm
   |succ i=>have:=z i A (by simpa using hi);rw[this,List.getElem?_tail]
  ·cases h
def ZF{T:aI}{tabs:Qt}(N:T.tabs=tabs)(n:uN tabs P.globals.size){m:aJ}(v:m.pre.ok=true){b:Code}(Y:∀gs d,T.I m.key gs=some d->uJ P tabs b m.pre m.posts gs d)
 {a O:bn} {J J':aA} {e:eU} (h:@ZE T.togY P tabs m a J=some (e,O,J')) {Q:eU->bn->aA->Prop} (Z:Q e O J'):@Cm T P b a J Q:=by
 letI:=T
 unfold ZE at h;split at h
 ·next ps aa=>
  split at h
  ·next c=>
   split at h
   ·next tag o=>
    split at h
    ·next e' s i=>
     split at h;rotate_left
     ·cases h
     next x=>
     have x:=bH x;split at h
     ·next u y=>
      cases h;obtain⟨gt,t1,l⟩:=gQ o;simp only[Nd.den]at l;split at l
      ·next gs p=>
       split at l
       ·next d V=>
        obtain⟨t,r,W,e2,s2,rfl,z,B,ab,q⟩:=Y gs d V;simp only[kW,aZ]at l;subst l;have D:=aav t1 m.posts 0 i (vT _) (e2,s2) (by simpa using z);cases D;obtain⟨n1,n2⟩:=P5 p V _ 1 s.al (r:=r) (λk=>by rw[NC,uH]) B y;intro w0 dV H w A K hF hl ht hK;unfold fits at c;rw[aK]at c;have E:=ZX N n v hF hl ht c.2 p;refine q w0 dV A w K E λA' w' F=>?_;obtain⟨H',I,L⟩:=abv (T:=T) (f:=λj=>u.getD j 0) N x.symm (λj g X=>by
         have M:j<u.length:=by have:=(fB.1 X).1;omega
         have hm:u[j]? =some (u.getD j 0):=by rw[yB,bP M];rfl
         rw[n2 j _ hm];exact X) F
        exact hK e _ _ H' A' w' Z I rfl L
       ·cases l
      ·cases l
     ·cases h
    ·cases h
   ·cases h
  ·cases h
 ·cases h
def abZ{val:W8}:∀{l:Q2}{gs:Q1},valsOf val l=some gs->gs.length=l.length
 |[],gs,h=>by simp only[valsOf,aZ]at h;subst h;rfl
 |x::l,gs,h=>by
  simp only[valsOf]at h;split at h
  ·next h5 h6=>cases h;simp[abZ h6]
  ·cases h
def eU.eq:eU->eU->Bool
 |.normal,.normal=>true
 |.ret,.ret=>true
 |.exit a,.exit b=>Nat.beq a b
 |_,_=>false
def eU.eq_of{a b:eU}(h:a.eq b=true):a=b:=by
 cases a<;>cases b<;>first|rfl|(cases h;done)|skip
 rw[bH h]
abbrev kG:=gY->List (FuncId×fC)
def yD(P:Program)(tabs:Qt)(I:iG)(pl:kG):Prop:=∀T:aI,T.tabs=tabs->T.I=I->∀p∈pl T.togY,@eY T P p.1 p.2
def Jv(P:Program)(N:gY)(pl:kG)(fuel:Nat):Code->bn->aA->Option (eU×bn×aA):=@EI N P (Xp P) (aa0 (pl N)) fuel
def Ep(P:Program)(tabs:Qt)(N:gY)(b:Wo):Xa:=λk a J=>match dJ k b with
 |some c=>@ZE N P tabs c a J
 |none=>none
def Py(P:Program)(tabs:Qt)(pl:kG)(b:Wo)(fuel:Nat)(a:aJ)(i:AC)(c:WP)(d:W7)(k:Leaf):Bool:=
 match @vZ ⟨c,d,a.pre.ka⟩ (Ep P tabs ⟨c,d,a.pre.ka⟩ b) (Jv P ⟨c,d,a.pre.ka⟩ pl fuel) i (a.pre.Ru λj=>j) (a.pre.Eo tabs λj=>j)with
 |some (e,g,h)=>match k with
  |.ret (m::l)=>match c[m]? with
   |some (.ci .i64 t)=>match a.posts[t.toNat]? with
    |some (n,s)=>decide (0<=t)&&!(e.eq .normal)&&e.eq n&&s.ok&&(match Dp a.pre.np s.al l with|some o=>@fits ⟨c,d,a.pre.ka⟩ P s g h o|none=>false)
    |none=>false
   |_=>false
  |.tail f l=>Nat.beq f a.key&&e.eq .normal&&(Rx a.pre.np l a.posts&&@fits ⟨c,d,a.pre.ka⟩ P a.pre g h l)
  |_=>false
 |none=>false
@[reducible] def Tw(tabs:Qt)(I:iG)(ka:Nat){b:WP}{c:W7}{a:Q1}(h:CY I b c a):aI:={nodes:=b,dec:=c,ka:=ka,tabs:=tabs,I:=I,val:=λn=>a[n]?,qI:=h.node,Bg:=h.dec}
def CY.start(I:iG)(gs:Q1)(n:Nat)(h:gs.length=n):CY I (List.replicate n .arg) [] gs:=
 ⟨by simp[h],λk e a c=>absurd (acN.1 (qp a)).2 c,λk b d=>by simp at d⟩
def abn{T:aI}(a:P.follows .mixedOrders=true)(b:vO P){pl:kG}(c:∀p∈pl T.togY,@eY T P p.1 p.2)(fuel:Nat):@NR T P (Jv P T.togY pl fuel):=
 (@aeg T P _ _ (aeE a) (ah1 c) b fuel).1
def uJ.PW{tabs:Qt}(p:uN tabs P.globals.size)(hm:P.follows .mixedOrders=true)(hn:vO P){pl:kG}{I:iG}(aa:yD P tabs I pl){h:Wo}{fuel:Nat}{m:aJ}(ab:m.pre.ok=true){ps:Q2}{b:Code}{t:Tree}
 (IY:∀k i,dJ k h=some i->i.pre.ok=true/\∀c,(lX ps b).oI k c->∀gs d,I i.key gs=some d->uJ P tabs c i.pre i.posts gs d)
 (B:∀gs d,I m.key gs=some d->uJ P tabs b m.pre m.posts gs d)
 (zL:t.chk (Py P tabs pl h fuel m (lX ps b)) (List.replicate m.pre.np .arg) []=true) {gs d:Q1} (q:gs.length=m.pre.np) (hd:t.den I gs=some d):uJ P tabs b m.pre m.posts gs d:=by
 obtain⟨ns,ds,N,lf,o,h2,⟨an,h3⟩,O⟩:=Tree.KL t zL (CY.start I gs _ q) hd;let T:aI:=Tw tabs I m.pre.ka h2
 unfold Py at o;split at o
 ·next e a' J' V=>
  have Lr:∀Q:eU->bn->aA->Prop,Q e a' J'->@AT T P b (m.pre.Ru λj=>j) (m.pre.Eo tabs λj=>j) Q:=by
   intro Q hq;have:=@Xu P T (Ep P tabs ⟨ns,ds,m.pre.ka⟩ h) (Jv P ⟨ns,ds,m.pre.ka⟩ pl fuel) (abn (T:=T) hm hn (aa T rfl rfl) fuel) (lX ps b) (yH ps b 0).2 (λk c hk a J Z a1 J1 hs Q' ac=>by
    unfold Ep at hs;split at hs
    ·next i ad=>
     obtain⟨k1,k2⟩:=IY k i ad;exact ZF (T:=T) rfl p k1 (λgs d hI=>k2 c hk gs d hI) hs ac
    ·cases hs) _ _ _ _ _ V Q hq
   rwa [show(lX ps b).erase=b from(yH ps b 0).1]at this
  have x:∀j g,gs[j]? =some g->T.val ((λj=>j) j)=some g:=by
   intro j g hj;show N[j]? =some g
   rw[h3];have:=(fB.1 hj).1;rw[ny this];exact hj
  split at o
  ·next tn l=>
   split at o
   ·next tt ae=>
    split at o
    ·next e' s D=>
     simp only[aK,decide_eq_true_iff]at o;obtain⟨⟨⟨⟨t0,t1⟩,t2⟩,W⟩,y⟩:=o;split at y;rotate_left
     ·cases y
     next l2 af=>
     have Z:=eU.eq_of t2;subst Z;simp only[valsOf]at O;split at O
     ·next g r hg ag=>
      cases O;obtain⟨g',k1,k2⟩:=h2.node tn _ ae (by simp);have ai:N[tn]? =some g:=hg;rw[ai]at k1;cases k1;simp only[Nd.den,aZ]at k2;subst k2;obtain⟨n,u,ak⟩:=Tz h3 q af ag;have al:n.length=s.np:=by unfold fits at y;rw[aK]at y;rw[<-bH y.1];exact abZ u
      refine⟨tt.toNat,r,n,e,s,by rw[acu t0],D,ak,al,λw0 dV A w K hS hK=>Au.step ?_⟩;obtain⟨H,hF,ht⟩:=abv (T:=T) (f:=λj=>j) rfl rfl x hS;refine Lr (λv X Y=>v=e/\X=a'/\Y=J') ⟨rfl,rfl,rfl⟩ w0 dV H w A _ hF rfl ht ?_;rintro v X Y H' A' w' ⟨rfl,rfl,rfl⟩ E F L
      unfold fits at y;rw[aK]at y;have M:=ZX (T:=T) rfl p W E F L y.2 u;have:=hK A' w' M;cases v with
      |normal=>simp[eU.eq]at t1
      |exit id=>exact this
      |ret=>exact this
     ·cases O
    ·cases o
   ·cases o
  ·next f l=>
   simp only[aK]at o;obtain⟨⟨t1,t2⟩,t5,W⟩:=o;have Z:=eU.eq_of t2;subst Z;have v:=bH t1;subst v;obtain⟨am,z,hI⟩:=O;obtain⟨tn,r,n,v,s,r1,r2,r5,r3,r4⟩:=B am d hI;refine⟨tn,r,n,v,s,r1,r2,by rw[<-Yt h3 q z (ac9 t5 _ (qp r2)) r];exact r5,r3,λw0 dV A w K hS hK=>Au.step ?_⟩;obtain⟨H,hF,ht⟩:=abv (T:=T) (f:=λj=>j) rfl rfl x hS;refine Lr (λv X Y=>v=.normal/\X=a'/\Y=J') ⟨rfl,rfl,rfl⟩ w0 dV H w A _ hF rfl ht ?_;rintro e3 X Y H' A' w' ⟨rfl,rfl,rfl⟩ E F L
   unfold fits at W;rw[aK]at W;have M:=ZX (T:=T) rfl p ab E F L W.2 z;exact r4 w0 dV A' w' K M hK
  ·cases o
 ·cases o
structure ql(P:Program)(tabs:Qt)(f:FuncId)(st:W5)(sh:WN)(gs out:Q1):Prop where
 call:akC P tabs f st gs out
 fits:qh sh out=true
section
variable[gY]
def Sr(P:Program)(J:aA)(fz:Q2)(a:AV):QR:=
 match L9 P J a with
 |some (m,none)=>some m
 |some (m,some _)=>if TN P J fz a m then some m else none
 |none=>none
def OB(P:Program)(J:aA)(fz:Q2):Q3->Option Q2
 |[]=>some []
 |a::l=>match Sr P J fz a,OB P J fz l with
  |some m,some r=>some (m::r)
  |_,_=>none
def Wp(P:Program)(J:aA)(fz:Q2):AV->Option Nat
 |.agg l=>match OB P J fz l with
  |some b=>fG (.mk b)
  |none=>none
 |a=>Sr P J fz a
def valsN(P:Program)(J:aA)(fz:Q2):Q3->Option Q2
 |[]=>some []
 |a::l=>match Wp P J fz a,valsN P J fz l with
  |some m,some r=>some (m::r)
  |_,_=>none
def aff(P:Program)(J:aA)(a:AV):Q2:=match L9 P J a with
 |some (_,some id)=>[id]
 |_=>[]
def Du(P:Program)(J:aA):Q3->List Nat
 |[]=>[]
 |.agg l::r=>l.flatMap (aff P J)++Du P J r
 |a::r=>aff P J a++Du P J r
def U6(k:Nat)(a:Q2)(j:Nat):pz->Option AV
 |.sc=>kK (.call k a j)
 |.ag n=>match fG (.call k a j)with
  |some m=>(Io m 0 n).map .agg
  |none=>none
def Jj(k:Nat)(b:Q2):Nat->List pz->Option Q3
 |_,[]=>some []
 |j,s::l=>match U6 k b j s,Jj k b (j+1) l with
  |some a,some r=>some (a::r)
  |_,_=>none
def Va(P:Program)(k:Nat)(st:W5)(b:WN):fC:=λc J=>match Cc st c with
 |none=>none
 |some args=>
 let fz:=Du P J args
 if fz.all (Nat.ble J.lock ·)then
  match valsN P J fz args with
  |some d=>match Jj k d 0 b with
   |some (a::l)=>some (JG (a::l),kills J fz)
   |_=>none
  |none=>none
 else none
end
def YG{T:aI}{H:Env}{J:aA}{w:World}(h:@SR T P H J w):∀fz:Q2,(∀id∈fz,J.lock<=id)->∃dA,(∀b o,H.ro b=some o->dA b=some o)/\@St T P H J w ⟨H.pl,dA,H.gh⟩ (kills J fz) w/\
 (∀id∈fz,∀o q,J.get id=some o->o.own=true->H id=some q->dA q.bl=w.heap[q.bl]?)
 |[],_=>⟨H.ro,λ_ _ h=>h,@St.refl T _ _ _ _ h,by simp⟩
 |id::fz,l=>by
  letI:=T
  obtain⟨dA,u,p,s⟩:=YG h fz (λk z=>l k (zk _ z));by_cases v:∃o q,(kills J fz).get id=some o/\o.own=true/\H id=some q
  ·obtain⟨o,q,A,m,x⟩:=v;have t:=St.freeze p.rel A m (by rw[LJ];exact l id (by simp)) (show(⟨H.pl,dA,H.gh⟩:Env) id=some q from x);refine⟨Gu dA w q.bl,λb o B=>Vt p.rel.ji q.bl b o (u b o B),p.trans t,?_⟩;intro d i n j g a c;show(if j.bl=q.bl then w.heap[q.bl]? else dA j.bl)=_
   split
   ·next e=>rw[e]
   ·next e=>
    rcases bD.1 i with rfl|i
    ·rw[x]at c;cases c;exact absurd rfl e
    ·exact s d i n j g a c
  ·refine⟨dA,u,p.Uz id,?_⟩;intro d i n j g a c;rcases bD.1 i with rfl|i
   ·by_cases y:d∈fz
    ·exact s d y n j g a c
    ·exact absurd ⟨n,j,by rw[DN,ah y];exact g,a,c⟩ v
   ·exact s d i n j g a c
section
variable{T:aI}{tabs:Qt}{G next:Nat}{H:Env}{J:aA}{w:World}{fz:Q2}{r:W6}{ps:Q2}{gs:Q1}{dA:Qf}
def awp{a:AV}{m:Nat}(h:@L9 T.togY P J a=some (m,none)):@iU T.togY a=some m:=by
 letI:=T
 unfold L9 at h;split at h
 ·next b c=>cases h;exact c
 ·split at h
  ·split at h<;>cases h
  ·split at h
   ·obtain⟨b,_,e⟩:=bg.1 h;cases e
   ·cases h
  ·cases h
def adW(C:vN T P tabs G next H J w fz r ps gs dA){a:AV}{m:Nat}{v:Value}(h:@Sr T.togY P J fz a=some m)(s:@VR T H a v):∃g,T.val m=some g/\g.scalar=true/\GR dA g v:=by
 letI:=T
 unfold Sr at h;split at h
 ·next t b=>
  cases h;obtain⟨g,k,l,u⟩:=mD (awp b) s;exact⟨g,k,l,GR.mono C.uz _ _ u⟩
 ·next t id b=>
  split at h
  ·next x=>
   cases h;have j:∃g,T.val m=some g:=by
    unfold L9 at b;split at b
    ·cases b
    ·split at b
     ·next y n=>
      split at b
      ·next z A f i=>
       cases b;rcases C.rel.live _ _ i with⟨q,F,o⟩|⟨_,I,L,M,B,p⟩
       ·obtain⟨N,D,_⟩:=o.LW;exact⟨_,D⟩
       ·cases B;exact⟨_,p⟩
      ·cases b
     ·split at b
      ·next c A O E i=>
       obtain⟨z,d,e⟩:=bg.1 b;cases e;unfold listOf at d;simp only[i]at d;split at d
       ·split at d
        ·split at d
         ·split at d
          ·obtain⟨g,g1,_⟩:=gQ d;exact⟨g,g1⟩
          ·cases d
         ·cases d
        ·cases d
       ·cases d
      ·cases b
     ·cases b
   obtain⟨g,i⟩:=j;obtain⟨k,l⟩:=afc C x s i;exact⟨g,i,k,l⟩
  ·cases h
 ·cases h
def ad3(C:vN T P tabs G next H J w fz r ps gs dA):∀{l:Q3}{d:Q2}{vs:Q6},@OB T.togY P J fz l=some d->@aF T H l vs->∃b,valsOf T.val d=some b/\b.all GV.scalar=true/\aP dA b vs
 |[],d,vs,h,c=>by simp only[OB,aZ]at h;subst h;simp only[aF]at c;subst c;exact⟨[],rfl,rfl,by simp[aP]⟩
 |a::l,d,vs,h,c=>by
  letI:=T
  simp only[OB]at h;split at h
  ·next m t e i=>
   cases h;simp only[aF]at c;obtain⟨x,j,rfl,k,n⟩:=c;obtain⟨g,g1,g2,o⟩:=adW C e k;obtain⟨b,p,q,s⟩:=ad3 C i n;exact⟨g::b,by simp only[valsOf,g1,p],by simp[g2,q],by simp only[aP];exact⟨x,j,rfl,o,s⟩⟩
  ·cases h
def aCE(C:vN T P tabs G next H J w fz r ps gs dA){a:AV}{m:Nat}{v:Value}(h:@Wp T.togY P J fz a=some m)(d:@VR T H a v):∃g,T.val m=some g/\GR dA g v/\(match a with|.agg l=>∃b,g=.g b/\b.length=l.length|_=>g.scalar=true):=by
 letI:=T
 cases a;case agg l=>
  simp only[Wp]at h;split at h
  ·next k e=>
   simp only[VR]at d;obtain⟨n,rfl,c⟩:=d;obtain⟨b,o,p,j⟩:=ad3 C e c;obtain⟨g,g1,g2⟩:=gQ h;have i:valsOf aI.val k=some b:=o;simp only[Nd.den,i,p,if_true,aZ]at g2;subst g2;exact⟨_,g1,by simp only[GR];exact⟨n,rfl,j⟩,b,rfl,by rw[j.length,c.length]⟩
  ·cases h
 all_goals
  simp only[Wp]at h;obtain⟨g,g1,g2,q⟩:=adW C h d;exact⟨g,g1,q,g2⟩
def abY(C:vN T P tabs G next H J w fz r ps gs dA):∀{l:Q3}{c:Q2}{vs:Q6},@valsN T.togY P J fz l=some c->@aF T H l vs->∃d,valsOf T.val c=some d/\aP dA d vs
 |[],c,vs,h,b=>by simp only[valsN,aZ]at h;subst h;simp only[aF]at b;subst b;exact⟨[],rfl,by simp[aP]⟩
 |a::l,c,vs,h,b=>by
  letI:=T
  simp only[valsN]at h;split at h
  ·next m q e i=>
   cases h;simp only[aF]at b;obtain⟨x,j,rfl,k,n⟩:=b;obtain⟨g,g1,g2,_⟩:=aCE C e k;obtain⟨d,o,p⟩:=abY C i n;exact⟨g::d,by simp only[valsOf,g1,o],by simp only[aP];exact⟨x,j,rfl,g2,p⟩⟩
  ·cases h
def aal{k:Nat}{A:Q2}{B e:Q1}(p:valsOf T.val A=some B)(E:T.I k B=some e){H':Env}:∀{F:WN}{j:Nat}{l:Q3}{D:Q6}{rest:Q1},@Jj T.togY k A j F=some l->qh F rest=true->(∀i,rest[i]? =e[j+i]?)->aP H'.ro rest D->@aF T H' l D
 |[],j,l,D,rest,h,d,I,q=>by
  cases rest with
  |cons a b=>simp[qh]at d
  |nil=>simp only[Jj,aZ]at h;subst h;simp only[aP]at q;subst q;simp[aF]
 |s::F,j,l,D,rest,h,d,I,q=>by
  letI:=T
  cases rest with
  |nil=>cases s<;>simp[qh]at d
  |cons g rest=>
   simp only[Jj]at h;split at h
   ·next a r' t v=>
    cases h;simp only[aP]at q;obtain⟨u,x,rfl,g1,g2⟩:=q;have V:=I 0;simp only[kW,lD]at V;have o:(Nd.call k A j).den aI.I aI.val=some g:=by have L:valsOf aI.val A=some B:=p;have M:aI.I k B=some e:=E;simp only[Nd.den,L,M];exact V.symm
    have c:∀i,rest[i]? =e[j+1+i]?:=λi=>by have:=I (i+1);rw[uH]at this;rw[this];congr 1;omega
    cases s with
    |sc=>simp only[qh,aK]at d;refine⟨u,x,rfl,?_,aal p E v d.2 c g2⟩;obtain⟨_,Y,_,y,Z⟩:=mW (H:=H') t;rw[o]at y;cases y;exact Z u d.1 g1
    |ag n=>
     simp only[qh,aK]at d;refine⟨u,x,rfl,?_,aal p E v d.2 c g2⟩;simp only[U6]at t;split at t
     ·next m hm=>
      obtain⟨l',N,rfl⟩:=bg.1 t;obtain⟨Y,k1,y⟩:=gQ hm;rw[o]at y;cases y;obtain⟨aa,h5,h6⟩:=Sv (H:=H') k1 n 0 N;cases g with
      |g W=>have z:=bH d.1.2;simp only[GR]at g1;obtain⟨X,rfl,O⟩:=g1;simp only[VR];refine⟨X,rfl,h6 X ?_⟩;obtain⟨e1,e2,_⟩:=ru h5;have Q:W.length=n:=z;rw[e1,bK,lW (by rw[l9];show W.length<=n;omega)];exact(oH _ _).1 O
      |_=>simp[GV.scalar]at d
     ·cases t
   ·cases h
def ajT{T:aI}{H:Env}{l:Q3}{d:Q6}(h:@aF T H l d):@VR T H (JG l) (Ce d):=by
 letI:=T
 have c:=h.length;match l,d,h,c with
 |[a],[u],h,_=>simp only[aF]at h;obtain⟨x,i,e,g,j⟩:=h;cases e;exact g
 |[],[],h,_=>show VR H (.eG []) (.tuple ⟨[]⟩);simp only[VR];exact⟨_,rfl,h⟩
 |a::b::l,u::k::d,h,_=>show VR H (.eG _) (.tuple ⟨_⟩);simp only[VR];exact⟨_,rfl,h⟩
 |[],_::_,_,c=>simp at c
 |[_],[],_,c=>simp at c
 |[_],_::_::_,_,c=>simp at c
 |_::_::_,[],_,c=>simp at c
 |_::_::_,[_],_,c=>simp at c
def ahq{f:FuncId}{k:Nat}{st:W5}{q:WN}(Q:∀gs a,T.I k gs=some a->ql P T.tabs f st q gs a):@eY T P f (@Va T.togY P k st q):=by
 letI:=T
 intro NY J rr J' c H w V M x;unfold Va at c;split at c
 ·cases c
 next args y=>
 obtain⟨W,rfl,X⟩:=V8 y x;simp only at c;split at c
 ·next z=>
  have Y:∀id∈Du P J args,J.lock<=id:=λid A=>tq (List.all_eq_true.1 z id A);split at c
  ·next N B=>
   split at c
   ·next a0 l o=>
    cases c;obtain⟨dA,Z,D,f3⟩:=YG M (Du P J args) Y;have C:vN T P T.tabs P.globals.size (P.globals.size+1) H J w (Du P J args) [] [] [] dA:=⟨M,rfl,Z,f3,rfl,ND _⟩
    obtain⟨t,O,k2⟩:=abY C B X;have u:∃a,T.I k t=some a:=by
     have d:∀{m g},fG (.call k N 0)=some m->aI.val m=some g->∃a,T.I k t=some a:=by
      intro m g e hg;obtain⟨g',_,d2⟩:=gQ e;have E:valsOf aI.val N=some t:=O;simp only[Nd.den,E]at d2;split at d2
      ·next r hr=>exact⟨r,hr⟩
      ·cases d2
     cases q with
     |nil=>simp[Jj]at o
     |cons s q=>
      simp only[Jj]at o;split at o
      ·next a1 r1 b _=>
       cases s with
       |sc=>
        simp only[U6,kK]at b;split at b
        ·next m e=>obtain⟨g,g1,_⟩:=gQ e;exact d e g1
        ·cases b
       |ag n=>
        simp only[U6]at b;split at b
        ·next m e=>obtain⟨g,g1,_⟩:=gQ e;exact d e g1
        ·cases b
      ·cases o
    obtain⟨a,u⟩:=u;obtain⟨h,p⟩:=Q t a u;refine lT.mono (h dA w W D.rel.Vw k2) ?_;rintro v w' ⟨j,F,us,rfl,I⟩
    have L:=St.av6 (ro':=j) D.rel F;refine⟨_,D.trans L,ajT (aal O u (H':=⟨H.pl,j,H.gh⟩) o p (λi=>by simp) I)⟩
   ·cases c
  ·cases c
 ·cases c
def abj:WN->List AV->Bool
 |[],[]=>true
 |.sc::l,a::m=>(match a with|.agg _=>false|_=>true)&&abj l m
 |.ag n::l,a::m=>(match a with|.agg c=>Nat.beq c.length n|_=>false)&&abj l m
 |_,_=>false
section
variable[gY]
def H6:Nat->List pz->Option Q3
 |_,[]=>some []
 |j,.sc::l=>match H6 (j+1) l with
  |some r=>some (.nd j::r)
  |none=>none
 |j,.ag n::l=>match Io j 0 n,H6 (j+1) l with
  |some c,some r=>some (.agg c::r)
  |_,_=>none
end
def XE{H:Env}:∀{p:WN}{j:Nat}{l:Q3}{vs:Q6}{rest:Q1},@H6 T.togY j p=some l->qh p rest=true->(∀i g,rest[i]? =some g->T.val (j+i)=some g)->aP H.ro rest vs->@aF T H l vs
 |[],j,l,vs,rest,h,e,q,m=>by
  cases rest with
  |cons a b=>simp[qh]at e
  |nil=>simp only[H6,aZ]at h;subst h;simp only[aP]at m;subst m;simp[aF]
 |s::p,j,l,vs,rest,h,e,q,m=>by
  letI:=T
  cases rest with
  |nil=>cases s<;>simp[qh]at e
  |cons g rest=>
   simp only[aP]at m;obtain⟨u,x,rfl,g1,g2⟩:=m;have y:=q 0 g (by simp);have d:∀i g,rest[i]? =some g->T.val (j+1+i)=some g:=λi g hi=>by have:=q (i+1) g (by simpa using hi);rw[<-this];congr 1;omega
   cases s with
   |sc=>
    simp only[H6]at h;split at h
    ·next A k=>
     cases h;simp only[qh,aK]at e;exact⟨u,x,rfl,by simp only[VR];exact⟨g,y,e.1,g1⟩,XE k e.2 d g2⟩
    ·cases h
   |ag n=>
    simp only[H6]at h;split at h
    ·next c A B k=>
     cases h;simp only[qh,aK]at e;refine⟨u,x,rfl,?_,XE k e.2 d g2⟩;obtain⟨D,E,F⟩:=Sv (H:=H) y n 0 B;cases g with
     |g z=>have o:=bH e.1.2;simp only[GR]at g1;obtain⟨vs,rfl,t⟩:=g1;simp only[VR];refine⟨vs,rfl,F vs ?_⟩;obtain⟨I,L,_⟩:=ru E;have v:z.length=n:=o;rw[I,bK,lW (by rw[l9];show z.length<=n;omega)];exact(oH _ _).1 t
     |_=>simp[GV.scalar]at e
    ·cases h
def UF(P:Program)(tabs:Qt)(pl:kG)(a:Wo)(fuel:Nat)(st:W5)(j k:WN)(b:Nat)(g:List ResultVar)(m:AC)(c:WP)(d:W7)(o:Leaf):Bool:=
 match o with
 |.ret l=>match @H6 ⟨c,d,0⟩ 0 j with
  |some args=>match @vZ ⟨c,d,0⟩ (Ep P tabs ⟨c,d,0⟩ a) (Jv P ⟨c,d,0⟩ pl fuel) m {t:=zu (wZ st args) 0 .nil,n:=max (wZ st args).length b,gn:=P.globals.size} ⟨oV (vF tabs),P.globals.size+1,0⟩with
   |some (e,p,h)=>(match e with|.exit _=>false|_=>true)&&match AX P h p g with
    |some i=>abj k i&&match @valsN ⟨c,d,0⟩ P h (@Du ⟨c,d,0⟩ P h i) i with
     |some q=>yg l q
     |none=>false
    |none=>false
   |none=>false
  |none=>false
 |_=>false
def V5(a:uN tabs P.globals.size)(c:T.tabs=tabs):@AP T ⟨oV (vF tabs),P.globals.size+1,0⟩ P.globals.size:=by refine⟨Nat.lt_succ_self _,λid o d=>?_⟩;have g:=PV (show(oV (vF tabs)).get id=some o from d);obtain⟨p,b,e⟩:=nR.1 g;cases e;exact⟨p.2,rfl,by rw[c];exact b,a.low p b⟩
def ql.PW{tabs:Qt}(N:uN tabs P.globals.size)(hm:P.follows .mixedOrders=true)(hn:vO P){pl:kG}{I:iG}(ai:yD P tabs I pl){y:Wo}{fuel:Nat}{f:FuncId}{fn:Func}{c:Code}{Z:Q2}{st:W5}{qL sQ:WN}{t:Tree}
 (hf:P.funcs[f]? =some fn) (hc:fn.body=some c)
 (IY:∀k z,dJ k y=some z->z.pre.ok=true/\∀b,(lX Z c).oI k b->∀gs d,I z.key gs=some d->uJ P tabs b z.pre z.posts gs d)
 (zL:t.chk (UF P tabs pl y fuel st qL sQ fn.ntmps fn.results.toList (lX Z c)) (List.replicate qL.length .arg) []=true) {gs d:Q1} (D:(aB.fn qL sQ t).den I gs=some d):ql P tabs f st sQ gs d:=by
 simp only[aB.den]at D;split at D;rotate_left
 ·cases D
 next q=>
 split at D;rotate_left
 ·cases D
 next aL aa=>
 split at D;rotate_left
 ·cases D
 next ak=>
 cases D;have D:=aa;have ab:gs.length=qL.length:=by
  clear D aa zL;induction qL generalizing gs with
  |nil=>cases gs with|nil=>rfl|cons _ _=>simp[qh]at q
  |cons s sh ih=>cases gs with
   |nil=>cases s<;>simp[qh]at q
   |cons g gs=>cases s<;>simp only[qh,aK]at q<;>simp[ih q.2]
 obtain⟨ns,ds,O,lf,m,h2,⟨aE,h3⟩,h4⟩:=Tree.KL t zL (CY.start I gs _ ab) D;let T:aI:=Tw tabs I 0 h2
 unfold UF at m;split at m
 ·next l=>
  split at m
  ·next args V=>
   split at m
   ·next e a' J' ac=>
    rw[aK]at m;obtain⟨he,m⟩:=m;split at m
    ·next rs al=>
     rw[aK]at m;obtain⟨aM,m⟩:=m;split at m
     ·next l' am=>
      have an:=Z8 m;subst an;have Lr:∀Q:eU->bn->aA->Prop,Q e a' J'->@AT T P c {t:=zu (wZ st args) 0 .nil,n:=max (wZ st args).length fn.ntmps,gn:=P.globals.size} ⟨oV (vF tabs),P.globals.size+1,0⟩ Q:=by
       intro Q hq;have:=@Xu P T (Ep P tabs ⟨ns,ds,0⟩ y) (Jv P ⟨ns,ds,0⟩ pl fuel) (abn (T:=T) hm hn (ai T rfl rfl) fuel) (lX Z c) (yH Z c 0).2 (λk b hk a J e1 a1 J1 hs Q' ao=>by
        unfold Ep at hs;split at hs
        ·next z ap=>
         obtain⟨k1,k2⟩:=IY k z ap;exact ZF (T:=T) rfl N k1 (λgs d hI=>k2 b hk gs d hI) hs ao
        ·cases hs) _ _ _ _ _ ac Q hq
       rwa [show(lX Z c).erase=c from(yH Z c 0).1]at this
      have ad:∀i g,gs[i]? =some g->T.val (0+i)=some g:=by
       intro j g hj;show O[0+j]? =some g
       rw[h3,jQ];have:=(fB.1 hj).1;rw[ny this];exact hj
      have aq:∀E w vs,xK tabs E w->aP E gs vs->Calls P f ⟨xg st vs⟩ w λen A=>∃v,en=.returned v/\∃F,Ht E F w A/\∃x,v=Ce x/\aP F d x:=by
       intro E w vs B W;letI:=T
       have X:AP (⟨oV (vF tabs),P.globals.size+1,0⟩:aA) P.globals.size:=V5 (T:=T) N rfl
       have ar:SR P (xW P.globals.size ⟨oV (vF tabs),P.globals.size+1,0⟩ E) ⟨oV (vF tabs),P.globals.size+1,0⟩ w:=
        NS X.1 (λid o ho=>by obtain⟨c,rfl,ae,av⟩:=X.2 id o ho;obtain⟨cs,af,fr,k1,k2,k3⟩:=B.tab _ ae;exact⟨av,c,rfl,⟨cs,af,fr,B.at' _ _ k1,k2,k3⟩⟩) B.at' (λp hp=>B.tab p hp)
       have aw:aF (xW P.globals.size ⟨oV (vF tabs),P.globals.size+1,0⟩ E) (wZ st args) (xg st vs):=Vl (XE (T:=T) V q ad W);refine calls_of_wp hf hc ?_;refine Lr (λe2 a2 J2=>e2=e/\a2=a'/\J2=J') ⟨rfl,rfl,rfl⟩ (.shut w) E (xW P.globals.size ⟨oV (vF tabs),P.globals.size+1,0⟩ E) w _ _ (jU.start ar X.own) rfl (Yn aw) ?_;rintro e2 a2 J2 H1 A' A ⟨rfl,rfl,rfl⟩ hF ax ht
       obtain⟨x,r1,r2⟩:=Qd hF.rel ht (fun|.tmp t=>pure (A'.tmps.getD t undef)|.cell a t=>do loadVar t (<-asAddr (A'.tmps.getD a undef))) (λ_=>rfl) (λ_ _=>rfl) _ _ al;obtain⟨dA,f1,f2,f3⟩:=TM hF ax (@Du ⟨ns,ds,0⟩ P J2 rs);have C:vN T P tabs P.globals.size (P.globals.size+1) H1 J2 A (@Du ⟨ns,ds,0⟩ P J2 rs) [] [] [] dA:=⟨hF.rel,rfl,f1,f3,rfl,ND _⟩
       obtain⟨gl,k1,k2⟩:=abY C am r2;have az:gl=d:=by have ag:valsOf (λn=>O[n]?) l=some d:=h4;have aD:valsOf (λn=>O[n]?) l=some gl:=k1;rw[aD]at ag;cases ag;rfl
       subst az;have L:(results fn A'.tmps).run P A=.ok (if h:(⟨x⟩:QQ).size=1 then(⟨x⟩:QQ)[0]else .tuple ⟨x⟩) A:=by unfold results;rw[WE];simp only[aT,Xi];exact tX (λr:Result Q6=>(r.andThen λa A=>Result.ok a.toArray A).andThen λa A=>Sem.run P (pure (if h:a.size=1 then a[0]else Value.tuple a)) A) r1
       have Zf:(if h:(⟨x⟩:QQ).size=1 then(⟨x⟩:QQ)[0]else .tuple ⟨x⟩)=Ce x:=by
        match x with
        |[]=>rfl
        |[u]=>rfl
        |u::u'::x=>rfl
       rw[Zf]at L
       have M:A'.defers=[]/\∃v,(results fn A'.tmps).run P A=.ok v A/\∃v',Ending.returned v=.returned v'/\(∃F,Ht E F w A/\∃x,v'=Ce x/\aP F gl x):=
        ⟨ht.none,_,L,_,rfl,⟨dA,⟨hF.kept.shut,f2.uz,f2.aiP,f2.rel.ji⟩,x,rfl,k2⟩⟩
       cases e2 with
       |normal=>exact M
       |ret=>exact M
       |exit id=>simp at he
      refine⟨λE w vs B W=>?_,?_⟩
      ·right;refine⟨?_,Calls.mono' (aq E w vs B W) ?_⟩
       ·have Y:=hn f fn c hf hc;simp only[callFunc,aT,program,Sem.run,aQ,hf];simp only[Y,gy,if_false,hc,J8,bF]
       ·rintro en A ⟨v,rfl,h5⟩
        exact⟨v,rfl,h5⟩
      ·exact ak
     ·cases m
    ·cases m
   ·cases m
  ·cases m
 ·cases m
end
end
open Go.RowKit
noncomputable section
variable{P:Program}
section
variable[gY]
end
def aP.plain{ro a:Qf}:∀{l:Q1}{vs:Q6},(∀g∈l,(∃x,g=.s x)\/∃k n,g=.i k n)->aP ro l vs->aP a l vs
 |[],vs,_,h=>h
 |g::l,vs,b,h=>by simp only[aP]at h⊢;obtain⟨x,xs,rfl,h1,c⟩:=h;refine⟨x,xs,rfl,?_,aP.plain (λg d=>b g (by simp[d])) c⟩;rcases b g (by simp)with⟨y,rfl⟩|⟨k,n,rfl⟩<;>exact h1
end
noncomputable section
variable{P:Program}
def gV.args(s:gV):Q3:=s.slots.map (·.2)
def Nl(P:Program)(tabs:Qt)(s:gV)(gs:Q1)(w0:Base)(a:Qf)(vs:Q6)(w:World):Prop:=
 ∃H,@jU (Tg tabs gs s.ka) P w0 a H (s.st tabs) w/\@aF (Tg tabs gs s.ka) H s.args vs
def Nu(P:Program)(tabs:Qt)(f:FuncId)(st:W5)(c:gV)(b:Xs)(gs d:Q1):Prop:=
 ∃(t:Nat)(r a:Q1)(e:eU)(s:gV),d=GV.i .i64 t::r/\b[t]? =some (e,s)/\uf s.al gs r=some a/\a.length=s.np/\
  ∀g h w i,Nl P tabs c gs g h i w->lT P f ⟨xg st i⟩ w λv k=>∃j,v=Ce j/\Nl P tabs s a g h j k
mutual
def AV.ren(U f:Nat->Nat):AV->AV
 |.nd j=>.nd (f j)
 |.rx j off=>.rx (f j) off
 |.sv id j=>.sv (U id) (f j)
 |.p id off=>.p (U id) off
 |.mp id=>.mp (U id)
 |.sl id off len cap=>.sl (U id) off len cap
 |.fn g fi cs=>.fn g (AV.xk U f fi) (AV.xk U f cs)
 |.jc t a=>.jc t (a.ren U f)
 |.agg l=>.agg (AV.xk U f l)
 |.eG l=>.eG (AV.xk U f l)
 |a=>a
def AV.xk(U f:Nat->Nat):Q3->List AV
 |[]=>[]
 |a::l=>a.ren U f::AV.xk U f l
end
mutual
def AV.okS(G:Nat):AV->Bool
 |.sv id _=>Nat.blt G id
 |.sl id _ _ _=>Nat.blt G id
 |.fn _ fi cs=>AV.zY G fi&&AV.zY G cs
 |.jc _ a=>a.okS G
 |.agg l=>AV.zY G l
 |.eG l=>AV.zY G l
 |.nd _|.rx _ _|.p _ _|.mp _|.b _|.i _ _|.s _|.jD|.gu|.yR|.sH|.oU=>true
 |_=>false
def AV.zY(G:Nat):Q3->Bool
 |[]=>true
 |a::l=>a.okS G&&AV.zY G l
end
def bC.ren(U f:Nat->Nat):bC->bC
 |.cells c a rw opn=>.cells (AV.xk U f c) a rw opn
 |.vec j a b=>.vec (f j) a b
 |.smap j d sz=>.smap (f j) d sz
 |o=>o
def bC.okS(G:Nat):bC->Bool
 |.cells c _ rw _=>AV.zY G c&&rw
 |.vec _ _ _=>true
 |.smap _ _ _=>true
 |_=>false
def aa9(U f:Nat->Nat):∀l:Q3,AV.xk U f l=l.map (AV.ren U f)
 |[]=>rfl
 |a::l=>by simp[AV.xk,aa9 U f l]
structure NQ(S T:aI)(G:Nat)(U f:Nat->Nat)(H H':Env):Prop where
 val:∀j g,S.val j=some g->T.val (f j)=some g
 pl:∀i q,G<i->H i=some q->H' (U i)=some q
 gl:∀i q,i<=G->H i=some q->∃q',H' (U i)=some q'/\q'.bl=q.bl/\q'.ba=q.ba
 gh:∀i,G<i->H.gh i=true->H'.gh (U i)=true
 ro:∀b o,H.ro b=some o->H'.ro b=some o
section
variable{S T:aI}{G:Nat}{U f:Nat->Nat}{H H':Env}
mutual
def VR.ren(h:NQ S T G U f H H'):∀(a:AV)(v:Value),a.okS G=true->@VR S H a v->@VR T H' (a.ren U f) v
 |.b _,_,_,b=>by simpa only[VR,AV.ren]using b
 |.i _ _,_,_,b=>by simpa only[VR,AV.ren]using b
 |.s _,_,_,b=>by simpa only[VR,AV.ren]using b
 |.jD,_,_,b=>by simpa only[VR,AV.ren]using b
 |.p i off,v,_,b=>by
  simp only[VR,AV.ren]at b⊢;obtain⟨q,m,rfl⟩:=b;by_cases hi:i<=G
  ·obtain⟨p,d,k,n⟩:=h.gl i q hi m;exact⟨p,d,by rw[k,n]⟩
  ·exact⟨q,h.pl i q (by omega) m,rfl⟩
 |.gu,_,_,b=>by simpa only[VR,AV.ren]using b
 |.sl i off len z,v,c,b=>by simp only[AV.okS,jm]at c;simp only[VR,AV.ren]at b⊢;obtain⟨q,m,d,rfl⟩:=b;exact⟨q,h.pl i q c m,d,rfl⟩
 |.oU,_,_,b=>by simpa only[VR,AV.ren]using b
 |.mp i,v,_,b=>by
  simp only[VR,AV.ren]at b⊢;obtain⟨q,m,rfl⟩:=b;by_cases hi:i<=G
  ·obtain⟨p,d,k,n⟩:=h.gl i q hi m;exact⟨p,d,by rw[k]⟩
  ·exact⟨q,h.pl i q (by omega) m,rfl⟩
 |.yR,_,_,b=>by simpa only[VR,AV.ren]using b
 |.fn _ A s,_,c,b=>by simp only[AV.okS,aK]at c;simp only[VR,AV.ren]at b⊢;obtain⟨t,u,e,d,k⟩:=b;exact⟨t,u,e,aF.ren h A t c.1 d,aF.ren h s u c.2 k⟩
 |.sH,_,_,b=>by simpa only[VR,AV.ren]using b
 |.jc _ a,_,c,b=>by simp only[AV.okS]at c;simp only[VR,AV.ren]at b⊢;obtain⟨x,e,d⟩:=b;exact⟨x,e,VR.ren h a x c d⟩
 |.agg l,_,c,b=>by simp only[AV.okS]at c;simp only[VR,AV.ren]at b⊢;obtain⟨x,e,d⟩:=b;exact⟨x,e,aF.ren h l x c d⟩
 |.eG l,_,c,b=>by simp only[AV.okS]at c;simp only[VR,AV.ren]at b⊢;obtain⟨x,e,d⟩:=b;exact⟨x,e,aF.ren h l x c d⟩
 |.z _ _ _,_,c,_=>by simp[AV.okS]at c
 |.ro _,_,c,_=>by simp[AV.okS]at c
 |.rp _ _,_,c,_=>by simp[AV.okS]at c
 |.nd _,_,_,b=>by simp only[VR,AV.ren]at b⊢;obtain⟨g,d,k,n⟩:=b;exact⟨g,h.val _ _ d,k,GR.mono h.ro _ _ n⟩
 |.rx _ _,_,_,b=>by simp only[VR,AV.ren]at b⊢;obtain⟨g,B,base,s,o,D,x,d,k,n,E⟩:=b;exact⟨g,B,base,s,o,D,x,h.val _ _ d,h.ro _ _ k,GR.mono h.ro _ _ n,E⟩
 |.sv i j,_,c,b=>by
  simp only[AV.okS,jm]at c;simp only[VR,AV.ren]at b⊢;obtain⟨y,d,⟨q,m,k⟩|⟨F,k⟩⟩:=b
  ·exact⟨y,h.val _ _ d,.inl ⟨q,h.pl i q c m,k⟩⟩
  ·exact⟨y,h.val _ _ d,.inr ⟨h.gh i c F,k⟩⟩
 |.pv _ _ _,_,c,_=>by simp[AV.okS]at c
 |.pd _ _,_,c,_=>by simp[AV.okS]at c
def aF.ren(h:NQ S T G U f H H'):∀(l:Q3)(vs:Q6),AV.zY G l=true->@aF S H l vs->@aF T H' (AV.xk U f l) vs
 |[],_,_,b=>by simpa only[aF,AV.xk]using b
 |a::l,_,c,b=>by simp only[AV.zY,aK]at c;simp only[aF,AV.xk]at b⊢;obtain⟨x,xs,e,h1,d⟩:=b;exact⟨x,xs,e,VR.ren h a x c.1 h1,aF.ren h l xs c.2 d⟩
end
def OR.ren(h:NQ S T G U f H H'){q:Place}{w:World}{o:bC}(i:o.okS G=true)(r:@OR S P H q w o):@OR T P H' q w (o.ren U f):=by
 cases o with
 |cells c v V y=>
  simp only[bC.okS,aK]at i;obtain⟨n,d,p,W,⟨r1,r2,r3,N,z,A,B⟩⟩:=r;have O:(AV.xk U f c).length=c.length:=by rw[aa9];simp
  have D:∀a∈c,a.okS G=true:=by
   have:∀l:Q3,AV.zY G l=true->∀a∈l,a.okS G=true:=by
    intro l;induction l with
    |nil=>intro _ a t;simp at t
    |cons b l X=>
     intro h a t;simp only[AV.zY,aK]at h;rcases bD.1 t with rfl|t
     ·exact h.1
     ·exact X h.2 a t
   exact this c i.1
  refine⟨n,d,p,W,@rE.mk T P H' q _ v V y n d p r1 (by rw[O];exact r2) (λe=>by rw[O];exact r3 e) (λk a u=>?_) z A B⟩;rw[aa9,iw]at u;obtain⟨E,Q,rfl⟩:=bg.1 u;obtain⟨x,Y,Z⟩:=N k E Q;exact⟨x,Y,VR.ren h E x (D E (qp Q)) Z⟩
 |iter s pos=>simp[bC.okS]at i
 |map es=>simp[bC.okS]at i
 |pmap es=>simp[bC.okS]at i
 |iterM m=>simp[bC.okS]at i
 |smap j kk sz=>obtain⟨F,ms,g,I,L,M⟩:=r;exact⟨F,ms,g,h.val _ _ I,L,M.mono h.ro⟩
 |vec j v b=>obtain⟨F,n,d,p,ys,I,L,M,k4,k5,k6,⟨r1,r2,r3,N,z,A,B⟩,k8⟩:=r;exact⟨F,n,d,p,ys,h.val _ _ I,L,aP.mono h.ro _ _ M,k4,k5,k6,@rE.mk T P H' q [] v true true n d p r1 r2 r3 (λk a u=>by simp at u) z A B,k8⟩
def Live.ren(h:NQ S T G U f H H'){w:World}{i:Nat}{o:bC}(hi:G<i)(a:o.okS G=true)(r:@Live S P H w i o):@Live T P H' w (U i) (o.ren U f):=by
 rcases r with⟨q,c,d⟩|⟨e,n,g,b,rfl,j⟩
 ·exact .inl ⟨q,h.pl i q hi c,OR.ren h a d⟩
 ·exact .inr ⟨h.gh i hi e,f n,g,b,rfl,h.val _ _ j⟩
end
def bC.aah{G:Nat}{o:bC}(h:o.okS G=true):o.own=true:=by
 cases o<;>simp only[bC.okS,aK,gy]at h<;>simp[bC.own]
 exact h.2
def rhoC(G ka next:Nat)(r:W6)(i:Nat):Nat:=if i<=G then i else if i<=G+ka then(match dJ i r with|some (some id)=>id|_=>0)else next+(i-(G+ka+1))
def MF(U f:Nat->Nat):Ys->Tr bC->Tr bC
 |[],h=>h
 |p::l,h=>(MF U f l h).set (U p.1) (some (p.2.ren U f))
def oN:W6->List Nat
 |[]=>[]
 |p::l=>match p.2 with
  |some id=>id::oN l
  |none=>oN l
def Ti{α:Type}:List (Nat×α)->Bool
 |[]=>true
 |p::l=>(match dJ p.1 l with|none=>true|some _=>false)&&Ti l
def CZ(r:W6)(J:aA):Nat->Nat->Bool
 |_,0=>true
 |i,n+1=>(match dJ (i+1) r with
  |some (some id)=>(match J.get id with|some (.cells _ _ _ _)=>true|_=>false)
  |_=>false)&&CZ r J (i+1) n
def aaY(s:gV):Bool:=Nat.blt (s.gn+s.ka) s.next&&AV.zY s.gn s.args&&Ti s.objs&&s.objs.all λp=>Nat.blt s.gn p.1&&Nat.blt p.1 s.next&&p.2.okS s.gn
section
variable[gY]
def arK(P:Program)(s:gV)(l:Q3)(J:aA):US:=Wj P s.gn J s.objs (GN P s.gn J s.args l ⟨[],[],[]⟩)
def arL(P:Program)(s:gV)(l:Q3)(J:aA):US:=Wj P s.gn J s.objs (GN P s.gn J s.args l ⟨Xx s.gn s.ka,[],[]⟩)
def UO(P:Program)(s:gV)(l:Q3)(J:aA)(fz:Q2)(r:W6)(ps:Q2):Bool:=
 Nat.beq s.gn P.globals.size&&Nat.blt (s.gn+s.ka) s.next&&Jt r&&BJ P s.gn J fz r ps s.args l&&LP P s.gn s.next J fz r ps s.objs
def aao(P:Program)(st:W5)(a:aJ):fC:=λc J=>match Cc st c with
 |none=>none
 |some args=>match arK P a.pre args J with
  |⟨r,p,fz⟩=>match aa1 p 0 a.pre.np with
   |none=>none
   |some ps=>
    if UO P a.pre args J fz r ps&&(fz.all (Nat.ble J.lock ·)&&((oN r).all (λid=>Nat.ble J.lock id&&!(fz.contains id))&&CZ r J a.pre.gn a.pre.ka))then
     match fG (.call a.key ps 0)with
     |some tag=>match Jp tag a.posts 0 with
      |some (_,s)=>if aaY s&&(Nat.beq s.ka a.pre.ka&&Nat.beq s.gn a.pre.gn)then match BN a.key ps s.al 1 s.np with
       |some b=>some (JG (AV.xk (rhoC s.gn s.ka J.next r) (λj=>b.getD j 0) s.args),⟨MF (rhoC s.gn s.ka J.next r) (λj=>b.getD j 0) s.objs (kills (kills J fz) (oN r)).h,J.next+(s.next-(s.gn+s.ka+1)),J.lock⟩)
       |none=>none
       else none
      |none=>none
     |none=>none
    else none
end
def aeG{α:Type}:∀{l:List (Nat×α)},Ti l=true->∀{k:Nat}{v:α},(k,v)∈l->dJ k l=some v
 |[],_,k,v,h=>by simp at h
 |p::l,a,k,v,h=>by
  simp only[Ti,aK]at a;rcases bD.1 h with e|h
  ·subst e;simp[dJ]
  ·have h1:=aeG a.2 h;simp only[dJ];cases c:Nat.beq k p.1 with
   |true=>have e:=bH c;have b:=a.1;rw[<-e,h1]at b;cases b
   |false=>exact h1
def afh{α:Type}:∀{l m:List (Nat×α)}{k:Nat}{v:α},dJ k l=some v->dJ k (l++m)=some v
 |[],m,k,v,h=>by simp[dJ]at h
 |p::l,m,k,v,h=>by
  simp only[bJ,dJ]at h⊢;cases a:Nat.beq k p.1 with
  |true=>rw[a]at h;exact h
  |false=>rw[a]at h;exact afh h
def ah4{U f:Nat->Nat}:∀{l:Ys}{h:Tr bC}{k:Nat}{o:bC},(MF U f l h).get k=some o->(∃i o0,(i,o0)∈l/\U i=k/\o=o0.ren U f)\/(h.get k=some o/\∀p∈l,U p.1≠k)
 |[],h,k,o,a=>.inr ⟨a,λp b=>by simp at b⟩
 |q::l,h,k,o,a=>by
  simp only[MF,Tr.wP]at a;split at a
  ·next e=>cases a;exact .inl ⟨q.1,q.2,by simp,e.symm,rfl⟩
  ·next e=>
   rcases ah4 a with⟨i,o0,h1,c,d⟩|⟨h1,c⟩
   ·exact .inl ⟨i,o0,zk _ h1,c,d⟩
   ·refine .inr ⟨h1,λp b=>?_⟩;rcases bD.1 b with rfl|b
    ·exact λg=>e g.symm
    ·exact c p b
def afK{r:W6}:∀{i id:Nat},dJ i r=some (some id)->id∈oN r:=by
 induction r with
 |nil=>intro i id h;simp[dJ]at h
 |cons p l b=>
  intro i id h;simp only[dJ]at h;cases a:Nat.beq i p.1 with
  |true=>rw[a]at h;simp only[cond_true,aZ]at h;simp only[oN,h];simp
  |false=>
   rw[a]at h;have:=b h;simp only[oN];split
   ·exact zk _ this
   ·exact this
def Xy{r:W6}{J:aA}:∀{n i:Nat},CZ r J i n=true->∀j,i<j->j<=i+n->∃id c b rw opn,dJ j r=some (some id)/\J.get id=some (.cells c b rw opn)
 |0,i,_,j,h1,g=>by omega
 |n+1,i,h,j,h1,g=>by
  simp only[CZ,aK]at h;by_cases e:j=i+1
  ·subst e;have a:=h.1;split at a
   ·next id d=>
    split at a
    ·next c b rw opn k=>exact⟨id,c,b,rw,opn,d,k⟩
    ·cases a
   ·cases a
  ·exact Xy h.2 j (by omega) (by omega)
def St.av8{T:aI}{tabs:Qt}(uj:T.tabs=tabs){G ka:Nat}(hG:G=P.globals.size){H v:Env}{J:aA}{w w':World}(h:@SR T P H J w){r:W6}(ad:Jt r=true)(aa:∀id∈oN r,J.lock<=id)(YT:CZ r J G ka=true)
 {s:gV} (hs:aaY s=true) (ak:s.ka=ka) (al:s.gn=G) {gs:Q1} {f:Nat->Nat} (hf:∀j g,gs[j]? =some g->T.val (f j)=some g)
 (hF:@jU (Tg tabs gs s.ka) P ⟨w,λb=>∃id o q,id∈oN r/\J.get id=some o/\o.own=true/\H id=some q/\q.bl=b,λi=>if G<i/\i<=G+ka then(match dJ i r with|some (some id)=>H id|_=>none)else none⟩ H.ro v (s.st tabs) w')
 {vs:Q6} (hv:@aF (Tg tabs gs s.ka) v s.args vs):
 ∃H',@St T P H J w H' ⟨MF (rhoC s.gn s.ka J.next r) f s.objs (kills J (oN r)).h,J.next+(s.next-(s.gn+s.ka+1)),J.lock⟩ w'/\@aF T H' (AV.xk (rhoC s.gn s.ka J.next r) f s.args) vs:=by
 obtain⟨⟨am,ae,an,ab,ao,ap,aq,ar⟩,MQ,av,aw,af,ax⟩:=hF;letI:=T
 subst ak;subst al;unfold aaY at hs;simp only[aK,jm]at hs;obtain⟨⟨⟨p1,p2⟩,p3⟩,p4⟩:=hs;have Jl:∀i o,(i,o)∈s.objs->s.gn<i/\i<s.next/\o.okS s.gn=true:=by intro i o E;have:=List.all_eq_true.1 p4 _ E;simp only[aK,jm]at this;exact⟨this.1.1,this.1.2,this.2⟩
 have Qm:∀i o,(i,o)∈s.objs->(s.st tabs).get i=some o:=by
  intro i o E;show(oV (s.objs++vF tabs)).get i=some o
  rw[Jh];exact afh (aeG p3 E)
 let B:Nat:=s.gn+s.ka+1
 let H':Env:=⟨λid=>if id<J.next then H id else v (id-J.next+B),v.ro,λid=>if id<J.next then H.gh id else v.gh (id-J.next+B)⟩
 have Za:∀b o,H.ro b=some o->v.ro b=some o:=aw;have z:H.le H':=by
  refine⟨λid q a=>?_,Za,λid m=>?_⟩
  ·show(if id<J.next then H id else _)=some q
   rw[aj (h.dom id q a)];exact a
  ·show(if id<J.next then H.gh id else _)=true
   rw[aj (h.jT id m).2];exact m
 have qQ:∀i,s.gn<i->i<=s.gn+s.ka->∃id q,dJ i r=some (some id)/\H id=some q/\v i=some q/\id<J.next/\(∃o,J.get id=some o):=by intro i d t;obtain⟨id,c,et,uD,be,g1,g2⟩:=Xy YT i d t;obtain⟨q,a,_⟩:=h.obj _ _ g2 rfl;have:=(ax i q (by show(if s.gn<i/\i<=s.gn+s.ka then _ else _)=_;rw[aj ⟨d,t⟩,g1];exact a)).1;exact⟨id,q,g1,a,this,h.dom id q a,_,g2⟩
 have MJ:∀i id,s.gn<i->i<=s.gn+s.ka->dJ i r=some (some id)->rhoC s.gn s.ka J.next r i=id:=by intro i id d t h3;unfold rhoC;rw[ah (by omega),aj t,h3]
 have Ju:∀i,s.gn+s.ka<i->rhoC s.gn s.ka J.next r i=J.next+(i-B):=by intro i d;unfold rhoC;rw[ah (by omega),ah (by omega)]
 have Jq:∀i,s.gn+s.ka<i->H' (J.next+(i-B))=v i/\H'.gh (J.next+(i-B))=v.gh i:=by
  intro i d;have e:J.next+(i-B)-J.next+B=i:=by show J.next+(i-(s.gn+s.ka+1))-J.next+(s.gn+s.ka+1)=i;omega
  constructor
  ·show(if J.next+(i-B)<J.next then _ else v (J.next+(i-B)-J.next+B))=_
   rw[ah (by omega),e]
  ·show(if J.next+(i-B)<J.next then _ else v.gh (J.next+(i-B)-J.next+B))=_
   rw[ah (by omega),e]
 have ag:NQ (Tg tabs gs s.ka) T s.gn (rhoC s.gn s.ka J.next r) f v H':=by
  refine⟨hf,λi q hi a=>?_,λi q hi a=>?_,λi hi m=>?_,λ_ _ h=>h⟩
  ·by_cases Q:i<=s.gn+s.ka
   ·obtain⟨id,M,g1,g2,g3,g4,_⟩:=qQ i hi Q;rw[MJ i id hi Q g1];rw[a]at g3;cases g3;exact z.pl _ _ g2
   ·rw[Ju i (by omega),(Jq i (by omega)).1];exact a
  ·obtain⟨sz,es,e1⟩:=am i (by omega);rw[a]at e1;cases e1;obtain⟨az,aD,e2⟩:=h.nH i (by omega);refine⟨⟨i,0,az,aD⟩,?_,rfl,rfl⟩;show H' (rhoC s.gn s.ka J.next r i)=_
   unfold rhoC;rw[aj hi];exact z.pl _ _ e2
  ·by_cases Q:i<=s.gn+s.ka
   ·obtain⟨id,M,g1,g2,g3,_⟩:=qQ i hi Q;rw[(ab i m).1]at g3;cases g3
   ·rw[Ju i (by omega),(Jq i (by omega)).2];exact m
 have aE:∀id o,(kills J (oN r)).get id=some o->id∉oN r/\J.get id=some o:=by
  intro id o m;rw[DN]at m;split at m
  ·cases m
  ·next E=>exact⟨E,m⟩
 have U2:∀id o q,id∉oN r->J.get id=some o->H id=some q->∀dX o0 W,dX∈oN r->J.get dX=some o0->o0.own=true->H dX=some W->W.bl≠q.bl:=by intro id o q E m a dX o0 W aL aM aR a0;exact h.sep dX o0 id o W q aM aR m (λe=>E (e▸aL)) a0 a
 have a7:∀id o q,id∉oN r->J.get id=some o->H id=some q->q.bl<w.heap.size->w'.heap[q.bl]? =w.heap[q.bl]?:=by
  intro id o q E m a D;refine MQ.keep q.bl D ?_;rintro⟨dX,o0,W,A,I,N,O,a5⟩
  exact U2 id o q E m a dX o0 W A I N O a5
 have obj:∀k o,(MF (rhoC s.gn s.ka J.next r) f s.objs (kills J (oN r)).h).get k=some o->(∃i o0,(i,o0)∈s.objs/\rhoC s.gn s.ka J.next r i=k/\o=o0.ren (rhoC s.gn s.ka J.next r) f)\/(k∉oN r/\J.get k=some o/\∀p∈s.objs,rhoC s.gn s.ka J.next r p.1≠k):=by
  intro k o Q;rcases ah4 Q with d|⟨d,t⟩
  ·exact .inl d
  ·obtain⟨h3,h4⟩:=aE k o d;exact .inr ⟨h3,h4,t⟩
 have Me:∀k o q,J.get k=some o->H' k=some q->H k=some q:=by intro k o q m a;have D:k<J.next:=h.hasLt (h.O7 m);have u:(if k<J.next then H k else _)=some q:=a;rw[aj D]at u;exact u
 have l:∀i o q,(i,o)∈s.objs->H' (rhoC s.gn s.ka J.next r i)=some q->v i=some q:=by
  intro i o q E a;obtain⟨g1,g2,g3⟩:=Jl i o E;by_cases Q:i<=s.gn+s.ka
  ·obtain⟨id,M,A,I,N,O,_⟩:=qQ i g1 Q;rw[MJ i id g1 Q A]at a;have:=z.pl _ _ I;rw[a]at this;cases this;exact N
  ·rw[Ju i (by omega),(Jq i (by omega)).1]at a;exact a
 have bh:∀i j oi oj,(i,oi)∈s.objs->(j,oj)∈s.objs->rhoC s.gn s.ka J.next r i=rhoC s.gn s.ka J.next r j->i=j:=by
  intro i j oi oj hi hj e;obtain⟨g1,g2,_⟩:=Jl i oi hi;obtain⟨V,k2,_⟩:=Jl j oj hj;by_cases n:i<=s.gn+s.ka<;>by_cases F:j<=s.gn+s.ka
  ·obtain⟨id,_,A,_,_,_,_⟩:=qQ i g1 n;obtain⟨a8,_,L,_,_,_,_⟩:=qQ j V F;rw[MJ i id g1 n A,MJ j a8 V F L]at e;subst e;exact aa5 ad i j id A L
  ·obtain⟨id,_,A,_,_,O,_⟩:=qQ i g1 n;rw[MJ i id g1 n A,Ju j (by omega)]at e;omega
  ·obtain⟨id,_,A,_,_,O,_⟩:=qQ j V F;rw[MJ j id V F A,Ju i (by omega)]at e;omega
  ·rw[Ju i (by omega),Ju j (by omega)]at e;have hB:B=s.gn+s.ka+1:=rfl;omega
 have ac:∀i o q,(i,o)∈s.objs->v i=some q->w.heap.size<=q.bl\/∃id o0 W,id∈oN r/\J.get id=some o0/\o0.own=true/\H id=some W/\W.bl=q.bl:=by intro i o q E a;exact av i o q (Qm i o E) (bC.aah (Jl i o E).2.2) a
 have D:∀k o q,J.get k=some o->H k=some q->q.bl<w.heap.size:=λk o q m a=>(h.at m a).lt;refine⟨H',⟨z,⟨?_,?_,?_,?_,?_,ap,?_,?_⟩,MQ.size,?_,?_,MQ.os,MQ.tape,MQ.output,rfl,Nat.le_add_right _ _,?_,?_⟩,aF.ren ag _ _ p2 hv⟩
 ·intro g m;obtain⟨sz,es,e⟩:=h.nH g m;exact⟨sz,es,z.pl _ _ e⟩
 ·intro id q a;show id<J.next+(s.next-(s.gn+s.ka+1))
  by_cases X:id<J.next
  ·omega
  ·have u:(if id<J.next then H id else v (id-J.next+B))=some q:=a;rw[ah X]at u;have:=ae _ _ u;have:id-J.next+(s.gn+s.ka+1)<s.next:=this;omega
 ·intro k o Q;rcases obj k o Q with⟨i,o0,d,rfl,rfl⟩|⟨d,t,_⟩
  ·obtain⟨g1,g2,g3⟩:=Jl i o0 d;exact Live.ren ag g1 g3 (an i o0 (Qm i o0 d))
  ·refine((h.live k o t).heap λq a a9=>?_).mono z
   exact a7 k o q d t a a9.lt
 ·intro id m;have y:(if id<J.next then H.gh id else v.gh (id-J.next+B))=true:=m;show(if id<J.next then H id else v (id-J.next+B))=none/\id<J.next+(s.next-(s.gn+s.ka+1))
  by_cases X:id<J.next
  ·rw[aj X]at y⊢;exact⟨(h.jT id y).1,by omega⟩
  ·rw[ah X]at y⊢;obtain⟨A,I⟩:=ab _ y;have bi:id-J.next+(s.gn+s.ka+1)<s.next:=I;exact⟨A,by omega⟩
 ·intro k o k' o' q M A I N O a5 a6;rcases obj k o A with⟨i,o0,d,rfl,rfl⟩|⟨d,t,_⟩<;>rcases obj k' o' N with⟨j,PU,V,rfl,rfl⟩|⟨V,k2,_⟩
  ·have L:=l i o0 q d a5;have b2:=l j PU M V a6;exact ao i o0 j PU q M (Qm i o0 d) (bC.aah (Jl i o0 d).2.2) (Qm j PU V) (λe=>O (by rw[e])) L b2
  ·have L:=l i o0 q d a5;have b2:=Me k' o' M k2 a6;rcases ac i o0 q d L with n|⟨id,o1,Y,n,F,Z,c4,c5⟩
   ·have:=D k' o' M k2 b2;omega
   ·rw[<-c5];exact U2 k' o' M V k2 b2 id o1 Y n F Z c4
  ·have L:=Me k o q t a5;have b2:=l j PU M V a6;rcases ac j PU M V b2 with n|⟨id,o1,Y,n,F,Z,c4,c5⟩
   ·have:=D k o q t L;omega
   ·rw[<-c5];exact λe=>U2 k o q d t L id o1 Y n F Z c4 e.symm
  ·exact h.sep k o k' o' q M t I k2 O (Me k o q t a5) (Me k' o' M k2 a6)
 ·intro k o q A I N;rcases obj k o A with⟨i,o0,d,rfl,rfl⟩|⟨d,t,_⟩
  ·exact aq i o0 q (Qm i o0 d) (bC.aah (Jl i o0 d).2.2) (l i o0 q d N)
  ·have L:=Me k o q t N;show v.ro q.bl=none
   cases ba:v.ro q.bl with
   |none=>rfl
   |some x=>
    rcases af q.bl (by rw[ba];simp)with n|n|⟨id,o1,Y,n,F,Z,c4,c5⟩
    ·exact absurd (h.lS k o q t I L) n
    ·have:=D k o q t L;have bj:w.heap.size<=q.bl:=n;omega
    ·exact absurd c5 (U2 k o q d t L id o1 Y n F Z c4)
 ·intro p hp;have bb:p∈tabs:=by rw[<-uj];exact hp
  obtain⟨cs,ai,fr,e1,e2⟩:=ar p bb;exact⟨cs,ai,fr,e1,e2⟩
 ·intro bl bc bd;refine MQ.keep bl bc ?_;rintro⟨id,o,q,A,I,N,O,a5⟩
  exact bd id o q I N (aa id A) O a5
 ·intro k o q A I N O;rcases obj k o A with⟨i,o0,d,rfl,rfl⟩|⟨d,t,_⟩
  ·rcases ac i o0 q d (l i o0 q d O)with n|⟨id,o1,Y,n,F,Z,c4,c5⟩
   ·exact .inl n
   ·exact .inr ⟨id,o1,Y,F,Z,aa id n,c4,c5⟩
  ·exact .inr ⟨k,o,q,t,I,N,Me k o q t O,rfl⟩
 ·intro id hh;by_cases X:id<J.next
  ·left;rcases hh with⟨q,a⟩|m
   ·have u:(if id<J.next then H id else _)=some q:=a;rw[aj X]at u;exact .inl ⟨q,u⟩
   ·have y:(if id<J.next then H.gh id else _)=true:=m;rw[aj X]at y;exact .inr y
  ·right;refine⟨by omega,?_⟩;show id<J.next+(s.next-(s.gn+s.ka+1))
   rcases hh with⟨q,a⟩|m
   ·have u:(if id<J.next then H id else v (id-J.next+B))=some q:=a;rw[ah X]at u;have:id-J.next+(s.gn+s.ka+1)<s.next:=ae _ _ u;omega
   ·have y:(if id<J.next then H.gh id else v.gh (id-J.next+B))=true:=m;rw[ah X]at y;have:id-J.next+(s.gn+s.ka+1)<s.next:=(ab _ y).2;omega
 ·intro b hb;rcases af b hb with n|n|⟨id,o1,Y,n,F,Z,c4,c5⟩
  ·exact .inl n
  ·exact .inr (.inl n)
  ·exact .inr (.inr ⟨id,o1,Y,F,Z,aa id n,c4,c5⟩)
def aws{T:aI}(L:uN T.tabs P.globals.size){f:FuncId}{st:W5}{d:aJ}(D:d.pre.ok=true)(hC:∀gs A,T.I d.key gs=some A->Nu P T.tabs f st d.pre d.posts gs A):@eY T P f (@aao T.togY P st d):=by
 letI:=T
 intro NY J rr J' m H w az hS ad;unfold aao at m;split at m
 ·cases m
 next args ae=>
 obtain⟨vs,rfl,hv⟩:=V8 ae ad;split at m;next r p fz ax=>
 split at m
 ·cases m
 next ps aD=>
 split at m;rotate_left
 ·cases m
 next z=>
 split at m;rotate_left
 ·cases m
 next tag M=>
 split at m;rotate_left
 ·cases m
 next e s E=>
 split at m;rotate_left
 ·cases m
 next x=>
 split at m;rotate_left
 ·cases m
 next ns af=>
 cases m;rw[aK,aK,aK]at z;obtain⟨z,ag,N,O⟩:=z;unfold UO at z;simp only[aK,jm]at z;obtain⟨⟨⟨⟨Q,m2⟩,m3⟩,m4⟩,m5⟩:=z;have Q:=bH Q;rw[aK,aK]at x;obtain⟨q1,q2,q3⟩:=x;have q2:=bH q2;have q3:=bH q3;unfold gV.ok at D;rw[aK,aK]at D;obtain⟨⟨_,F⟩,DC⟩:=D;have F:AV.oZ d.pre.next d.pre.args=true:=by
  have:∀l:Wf,EN d.pre.next l=true->AV.oZ d.pre.next (l.map (·.2))=true:=by
   intro l;induction l with
   |nil=>intro _;rfl
   |cons a l ih=>intro h;simp only[EN,aK]at h;simp only[gX,AV.oZ,aK];exact⟨h.1,ih h.2⟩
  exact this _ F
 have ai:∀id∈fz,J.lock<=id:=λid u=>tq (List.all_eq_true.1 ag id u);have V:∀id∈oN r,J.lock<=id:=λid u=>by have:=List.all_eq_true.1 N id u;rw[aK]at this;exact tq this.1
 have ak:∀id∈oN r,id∉fz:=λid u z=>by have:=List.all_eq_true.1 N id u;rw[aK,acz.2 z]at this;simp at this
 obtain⟨dA,f1,f2,f3⟩:=YG hS fz ai;obtain⟨gt,t1,I⟩:=gQ M;simp only[Nd.den]at I;split at I;rotate_left
 ·cases I
 next gs W=>
 split at I;rotate_left
 ·cases I
 next A hI=>
 obtain⟨t,r0,X,e2,s2,rfl,al,am,aE,Y⟩:=hC gs A hI;simp only[kW,aZ]at I;subst I;have an:=aav t1 d.posts 0 E (vT _) (e2,s2) (by simpa using al);cases an;obtain⟨n1,n2⟩:=P5 W hI _ 1 s.al (r:=r0) (λk=>by rw[NC,uH]) am af;have Z:∀j g,X[j]? =some g->T.val (ns.getD j 0)=some g:=by
  intro j g hj;have ao:j<ns.length:=by have:=(fB.1 hj).1;omega
  have z:ns[j]? =some (ns.getD j 0):=by rw[yB,bP ao];rfl
  rw[n2 j _ z];exact hj
 have C:vN T P T.tabs d.pre.gn d.pre.next H J w fz r ps gs dA:=⟨hS,W,f1,f3,Q,by omega⟩
 obtain⟨hR,aa⟩:=ZY (ka:=d.pre.ka) rfl L DC (by omega) Q C f2.rel.ji (λid o q b2 b3 b4 b5=>f2.rel.lS id o q (by rw[DN,ah b2];exact b3) b4 b5) m3 m5;let J1:aA:=kills J fz
 let H1:Env:=⟨H.pl,dA,H.gh⟩
 let w0:Base:=⟨w,λb=>∃id o q,id∈oN r/\J1.get id=some o/\o.own=true/\H1 id=some q/\q.bl=b,λi=>if d.pre.gn<i/\i<=d.pre.gn+d.pre.ka then(match dJ i r with|some (some id)=>H1 id|_=>none)else none⟩
 have hF:@jU (Tg T.tabs gs d.pre.ka) P w0 dA (sF T.tabs d.pre.gn d.pre.next r H dA) (d.pre.st T.tabs) w:=by
  refine @jU.mk (Tg T.tabs gs d.pre.ka) P w0 dA _ _ w hR ⟨rfl,rfl,rfl,dY _,λ_ _ _=>rfl⟩ ?_ (λ_ _ h=>h) (λ_ h=>.inl h) ?_
  ·intro i o q a1 a2 a3;obtain⟨id,o',b1,b2,b3,b4,b5⟩:=aa i o q a1 a2 a3;exact .inr ⟨id,o',q,afK b1,by show(kills J fz).get id=_;rw[DN,ah b2];exact b3,b4,b5,rfl⟩
  ·intro i q hi;have y:(if d.pre.gn<i/\i<=d.pre.gn+d.pre.ka then(match dJ i r with|some (some id)=>H1 id|_=>none)else none)=some q:=hi;split at y
   ·next hr=>
    split at y
    ·next id u=>
     refine⟨?_,by omega,by show i<=P.globals.size+d.pre.ka;omega⟩;rw[FQ hr.1 (by omega) u];exact y
    ·cases y
   ·cases y
 have ap:=FT (ka:=d.pre.ka) C _ _ _ F m4 hv;refine lT.mono (Y w0 dA w vs ⟨_,hF,ap⟩) ?_;rintro v w' ⟨us,rfl,H2,aq,ar⟩
 have av:CZ r J1 d.pre.gn d.pre.ka=true:=by
  have:∀n i,(∀j,i<j->j<=i+n->∃id,dJ j r=some (some id)/\id∉fz)->CZ r J i n=true->CZ r J1 i n=true:=by
   intro n;induction n with
   |zero=>intro i _ _;rfl
   |succ n ih=>
    intro i ab h;simp only[CZ,aK]at h⊢;obtain⟨id,h1,h2⟩:=ab (i+1) (by omega) (by omega);refine⟨?_,ih (i+1) (λj a b=>ab j (by omega) (by omega)) h.2⟩;have h3:=h.1;rw[h1]at h3⊢;simp only at h3⊢;show(match(kills J fz).get id with|some (.cells _ _ _ _)=>true|_=>false)=true
    rw[DN,ah h2];exact h3
  refine this _ _ (λj a b=>?_) O;obtain⟨id,c,et,uD,aL,g1,g2⟩:=Xy O j a b;exact⟨id,g1,ak id (afK g1)⟩
 obtain⟨H',aw,ac⟩:=St.av8 (T:=T) (tabs:=T.tabs) (G:=d.pre.gn) (ka:=d.pre.ka) rfl Q f2.rel m3 (by rw[LJ];exact V) av q1 q2 q3 Z aq ar;have B:=f2.trans aw;rw[Zv,LJ]at B;rw[Zv]at ac;exact⟨H',B,ajT ac⟩
def ZK(P:Program)(tabs:Qt)(pl:kG)(b:Wo)(fuel:Nat)(st:W5)(a:aJ)(c:Nat)(h:List ResultVar)(o:AC)(d:WP)(g:W7)(p:Leaf):Bool:=
 match p with
 |.ret (q::l)=>match @vZ ⟨d,g,a.pre.ka⟩ (Ep P tabs ⟨d,g,a.pre.ka⟩ b) (Jv P ⟨d,g,a.pre.ka⟩ pl fuel) o {t:=zu (wZ st (AV.pV (λj=>j) a.pre.args)) 0 .nil,n:=max (wZ st (AV.pV (λj=>j) a.pre.args)).length c,gn:=P.globals.size} (a.pre.Eo tabs λj=>j)with
  |some (e,u,i)=>(match e with|.exit _=>false|_=>true)&&match AX P i u h with
   |some k=>match d[q]? with
    |some (.ci .i64 t)=>match a.posts[t.toNat]? with
     |some (_,s)=>decide (0<=t)&&(s.ok&&(Nat.beq s.ka a.pre.ka&&(match Dp a.pre.np s.al l with
      |some m=>Nat.beq m.length s.np&&(match @arL ⟨d,g,a.pre.ka⟩ P s k i with
       |⟨r,_,fz⟩=>NW r s.gn s.ka&&@UO ⟨d,g,a.pre.ka⟩ P s k i fz r m)
      |none=>false)))
     |none=>false
    |_=>false
   |none=>false
  |none=>false
 |_=>false
def Nu.PW{tabs:Qt}(M:uN tabs P.globals.size)(hm:P.follows .mixedOrders=true)(hn:vO P){pl:kG}{I:iG}(ac:yD P tabs I pl){z:Wo}{fuel:Nat}{f:FuncId}{fn:Func}{c:Code}{Y:Q2}{st:W5}{D:aJ}{n:Nat}(ad:n=D.pre.np){t:Tree}
 (hf:P.funcs[f]? =some fn) (hc:fn.body=some c)
 (IY:∀k A,dJ k z=some A->A.pre.ok=true/\∀b,(lX Y c).oI k b->∀gs x,I A.key gs=some x->uJ P tabs b A.pre A.posts gs x)
 (zL:t.chk (ZK P tabs pl z fuel st D fn.ntmps fn.results.toList (lX Y c)) (List.replicate D.pre.np .arg) []=true) {gs x:Q1} (hd:(aB.tree n t).den I gs=some x):Nu P tabs f st D.pre D.posts gs x:=by
 simp only[aB.den]at hd;split at hd;rotate_left
 ·cases hd
 next N=>
 subst ad;obtain⟨ns,ds,V,lf,d,h2,⟨aL,h3⟩,h4⟩:=Tree.KL t zL (CY.start I gs _ N) hd;let T:aI:=Tw tabs I D.pre.ka h2
 unfold ZK at d;split at d;rotate_left
 ·cases d
 next tn l=>
 split at d;rotate_left
 ·cases d
 next e a' J' aa=>
 rw[aK]at d;obtain⟨he,d⟩:=d;split at d;rotate_left
 ·cases d
 next rs ae=>
 split at d;rotate_left
 ·cases d
 next tt af=>
 split at d;rotate_left
 ·cases d
 next e' s p=>
 rw[aK,aK,aK,decide_eq_true_iff]at d;obtain⟨c1,c2,c3,d⟩:=d;split at d;rotate_left
 ·cases d
 next l2 ag=>
 rw[aK]at d;obtain⟨c4,d⟩:=d;have c3:=bH c3;have c4:=bH c4;split at d;next r pp fz aM=>
 rw[aK]at d;obtain⟨c5,c6⟩:=d;unfold UO at c6;simp only[aK,jm]at c6;obtain⟨⟨⟨⟨m1,m2⟩,m3⟩,m4⟩,m5⟩:=c6;have m1:=bH m1;have L:valsOf (λn=>V[n]?) (tn::l)=some x:=h4;simp only[valsOf]at L;split at L;rotate_left
 ·cases L
 next g r0 hg ai=>
 cases L;obtain⟨m,E,ak⟩:=Tz h3 N ag ai;obtain⟨g',k1,k2⟩:=h2.node tn _ af (by simp);have al:V[tn]? =some g:=hg;rw[al]at k1;cases k1;simp only[Nd.den,aZ]at k2;subst k2;unfold gV.ok at c2;rw[aK,aK]at c2;obtain⟨⟨_,W⟩,DC⟩:=c2;have W:AV.oZ s.next s.args=true:=by
  have:∀l:Wf,EN s.next l=true->AV.oZ s.next (l.map (·.2))=true:=by
   intro l;induction l with
   |nil=>intro _;rfl
   |cons a l ih=>intro h;simp only[EN,aK]at h;simp only[gX,AV.oZ,aK];exact⟨h.1,ih h.2⟩
  exact this _ W
 refine⟨tt.toNat,r0,m,e',s,by rw[acu c1],p,ak,by rw[<-c4];exact abZ E,λw0 dV w vs hA=>?_⟩;have Lr:∀Q:eU->bn->aA->Prop,Q e a' J'->@AT T P c {t:=zu (wZ st (AV.pV (λj=>j) D.pre.args)) 0 .nil,n:=max (wZ st (AV.pV (λj=>j) D.pre.args)).length fn.ntmps,gn:=P.globals.size} (D.pre.Eo tabs λj=>j) Q:=by
  intro Q hq;have:=@Xu P T (Ep P tabs ⟨ns,ds,D.pre.ka⟩ z) (Jv P ⟨ns,ds,D.pre.ka⟩ pl fuel) (abn (T:=T) hm hn (ac T rfl rfl) fuel) (lX Y c) (yH Y c 0).2 (λk b hk a J e1 a1 J1 hs Q' am=>by
   unfold Ep at hs;split at hs
   ·next A an=>
    obtain⟨k1,k2⟩:=IY k A an;exact ZF (T:=T) rfl M k1 (λgs x hI=>k2 b hk gs x hI) hs am
   ·cases hs) _ _ _ _ _ aa Q hq
  rwa [show(lX Y c).erase=c from(yH Y c 0).1]at this
 have O:∀j g,gs[j]? =some g->T.val ((λj=>j) j)=some g:=by
  intro j g hj;show V[j]? =some g
  rw[h3];have:=(fB.1 hj).1;rw[ny this];exact hj
 obtain⟨H,ao,ap⟩:=hA;have aq:=afa (T:=T) (f:=λj=>j) rfl rfl O ao;have ar:@aF T H (AV.pV (λj=>j) D.pre.args) vs:=aF.eP (S:=Tg tabs gs D.pre.ka) (T:=T) O _ _ ap;have av:Calls P f ⟨xg st vs⟩ w λen B=>∃v,en=.returned v/\∃y,v=Ce y/\Nl P tabs s m w0 dV y B:=by
  letI:=T
  have aw:aF H (wZ st (AV.pV (λj=>j) D.pre.args)) (xg st vs):=Vl ar;refine calls_of_wp hf hc ?_;refine Lr (λe2 Z J2=>e2=e/\Z=a'/\J2=J') ⟨rfl,rfl,rfl⟩ w0 dV H w _ _ aq rfl (Yn aw) ?_;rintro e2 Z J2 H1 A' B ⟨rfl,rfl,rfl⟩ hF ax ht
  obtain⟨y,r1,r2⟩:=Qd hF.rel ht (fun|.tmp t=>pure (A'.tmps.getD t undef)|.cell a t=>do loadVar t (<-asAddr (A'.tmps.getD a undef))) (λ_=>rfl) (λ_ _=>rfl) _ _ ae;obtain⟨dA,f1,f2,f3⟩:=TM hF ax fz;have C:vN T P tabs s.gn s.next H1 J2 B fz r l2 m dA:=⟨hF.rel,E,f1,f3,m1,by omega⟩
  obtain⟨hR,ab⟩:=ZY (ka:=s.ka) (T:=T) rfl M DC (by omega) m1 C f2.rel.ji (λid o q b2 b3 b4 b5=>f2.rel.lS id o q (by rw[DN,ah b2];exact b3) b4 b5) m3 m5;have az:=FT (ka:=s.ka) C _ _ _ W m4 r2;have aD:Nl P tabs s m w0 dV y B:=by
   refine⟨_,@jU.mk (Tg tabs m s.ka) P w0 dV _ _ B hR hF.kept ?_ f2.uz f2.qK ?_,az⟩
   ·intro i o q a1 Z a3;obtain⟨id,u,b1,b2,b3,b4,b5⟩:=ab i o q a1 Z a3;exact hF.own id u q b3 b4 b5
   ·intro i q hi;obtain⟨a1,Z,a3⟩:=hF.qQ i q hi;have aE:i<=P.globals.size+s.ka:=by rw[c3];exact a3
    refine⟨?_,Z,aE⟩;rw[FQ (by omega) (by omega) (Xz c5 i (by omega) (by omega))];exact a1
  have F:(results fn A'.tmps).run P B=.ok (if h:(⟨y⟩:QQ).size=1 then(⟨y⟩:QQ)[0]else .tuple ⟨y⟩) B:=by unfold results;rw[WE];simp only[aT,Xi];exact tX (λr:Result Q6=>(r.andThen λa B=>Result.ok a.toArray B).andThen λa B=>Sem.run P (pure (if h:a.size=1 then a[0]else Value.tuple a)) B) r1
  have Zf:(if h:(⟨y⟩:QQ).size=1 then(⟨y⟩:QQ)[0]else .tuple ⟨y⟩)=Ce y:=by
   match y with
   |[]=>rfl
   |[u]=>rfl
   |u::u'::y=>rfl
  rw[Zf]at F
  have p:A'.defers=[]/\∃v,(results fn A'.tmps).run P B=.ok v B/\∃v',Ending.returned v=.returned v'/\∃y,v'=Ce y/\Nl P tabs s m w0 dV y B:=
   ⟨ht.none,_,F,_,rfl,y,rfl,aD⟩
  cases e2 with
  |normal=>exact p
  |ret=>exact p
  |exit id=>simp at he
 right;refine⟨?_,Calls.mono' av ?_⟩
 ·have X:=hn f fn c hf hc;simp only[callFunc,aT,program,Sem.run,aQ,hf];simp only[X,gy,if_false,hc,J8,bF]
 ·rintro en B ⟨v,rfl,h5⟩
  exact⟨v,rfl,h5⟩
end
noncomputable section
variable{P:Program}{Hx:Type}{enc:TypeId×Value->Hx}
inductive cu where
 |bool
 |int (k:IntKind)
 |str
 |list (agg:Bool) (e:List cu)
abbrev WD:=List cu
def fieldTys(P:Program)(r:TypeId->Option WD):Nat->List Field->Option WD
 |_,[]=>some []
 |off,f::fs=>match r f.type with
  |some l=>if Nat.beq f.offset off&&Nat.beq (P.cellsOf f.type) l.length then match fieldTys P r (off+l.length) fs with
   |some m=>some (l++m)
   |none=>none
   else none
  |none=>none
def Di(P:Program):Nat->TypeId->Option WD
 |0,_=>none
 |n+1,t=>match P.underlying t with
  |some .bool=>some [.bool]
  |some (.int k)=>some [.int k]
  |some .string=>some [.str]
  |some (.slice e)=>match Di P n e,oO P e with
   |some l,some b=>if Nat.beq (P.cellsOf e) l.length&&Nat.ble 1 l.length&&Nat.ble 1 (P.bytesOf e)&&(b ||Nat.beq l.length 1)then some [.list b l]else none
   |_,_=>none
  |some (.struct fs)=>match fieldTys P (Di P n) 0 fs.toList with
   |some l=>if Nat.beq (P.cellsOf t) l.length then some l else none
   |none=>none
  |_=>none
mutual
def cu.has:cu->GV->Prop
 |.bool,g=>∃b,g=.b b
 |.int k,g=>∃n,g=.i k n/\k.min<=n/\n<=k.max
 |.str,g=>∃s,g=.s s/\s.length<=reachBytes
 |.list agg e,g=>∃xs,g=.l xs/\xs.length<=reachBytes/\∀x∈xs,cu.iZ e x.cells/\x.scalar = !agg
def cu.iZ:WD->List GV->Prop
 |[],gs=>gs=[]
 |t::ts,gs=>∃g r,gs=g::r/\cu.has t g/\cu.iZ ts r
end
def cu.has.scalar{t:cu}{g:GV}(h:t.has g):g.scalar=true:=by
 cases t<;>simp only[cu.has]at h
 ·obtain⟨b,rfl⟩:=h;rfl
 ·obtain⟨b,rfl,_⟩:=h;rfl
 ·obtain⟨b,rfl,_⟩:=h;rfl
 ·obtain⟨b,rfl,_⟩:=h;rfl
def cu.iZ.scalars:∀{l:WD}{gs:Q1},cu.iZ l gs->gs.all GV.scalar=true/\gs.length=l.length
 |[],gs,h=>by simp only[cu.iZ]at h;subst h;exact⟨rfl,rfl⟩
 |t::l,gs,h=>by simp only[cu.iZ]at h;obtain⟨g,r,rfl,h1,a⟩:=h;have:=cu.iZ.scalars a;simp[h1.scalar,this.1,this.2]
def cu.iZ.append:∀{l m:WD}{gs a:Q1},cu.iZ l gs->cu.iZ m a->cu.iZ (l++m) (gs++a)
 |[],m,gs,a,h,b=>by simp only[cu.iZ]at h;subst h;simpa using b
 |t::l,m,gs,a,h,b=>by simp only[cu.iZ]at h;obtain⟨g,r,rfl,h1,c⟩:=h;simp only[bJ,cu.iZ];exact⟨g,r++a,rfl,h1,cu.iZ.append c b⟩
def aP.append{ro:Qf}:∀{l m:Q1}{vs b:Q6},aP ro l vs->aP ro m b->aP ro (l++m) (vs++b)
 |[],m,vs,b,h,c=>by simp only[aP]at h;subst h;simpa using c
 |a::l,m,vs,b,h,c=>by simp only[aP]at h;obtain⟨x,xs,rfl,h1,d⟩:=h;simp only[bJ,aP];exact⟨x,xs++b,rfl,h1,aP.append d c⟩
def akj:∀{e:TypeId}{a:List (DataW Hx)}{d:DataW Hx},d∈a->∀z∈d.weights P e,z∈DataW.weightsAll P e a
 |e,[],d,h,z,_=>by simp at h
 |e,d0::a,d,h,z,b=>by
  simp only[DataW.weightsAll,iW];rcases bD.1 h with rfl|h
  ·exact .inl b
  ·exact .inr (akj h z b)
def zM(w:World):Nat->Option Obj:=λb=>w.heap[b]?
def cell?_at {w:World} {a:Addr} {v:Value} (h:w.cell? a=some v):a.spot=none/\∃c elem b,w.heap[a.block]? =some (.cells c elem b)/\c[a.off]? =some v:=by
 unfold World.cell? at h;split at h
 ·next c elem b d=>
  split at h
  ·cases h
  ·next e=>exact⟨by simpa using e,c,elem,b,d,h⟩
 ·cases h
def ae2{w:World}{r:TypeId->Option WD}{fuel:Nat}{cs:Q6}
 (e:∀t l ch (x:DataW Hx×List MemPlace),r t=some l->DataW.trod enc P w 0 (λ_=>true) true fuel t ch=some x->(∀z∈x.1.weights P t,z<=reachBytes)->∃gs,aP (zM w) gs ch/\cu.iZ l gs):
 ∀(fs:List Field)(xs:List (DataW Hx×List MemPlace))(off:Nat)(l:WD),fieldTys P r off fs=some l->xs.length=fs.length->
  (∀(i:Nat)(f:Field),fs[i]? =some f->DataW.trod enc P w 0 (λ_=>true) true fuel f.type ((cs.drop f.offset).take (P.cellsOf f.type))=xs[i]?)->
  (∀z∈DataW.weightsEach P (fs.map (·.type)) (xs.map (·.1)),z<=reachBytes)->
  ∃gs,aP (zM w) gs ((cs.drop off).take l.length)/\cu.iZ l gs
 |[],xs,off,l,h,_,_,_=>by simp only[fieldTys,aZ]at h;subst h;exact⟨[],by simp[aP],by simp[cu.iZ]⟩
 |f::fs,[],off,l,_,b,_,_=>by simp at b
 |f::fs,x::xs,off,l,h,b,g,j=>by
  simp only[fieldTys]at h;split at h
  ·next a h1=>
   split at h
   ·next c=>
    rw[aK]at c;have n:=bH c.1;have o:=bH c.2;split at h
    ·next m p=>
     cases h;have k:=g 0 f rfl;simp only[kW]at k;obtain⟨gs,g1,g2⟩:=e f.type a _ x h1 k (λz d=>j z (by simp only[gX,DataW.weightsEach,iW];exact .inl d))
     obtain⟨q,s,u⟩:=ae2 e fs xs (off+a.length) m p (by simpa using b) (λi v y=>by have:=g (i+1) v (by simpa using y);simpa using this)
      (λz d=>j z (by simp only[gX,DataW.weightsEach,iW];exact .inr d))
     refine⟨gs++q,?_,g2.append u⟩;rw[n,o]at g1;have:(cs.drop off).take (a++m).length=(cs.drop off).take a.length++(cs.drop (off+a.length)).take m.length:=by rw[eX,CQ,nP]
     rw[this];exact aP.append g1 s
    ·cases h
   ·cases h
  ·cases h
def aeJ{c:Nat}{ch:Nat->List Value}{arr:QQ}{off:Nat}:∀(n:Nat)(_:∀i,i<n->(ch i).length=c/\∀j,j<c->arr[off+i*c+j]? =(ch i)[j]?),
 ((List.range n).flatMap ch).length=n*c/\∀(k:Nat) x,((List.range n).flatMap ch)[k]? =some x->arr[off+k]? =some x
 |0,_=>by simp
 |n+1,h=>by
  obtain⟨h1,b⟩:=aeJ n λi hi=>h i (by omega);obtain⟨d,e⟩:=h n (by omega);rw[List.range_succ,acE];simp only[jF,List.flatMap_nil,ng];refine⟨by rw[eX,h1,d,rH,Hq],λk x a=>?_⟩;by_cases g:k<n*c
  ·rw[ny (by omega)]at a;exact b k x a
  ·rw[vK (by omega),h1]at a;have l:=(fB.1 a).1;have:=e (k-n*c) (by omega);rw[a]at this;rw[<-this];congr 1;omega
def aP.ofFn{ro:Qf}{G:Nat->GV}{Y:Nat->Value}:∀(l:Q2),(∀i∈l,GR ro (G i) (Y i))->aP ro (l.map G) (l.map Y)
 |[],_=>by simp[aP]
 |i::l,h=>by simp only[gX,aP];exact⟨_,_,rfl,h i (by simp),aP.ofFn l λj a=>h j (by simp[a])⟩
def abU{w:World}:∀(n m:Nat)(t:TypeId)(cs:Q6)(x:DataW Hx×List MemPlace)(l:WD),Di P n t=some l->DataW.trod enc P w 0 (λ_=>true) true m t cs=some x->
 (∀z∈x.1.weights P t,z<=reachBytes)->∃gs,aP (zM w) gs cs/\cu.iZ l gs
 |0,m,t,cs,x,l,q,h,hw=>by simp[Di]at q
 |n+1,m,t,cs,x,l,q,h,hw=>by
  simp only[Di]at q;split at q
  ·next B=>
   cases q;obtain⟨b,rfl,rfl⟩:=DataW.trod_bool B h;exact⟨[.b b],by simp[aP,GR],by simp only[cu.iZ];exact⟨_,_,rfl,by simp[cu.has],rfl⟩⟩
  ·next k B=>
   cases q;obtain⟨b,rfl,rfl,ai⟩:=DataW.trod_int B h;have aa:k.min<=b/\b<=k.max:=by simpa[Lit.wf]using ai
   exact⟨[.i k b],by simp[aP,GR],by simp only[cu.iZ];exact⟨_,_,rfl,by simp only[cu.has];exact⟨b,rfl,aa⟩,rfl⟩⟩
  ·next B=>
   cases q;obtain⟨s,rfl,rfl,hs⟩:=DataW.trod_string B h;refine⟨[.s s.data.toList],by simp only[aP,GR];exact⟨_,_,rfl,by cases s with|mk a=>cases a;rfl,rfl⟩,by simp only[cu.iZ];exact⟨_,_,rfl,by simp only[cu.has];exact⟨_,rfl,hw _ (by simp[DataW.weights])⟩,rfl⟩⟩
  ·next e B=>
   split at q
   ·next le M he ax=>
    split at q
    ·next E=>
     cases q;simp only[aK,mY]at E;obtain⟨⟨⟨c1,c2⟩,c3⟩,c4⟩:=E;have c1:=bH c1;have c2:=tq c2;have c3:=tq c3;rcases Deep.open_slice B h with⟨rfl,rfl⟩|⟨a,len,ar,F,n',D,Pl,rfl,hb,hl,hm,rfl,rfl,hi⟩
     ·exact⟨[.l []],by simp[aP,GR],by simp only[cu.iZ];exact⟨_,_,rfl,by simp only[cu.has];exact⟨[],rfl,by simp,by simp⟩,rfl⟩⟩
     have ak:F*P.bytesOf e<=reachBytes:=by have:=hw (F*P.bytesOf e) (by simp only[DataW.weights,B,bD,je,List.length_range];left;rw[QT hl]);exact this
     have al:F<=reachBytes:=jP (akz _ c3) ak;have one:∀i,i<len->∃o gs,(o.length=P.cellsOf e/\∀j,j<P.cellsOf e->w.cell? (((a.add (i*P.cellsOf e))).add j)=o[j]?)/\aP (zM w) gs o/\cu.iZ le gs:=by
      intro i d;obtain⟨o,Q,Z⟩:=hi i (by omega);obtain⟨_,h3,h4⟩:=World.cells?_some Q;obtain⟨gs,g1,g2⟩:=abU n n' e o _ le he Z (λz hz=>hw z (by simp only[DataW.weights,B,bD,iW];right;left;exact akj (by simp only[nR,zl];exact⟨i,d,rfl⟩) z hz))
      exact⟨o,gs,⟨h3,h4⟩,g1,g2⟩
     by_cases hz:F=0
     ·have am:len=0:=by omega
      subst hz;subst am;refine⟨[.l []],by simp only[aP,GR];exact⟨_,_,rfl,.inl ⟨trivial,_,rfl⟩,rfl⟩,by simp only[cu.iZ];exact⟨_,_,rfl,by simp only[cu.has];exact⟨[],rfl,by simp,by simp⟩,rfl⟩⟩
     have ha:a.spot=none/\∃v I fr,w.heap[a.block]? =some (.cells v I fr):=by obtain⟨o,Q,Z⟩:=hi 0 (by omega);obtain⟨_,h3,h4⟩:=World.cells?_some Q;have h5:=h4 0 (by omega);have V:o[0]? =some o[0]:=bP (by omega);rw[V]at h5;have N:=cell?_at h5;simp only[Nat.zero_mul,Addr.add,if_true]at N;exact⟨N.1,N.2.choose,N.2.choose_spec.choose,N.2.choose_spec.choose_spec.choose,N.2.choose_spec.choose_spec.choose_spec.1⟩
     obtain⟨ab,v,I,fr,L⟩:=ha;obtain⟨bl,A,sp⟩:=a;simp only at ab L;subst ab;have ac:∀i j:Nat,((Addr.mk bl A none).add i).add j=⟨bl,A+i+j,none⟩:=by intro i j;unfold Addr.add;split<;>split<;>simp_all
     have an:∃(o:Nat->List Value)(G:Nat->List GV),∀i,i<len->(o i).length=P.cellsOf e/\(∀j,j<P.cellsOf e->v[A+i*P.cellsOf e+j]? =(o i)[j]?)/\aP (zM w) (G i) (o i)/\cu.iZ le (G i):=by refine⟨λi=>if d:i<len then(one i d).choose else[],λi=>if d:i<len then(one i d).choose_spec.choose else[],λi d=>?_⟩;simp only[dif_pos d];obtain⟨⟨Q,Z⟩,h3,h4⟩:=(one i d).choose_spec.choose_spec;refine⟨Q,λj hj=>?_,h3,h4⟩;have:=Z j hj;rw[ac]at this;rw[<-this];have V:=bP (l:=(one i d).choose) (i:=j) (by omega);rw[V]at this;have N:=cell?_at this;simp only at N;obtain⟨_,c',e',f',h7,h8⟩:=N;rw[L]at h7;cases h7;rw[this,h8]
     obtain⟨o,G,hG⟩:=an;obtain⟨q1,q2⟩:=aeJ (c:=P.cellsOf e) (ch:=o) (arr:=v) (off:=A) len λi d=>⟨(hG i d).1,λj hj=>(hG i d).2.1 j hj⟩
     have ao:∀i,i<len->(G i).length=le.length:=λi d=>(hG i d).2.2.2.scalars.2;let X:Nat->GV:=λi=>if M then .g (G i)else(G i).headD (.l [])
     let Y:Nat->Value:=λi=>if M then .agg ⟨o i⟩else(o i).headD undef
     have hX:∀i,i<len->(X i).cells=G i/\(X i).scalar = !M/\GR (zM w) (X i) (Y i)/\(Y i).cells.toList=o i:=by
      intro i d;obtain⟨p1,p2,p3,p4⟩:=hG i d;cases M with
      |true=>simp only[X,Y,if_true];exact⟨rfl,rfl,by simp only[GR];exact⟨_,rfl,p3⟩,rfl⟩
      |false=>
       have O:le.length=1:=by simpa using c4
       obtain⟨g,hg⟩:∃g,G i=[g]:=WT.1 (by rw[ao i d,O]);obtain⟨y,hy⟩:∃y,o i=[y]:=WT.1 (by rw[p1,c1,O]);have W:g.scalar=true:=by have:=p4.scalars.1;rw[hg]at this;simpa using this
       have LD:GR (zM w) g y:=by rw[hg,hy]at p3;simp only[aP]at p3;obtain⟨u,us,e1,e2,_⟩:=p3;cases e1;exact e2
       simp only[X,Y,hg,hy,List.headD_cons,gy,if_false,Bool.not_false];refine⟨by cases g<;>first|rfl|(simp[GV.scalar]at W),W,LD,?_⟩;cases g<;>simp only[GR]at LD
       ·subst LD;rfl
       ·subst LD;rfl
       ·subst LD;rfl
       ·rcases LD with⟨_,_,rfl⟩|⟨_,_,_,_,_,rfl,_⟩<;>rfl
       ·simp[GV.scalar]at W
     refine⟨[.l ((List.range len).map X)],?_,?_⟩
     ·simp only[aP];refine⟨_,_,rfl,?_,rfl⟩;simp only[GR];right;have ad:dS ((List.range len).map Y)=(List.range len).flatMap o:=by unfold dS;rw[List.flatMap_map];rw[List.flatMap_def,List.flatMap_def,List.map_congr_left λi p=>(hX i (zl.1 p)).2.2.2]
      refine⟨bl,A,F,(List.range len).map Y,P.cellsOf e,by simp,by simpa using hl,aP.ofFn _ λi p=>(hX i (zl.1 p)).2.2.1,?_,λap=>⟨v,I,fr,L,?_,?_⟩⟩
      ·intro y hy;obtain⟨i,p,rfl⟩:=nR.1 hy;have:=(hX i (zl.1 p)).2.2.2;rw[<-JW,this];exact(hG i (zl.1 p)).1
      ·rw[ad,q1];have ae:0<len:=by
        rcases Xc len with h0|h0
        ·subst h0;simp at ap
        ·exact h0
       have af:0<P.cellsOf e:=by omega
       have hk:len*P.cellsOf e-1<((List.range len).flatMap o).length:=by rw[q1];have:0<len*P.cellsOf e:=NI ae af;omega
       have:=q2 _ _ (bP hk);have:=(qj.1 this).1;have:0<len*P.cellsOf e:=NI ae af;omega
      ·rw[ad];exact q2
     ·simp only[cu.iZ];refine⟨_,_,rfl,?_,rfl⟩;simp only[cu.has];refine⟨_,rfl,by simp;omega,λy hy=>?_⟩;obtain⟨i,p,rfl⟩:=nR.1 hy;obtain⟨k1,k2,_⟩:=hX i (zl.1 p);rw[k1];exact⟨(hG i (zl.1 p)).2.2.2,k2⟩
    ·cases q
   ·cases q
  ·next fs B=>
   split at q
   ·next l' hf=>
    split at q
    ·next ag=>
     cases q;have ag:=bH ag;obtain⟨xs,n',rfl,rfl,av,aq,hx⟩:=DataW.trod_struct B h
     obtain⟨gs,g1,g2⟩:=ae2 (enc:=enc) (P:=P) (w:=w) (fuel:=n') (cs:=cs) (r:=Di P n) (λt l o x Q Z h3=>abU n n' t o x l Q Z h3) fs.toList xs 0 l hf (by simpa using aq)
      (λi f hi=>hx i f (by simpa using hi)) (λz hz=>hw z (by simp only[DataW.weights,B];simpa using hz))
     refine⟨gs,?_,g2⟩;rw[bK,lW (by omega)]at g1;exact g1
    ·cases q
   ·cases q
  ·cases q
def argTys(P:Program)(n:Nat):List TypeId->Option (List (Bool×WD))
 |[]=>some []
 |t::ts=>match Di P n t,oO P t,argTys P n ts with
  |some l,some b,some r=>if b ||Nat.beq l.length 1 then some ((b,l)::r)else none
  |_,_,_=>none
def hasArgs:List (Bool×WD)->List GV->Prop
 |[],gs=>gs=[]
 |(b,l)::r,gs=>∃g a,gs=g::a/\cu.iZ l g.cells/\g.scalar = !b/\hasArgs r a
def awd{w:World}{r:Reach}{c:Nat}{t:TypeId}{v:Value}(h:Value.okWide P w r c t v):(oO P t=some true->∃cs,v=.agg cs)/\
 (oO P t=some false->v.cells =#[v]\/∀n,Di P n t=none):=by
 unfold Value.okWide at h;unfold oO;constructor
 ·intro a;split at a
  ·next b=>rw[b]at h;simp only at h;obtain⟨cs,rfl,_⟩:=h;exact⟨cs,rfl⟩
  ·next b=>rw[b]at h;simp only at h;obtain⟨cs,rfl,_⟩:=h;exact⟨cs,rfl⟩
  ·cases a
  ·cases a
 ·intro a;split at a
  ·cases a
  ·cases a
  ·next u d e b=>
   rw[b]at h
   cases u<;>first
    |(exact absurd rfl (d _))
    |(exact absurd rfl (e _ _))
    |(right;intro n;cases n<;>simp[Di,b];done)
    |(left;simp only[Cell.okWide,b,Cell.ok]at h;cases v<;>first|rfl|(simp only at h;done)|(cases h;done))
  ·cases a
def ajR{w:World}{n:Nat}:∀{ts:List TypeId}{vs:Q6}{o:List (DataW Hx)}{ps:List MemPlace}{L:List (Bool×WD)},argTys P n ts=some L->DataW.TrodAll enc P w 0 (λ_=>true) true ts vs o ps->
 (∀z∈DataW.weightsEach P ts o,z<=reachBytes)->(∀(j:Nat) t v,ts[j]? =some t->vs[j]? =some v->∃D,Value.okWide P w .any D t v)->∃gs,aP (zM w) gs vs/\hasArgs L gs
 |[],[],[],ps,L,a,h,s,c=>by simp only[argTys,aZ]at a;subst a;exact⟨[],by simp[aP],by simp[hasArgs]⟩
 |t::ts,v::vs,d::o,ps,L,a,h,s,c=>by
  obtain⟨p,q,⟨m,h1⟩,x,rfl⟩:=h;simp only[argTys]at a;split at a
  ·next l b r y e M=>
   split at a
   ·next N=>
    cases a;obtain⟨gs,g1,g2⟩:=abU n m t _ _ l y h1 (λz A=>s z (by simp only[DataW.weightsEach,iW];exact .inl A));obtain⟨E,F,I⟩:=ajR M x (λz A=>s z (by simp only[DataW.weightsEach,iW];exact .inr A)) (λj O Q h1 x=>c (j+1) O Q (by simpa using h1) (by simpa using x));obtain⟨D,V⟩:=c 0 t v rfl rfl;obtain⟨o1,i⟩:=awd V;cases b with
    |true=>obtain⟨W,rfl⟩:=o1 e;refine⟨.g gs::E,by simp only[aP];exact⟨_,_,rfl,by simp only[GR];exact⟨W.toList,rfl,g1⟩,F⟩,?_⟩;simp only[hasArgs];exact⟨_,_,rfl,g2,rfl,I⟩
    |false=>
     have B:l.length=1:=by simpa using N
     rcases i e with i|i
     rotate_left
     ·rw[i n]at y;cases y
     rw[i]at g1;obtain⟨g,rfl⟩:∃g,gs=[g]:=WT.1 (by rw[g2.scalars.2,B]);have k:g.scalar=true:=by have:=g2.scalars.1;simpa using this
     simp only[aP]at g1;obtain⟨u,Z,X,Y,_⟩:=g1;cases X;refine⟨g::E,by simp only[aP];exact⟨_,_,rfl,Y,F⟩,?_⟩;simp only[hasArgs];exact⟨_,_,rfl,by cases g<;>first|exact g2|(simp[GV.scalar]at k),k,I⟩
   ·cases a
  ·cases a
 |[],_::_,_,_,_,_,h,_,_=>by simp[DataW.TrodAll]at h
 |[],[],_::_,_,_,_,h,_,_=>by simp[DataW.TrodAll]at h
 |_::_,[],_,_,_,_,h,_,_=>by simp[DataW.TrodAll]at h
 |_::_,_::_,[],_,_,_,h,_,_=>by simp[DataW.TrodAll]at h
def Kept.below{W a:World}(h:Kept W a):Go.RowKit.Below W.heap.size W a:=⟨h.os,h.tape,h.output,h.size,h.keep⟩
def ajS{W g:World}(i:laidOutB P=true)(j:Kept W g){k:Nat->Bool}:∀{ts:List TypeId}{vs:Q6}{e:List (DataW Hx)}{ps:List MemPlace},DataW.TrodAll enc P W 0 (λ_=>true) true ts vs e ps->
 (∀t∈ts,P.readableRec t=true/\t<P.types.size)->(∀x∈ps,x.block<W.heap.size)->(∀x∈ps,k x.block=true)->DataW.TrodAll enc P g 0 k true ts vs e ps
 |[],[],[],ps,h,_,_,_=>h
 |t::ts,v::vs,d::e,ps,h,l,b,c=>by
  obtain⟨p,q,h1,m,rfl⟩:=h;obtain⟨r1,r2⟩:=l t (by simp)
  exact⟨p,q,WideElems.Trod_stays i r1 r2 h1 (λx a=>j.below.same (b x (List.mem_append_left _ a))) (λx a=>c x (List.mem_append_left _ a)),
   ajS i j m (λn o=>l n (by simp[o])) (λx a=>b x (aku _ a)) (λx a=>c x (aku _ a)),rfl⟩
 |[],_::_,_,_,h,_,_,_=>by simp[DataW.TrodAll]at h
 |[],[],_::_,_,h,_,_,_=>by simp[DataW.TrodAll]at h
 |_::_,[],_,_,h,_,_,_=>by simp[DataW.TrodAll]at h
 |_::_,_::_,[],_,h,_,_,_=>by simp[DataW.TrodAll]at h
end
open Go.ChangeShapes Go.WideShapes Go.ChangeAt Go.RowKit
noncomputable section
variable{P:Program}
def alX{g:aI}{call:Caller}{f:FuncId}{J0 J':aA}(b:@rD g P call)(h0:@AP g J0 P.globals.size)(d:call f [] J0=some (.b true,J')){ro:Qf}{w:World}(a:xK g.tabs ro w):
 lT P f ⟨[]⟩ w λv w'=>v=.bool true/\Kept w w':=by
 letI:=g
 have k:SR P (xW P.globals.size J0 ro) J0 w:=NS h0.1 (λid o l=>by obtain⟨c,rfl,m,h⟩:=h0.2 id o l;obtain⟨n,e,q,s,t,u⟩:=a.tab _ m;exact⟨h,c,rfl,⟨n,e,q,a.at' _ _ s,t,u⟩⟩) a.at' (λp x=>a.tab p x)
 refine lT.mono (b f [] J0 _ _ d _ w [] k rfl) ?_;rintro v w' ⟨H',i,j⟩
 simp only[VR]at j;exact⟨j,i.kept h0.own⟩
def awt{T:aI}{f:FuncId}(h:∀ro w,xK T.tabs ro w->lT P f ⟨[]⟩ w λv w'=>v=.bool true/\Kept w w'):@eY T P f Jm:=by
 letI:=T
 intro args J r e a H w g b c;unfold Jm at a;split at a
 ·cases a;simp only[aF]at c;subst c;refine lT.mono (h H.ro w b.Vw) ?_;rintro v w' ⟨rfl,d⟩
  exact⟨H,St.ahj b d,by simp only[VR]⟩
 ·cases a
def auH{Hx:Type}{enc:TypeId×Value->Hx}{tabs:Qt}{f:FuncId}{fn:Func}{c:Code}{s:ChangeSpec}{n:Nat}{L:List (Bool×WD)}{tb:TypeId}{again:Bool}(hn:vO P)(hf:P.funcs[f]? =some fn)(hc:fn.body=some c)
 (hL:argTys P n fn.params.toList=some L) (k:laidOutB P=true) (l:∀t∈fn.params.toList,P.readableRec t=true/\t<P.types.size) (hr:fn.resultTypes =#[tb]) (x:P.underlying tb=some .bool)
 (b:s.vars=[]) (hs:∀a:List (DataW Hx),a.length=fn.params.size->s.fn Hx a ={results:=[.lit (.bool true)],args:=a})
 (N:∀gs,hasArgs L gs->ql P tabs f [] [.sc] gs [.b true]) {W:World} {base:Nat} {args:QQ} {a gs:List (DataW Hx)} {g:List MemPlace}
 (y:∀(j:Nat) t v,fn.params[j]? =some t->args[j]? =some v->Value.okWide P W .any base t v)
 (O:DataW.Whole enc P fn.params.toList s.vars false W args.toList a gs g) {vt:List TypeId} (Q:vt=[]) (i:(DataW.weightsEach P (fn.params.toList++vt) (a++gs)).all (·<=reachBytes)=true) (V:xK tabs (zM W) W):
 Calls P f args W λe W'=>∃v,e=.returned v/\s.post enc P fn false true false again W args v W':=by
 letI:aI:=Tg [] [] 0
 have A:=O;have B:=λp hp=>O.lt p hp;obtain⟨p,q,X,Y,rfl,ac,ad⟩:=O;have ae:=Y;rw[b]at Y;obtain⟨rfl,rfl⟩:=trodVars_none Y;have Z:∀z∈DataW.weightsEach P fn.params.toList a,z<=reachBytes:=by subst Q;rw[ng,ng,List.all_eq_true]at i;exact λz hz=>by simpa using i z hz
 obtain⟨gl,g1,g2⟩:=ajR hL X Z (λj t v h1 h2=>⟨base,y j t v (by simpa using h1) (by simpa using h2)⟩);have m:=(N gl g2).call (zM W) W args.toList V g1;have D:=lT.calls hn hf hc m;have E:(⟨xg [] args.toList⟩:QQ)=args:=by simp[xg]
 rw[E]at D;have aa:a.length=fn.params.size:=by
  have:∀{F:List TypeId}{I:Q6}{a:List (DataW Hx)}{ps:List MemPlace},DataW.TrodAll enc P W 0 (λ_=>true) true F I a ps->a.length=F.length:=by
   intro F;induction F with
   |nil=>intro I a ps h;cases I<;>cases a<;>simp[DataW.TrodAll]at h⊢
   |cons t F ih=>intro I a ps h;cases I<;>cases a<;>simp[DataW.TrodAll]at h⊢;obtain⟨_,_,_,h2,_⟩:=h;exact ih h2
  simpa using this X
 refine Calls.mono' D ?_;rintro e W' ⟨v,rfl,af,d,us,rfl,M⟩
 simp only[aP]at M;obtain⟨u,ag,rfl,hu,rfl⟩:=M;simp only[GR]at hu;subst hu;have o:s.fn Hx (a++[]) ={results:=[.lit (.bool true)],args:=a}:=by rw[ng];exact hs a aa
 simp only[ng]at A B;refine⟨_,rfl,axg (pa:=p) (pv:=[]) A (λ_ _ _=>?_) (λsp ab=>?_) (λ_ _=>?_) (by simp) d.kept (ok_one (by rw[hr]) rfl (okWide_bool_mk x _))⟩
 ·rw[o,hr];exact trodAll_cons_mk (shut_bool x _) trodAll_mk0
 ·rw[o];exact ajS k d.kept X l B ab
 ·rw[o,b];rfl
def AC.oQ:AC->Nat->Option Code
 |.plain _,_=>none
 |.seq x y,k=>match x.oQ k with
  |some b=>some b
  |none=>y.oQ k
 |.cond _ y z,k=>match y.oQ k with
  |some b=>some b
  |none=>z.oQ k
 |.block _ x,k=>x.oQ k
 |.loop a b,k=>if Nat.beq a k then some b else none
 |.peel x a b,k=>if Nat.beq a k then some b else x.oQ k
def AC.FN{k:Nat}{b:Code}:∀{x:AC},x.oQ k=some b->x.oI k b
 |.plain _,h=>by simp[AC.oQ]at h
 |.seq x y,h=>by
  simp only[AC.oQ]at h;split at h
  ·next a=>cases h;exact .inl (AC.FN a)
  ·exact .inr (AC.FN h)
 |.cond _ x y,h=>by
  simp only[AC.oQ]at h;split at h
  ·next a=>cases h;exact .inl (AC.FN a)
  ·exact .inr (AC.FN h)
 |.block _ x,h=>AC.FN (x:=x) h
 |.loop c d,h=>by
  simp only[AC.oQ]at h;split at h
  ·next e=>cases h;exact⟨Nat.eq_of_beq_eq_true e,rfl⟩
  ·cases h
 |.peel x c d,h=>by
  simp only[AC.oQ]at h;split at h
  ·next e=>cases h;exact .inl ⟨Nat.eq_of_beq_eq_true e,rfl⟩
  ·exact .inr (AC.FN h)
def HY(ps:Q2):∀(c:Code)(n:Nat),n<=(lH ps c n).2/\∀k b,(lH ps c n).1.oI k b->(n<=k/\k<(lH ps c n).2)/\(lH ps c n).1.oQ k=some b
 |.seq x y,n=>by
  obtain⟨h1,a⟩:=HY ps x n;obtain⟨j,d⟩:=HY ps y (lH ps x n).2;simp only[lH,AC.oI,AC.oQ];refine⟨by omega,λk b h=>?_⟩;rcases h with h|h
  ·obtain⟨r,e⟩:=a k b h;exact⟨by omega,by rw[e]⟩
  ·obtain⟨r,e⟩:=d k b h;refine⟨by omega,?_⟩;cases g:(lH ps x n).1.oQ k with
   |none=>exact e
   |some i=>have:=(a k i (AC.FN g)).1;omega
 |.cond _ x y,n=>by
  obtain⟨h1,a⟩:=HY ps x n;obtain⟨j,d⟩:=HY ps y (lH ps x n).2;simp only[lH,AC.oI,AC.oQ];refine⟨by omega,λk b h=>?_⟩;rcases h with h|h
  ·obtain⟨r,e⟩:=a k b h;exact⟨by omega,by rw[e]⟩
  ·obtain⟨r,e⟩:=d k b h;refine⟨by omega,?_⟩;cases g:(lH ps x n).1.oQ k with
   |none=>exact e
   |some i=>have:=(a k i (AC.FN g)).1;omega
 |.block id x,n=>HY ps x n
 |.loop x,n=>by
  obtain⟨h1,a⟩:=HY ps x (n+1);simp only[lH];split
  ·exact⟨by simp,λk b h=>by simp[AC.oI]at h⟩
  ·split
   ·simp only[AC.oI,AC.oQ];refine⟨by omega,λk b h=>?_⟩;rcases h with⟨rfl,rfl⟩|h
    ·exact⟨by omega,by simp⟩
    ·obtain⟨r,e⟩:=a k b h;refine⟨by omega,?_⟩;have:Nat.beq n k=false:=by cases l:Nat.beq n k with|false=>rfl|true=>have:=bH l;omega
     rw[this];exact e
   ·simp only[AC.oI,AC.oQ];refine⟨by omega,λk b h=>?_⟩;obtain⟨rfl,rfl⟩:=h;exact⟨by omega,by simp⟩
 |.skip,n|.region _ _ _,n|.rangeFunc _ _ _ _,n|.exit _,n|.scope _,n|.label _,n|.goto _,n|.ret,n|.refuse _,n=>⟨Nat.le_refl _,λk b h=>by simp[lH,AC.oI]at h⟩
def auY{ps:Q2}{c:Code}{k:Nat}{b:Code}(h:(lX ps c).oI k b):(lX ps c).oQ k=some b:=((HY ps c 0).2 k b h).2
def uP:Code->List (Q2×Nat)->Code
 |c,[]=>c
 |c,(ps,k)::r=>uP (((lX ps c).oQ k).getD .skip) r
def alk{ps:Q2}{c:Code}{k:Nat}{b:Code}(h:(lX ps c).oI k b):uP c [(ps,k)]=b:=by simp only[uP,auY h,qP]
def adz{ps:Q2}{k:Nat}:∀(r:YY)(c:Code),uP c (r++[(ps,k)])=uP (uP c r) [(ps,k)]
 |[],_=>rfl
 |(_,_)::r,_=>adz r _
abbrev G9:=Q1->List GV->Prop
def Ns(b:List G9)(k:Nat)(gs a:Q1):Prop:=match b[k]? with
 |some c=>c gs a
 |none=>False
def yE(Ds:W3):iL:=λk=>Ds[k]?
def JZ(C:Nat->List GV->List GV->Prop)(d:aB)(c:G9):Prop:=∀I:iG,(∀k gs a,I k gs=some a->C k gs a)->∀gs a,d.den I gs=some a->c gs a
def JU(C:Nat->List GV->List GV->Prop):W3->List G9->Prop
 |[],[]=>True
 |d::a,c::cs=>JZ C d c/\JU C a cs
 |_,_=>False
def JU.at{C:Nat->List GV->List GV->Prop}:∀{b:W3}{cs:List G9},JU C b cs->∀{k:Nat}{d:aB},b[k]? =some d->∃c,cs[k]? =some c/\JZ C d c
 |[],[],_,k,d,a=>by simp at a
 |d0::b,e::cs,h,k,d,a=>by
  cases k with
  |zero=>simp at a;subst a;exact⟨e,rfl,h.1⟩
  |succ k=>obtain⟨c,h1,g⟩:=JU.at h.2 (k:=k) (by simpa using a);exact⟨c,by simpa using h1,g⟩
 |[],_::_,h,_,_,_=>h.elim
 |_::_,[],h,_,_,_=>h.elim
def auM{Ds:W3}{b:List G9}(h:JU (Ns b) Ds b):∀k gs a,(yE Ds).lim k gs=some a->Ns b k gs a:=by refine iL.auN λk d e I g gs a i=>?_;obtain⟨c,j,l⟩:=h.at e;unfold Ns;rw[j];exact l I g gs a i
def CW(P:Program)(tabs:Qt)(I:iG)(e:AC)(c:Wo):Prop:=
 ∀k a,dJ k c=some a->a.pre.ok=true/\∀b,e.oI k b->∀gs d,I a.key gs=some d->uJ P tabs b a.pre a.posts gs d
def CW.nil{tabs:Qt}{I:iG}{a:AC}:CW P tabs I a []:=λk b h=>by simp[dJ]at h
def CW.cons{tabs:Qt}{I:iG}{ps:Q2}{c:Code}{k:Nat}{g:aJ}{a:Wo}(i:g.pre.ok=true)(n:∀gs d,I g.key gs=some d->uJ P tabs (uP c [(ps,k)]) g.pre g.posts gs d)
 (r:CW P tabs I (lX ps c) a):CW P tabs I (lX ps c) ((k,g)::a):=by
 intro m j h;simp only[dJ]at h;cases e:Nat.beq m k with
 |true=>rw[e]at h;cases h;have e:=bH e;subst e;exact⟨i,λb l gs d o=>by rw[<-alk l];exact n gs d o⟩
 |false=>rw[e]at h;exact r m j h
def uJ.awc{tabs:Qt}(g:uN tabs P.globals.size)(m:P.follows .mixedOrders=true)(o:vO P){pl:kG}{I:iG}(j:yD P tabs I pl){a:Wo}{fuel:Nat}{d:aJ}(k:d.pre.ok=true){n:Nat}(l:n=d.pre.np)
 {ps:Q2} {b:Code} {t:Tree} (p:CW P tabs I (lX ps b) a) (e:∀gs c,I d.key gs=some c->uJ P tabs b d.pre d.posts gs c)
 (q:t.chk (Py P tabs pl a fuel d (lX ps b)) (List.replicate d.pre.np .arg) []=true) {gs c:Q1} (i:(aB.tree n t).den I gs=some c):uJ P tabs b d.pre d.posts gs c:=by
 simp only[aB.den]at i;split at i
 ·next h=>exact uJ.PW g m o j k p e q (by rw[h,l]) i
 ·cases i
def PL.nil:kG:=λ_=>[]
def PL.cons(f:FuncId)(p:gY->fC)(l:kG):kG:=λN=>(f,p N)::l N
def PL.awf{tabs:Qt}{I:iG}:yD P tabs I PL.nil:=λT _ _ p a=>by simp[PL.nil]at a
def PL.aai{tabs:Qt}{I:iG}{f:FuncId}{p:gY->fC}{l:kG}(h:∀T:aI,T.tabs=tabs->T.I=I->@eY T P f (p T.togY))(d:yD P tabs I l):yD P tabs I (PL.cons f p l):=by
 intro T b c q a;rcases bD.1 a with rfl|a
 ·exact h T b c
 ·exact d T b c q a
def orP(p q:fC):fC:=λargs J=>match p args J with
 |some r=>some r
 |none=>q args J
def awm{T:aI}{f:FuncId}{p q:fC}(c:@eY T P f p)(d:@eY T P f q):@eY T P f (orP p q):=by
 letI:=T
 intro args J r b a;unfold orP at a;split at a
 ·next r0 e=>cases a;exact c args J r b e
 ·exact d args J r b a
