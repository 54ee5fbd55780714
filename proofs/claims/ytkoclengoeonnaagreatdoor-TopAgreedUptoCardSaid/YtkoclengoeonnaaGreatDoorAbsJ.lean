/- Loops by contract: the step that the evaluator takes at a loop, and how a loop's contract is proved. -/
import Derived.Test.YtkoclengoeonnaaGreatDoorAbsI
import Derived.ChangeArms
import Derived.Deep.Slices
import Derived.Carry
import Derived.ProofKit
import Derived.OpenShut
import Derived.Deep.DeepHandedRow
set_option linter.all false
namespace Go.aP
noncomputable section
variable{P:Program}
structure US where
 r:W7
 p:Wz
 fz:Q2
def US.Ia(u:US)(j m:Nat):US:=match dF j u.p with
 |some _=>u
 |none=>{u with p:=(j,m)::u.p}
def US.Oy(u:US)(i:Nat)(x:QR):US:=match dF i u.r with
 |some _=>u
 |none=>{u with r:=(i,x)::u.r}
section
variable[gQ]
def MK(P:Program)(J:aC)(a:AV):Option (Nat×QR):=
 match iY a with
 |some m=>some (m,none)
 |none=>match a with
  |.sv id _=>match J.get id with
   |some (.vec m _ _)=>some (m,some id)
   |_=>none
  |.sl id b len c=>match J.get id with
   |some (.cells _ d _ _)=>(listOf P J d (.sl id b len c)).map λm=>(m,some id)
   |_=>none
  |_=>none
mutual
def uV(P:Program)(G:Nat)(J:aC):AV->AV->US->US
 |.nd j,a,u=>match MK P J a with
  |some (m,some id)=>{u.Ia j m with fz:=id::u.fz}
  |some (m,none)=>u.Ia j m
  |none=>u
 |.sv i _,a,u=>match a with
  |.sv id _=>u.Oy i (some id)
  |.gy=>u.Oy i none
  |_=>u
 |.p i _,a,u=>match a with
  |.p id _=>if i<=G then u else u.Oy i (some id)
  |_=>u
 |.mp i,a,u=>match a with
  |.mp id=>u.Oy i (some id)
  |_=>u
 |.sl i _ _ _,a,u=>match a with
  |.sl id _ _ _=>u.Oy i (some id)
  |_=>u
 |.rx j _,a,u=>match a with
  |.rx m _=>u.Ia j m
  |_=>u
 |.fn _ e g,a,u=>match a with
  |.fn _ b c=>GY P G J g c (GY P G J e b u)
  |_=>u
 |.agg l,a,u=>match a with
  |.agg d=>GY P G J l d u
  |_=>u
 |.dU l,a,u=>match a with
  |.dU d=>GY P G J l d u
  |_=>u
 |.jh _ x,a,u=>match a with
  |.jh _ h=>uV P G J x h u
  |_=>u
 |_,_,u=>u
def GY(P:Program)(G:Nat)(J:aC):Q3->List AV->US->US
 |[],_,u=>u
 |a::l,m,u=>match m with
  |b::c=>GY P G J l c (uV P G J a b u)
  |[]=>u
end
def akh(P:Program)(G:Nat)(J:aC)(t:Tr AV):Wm->US->US
 |[],u=>u
 |p::l,u=>akh P G J t l (match t.get p.1 with|some v=>uV P G J p.2 v u|none=>u)
def WX(P:Program)(G:Nat)(J:aC):Ys->US->US
 |[],u=>u
 |p::l,u=>WX P G J l (match dF p.1 u.r with
  |some (some id)=>match p.2,J.get id with
   |.cells c _ _ _,some (.cells a _ _ _)=>GY P G J c a u
   |.vec j _ _,some (.vec m _ _)=>u.Ia j m
   |.smap j _ _,some (.smap m _ _)=>u.Ia j m
   |.smap j _ _,some (.map [])=>match fK (.ml [])with
    |some m=>u.Ia j m
    |none=>u
   |_,_=>u
  |some none=>match p.2 with
   |.vec j _ _=>match fK (.ml [])with
    |some m=>u.Ia j m
    |none=>u
   |_=>u
  |none=>u)
def abu(p:Wz):Nat->Nat->Option Q2
 |_,0=>some []
 |j,n+1=>match dF j p,abu p (j+1) n with
  |some m,some r=>some (m::r)
  |_,_=>none
def XY:Nat->Nat->List (Nat×QR)
 |_,0=>[]
 |i,n+1=>(i+1,some (i+1))::XY (i+1) n
def fit(P:Program)(s:gX)(a:bF)(J:aC):US:=WX P s.gn J s.objs (akh P s.gn J a.t s.slots ⟨XY s.gn s.ka,[],[]⟩)
def fits(P:Program)(s:gX)(a:bF)(J:aC)(ps:Q2):Bool:=Nat.beq ps.length s.np&&match fit P s a J with
 |⟨r,_,fz⟩=>aaf P s a J fz r ps
structure aN where
 key:Nat
 pre:gX
 posts:XX
abbrev WD:=List aN
abbrev Wt:=List (Nat×aN)
def JC(tag:Nat):XX->Nat->Option (eH×gX)
 |[],_=>none
 |[p],_=>some p
 |p::q::l,t=>match fK (.ci .i64 t)with
  |some c=>match fK (.bin .eql tag c)with
   |some b=>match YH b with
    |some true=>some p
    |some false=>JC tag (q::l) (t+1)
    |none=>none
   |none=>none
  |none=>none
def Cj(a:Nat)(ps:Q2):List QR->Nat->Nat->Option Q2
 |_,_,0=>some []
 |some i::b,j,n+1=>match ps[i]?,Cj a ps b j n with
  |some m,some r=>some (m::r)
  |_,_=>none
 |none::b,j,n+1=>match fK (.call a ps j),Cj a ps b (j+1) n with
  |some m,some r=>some (m::r)
  |_,_=>none
 |[],j,n+1=>match fK (.call a ps j),Cj a ps [] (j+1) n with
  |some m,some r=>some (m::r)
  |_,_=>none
def ZX(P:Program)(tabs:Qt)(b:aN)(a:bF)(J:aC):Wb:=
 match abu (fit P b.pre a J).p 0 b.pre.np with
 |some ps=>if fits P b.pre a J ps then
   match fK (.call b.key ps 0)with
   |some tag=>match JC tag b.posts 0 with
    |some (e,s)=>if Nat.beq s.ka gQ.ka then match Cj b.key ps s.al 1 s.np with
     |some c=>some (e,s.Si (λj=>c.getD j 0),s.EL tabs (λj=>c.getD j 0))
     |none=>none
     else none
    |none=>none
   |none=>none
  else none
 |none=>none
end
def uI:List QR->List GV->List GV->Option Q1
 |[],_,r=>some r
 |some i::a,gs,r=>match gs[i]?,uI a gs r with
  |some g,some l=>some (g::l)
  |_,_=>none
 |none::a,gs,x::r=>match uI a gs r with
  |some l=>some (x::l)
  |none=>none
 |none::_,_,[]=>none
def DU(a:Nat):List QR->List Nat->Option Q2
 |[],r=>some r
 |some i::b,r=>bif Nat.blt i a then(match DU a b r with
  |some l=>some (i::l)
  |none=>none)else none
 |none::b,x::r=>match DU a b r with
  |some l=>some (x::l)
  |none=>none
 |none::_,[]=>none
def H6(a:Nat)(l:Q2):List QR->Bool
 |[]=>true
 |none::b=>H6 a l b
 |some i::b=>Nat.blt i a&&((match l[i]? with|some m=>Nat.beq m i|none=>false)&&H6 a l b)
def Sj(a:Nat)(l:Q2):XX->Bool
 |[]=>true
 |p::ps=>H6 a l p.2.al&&Sj a l ps
def acB{val:W8}:∀{l:Q2}{gs:Q1},valsOf val l=some gs->∀(i m:Nat),l[i]? =some m->gs[i]? =val m
 |[],gs,h,i,m,a=>by simp at a
 |x::l,gs,h,i,m,a=>by
  simp only[valsOf]at h;split at h
  ·next g r h5 h6=>
   cases h;cases i with
   |zero=>simp at a;subst a;simp[h5]
   |succ i=>simpa using acB h6 i m (by simpa using a)
  ·cases h
def TW{k:Nat}{gs b e:Q1}(a:b=gs++e)(q:gs.length=k):∀{j:List QR}{l d:Q2}{r:Q1},DU k j l=some d->valsOf (λn=>b[n]?) l=some r->∃rest,valsOf (λn=>b[n]?) d=some rest/\uI j gs r=some rest
 |[],l,d,r,h,c=>by simp only[DU,aY]at h;subst h;exact⟨r,c,rfl⟩
 |some i::j,l,d,r,h,c=>by
  simp only[DU]at h;cases m:Nat.blt i k with
  |false=>rw[m]at h;cases h
  |true=>
   rw[m]at h;simp only[cond_true]at h;rw[jv]at m;split at h
   ·next s o=>
    cases h;obtain⟨rest,p,h5⟩:=TW a q o c;have hi:b[i]? =some (gs[i]'(by omega)):=by rw[a,mY ah,bT ah]
    refine⟨gs[i]'(by omega)::rest,?_,?_⟩
    ·simp only[valsOf,hi,p]
    ·simp only[uI,h5,bT (ah:i<gs.length)]
   ·cases h
 |none::j,[],d,r,h,c=>by simp[DU]at h
 |none::j,x::l,d,r,h,c=>by
  simp only[DU]at h;split at h
  ·next s o=>
   cases h;simp only[valsOf]at c;split at c
   ·next g v t u=>
    cases c;obtain⟨rest,p,h5⟩:=TW a q o u;exact⟨g::rest,by simp only[valsOf,t,p],by simp only[uI,h5]⟩
   ·cases c
  ·cases h
def YR{k:Nat}{gs b e c:Q1}(a:b=gs++e)(o:gs.length=k){l:Q2}(g:valsOf (λn=>b[n]?) l=some c):∀{d:List QR},H6 k l d=true->∀r,uI d c r=uI d gs r
 |[],_,r=>rfl
 |none::d,h,[]=>rfl
 |none::d,h,x::r=>by simp only[H6]at h;simp only[uI,YR a o g h r]
 |some i::d,h,r=>by
  simp only[H6,aO,jv]at h;obtain⟨h1,j,p⟩:=h;split at j
  ·next m q=>
   have:=bM j;subst this;have s:c[m]? =gs[m]?:=by
    rw[acB g m m q];show b[m]? =gs[m]?
    rw[a,mY ah]
   simp only[uI,YR a o g p r,s]
  ·cases j
def adM{c:Nat}{l:Q2}:∀{a:XX},Sj c l a=true->∀p∈a,H6 c l p.2.al=true
 |q::a,h,p,b=>by
  simp only[Sj,aO]at h;rcases bJ.1 b with rfl|b
  ·exact h.1
  ·exact adM h.2 p b
def vw(P:Program)(tabs:Qt)(b:Code)(d:gX)(c:XX)(gs g:Q1):Prop:=
 ∃(t:Nat)(r a:Q1)(e:eH)(s:gX),g=GV.i .i64 t::r/\c[t]? =some (e,s)/\uI s.al gs r=some a/\a.length=s.np/\∀w0 h A w K,Rx P tabs d gs w0 h A w->(∀i j,Rx P tabs s a w0 h i j->K e.toExit i j)->AP P b K A w
def aaN{T:aJ}{tag:Nat}{d:Nat}(g:T.val tag=some (.i .i64 (d:Nat))):∀(l:XX)(t:Nat){p:eH×gX},@JC T.togQ tag l t=some p->t<=d->∀q,l[d-t]? =some q->p=q
 |[],t,p,h,_,q,a=>by simp[JC]at h
 |[x],t,p,h,k,q,a=>by
  simp only[JC,aY]at h;cases j:d-t with
  |zero=>rw[j]at a;simp at a;rw[<-h,a]
  |succ n=>rw[j]at a;simp at a
 |x::y::l,t,p,h,k,q,a=>by
  letI:=T
  simp only[JC]at h;split at h
  ·next c z=>
   split at h
   ·next b A=>
    obtain⟨D,B,s⟩:=gK z;simp only[Nd.den,aY]at s;subst s;obtain⟨u,v,m⟩:=gK A;have o:aJ.val tag=some (.i .i64 (d:Nat)):=g;simp only[Nd.den,o,B,iG,if_true,bV,aY]at m;split at h
    ·next j=>
     cases h;have:=T.BD b true (O3 j);have i:T.val b=some u:=v;rw[i]at this;cases this;simp at m;have:d-t=0:=ah;rw[this]at a;simpa using a
    ·next j=>
     have:=T.BD b false (O3 j);have i:T.val b=some u:=v;rw[i]at this;cases this;simp at m;have e:d-t=(d-(t+1))+1:=ah;rw[e,vk]at a;exact aaN g (y::l) (t+1) h ah q a
    ·cases h
   ·cases h
  ·cases h
def Ql{T:aJ}{d:Nat}{ps:Q2}{gs e:Q1}(b:valsOf T.val ps=some gs)(u:T.I d gs=some e):∀(n j:Nat)(p:List QR){o:Q2}{r rest:Q1},(∀k:Nat,r[k]? =e[j+k]?)->uI p gs r=some rest->@Cj T.togQ d ps p j n=some o->o.length=n/\∀(i m:Nat),o[i]? =some m->T.val m=rest[i]?
 |0,j,p,o,r,rest,_,_,h=>by
  letI:=T
  have:o=[]:=by unfold Cj at h;simpa using h.symm
  subst this;simp
 |n+1,j,some M::p,o,r,rest,q,a,h=>by
  letI:=T
  simp only[Cj]at h;simp only[uI]at a;split at a
  ·next g l N D=>
   cases a;split at h
   ·next m L v c=>
    cases h;obtain⟨y,z⟩:=Ql b u n j p q D c;refine⟨by simp[y],λi A hi=>?_⟩;cases i with
    |zero=>simp at hi;subst hi;have:=acB b M m v;rw[kP,<-N];exact this.symm
    |succ i=>simpa using z i A (by simpa using hi)
   ·cases h
  ·cases a
 |n+1,j,none::p,o,[],rest,q,a,h=>by simp[uI]at a
 |n+1,j,none::p,o,x::r,rest,q,a,h=>by
  letI:=T
  simp only[Cj]at h;simp only[uI]at a;split at a
  ·next l D=>
   cases a;split at h
   ·next m L v c=>
    cases h;obtain⟨y,z⟩:=Ql b u n (j+1) p (r:=r) (λk=>by have:=q (k+1);rw[vk]at this;rw[this];congr 1;omega) D c
    refine⟨by simp[y],λi A hi=>?_⟩;cases i with
    |zero=>simp at hi;subst hi;obtain⟨g,E,B⟩:=gK v;have I:valsOf aJ.val ps=some gs:=b;have s:aJ.I d gs=some e:=u;simp only[Nd.den,I,s]at B;have t:T.val m=some g:=E;have:=q 0;simp only[kP,nR]at this;rw[t,kP,this];exact B.symm
    |succ i=>simpa using z i A (by simpa using hi)
   ·cases h
  ·cases a
 |n+1,j,[],o,r,rest,q,a,h=>by
  letI:=T
  simp only[Cj]at h;simp only[uI,aY]at a;subst a;split at h
  ·next m L v c=>
   cases h;obtain⟨y,z⟩:=Ql b u n (j+1) [] (r:=r.tail) (λk=>by have:=q (k+1);rw[List.getElem?_tail,this];congr 1;omega) rfl c
   refine⟨by simp[y],λi A hi=>?_⟩;cases i with
   |zero=>simp at hi;subst hi;obtain⟨g,E,B⟩:=gK v;have I:valsOf aJ.val ps=some gs:=b;have s:aJ.I d gs=some e:=u;simp only[Nd.den,I,s]at B;have t:T.val m=some g:=E;have:=q 0;rw[nR]at this;rw[t,this];exact B.symm
   |succ i=>have:=z i A (by simpa using hi);rw[this,List.getElem?_tail]
  ·cases h
def ZY{T:aJ}{tabs:Qt}(O:T.tabs=tabs)(n:vG tabs P.globals.size){m:aN}(v:m.pre.ok=true){b:Code}(Y:∀gs d,T.I m.key gs=some d->vw P tabs b m.pre m.posts gs d)
 {a R:bF} {J J':aC} {e:eH} (h:@ZX T.togQ P tabs m a J=some (e,R,J')) {Q:eH->bF->aC->Prop} (Z:Q e R J'):@C9 T P b a J Q:=by
 letI:=T
 unfold ZX at h;split at h
 ·next ps aa=>
  split at h
  ·next c=>
   split at h
   ·next tag o=>
    split at h
    ·next e' s i=>
     split at h;rotate_left
     ·cases h
     next x=>
     have x:=bM x;split at h
     ·next u y=>
      cases h;obtain⟨gt,t1,l⟩:=gK o;simp only[Nd.den]at l;split at l
      ·next gs p=>
       split at l
       ·next d V=>
        obtain⟨t,r,W,e2,s2,rfl,z,B,ab,q⟩:=Y gs d V;simp only[kP,aY]at l;subst l;have D:=aaN t1 m.posts 0 i (rZ _) (e2,s2) (by simpa using z);cases D;obtain⟨n1,n2⟩:=Ql p V _ 1 s.al (r:=r) (λk=>by rw[KC,vk]) B y;intro w0 dQ F w A K hF hl ht hK;unfold fits at c;rw[aO]at c;have E:=aai O n v hF hl ht c.2 p;refine q w0 dQ A w K E λA' w' I=>?_;obtain⟨F',L,M⟩:=abU (T:=T) (f:=λj=>u.getD j 0) O x.symm (λj g X=>by
         have N:j<u.length:=by have:=(fH.1 X).1;omega
         have hm:u[j]? =some (u.getD j 0):=by rw[yK,bT N];rfl
         rw[n2 j _ hm];exact X) I
        exact hK e _ _ F' A' w' Z L rfl M
       ·cases l
      ·cases l
     ·cases h
    ·cases h
   ·cases h
  ·cases h
 ·cases h
def acA{val:W8}:∀{l:Q2}{gs:Q1},valsOf val l=some gs->gs.length=l.length
 |[],gs,h=>by simp only[valsOf,aY]at h;subst h;rfl
 |x::l,gs,h=>by
  simp only[valsOf]at h;split at h
  ·next h5 h6=>cases h;simp[acA h6]
  ·cases h
def eH.eq:eH->eH->Bool
 |.normal,.normal=>true
 |.ret,.ret=>true
 |.exit a,.exit b=>Nat.beq a b
 |_,_=>false
def eH.eq_of{a b:eH}(h:a.eq b=true):a=b:=by
 cases a<;>cases b<;>first|rfl|(cases h;done)|skip
 rw[bM h]
abbrev lG:=gQ->List (FuncId×dM)
def yL(P:Program)(tabs:Qt)(I:iJ)(pl:lG):Prop:=∀T:aJ,T.tabs=tabs->T.I=I->∀p∈pl T.togQ,@dK T P p.1 p.2
def JH(P:Program)(N:gQ)(pl:lG)(fuel:Nat):Code->bF->aC->Option (eH×bF×aC):=@E9 N P (XR P) (abt (pl N)) fuel
def EM(P:Program)(tabs:Qt)(N:gQ)(b:Wt):XE:=λk a J=>match dF k b with
 |some c=>@ZX N P tabs c a J
 |none=>none
def U9(P:Program)(tabs:Qt)(pl:lG)(b:Wt)(fuel:Nat)(a:aN)(i:AC)(c:List Nd)(d:Wg)(k:Leaf):Bool:=
 match @wP ⟨c,d,a.pre.ka⟩ (EM P tabs ⟨c,d,a.pre.ka⟩ b) (JH P ⟨c,d,a.pre.ka⟩ pl fuel) i (a.pre.Si λj=>j) (a.pre.EL tabs λj=>j)with
 |some (e,g,h)=>match k with
  |.ret (m::l)=>match c[m]? with
   |some (.ci .i64 t)=>match a.posts[t.toNat]? with
    |some (n,s)=>decide (0<=t)&&!(e.eq .normal)&&e.eq n&&s.ok&&(match DU a.pre.np s.al l with|some o=>@fits ⟨c,d,a.pre.ka⟩ P s g h o|none=>false)
    |none=>false
   |_=>false
  |.tail f l=>Nat.beq f a.key&&e.eq .normal&&(Sj a.pre.np l a.posts&&@fits ⟨c,d,a.pre.ka⟩ P a.pre g h l)
  |_=>false
 |none=>false
@[reducible] def Tw(tabs:Qt)(I:iJ)(ka:Nat){b:List Nd}{c:Wg}{a:Q1}(h:Dv I b c a):aJ:={nodes:=b,dec:=c,ka:=ka,tabs:=tabs,I:=I,val:=λn=>a[n]?,qQ:=h.node,BD:=h.dec}
def Dv.start(I:iJ)(gs:Q1)(n:Nat)(h:gs.length=n):Dv I (List.replicate n .arg) [] gs:=
 ⟨by simp[h],λk e a c=>absurd (adl.1 (rX a)).2 c,λk b d=>by simp at d⟩
def abL{T:aJ}(a:P.follows .mixedOrders=true)(b:wI P){pl:lG}(c:∀p∈pl T.togQ,@dK T P p.1 p.2)(fuel:Nat):@Oh T P (JH P T.togQ pl fuel):=
 (@aeK T P _ _ (afh a) (aiN c) b fuel).1
def vw.Qi{tabs:Qt}(p:vG tabs P.globals.size)(hm:P.follows .mixedOrders=true)(hn:wI P){pl:lG}{I:iJ}(aa:yL P tabs I pl){h:Wt}{fuel:Nat}{m:aN}(ab:m.pre.ok=true){ps:Q2}{b:Code}{t:Tree}
 (IV:∀k i,dF k h=some i->i.pre.ok=true/\∀c,(nG ps b).oQ k c->∀gs d,I i.key gs=some d->vw P tabs c i.pre i.posts gs d)
 (B:∀gs d,I m.key gs=some d->vw P tabs b m.pre m.posts gs d)
 (Ae:t.chk (U9 P tabs pl h fuel m (nG ps b)) (List.replicate m.pre.np .arg) []=true) {gs d:Q1} (q:gs.length=m.pre.np) (hd:t.den I gs=some d):vw P tabs b m.pre m.posts gs d:=by
 obtain⟨ns,ds,O,lf,o,h2,⟨an,h3⟩,R⟩:=Tree.Lc t Ae (Dv.start I gs _ q) hd;let T:aJ:=Tw tabs I m.pre.ka h2
 unfold U9 at o;split at o
 ·next e a' J' V=>
  have LW:∀Q:eH->bF->aC->Prop,Q e a' J'->@AT T P b (m.pre.Si λj=>j) (m.pre.EL tabs λj=>j) Q:=by
   intro Q hq;have:=@XW P T (EM P tabs ⟨ns,ds,m.pre.ka⟩ h) (JH P ⟨ns,ds,m.pre.ka⟩ pl fuel) (abL (T:=T) hm hn (aa T rfl rfl) fuel) (nG ps b) (yO ps b 0).2 (λk c hk a J Z a1 J1 hs Q' ac=>by
    unfold EM at hs;split at hs
    ·next i ad=>
     obtain⟨k1,k2⟩:=IV k i ad;exact ZY (T:=T) rfl p k1 (λgs d hI=>k2 c hk gs d hI) hs ac
    ·cases hs) _ _ _ _ _ V Q hq
   rwa [show(nG ps b).erase=b from(yO ps b 0).1]at this
  have x:∀j g,gs[j]? =some g->T.val ((λj=>j) j)=some g:=by
   intro j g hj;show O[j]? =some g
   rw[h3];have:=(fH.1 hj).1;rw[mY this];exact hj
  split at o
  ·next tn l=>
   split at o
   ·next tt ae=>
    split at o
    ·next e' s D=>
     simp only[aO,decide_eq_true_iff]at o;obtain⟨⟨⟨⟨t0,t1⟩,t2⟩,W⟩,y⟩:=o;split at y;rotate_left
     ·cases y
     next l2 af=>
     have Z:=eH.eq_of t2;subst Z;simp only[valsOf]at R;split at R
     ·next g r hg ag=>
      cases R;obtain⟨g',k1,k2⟩:=h2.node tn _ ae aA;have ai:O[tn]? =some g:=hg;rw[ai]at k1;cases k1;simp only[Nd.den,aY]at k2;subst k2;obtain⟨n,u,ak⟩:=TW h3 q af ag;have al:n.length=s.np:=by unfold fits at y;rw[aO]at y;rw[<-bM y.1];exact acA u
      refine⟨tt.toNat,r,n,e,s,by rw[Dj t0],D,ak,al,λw0 dQ A w K hS hK=>AP.step ?_⟩;obtain⟨F,hF,ht⟩:=abU (T:=T) (f:=λj=>j) rfl rfl x hS;refine LW (λv X Y=>v=e/\X=a'/\Y=J') ⟨rfl,rfl,rfl⟩ w0 dQ F w A _ hF rfl ht ?_;rintro v X Y F' A' w' ⟨rfl,rfl,rfl⟩ E L M
      unfold fits at y;rw[aO]at y;have N:=aai (T:=T) rfl p W E L M y.2 u;have:=hK A' w' N;cases v with
      |normal=>simp[eH.eq]at t1
      |exit id=>exact this
      |ret=>exact this
     ·cases R
    ·cases o
   ·cases o
  ·next f l=>
   simp only[aO]at o;obtain⟨⟨t1,t2⟩,t5,W⟩:=o;have Z:=eH.eq_of t2;subst Z;have v:=bM t1;subst v;obtain⟨am,z,hI⟩:=R;obtain⟨tn,r,n,v,s,r1,r2,r5,r3,r4⟩:=B am d hI;refine⟨tn,r,n,v,s,r1,r2,by rw[<-YR h3 q z (adM t5 _ (rX r2)) r];exact r5,r3,λw0 dQ A w K hS hK=>AP.step ?_⟩;obtain⟨F,hF,ht⟩:=abU (T:=T) (f:=λj=>j) rfl rfl x hS;refine LW (λv X Y=>v=.normal/\X=a'/\Y=J') ⟨rfl,rfl,rfl⟩ w0 dQ F w A _ hF rfl ht ?_;rintro e3 X Y F' A' w' ⟨rfl,rfl,rfl⟩ E L M
   unfold fits at W;rw[aO]at W;have N:=aai (T:=T) rfl p ab E L M W.2 z;exact r4 w0 dQ A' w' K N hK
  ·cases o
 ·cases o
structure ou(P:Program)(tabs:Qt)(f:FuncId)(st:W6)(sh:WF)(gs out:Q1):Prop where
 call:akW P tabs f st gs out
 fits:nZ sh out=true
section
variable[gQ]
def Tc(P:Program)(J:aC)(fz:Q2)(a:AV):QR:=
 match MK P J a with
 |some (m,none)=>some m
 |some (m,some _)=>if Um P J fz a m then some m else none
 |none=>none
def OW(P:Program)(J:aC)(fz:Q2):Q3->Option Q2
 |[]=>some []
 |a::l=>match Tc P J fz a,OW P J fz l with
  |some m,some r=>some (m::r)
  |_,_=>none
def Xa(P:Program)(J:aC)(fz:Q2):AV->Option Nat
 |.agg l=>match OW P J fz l with
  |some b=>fK (.mk b)
  |none=>none
 |a=>Tc P J fz a
def valsN(P:Program)(J:aC)(fz:Q2):Q3->Option Q2
 |[]=>some []
 |a::l=>match Xa P J fz a,valsN P J fz l with
  |some m,some r=>some (m::r)
  |_,_=>none
def af0(P:Program)(J:aC)(a:AV):Q2:=match MK P J a with
 |some (_,some id)=>[id]
 |_=>[]
def DY(P:Program)(J:aC):Q3->List Nat
 |[]=>[]
 |.agg l::r=>l.flatMap (af0 P J)++DY P J r
 |a::r=>af0 P J a++DY P J r
def VA(k:Nat)(a:Q2)(j:Nat):oC->Option AV
 |.sc=>kL (.call k a j)
 |.ag n=>match fK (.call k a j)with
  |some m=>(Ip m 0 n).map .agg
  |none=>none
def Jw(k:Nat)(b:Q2):Nat->List oC->Option Q3
 |_,[]=>some []
 |j,s::l=>match VA k b j s,Jw k b (j+1) l with
  |some a,some r=>some (a::r)
  |_,_=>none
def VD(P:Program)(k:Nat)(st:W6)(b:WF):dM:=λc J=>match CV st c with
 |none=>none
 |some args=>
 let fz:=DY P J args
 if fz.all (Nat.ble J.lock ·)then
  match valsN P J fz args with
  |some d=>match Jw k d 0 b with
   |some (a::l)=>some (JR (a::l),kills J fz)
   |_=>none
  |none=>none
 else none
end
def Y4{T:aJ}{F:Env}{J:aC}{w:World}(h:@SR T P F J w):∀fz:Q2,(∀id∈fz,J.lock<=id)->∃cZ,(∀b o,F.ro b=some o->cZ b=some o)/\@St T P F J w ⟨F.pl,cZ,F.gh⟩ (kills J fz) w/\
 (∀id∈fz,∀o q,J.get id=some o->o.own=true->F id=some q->cZ q.bl=w.heap[q.bl]?)
 |[],_=>⟨F.ro,λ_ _ h=>h,@St.refl T _ _ _ _ h,aA⟩
 |id::fz,l=>by
  letI:=T
  obtain⟨cZ,u,p,s⟩:=Y4 h fz (λk z=>l k (xP _ z));by_cases v:∃o q,(kills J fz).get id=some o/\o.own=true/\F id=some q
  ·obtain⟨o,q,A,m,x⟩:=v;have t:=St.freeze p.rel A m (by rw[L9];exact l id aA) (show(⟨F.pl,cZ,F.gh⟩:Env) id=some q from x);refine⟨Gx cZ w q.bl,λb o B=>VT p.rel.jc q.bl b o (u b o B),p.trans t,?_⟩;intro d i n j g a c;show(if j.bl=q.bl then w.heap[q.bl]? else cZ j.bl)=_
   split
   ·next e=>rw[e]
   ·next e=>
    rcases bJ.1 i with rfl|i
    ·rw[x]at c;cases c;exact absurd rfl e
    ·exact s d i n j g a c
  ·refine⟨cZ,u,p.U2 id,?_⟩;intro d i n j g a c;rcases bJ.1 i with rfl|i
   ·by_cases y:d∈fz
    ·exact s d y n j g a c
    ·exact absurd ⟨n,j,by rw[Eb,aj y];exact g,a,c⟩ v
   ·exact s d i n j g a c
section
variable{T:aJ}{tabs:Qt}{G next:Nat}{F:Env}{J:aC}{w:World}{fz:Q2}{r:W7}{ps:Q2}{gs:Q1}{cZ:Qf}
def avy{a:AV}{m:Nat}(h:@MK T.togQ P J a=some (m,none)):@iY T.togQ a=some m:=by
 letI:=T
 unfold MK at h;split at h
 ·next b c=>cases h;exact c
 ·split at h
  ·split at h<;>cases h
  ·split at h
   ·obtain⟨b,_,e⟩:=bn.1 h;cases e
   ·cases h
  ·cases h
def aer(C:wH T P tabs G next F J w fz r ps gs cZ){a:AV}{m:Nat}{v:Value}(h:@Tc T.togQ P J fz a=some m)(s:@VR T F a v):∃g,T.val m=some g/\g.scalar=true/\GR cZ g v:=by
 letI:=T
 unfold Tc at h;split at h
 ·next t b=>
  cases h;obtain⟨g,k,l,u⟩:=lN (avy b) s;exact⟨g,k,l,GR.mono C.uU _ _ u⟩
 ·next t id b=>
  split at h
  ·next x=>
   cases h;have j:∃g,T.val m=some g:=by
    unfold MK at b;split at b
    ·cases b
    ·split at b
     ·next y n=>
      split at b
      ·next z A f i=>
       cases b;rcases C.rel.live _ _ i with⟨q,L,o⟩|⟨_,M,N,O,B,p⟩
       ·obtain⟨R,D,_⟩:=o.MC;exact⟨_,D⟩
       ·cases B;exact⟨_,p⟩
      ·cases b
     ·split at b
      ·next c A V E i=>
       obtain⟨z,d,e⟩:=bn.1 b;cases e;unfold listOf at d;simp only[i]at d;split at d
       ·split at d
        ·split at d
         ·split at d
          ·obtain⟨g,I,_⟩:=gK d;exact⟨g,I⟩
          ·cases d
         ·cases d
        ·cases d
       ·cases d
      ·cases b
     ·cases b
   obtain⟨g,i⟩:=j;obtain⟨k,l⟩:=afW C x s i;exact⟨g,i,k,l⟩
  ·cases h
 ·cases h
def aey(C:wH T P tabs G next F J w fz r ps gs cZ):∀{l:Q3}{d:Q2}{vs:Q6},@OW T.togQ P J fz l=some d->@aG T F l vs->∃b,valsOf T.val d=some b/\b.all GV.scalar=true/\aS cZ b vs
 |[],d,vs,h,c=>by simp only[OW,aY]at h;subst h;simp only[aG]at c;subst c;exact⟨[],rfl,rfl,by simp[aS]⟩
 |a::l,d,vs,h,c=>by
  letI:=T
  simp only[OW]at h;split at h
  ·next m u e i=>
   cases h;simp only[aG]at c;obtain⟨x,j,rfl,k,n⟩:=c;obtain⟨g,o,p,g3⟩:=aer C e k;obtain⟨b,q,s,t⟩:=aey C i n;exact⟨g::b,by simp only[valsOf,o,q],by simp[p,s],by simp only[aS];exact⟨x,j,rfl,g3,t⟩⟩
  ·cases h
def aBP(C:wH T P tabs G next F J w fz r ps gs cZ){a:AV}{m:Nat}{v:Value}(h:@Xa T.togQ P J fz a=some m)(e:@VR T F a v):∃g,T.val m=some g/\GR cZ g v/\(match a with|.agg l=>∃b,g=.g b/\b.length=l.length|_=>g.scalar=true):=by
 letI:=T
 cases a;case agg l=>
  simp only[Xa]at h;split at h
  ·next o i=>
   simp only[VR]at e;obtain⟨p,rfl,c⟩:=e;obtain⟨b,q,s,n⟩:=aey C i c;obtain⟨g,j,d⟩:=gK h;have k:valsOf aJ.val o=some b:=q;simp only[Nd.den,k,s,if_true,aY]at d;subst d;exact⟨_,j,by simp only[GR];exact⟨p,rfl,n⟩,b,rfl,by rw[n.length,c.length]⟩
  ·cases h
 all_goals
  simp only[Xa]at h;obtain⟨g,j,d,g3⟩:=aer C h e;exact⟨g,j,g3,d⟩
def acz(C:wH T P tabs G next F J w fz r ps gs cZ):∀{l:Q3}{c:Q2}{vs:Q6},@valsN T.togQ P J fz l=some c->@aG T F l vs->∃d,valsOf T.val c=some d/\aS cZ d vs
 |[],c,vs,h,b=>by simp only[valsN,aY]at h;subst h;simp only[aG]at b;subst b;exact⟨[],rfl,by simp[aS]⟩
 |a::l,c,vs,h,b=>by
  letI:=T
  simp only[valsN]at h;split at h
  ·next m t e i=>
   cases h;simp only[aG]at b;obtain⟨x,j,rfl,k,n⟩:=b;obtain⟨g,o,p,_⟩:=aBP C e k;obtain⟨d,q,s⟩:=acz C i n;exact⟨g::d,by simp only[valsOf,o,q],by simp only[aS];exact⟨x,j,rfl,p,s⟩⟩
  ·cases h
def aaz{k:Nat}{A:Q2}{B e:Q1}(p:valsOf T.val A=some B)(E:T.I k B=some e){F':Env}:∀{I:WF}{j:Nat}{l:Q3}{D:Q6}{rest:Q1},@Jw T.togQ k A j I=some l->nZ I rest=true->(∀i,rest[i]? =e[j+i]?)->aS F'.ro rest D->@aG T F' l D
 |[],j,l,D,rest,h,d,L,q=>by
  cases rest with
  |cons a b=>simp[nZ]at d
  |nil=>simp only[Jw,aY]at h;subst h;simp only[aS]at q;subst q;simp[aG]
 |s::I,j,l,D,rest,h,d,L,q=>by
  letI:=T
  cases rest with
  |nil=>cases s<;>simp[nZ]at d
  |cons g rest=>
   simp only[Jw]at h;split at h
   ·next a r' t v=>
    cases h;simp only[aS]at q;obtain⟨u,x,rfl,M,X⟩:=q;have Y:=L 0;simp only[kP,nR]at Y;have o:(Nd.call k A j).den aJ.I aJ.val=some g:=by have N:valsOf aJ.val A=some B:=p;have O:aJ.I k B=some e:=E;simp only[Nd.den,N,O];exact Y.symm
    have c:∀i,rest[i]? =e[j+1+i]?:=λi=>by have:=L (i+1);rw[vk]at this;rw[this];congr 1;omega
    cases s with
    |sc=>simp only[nZ,aO]at d;refine⟨u,x,rfl,?_,aaz p E v d.2 c X⟩;obtain⟨_,g',_,y,k3⟩:=mP (F:=F') t;rw[o]at y;cases y;exact k3 u d.1 M
    |ag n=>
     simp only[nZ,aO]at d;refine⟨u,x,rfl,?_,aaz p E v d.2 c X⟩;simp only[VA]at t;split at t
     ·next m hm=>
      obtain⟨l',R,rfl⟩:=bn.1 t;obtain⟨g',k1,y⟩:=gK hm;rw[o]at y;cases y;obtain⟨aa,h5,h6⟩:=Td (F:=F') k1 n 0 R;cases g with
      |g Z=>have z:=bM d.1.2;simp only[GR]at M;obtain⟨vs,rfl,V⟩:=M;simp only[VR];refine⟨vs,rfl,h6 vs ?_⟩;obtain⟨e1,e2,_⟩:=rQ h5;have W:Z.length=n:=z;rw[e1,dD,kQ (by rw[lV];show Z.length<=n;omega)];exact(oP _ _).1 V
      |_=>simp[GV.scalar]at d
     ·cases t
   ·cases h
def akg{T:aJ}{F:Env}{l:Q3}{d:Q6}(h:@aG T F l d):@VR T F (JR l) (CW d):=by
 letI:=T
 have c:=h.length;match l,d,h,c with
 |[a],[u],h,_=>simp only[aG]at h;obtain⟨x,i,e,g,j⟩:=h;cases e;exact g
 |[],[],h,_=>show VR F (.dU []) (.tuple ⟨[]⟩);simp only[VR];exact⟨_,rfl,h⟩
 |a::b::l,u::k::d,h,_=>show VR F (.dU _) (.tuple ⟨_⟩);simp only[VR];exact⟨_,rfl,h⟩
 |[],_::_,_,c=>simp at c
 |[_],[],_,c=>simp at c
 |[_],_::_::_,_,c=>simp at c
 |_::_::_,[],_,c=>simp at c
 |_::_::_,[_],_,c=>simp at c
def ah7{f:FuncId}{k:Nat}{st:W6}{q:WF}(W:∀gs a,T.I k gs=some a->ou P T.tabs f st q gs a):@dK T P f (@VD T.togQ P k st q):=by
 letI:=T
 intro Ot J rr J' c F w X O x;unfold VD at c;split at c
 ·cases c
 next args y=>
 obtain⟨Y,rfl,Z⟩:=WU y x;simp only at c;split at c
 ·next z=>
  have D9:∀id∈DY P J args,J.lock<=id:=λid A=>uh (List.all_eq_true.1 z id A);split at c
  ·next R B=>
   split at c
   ·next a0 l o=>
    cases c;obtain⟨cZ,f1,D,f3⟩:=Y4 O (DY P J args) D9;have C:wH T P T.tabs P.globals.size (P.globals.size+1) F J w (DY P J args) [] [] [] cZ:=⟨O,rfl,f1,f3,rfl,Dp _⟩
    obtain⟨t,V,k2⟩:=acz C B Z;have u:∃a,T.I k t=some a:=by
     have d:∀{m g},fK (.call k R 0)=some m->aJ.val m=some g->∃a,T.I k t=some a:=by
      intro m g e hg;obtain⟨g',_,d2⟩:=gK e;have E:valsOf aJ.val R=some t:=V;simp only[Nd.den,E]at d2;split at d2
      ·next r hr=>exact⟨r,hr⟩
      ·cases d2
     cases q with
     |nil=>simp[Jw]at o
     |cons s q=>
      simp only[Jw]at o;split at o
      ·next a1 r1 b _=>
       cases s with
       |sc=>
        simp only[VA,kL]at b;split at b
        ·next m e=>obtain⟨g,I,_⟩:=gK e;exact d e I
        ·cases b
       |ag n=>
        simp only[VA]at b;split at b
        ·next m e=>obtain⟨g,I,_⟩:=gK e;exact d e I
        ·cases b
      ·cases o
    obtain⟨a,u⟩:=u;obtain⟨h,p⟩:=W t a u;refine lC.mono (h cZ w Y D.rel.VW k2) ?_;rintro v w' ⟨j,L,us,rfl,M⟩
    have N:=St.avj (ro':=j) D.rel L;refine⟨_,D.trans N,akg (aaz V u (F':=⟨F.pl,j,F.gh⟩) o p (λi=>aA) M)⟩
   ·cases c
  ·cases c
 ·cases c
def abI:WF->List AV->Bool
 |[],[]=>true
 |.sc::l,a::m=>(match a with|.agg _=>false|_=>true)&&abI l m
 |.ag n::l,a::m=>(match a with|.agg c=>Nat.beq c.length n|_=>false)&&abI l m
 |_,_=>false
section
variable[gQ]
def H8:Nat->List oC->Option Q3
 |_,[]=>some []
 |j,.sc::l=>match H8 (j+1) l with
  |some r=>some (.nd j::r)
  |none=>none
 |j,.ag n::l=>match Ip j 0 n,H8 (j+1) l with
  |some c,some r=>some (.agg c::r)
  |_,_=>none
end
def X5{F:Env}:∀{p:WF}{j:Nat}{l:Q3}{vs:Q6}{rest:Q1},@H8 T.togQ j p=some l->nZ p rest=true->(∀i g,rest[i]? =some g->T.val (j+i)=some g)->aS F.ro rest vs->@aG T F l vs
 |[],j,l,vs,rest,h,e,q,m=>by
  cases rest with
  |cons a b=>simp[nZ]at e
  |nil=>simp only[H8,aY]at h;subst h;simp only[aS]at m;subst m;simp[aG]
 |s::p,j,l,vs,rest,h,e,q,m=>by
  letI:=T
  cases rest with
  |nil=>cases s<;>simp[nZ]at e
  |cons g rest=>
   simp only[aS]at m;obtain⟨u,y,rfl,t,z⟩:=m;have A:=q 0 g aA;have d:∀i g,rest[i]? =some g->T.val (j+1+i)=some g:=λi g hi=>by have:=q (i+1) g (by simpa using hi);rw[<-this];congr 1;omega
   cases s with
   |sc=>
    simp only[H8]at h;split at h
    ·next D k=>
     cases h;simp only[nZ,aO]at e;exact⟨u,y,rfl,by simp only[VR];exact⟨g,A,e.1,t⟩,X5 k e.2 d z⟩
    ·cases h
   |ag n=>
    simp only[H8]at h;split at h
    ·next c D E k=>
     cases h;simp only[nZ,aO]at e;refine⟨u,y,rfl,?_,X5 k e.2 d z⟩;obtain⟨I,L,M⟩:=Td (F:=F) A n 0 E;cases g with
     |g B=>have o:=bM e.1.2;simp only[GR]at t;obtain⟨vs,rfl,v⟩:=t;simp only[VR];refine⟨vs,rfl,M vs ?_⟩;obtain⟨N,O,_⟩:=rQ L;have x:B.length=n:=o;rw[N,dD,kQ (by rw[lV];show B.length<=n;omega)];exact(oP _ _).1 v
     |_=>simp[GV.scalar]at e
    ·cases h
def Z8(P:Program)(tabs:Qt)(pl:lG)(a:Wt)(fuel:Nat)(st:W6)(j k:WF)(b:Nat)(g:List ResultVar)(m:AC)(c:List Nd)(d:Wg)(o:Leaf):Bool:=
 match o with
 |.ret l=>match @H8 ⟨c,d,0⟩ 0 j with
  |some args=>match @wP ⟨c,d,0⟩ (EM P tabs ⟨c,d,0⟩ a) (JH P ⟨c,d,0⟩ pl fuel) m {t:=zT (xA st args) 0 .nil,n:=max (xA st args).length b,gn:=P.globals.size} ⟨pR (wo tabs),P.globals.size+1,0⟩with
   |some (e,p,h)=>(match e with|.exit _=>false|_=>true)&&match Bd P h p g with
    |some i=>abI k i&&match @valsN ⟨c,d,0⟩ P h (@DY ⟨c,d,0⟩ P h i) i with
     |some q=>yx l q
     |none=>false
    |none=>false
   |none=>false
  |none=>false
 |_=>false
def WR(a:vG tabs P.globals.size)(c:T.tabs=tabs):@zO T ⟨pR (wo tabs),P.globals.size+1,0⟩ P.globals.size:=by refine⟨Nat.lt_succ_self _,λid o d=>?_⟩;have g:=Qh (show(pR (wo tabs)).get id=some o from d);obtain⟨p,b,e⟩:=qK.1 g;cases e;exact⟨p.2,rfl,by rw[c];exact b,a.low p b⟩
def ou.Qi{tabs:Qt}(O:vG tabs P.globals.size)(hm:P.follows .mixedOrders=true)(hn:wI P){pl:lG}{I:iJ}(ai:yL P tabs I pl){y:Wt}{fuel:Nat}{f:FuncId}{fn:Func}{c:Code}{Z:Q2}{st:W6}{xF zx:WF}{t:Tree}
 (hf:P.funcs[f]? =some fn) (hc:fn.body=some c)
 (IV:∀k z,dF k y=some z->z.pre.ok=true/\∀b,(nG Z c).oQ k b->∀gs d,I z.key gs=some d->vw P tabs b z.pre z.posts gs d)
 (Ae:t.chk (Z8 P tabs pl y fuel st xF zx fn.ntmps fn.results.toList (nG Z c)) (List.replicate xF.length .arg) []=true) {gs d:Q1} (D:(aH.fn xF zx t).den I gs=some d):ou P tabs f st zx gs d:=by
 simp only[aH.den]at D;split at D;rotate_left
 ·cases D
 next q=>
 split at D;rotate_left
 ·cases D
 next aE aa=>
 split at D;rotate_left
 ·cases D
 next ak=>
 cases D;have D:=aa;have ab:gs.length=xF.length:=by
  clear D aa Ae;induction xF generalizing gs with
  |nil=>cases gs with|nil=>rfl|cons _ _=>simp[nZ]at q
  |cons s sh ih=>cases gs with
   |nil=>cases s<;>simp[nZ]at q
   |cons g gs=>cases s<;>simp only[nZ,aO]at q<;>simp[ih q.2]
 obtain⟨ns,ds,R,lf,m,h2,⟨aD,h3⟩,h4⟩:=Tree.Lc t Ae (Dv.start I gs _ ab) D;let T:aJ:=Tw tabs I 0 h2
 unfold Z8 at m;split at m
 ·next l=>
  split at m
  ·next args V=>
   split at m
   ·next e a' J' ac=>
    rw[aO]at m;obtain⟨he,m⟩:=m;split at m
    ·next rs al=>
     rw[aO]at m;obtain⟨aL,m⟩:=m;split at m
     ·next l' am=>
      have an:=aan m;subst an;have LW:∀Q:eH->bF->aC->Prop,Q e a' J'->@AT T P c {t:=zT (xA st args) 0 .nil,n:=max (xA st args).length fn.ntmps,gn:=P.globals.size} ⟨pR (wo tabs),P.globals.size+1,0⟩ Q:=by
       intro Q hq;have:=@XW P T (EM P tabs ⟨ns,ds,0⟩ y) (JH P ⟨ns,ds,0⟩ pl fuel) (abL (T:=T) hm hn (ai T rfl rfl) fuel) (nG Z c) (yO Z c 0).2 (λk b hk a J e1 a1 J1 hs Q' ao=>by
        unfold EM at hs;split at hs
        ·next z ap=>
         obtain⟨k1,k2⟩:=IV k z ap;exact ZY (T:=T) rfl O k1 (λgs d hI=>k2 b hk gs d hI) hs ao
        ·cases hs) _ _ _ _ _ ac Q hq
       rwa [show(nG Z c).erase=c from(yO Z c 0).1]at this
      have ad:∀i g,gs[i]? =some g->T.val (0+i)=some g:=by
       intro j g hj;show R[0+j]? =some g
       rw[h3,kX];have:=(fH.1 hj).1;rw[mY this];exact hj
      have aq:∀E w vs,xW tabs E w->aS E gs vs->Calls P f ⟨xB st vs⟩ w λen A=>∃v,en=.returned v/\∃L,Hw E L w A/\∃x,v=CW x/\aS L d x:=by
       intro E w vs B W;letI:=T
       have X:zO (⟨pR (wo tabs),P.globals.size+1,0⟩:aC) P.globals.size:=WR (T:=T) O rfl
       have ar:SR P (vM P.globals.size ⟨pR (wo tabs),P.globals.size+1,0⟩ E) ⟨pR (wo tabs),P.globals.size+1,0⟩ w:=
        KJ X.1 (λid o ho=>by obtain⟨c,rfl,ae,av⟩:=X.2 id o ho;obtain⟨cs,af,fr,k1,k2,k3⟩:=B.tab _ ae;exact⟨av,c,rfl,⟨cs,af,fr,B.at' _ _ k1,k2,k3⟩⟩) B.at' (λp hp=>B.tab p hp)
       have aw:aG (vM P.globals.size ⟨pR (wo tabs),P.globals.size+1,0⟩ E) (xA st args) (xB st vs):=VN (X5 (T:=T) V q ad W);refine calls_of_wp hf hc ?_;refine LW (λe2 a2 J2=>e2=e/\a2=a'/\J2=J') ⟨rfl,rfl,rfl⟩ (.shut w) E (vM P.globals.size ⟨pR (wo tabs),P.globals.size+1,0⟩ E) w _ _ (jX.start ar X.own) rfl (YN aw) ?_;rintro e2 a2 J2 F1 A' A ⟨rfl,rfl,rfl⟩ hF ax ht
       obtain⟨x,r1,r2⟩:=Qx hF.rel ht (fun|.tmp t=>pure (A'.tmps.getD t undef)|.cell a t=>do loadVar t (<-asAddr (A'.tmps.getD a undef))) (λ_=>rfl) (λ_ _=>rfl) _ _ al;obtain⟨cZ,f1,f2,f3⟩:=Ul hF ax (@DY ⟨ns,ds,0⟩ P J2 rs);have C:wH T P tabs P.globals.size (P.globals.size+1) F1 J2 A (@DY ⟨ns,ds,0⟩ P J2 rs) [] [] [] cZ:=⟨hF.rel,rfl,f1,f3,rfl,Dp _⟩
       obtain⟨gl,k1,k2⟩:=acz C am r2;have ay:gl=d:=by have ag:valsOf (λn=>R[n]?) l=some d:=h4;have az:valsOf (λn=>R[n]?) l=some gl:=k1;rw[az]at ag;cases ag;rfl
       subst ay;have M:(results fn A'.tmps).run P A=.ok (if h:(⟨x⟩:QQ).size=1 then(⟨x⟩:QQ)[0]else .tuple ⟨x⟩) A:=by unfold results;rw[Xp];simp only[aU,XJ];exact uH (λr:Result Q6=>(r.andThen λa A=>Result.ok a.toArray A).andThen λa A=>Sem.run P (pure (if h:a.size=1 then a[0]else Value.tuple a)) A) r1
       have ZC:(if h:(⟨x⟩:QQ).size=1 then(⟨x⟩:QQ)[0]else .tuple ⟨x⟩)=CW x:=by
        match x with
        |[]=>rfl
        |[u]=>rfl
        |u::u'::x=>rfl
       rw[ZC]at M
       have N:A'.defers=[]/\∃v,(results fn A'.tmps).run P A=.ok v A/\∃v',Ending.returned v=.returned v'/\(∃L,Hw E L w A/\∃x,v'=CW x/\aS L gl x):=
        ⟨ht.none,_,M,_,rfl,⟨cZ,⟨hF.kept.shut,f2.uU,f2.ai5,f2.rel.jc⟩,x,rfl,k2⟩⟩
       cases e2 with
       |normal=>exact N
       |ret=>exact N
       |exit id=>simp at he
      refine⟨λE w vs B W=>?_,?_⟩
      ·right;refine⟨?_,Calls.mono' (aq E w vs B W) ?_⟩
       ·have Y:=hn f fn c hf hc;simp only[callFunc,aU,program,Sem.run,aT,hf];simp only[Y,ig,if_false,hc,KH,bH]
       ·rintro en A ⟨v,rfl,h5⟩
        exact⟨v,rfl,h5⟩
      ·exact ak
     ·cases m
    ·cases m
   ·cases m
  ·cases m
 ·cases m
end
end
open Go.RowKit
noncomputable section
variable{P:Program}
section
variable[gQ]
end
def aS.plain{ro a:Qf}:∀{l:Q1}{vs:Q6},(∀g∈l,(∃x,g=.s x)\/∃k n,g=.i k n)->aS ro l vs->aS a l vs
 |[],vs,_,h=>h
 |g::l,vs,b,h=>by simp only[aS]at h⊢;obtain⟨x,xs,rfl,h1,c⟩:=h;refine⟨x,xs,rfl,?_,aS.plain (λg d=>b g (by simp[d])) c⟩;rcases b g aA with⟨y,rfl⟩|⟨k,n,rfl⟩<;>exact h1
end
noncomputable section
variable{P:Program}
def gX.args(s:gX):Q3:=s.slots.map (·.2)
def NR(P:Program)(tabs:Qt)(s:gX)(gs:Q1)(w0:Base)(a:Qf)(vs:Q6)(w:World):Prop:=
 ∃F,@jX (Tg tabs gs s.ka) P w0 a F (s.st tabs) w/\@aG (Tg tabs gs s.ka) F s.args vs
def NV(P:Program)(tabs:Qt)(f:FuncId)(st:W6)(c:gX)(b:XX)(gs d:Q1):Prop:=
 ∃(t:Nat)(r a:Q1)(e:eH)(s:gX),d=GV.i .i64 t::r/\b[t]? =some (e,s)/\uI s.al gs r=some a/\a.length=s.np/\
  ∀w0 g w h,NR P tabs c gs w0 g h w->lC P f ⟨xB st h⟩ w λv j=>∃i,v=CW i/\NR P tabs s a w0 g i j
mutual
def AV.ren(U f:Nat->Nat):AV->AV
 |.nd j=>.nd (f j)
 |.rx j off=>.rx (f j) off
 |.sv id j=>.sv (U id) (f j)
 |.p id off=>.p (U id) off
 |.mp id=>.mp (U id)
 |.sl id off len cap=>.sl (U id) off len cap
 |.fn g fi cs=>.fn g (AV.xC U f fi) (AV.xC U f cs)
 |.jh t a=>.jh t (a.ren U f)
 |.agg l=>.agg (AV.xC U f l)
 |.dU l=>.dU (AV.xC U f l)
 |a=>a
def AV.xC(U f:Nat->Nat):Q3->List AV
 |[]=>[]
 |a::l=>a.ren U f::AV.xC U f l
end
mutual
def AV.okS(G:Nat):AV->Bool
 |.sv id _=>Nat.blt G id
 |.sl id _ _ _=>Nat.blt G id
 |.fn _ fi cs=>AV.Au G fi&&AV.Au G cs
 |.jh _ a=>a.okS G
 |.agg l=>AV.Au G l
 |.dU l=>AV.Au G l
 |.nd _|.rx _ _|.p _ _|.mp _|.b _|.i _ _|.s _|.jH|.gy|.yZ|.sZ|.pO=>true
 |_=>false
def AV.Au(G:Nat):Q3->Bool
 |[]=>true
 |a::l=>a.okS G&&AV.Au G l
end
def bG.ren(U f:Nat->Nat):bG->bG
 |.cells c et rw opn=>.cells (AV.xC U f c) et rw opn
 |.vec j et b=>.vec (f j) et b
 |.smap j a sz=>.smap (f j) a sz
 |o=>o
def bG.okS(G:Nat):bG->Bool
 |.cells c _ rw _=>AV.Au G c&&rw
 |.vec _ _ _=>true
 |.smap _ _ _=>true
 |_=>false
def abE(U f:Nat->Nat):∀l:Q3,AV.xC U f l=l.map (AV.ren U f)
 |[]=>rfl
 |a::l=>by simp[AV.xC,abE U f l]
structure Og(S T:aJ)(G:Nat)(U f:Nat->Nat)(F F':Env):Prop where
 val:∀j g,S.val j=some g->T.val (f j)=some g
 pl:∀i q,G<i->F i=some q->F' (U i)=some q
 gl:∀i q,i<=G->F i=some q->∃q',F' (U i)=some q'/\q'.bl=q.bl/\q'.ba=q.ba
 gh:∀i,G<i->F.gh i=true->F'.gh (U i)=true
 ro:∀b o,F.ro b=some o->F'.ro b=some o
section
variable{S T:aJ}{G:Nat}{U f:Nat->Nat}{F F':Env}
mutual
def VR.ren(h:Og S T G U f F F'):∀(a:AV)(v:Value),a.okS G=true->@VR S F a v->@VR T F' (a.ren U f) v
 |.b _,_,_,b=>by simpa only[VR,AV.ren]using b
 |.i _ _,_,_,b=>by simpa only[VR,AV.ren]using b
 |.s _,_,_,b=>by simpa only[VR,AV.ren]using b
 |.jH,_,_,b=>by simpa only[VR,AV.ren]using b
 |.p i off,v,_,b=>by
  simp only[VR,AV.ren]at b⊢;obtain⟨q,m,rfl⟩:=b;by_cases hi:i<=G
  ·obtain⟨p,d,k,n⟩:=h.gl i q hi m;exact⟨p,d,by rw[k,n]⟩
  ·exact⟨q,h.pl i q ah m,rfl⟩
 |.gy,_,_,b=>by simpa only[VR,AV.ren]using b
 |.sl i off len z,v,c,b=>by simp only[AV.okS,jv]at c;simp only[VR,AV.ren]at b⊢;obtain⟨q,m,d,rfl⟩:=b;exact⟨q,h.pl i q c m,d,rfl⟩
 |.pO,_,_,b=>by simpa only[VR,AV.ren]using b
 |.mp i,v,_,b=>by
  simp only[VR,AV.ren]at b⊢;obtain⟨q,m,rfl⟩:=b;by_cases hi:i<=G
  ·obtain⟨p,d,k,n⟩:=h.gl i q hi m;exact⟨p,d,by rw[k]⟩
  ·exact⟨q,h.pl i q ah m,rfl⟩
 |.yZ,_,_,b=>by simpa only[VR,AV.ren]using b
 |.fn _ A s,_,c,b=>by simp only[AV.okS,aO]at c;simp only[VR,AV.ren]at b⊢;obtain⟨t,u,e,d,k⟩:=b;exact⟨t,u,e,aG.ren h A t c.1 d,aG.ren h s u c.2 k⟩
 |.sZ,_,_,b=>by simpa only[VR,AV.ren]using b
 |.jh _ a,_,c,b=>by simp only[AV.okS]at c;simp only[VR,AV.ren]at b⊢;obtain⟨x,e,d⟩:=b;exact⟨x,e,VR.ren h a x c d⟩
 |.agg l,_,c,b=>by simp only[AV.okS]at c;simp only[VR,AV.ren]at b⊢;obtain⟨x,e,d⟩:=b;exact⟨x,e,aG.ren h l x c d⟩
 |.dU l,_,c,b=>by simp only[AV.okS]at c;simp only[VR,AV.ren]at b⊢;obtain⟨x,e,d⟩:=b;exact⟨x,e,aG.ren h l x c d⟩
 |.z _ _ _,_,c,_=>by simp[AV.okS]at c
 |.ro _,_,c,_=>by simp[AV.okS]at c
 |.rp _ _,_,c,_=>by simp[AV.okS]at c
 |.nd _,_,_,b=>by simp only[VR,AV.ren]at b⊢;obtain⟨g,d,k,n⟩:=b;exact⟨g,h.val _ _ d,k,GR.mono h.ro _ _ n⟩
 |.rx _ _,_,_,b=>by simp only[VR,AV.ren]at b⊢;obtain⟨g,B,base,s,o,D,x,d,k,n,E⟩:=b;exact⟨g,B,base,s,o,D,x,h.val _ _ d,h.ro _ _ k,GR.mono h.ro _ _ n,E⟩
 |.sv i j,_,c,b=>by
  simp only[AV.okS,jv]at c;simp only[VR,AV.ren]at b⊢;obtain⟨y,d,⟨q,m,k⟩|⟨I,k⟩⟩:=b
  ·exact⟨y,h.val _ _ d,.inl ⟨q,h.pl i q c m,k⟩⟩
  ·exact⟨y,h.val _ _ d,.inr ⟨h.gh i c I,k⟩⟩
 |.pv _ _ _,_,c,_=>by simp[AV.okS]at c
 |.pd _ _,_,c,_=>by simp[AV.okS]at c
def aG.ren(h:Og S T G U f F F'):∀(l:Q3)(vs:Q6),AV.Au G l=true->@aG S F l vs->@aG T F' (AV.xC U f l) vs
 |[],_,_,b=>by simpa only[aG,AV.xC]using b
 |a::l,_,c,b=>by simp only[AV.Au,aO]at c;simp only[aG,AV.xC]at b⊢;obtain⟨x,xs,e,h1,d⟩:=b;exact⟨x,xs,e,VR.ren h a x c.1 h1,aG.ren h l xs c.2 d⟩
end
def OR.ren(h:Og S T G U f F F'){q:Place}{w:World}{o:bG}(i:o.okS G=true)(r:@OR S P F q w o):@OR T P F' q w (o.ren U f):=by
 cases o with
 |cells c v W y=>
  simp only[bG.okS,aO]at i;obtain⟨n,d,p,X,⟨r1,r2,r3,O,z,A,B⟩⟩:=r;have R:(AV.xC U f c).length=c.length:=by rw[abE];simp
  have D:∀a∈c,a.okS G=true:=by
   have:∀l:Q3,AV.Au G l=true->∀a∈l,a.okS G=true:=by
    intro l;induction l with
    |nil=>intro _ a t;simp at t
    |cons b l Y=>
     intro h a t;simp only[AV.Au,aO]at h;rcases bJ.1 t with rfl|t
     ·exact h.1
     ·exact Y h.2 a t
   exact this c i.1
  refine⟨n,d,p,X,@rV.mk T P F' q _ v W y n d p r1 (by rw[R];exact r2) (λe=>by rw[R];exact r3 e) (λk a u=>?_) z A B⟩;rw[abE,jf]at u;obtain⟨E,V,rfl⟩:=bn.1 u;obtain⟨x,Z,hv⟩:=O k E V;exact⟨x,Z,VR.ren h E x (D E (rX V)) hv⟩
 |iter s pos=>simp[bG.okS]at i
 |map es=>simp[bG.okS]at i
 |pmap es=>simp[bG.okS]at i
 |iterM m=>simp[bG.okS]at i
 |smap j kk sz=>obtain⟨I,ms,g,L,M,N⟩:=r;exact⟨I,ms,g,h.val _ _ L,M,N.mono h.ro⟩
 |vec j v b=>obtain⟨I,n,d,p,ys,L,M,N,k4,k5,k6,⟨r1,r2,r3,O,z,A,B⟩,k8⟩:=r;exact⟨I,n,d,p,ys,h.val _ _ L,M,aS.mono h.ro _ _ N,k4,k5,k6,@rV.mk T P F' q [] v true true n d p r1 r2 r3 (λk a u=>by simp at u) z A B,k8⟩
def Live.ren(h:Og S T G U f F F'){w:World}{i:Nat}{o:bG}(hi:G<i)(a:o.okS G=true)(r:@Live S P F w i o):@Live T P F' w (U i) (o.ren U f):=by
 rcases r with⟨q,c,d⟩|⟨e,n,g,b,rfl,j⟩
 ·exact .inl ⟨q,h.pl i q hi c,OR.ren h a d⟩
 ·exact .inr ⟨h.gh i hi e,f n,g,b,rfl,h.val _ _ j⟩
end
def bG.aaw{G:Nat}{o:bG}(h:o.okS G=true):o.own=true:=by
 cases o<;>simp only[bG.okS,aO,ig]at h<;>simp[bG.own]
 exact h.2
def rhoC(G ka next:Nat)(r:W7)(i:Nat):Nat:=if i<=G then i else if i<=G+ka then(match dF i r with|some (some id)=>id|_=>0)else next+(i-(G+ka+1))
def MX(U f:Nat->Nat):Ys->Tr bG->Tr bG
 |[],h=>h
 |p::l,h=>(MX U f l h).set (U p.1) (some (p.2.ren U f))
def pI:W7->List Nat
 |[]=>[]
 |p::l=>match p.2 with
  |some id=>id::pI l
  |none=>pI l
def TM{α:Type}:List (Nat×α)->Bool
 |[]=>true
 |p::l=>(match dF p.1 l with|none=>true|some _=>false)&&TM l
def Dy(r:W7)(J:aC):Nat->Nat->Bool
 |_,0=>true
 |i,n+1=>(match dF (i+1) r with
  |some (some id)=>(match J.get id with|some (.cells _ _ _ _)=>true|_=>false)
  |_=>false)&&Dy r J (i+1) n
def abq(s:gX):Bool:=Nat.blt (s.gn+s.ka) s.next&&AV.Au s.gn s.args&&TM s.objs&&s.objs.all λp=>Nat.blt s.gn p.1&&Nat.blt p.1 s.next&&p.2.okS s.gn
section
variable[gQ]
def aqQ(P:Program)(s:gX)(l:Q3)(J:aC):US:=WX P s.gn J s.objs (GY P s.gn J s.args l ⟨[],[],[]⟩)
def aqR(P:Program)(s:gX)(l:Q3)(J:aC):US:=WX P s.gn J s.objs (GY P s.gn J s.args l ⟨XY s.gn s.ka,[],[]⟩)
def Vg(P:Program)(s:gX)(l:Q3)(J:aC)(fz:Q2)(r:W7)(ps:Q2):Bool:=
 Nat.beq s.gn P.globals.size&&Nat.blt (s.gn+s.ka) s.next&&JF r&&BX P s.gn J fz r ps s.args l&&Me P s.gn s.next J fz r ps s.objs
def aaC(P:Program)(st:W6)(a:aN):dM:=λc J=>match CV st c with
 |none=>none
 |some args=>match aqQ P a.pre args J with
  |⟨r,p,fz⟩=>match abu p 0 a.pre.np with
   |none=>none
   |some ps=>
    if Vg P a.pre args J fz r ps&&(fz.all (Nat.ble J.lock ·)&&((pI r).all (λid=>Nat.ble J.lock id&&!(fz.contains id))&&Dy r J a.pre.gn a.pre.ka))then
     match fK (.call a.key ps 0)with
     |some tag=>match JC tag a.posts 0 with
      |some (_,s)=>if abq s&&(Nat.beq s.ka a.pre.ka&&Nat.beq s.gn a.pre.gn)then match Cj a.key ps s.al 1 s.np with
       |some b=>some (JR (AV.xC (rhoC s.gn s.ka J.next r) (λj=>b.getD j 0) s.args),⟨MX (rhoC s.gn s.ka J.next r) (λj=>b.getD j 0) s.objs (kills (kills J fz) (pI r)).h,J.next+(s.next-(s.gn+s.ka+1)),J.lock⟩)
       |none=>none
       else none
      |none=>none
     |none=>none
    else none
end
def afm{α:Type}:∀{l:List (Nat×α)},TM l=true->∀{k:Nat}{v:α},(k,v)∈l->dF k l=some v
 |[],_,k,v,h=>by simp at h
 |p::l,a,k,v,h=>by
  simp only[TM,aO]at a;rcases bJ.1 h with e|h
  ·subst e;simp[dF]
  ·have h1:=afm a.2 h;simp only[dF];cases c:Nat.beq k p.1 with
   |true=>have e:=bM c;have b:=a.1;rw[<-e,h1]at b;cases b
   |false=>exact h1
def af6{α:Type}:∀{l m:List (Nat×α)}{k:Nat}{v:α},dF k l=some v->dF k (l++m)=some v
 |[],m,k,v,h=>by simp[dF]at h
 |p::l,m,k,v,h=>by
  simp only[bI,dF]at h⊢;cases a:Nat.beq k p.1 with
  |true=>rw[a]at h;exact h
  |false=>rw[a]at h;exact af6 h
def aiP{U f:Nat->Nat}:∀{l:Ys}{h:Tr bG}{k:Nat}{o:bG},(MX U f l h).get k=some o->(∃i o0,(i,o0)∈l/\U i=k/\o=o0.ren U f)\/(h.get k=some o/\∀p∈l,U p.1≠k)
 |[],h,k,o,a=>.inr ⟨a,λp b=>by simp at b⟩
 |q::l,h,k,o,a=>by
  simp only[MX,Tr.uN]at a;split at a
  ·next e=>cases a;exact .inl ⟨q.1,q.2,aA,e.symm,rfl⟩
  ·next e=>
   rcases aiP a with⟨i,o0,h1,c,d⟩|⟨h1,c⟩
   ·exact .inl ⟨i,o0,xP _ h1,c,d⟩
   ·refine .inr ⟨h1,λp b=>?_⟩;rcases bJ.1 b with rfl|b
    ·exact λg=>e g.symm
    ·exact c p b
def agE{r:W7}:∀{i id:Nat},dF i r=some (some id)->id∈pI r:=by
 induction r with
 |nil=>intro i id h;simp[dF]at h
 |cons p l b=>
  intro i id h;simp only[dF]at h;cases a:Nat.beq i p.1 with
  |true=>rw[a]at h;simp only[cond_true,aY]at h;simp only[pI,h];simp
  |false=>
   rw[a]at h;have:=b h;simp only[pI];split
   ·exact xP _ this
   ·exact this
def XZ{r:W7}{J:aC}:∀{n i:Nat},Dy r J i n=true->∀j,i<j->j<=i+n->∃id c et rw opn,dF j r=some (some id)/\J.get id=some (.cells c et rw opn)
 |0,i,_,j,h1,d=>ah
 |n+1,i,h,j,h1,d=>by
  simp only[Dy,aO]at h;by_cases e:j=i+1
  ·subst e;have a:=h.1;split at a
   ·next id b=>
    split at a
    ·next c et rw opn g=>exact⟨id,c,et,rw,opn,b,g⟩
    ·cases a
   ·cases a
  ·exact XZ h.2 j ah ah
def St.avl{T:aJ}{tabs:Qt}(uO:T.tabs=tabs){G ka:Nat}(hG:G=P.globals.size){F v:Env}{J:aC}{w w':World}(h:@SR T P F J w){r:W7}(ad:JF r=true)(aa:∀id∈pI r,J.lock<=id)(Zf:Dy r J G ka=true)
 {s:gX} (hs:abq s=true) (ak:s.ka=ka) (al:s.gn=G) {gs:Q1} {f:Nat->Nat} (hf:∀j g,gs[j]? =some g->T.val (f j)=some g)
 (hF:@jX (Tg tabs gs s.ka) P ⟨w,λb=>∃id o q,id∈pI r/\J.get id=some o/\o.own=true/\F id=some q/\q.bl=b,λi=>if G<i/\i<=G+ka then(match dF i r with|some (some id)=>F id|_=>none)else none⟩ F.ro v (s.st tabs) w')
 {vs:Q6} (hv:@aG (Tg tabs gs s.ka) v s.args vs):
 ∃F',@St T P F J w F' ⟨MX (rhoC s.gn s.ka J.next r) f s.objs (kills J (pI r)).h,J.next+(s.next-(s.gn+s.ka+1)),J.lock⟩ w'/\@aG T F' (AV.xC (rhoC s.gn s.ka J.next r) f s.args) vs:=by
 obtain⟨⟨am,ae,an,ab,ao,ap,aq,ar⟩,Ny,av,aw,af,ax⟩:=hF;letI:=T
 subst ak;subst al;unfold abq at hs;simp only[aO,jv]at hs;obtain⟨⟨⟨p1,p2⟩,p3⟩,p4⟩:=hs;have Jz:∀i o,(i,o)∈s.objs->s.gn<i/\i<s.next/\o.okS s.gn=true:=by intro i o I;have:=List.all_eq_true.1 p4 _ I;simp only[aO,jv]at this;exact⟨this.1.1,this.1.2,this.2⟩
 have QG:∀i o,(i,o)∈s.objs->(s.st tabs).get i=some o:=by
  intro i o I;show(pR (s.objs++wo tabs)).get i=some o
  rw[Ju];exact af6 (afm p3 I)
 let B:Nat:=s.gn+s.ka+1
 let F':Env:=⟨λid=>if id<J.next then F id else v (id-J.next+B),v.ro,λid=>if id<J.next then F.gh id else v.gh (id-J.next+B)⟩
 have Zx:∀b o,F.ro b=some o->v.ro b=some o:=aw;have z:F.le F':=by
  refine⟨λid q a=>?_,Zx,λid m=>?_⟩
  ·show(if id<J.next then F id else _)=some q
   rw[au (h.dom id q a)];exact a
  ·show(if id<J.next then F.gh id else _)=true
   rw[au (h.jU id m).2];exact m
 have rE:∀i,s.gn<i->i<=s.gn+s.ka->∃id q,dF i r=some (some id)/\F id=some q/\v i=some q/\id<J.next/\(∃o,J.get id=some o):=by intro i d t;obtain⟨id,c,et,uY,bd,D,g2⟩:=XZ Zf i d t;obtain⟨q,a,_⟩:=h.obj _ _ g2 rfl;have:=(ax i q (by show(if s.gn<i/\i<=s.gn+s.ka then _ else _)=_;rw[au ⟨d,t⟩,D];exact a)).1;exact⟨id,q,D,a,this,h.dom id q a,_,g2⟩
 have Nc:∀i id,s.gn<i->i<=s.gn+s.ka->dF i r=some (some id)->rhoC s.gn s.ka J.next r i=id:=by intro i id d t h3;unfold rhoC;rw[aj ah,au t,h3]
 have JG:∀i,s.gn+s.ka<i->rhoC s.gn s.ka J.next r i=J.next+(i-B):=by intro i d;unfold rhoC;rw[aj ah,aj ah]
 have JD:∀i,s.gn+s.ka<i->F' (J.next+(i-B))=v i/\F'.gh (J.next+(i-B))=v.gh i:=by
  intro i d;have e:J.next+(i-B)-J.next+B=i:=by show J.next+(i-(s.gn+s.ka+1))-J.next+(s.gn+s.ka+1)=i;omega
  constructor
  ·show(if J.next+(i-B)<J.next then _ else v (J.next+(i-B)-J.next+B))=_
   rw[aj ah,e]
  ·show(if J.next+(i-B)<J.next then _ else v.gh (J.next+(i-B)-J.next+B))=_
   rw[aj ah,e]
 have ag:Og (Tg tabs gs s.ka) T s.gn (rhoC s.gn s.ka J.next r) f v F':=by
  refine⟨hf,λi q hi a=>?_,λi q hi a=>?_,λi hi m=>?_,λ_ _ h=>h⟩
  ·by_cases W:i<=s.gn+s.ka
   ·obtain⟨id,O,D,g2,g3,g4,_⟩:=rE i hi W;rw[Nc i id hi W D];rw[a]at g3;cases g3;exact z.pl _ _ g2
   ·rw[JG i ah,(JD i ah).1];exact a
  ·obtain⟨sz,es,e1⟩:=am i ah;rw[a]at e1;cases e1;obtain⟨ay,az,e2⟩:=h.mJ i ah;refine⟨⟨i,0,ay,az⟩,?_,rfl,rfl⟩;show F' (rhoC s.gn s.ka J.next r i)=_
   unfold rhoC;rw[au hi];exact z.pl _ _ e2
  ·by_cases W:i<=s.gn+s.ka
   ·obtain⟨id,O,D,g2,g3,_⟩:=rE i hi W;rw[(ab i m).1]at g3;cases g3
   ·rw[JG i ah,(JD i ah).2];exact m
 have aD:∀id o,(kills J (pI r)).get id=some o->id∉pI r/\J.get id=some o:=by
  intro id o m;rw[Eb]at m;split at m
  ·cases m
  ·next I=>exact⟨I,m⟩
 have Vu:∀id o q,id∉pI r->J.get id=some o->F id=some q->∀dP o0 Y,dP∈pI r->J.get dP=some o0->o0.own=true->F dP=some Y->Y.bl≠q.bl:=by intro id o q I m a dP o0 Y aE aL aM aR;exact h.sep dP o0 id o Y q aL aM m (λe=>I (e▸aE)) aR a
 have a0:∀id o q,id∉pI r->J.get id=some o->F id=some q->q.bl<w.heap.size->w'.heap[q.bl]? =w.heap[q.bl]?:=by
  intro id o q I m a E;refine Ny.keep q.bl E ?_;rintro⟨dP,o0,Y,A,M,R,V,a5⟩
  exact Vu id o q I m a dP o0 Y A M R V a5
 have obj:∀k o,(MX (rhoC s.gn s.ka J.next r) f s.objs (kills J (pI r)).h).get k=some o->(∃i o0,(i,o0)∈s.objs/\rhoC s.gn s.ka J.next r i=k/\o=o0.ren (rhoC s.gn s.ka J.next r) f)\/(k∉pI r/\J.get k=some o/\∀p∈s.objs,rhoC s.gn s.ka J.next r p.1≠k):=by
  intro k o W;rcases aiP W with d|⟨d,t⟩
  ·exact .inl d
  ·obtain⟨h3,h4⟩:=aD k o d;exact .inr ⟨h3,h4,t⟩
 have MQ:∀k o q,J.get k=some o->F' k=some q->F k=some q:=by intro k o q m a;have E:k<J.next:=h.hasLt (h.Px m);have u:(if k<J.next then F k else _)=some q:=a;rw[au E]at u;exact u
 have l:∀i o q,(i,o)∈s.objs->F' (rhoC s.gn s.ka J.next r i)=some q->v i=some q:=by
  intro i o q I a;obtain⟨D,g2,g3⟩:=Jz i o I;by_cases W:i<=s.gn+s.ka
  ·obtain⟨id,O,A,M,R,V,_⟩:=rE i D W;rw[Nc i id D W A]at a;have:=z.pl _ _ M;rw[a]at this;cases this;exact R
  ·rw[JG i ah,(JD i ah).1]at a;exact a
 have be:∀i j oi oj,(i,oi)∈s.objs->(j,oj)∈s.objs->rhoC s.gn s.ka J.next r i=rhoC s.gn s.ka J.next r j->i=j:=by
  intro i j oi oj hi hj e;obtain⟨D,g2,_⟩:=Jz i oi hi;obtain⟨X,k2,_⟩:=Jz j oj hj;by_cases n:i<=s.gn+s.ka<;>by_cases L:j<=s.gn+s.ka
  ·obtain⟨id,_,A,_,_,_,_⟩:=rE i D n;obtain⟨a7,_,N,_,_,_,_⟩:=rE j X L;rw[Nc i id D n A,Nc j a7 X L N]at e;subst e;exact abA ad i j id A N
  ·obtain⟨id,_,A,_,_,V,_⟩:=rE i D n;rw[Nc i id D n A,JG j ah]at e;omega
  ·obtain⟨id,_,A,_,_,V,_⟩:=rE j X L;rw[Nc j id X L A,JG i ah]at e;omega
  ·rw[JG i ah,JG j ah]at e;have hB:B=s.gn+s.ka+1:=rfl;omega
 have ac:∀i o q,(i,o)∈s.objs->v i=some q->w.heap.size<=q.bl\/∃id o0 Y,id∈pI r/\J.get id=some o0/\o0.own=true/\F id=some Y/\Y.bl=q.bl:=by intro i o q I a;exact av i o q (QG i o I) (bG.aaw (Jz i o I).2.2) a
 have E:∀k o q,J.get k=some o->F k=some q->q.bl<w.heap.size:=λk o q m a=>(h.at m a).lt;refine⟨F',⟨z,⟨?_,?_,?_,?_,?_,ap,?_,?_⟩,Ny.size,?_,?_,Ny.os,Ny.tape,Ny.output,rfl,Nat.le_add_right _ _,?_,?_⟩,aG.ren ag _ _ p2 hv⟩
 ·intro g m;obtain⟨sz,es,e⟩:=h.mJ g m;exact⟨sz,es,z.pl _ _ e⟩
 ·intro id q a;show id<J.next+(s.next-(s.gn+s.ka+1))
  by_cases Z:id<J.next
  ·omega
  ·have u:(if id<J.next then F id else v (id-J.next+B))=some q:=a;rw[aj Z]at u;have:=ae _ _ u;have:id-J.next+(s.gn+s.ka+1)<s.next:=this;omega
 ·intro k o W;rcases obj k o W with⟨i,o0,d,rfl,rfl⟩|⟨d,t,_⟩
  ·obtain⟨D,g2,g3⟩:=Jz i o0 d;exact Live.ren ag D g3 (an i o0 (QG i o0 d))
  ·refine((h.live k o t).heap λq a a8=>?_).mono z
   exact a0 k o q d t a a8.lt
 ·intro id m;have y:(if id<J.next then F.gh id else v.gh (id-J.next+B))=true:=m;show(if id<J.next then F id else v (id-J.next+B))=none/\id<J.next+(s.next-(s.gn+s.ka+1))
  by_cases Z:id<J.next
  ·rw[au Z]at y⊢;exact⟨(h.jU id y).1,ah⟩
  ·rw[aj Z]at y⊢;obtain⟨A,M⟩:=ab _ y;have bh:id-J.next+(s.gn+s.ka+1)<s.next:=M;exact⟨A,ah⟩
 ·intro k o k' o' q O A M R V a5 a6;rcases obj k o A with⟨i,o0,d,rfl,rfl⟩|⟨d,t,_⟩<;>rcases obj k' o' R with⟨j,Qg,X,rfl,rfl⟩|⟨X,k2,_⟩
  ·have N:=l i o0 q d a5;have b2:=l j Qg O X a6;exact ao i o0 j Qg q O (QG i o0 d) (bG.aaw (Jz i o0 d).2.2) (QG j Qg X) (λe=>V (by rw[e])) N b2
  ·have N:=l i o0 q d a5;have b2:=MQ k' o' O k2 a6;rcases ac i o0 q d N with n|⟨id,o1,q1,n,L,c3,c4,c5⟩
   ·have:=E k' o' O k2 b2;omega
   ·rw[<-c5];exact Vu k' o' O X k2 b2 id o1 q1 n L c3 c4
  ·have N:=MQ k o q t a5;have b2:=l j Qg O X a6;rcases ac j Qg O X b2 with n|⟨id,o1,q1,n,L,c3,c4,c5⟩
   ·have:=E k o q t N;omega
   ·rw[<-c5];exact λe=>Vu k o q d t N id o1 q1 n L c3 c4 e.symm
  ·exact h.sep k o k' o' q O t M k2 V (MQ k o q t a5) (MQ k' o' O k2 a6)
 ·intro k o q A M R;rcases obj k o A with⟨i,o0,d,rfl,rfl⟩|⟨d,t,_⟩
  ·exact aq i o0 q (QG i o0 d) (bG.aaw (Jz i o0 d).2.2) (l i o0 q d R)
  ·have N:=MQ k o q t R;show v.ro q.bl=none
   cases a9:v.ro q.bl with
   |none=>rfl
   |some x=>
    rcases af q.bl (by rw[a9];simp)with n|n|⟨id,o1,q1,n,L,c3,c4,c5⟩
    ·exact absurd (h.lq k o q t M N) n
    ·have:=E k o q t N;have bi:w.heap.size<=q.bl:=n;omega
    ·exact absurd c5 (Vu k o q d t N id o1 q1 n L c3 c4)
 ·intro p hp;have ba:p∈tabs:=by rw[<-uO];exact hp
  obtain⟨cs,ai,fr,e1,e2⟩:=ar p ba;exact⟨cs,ai,fr,e1,e2⟩
 ·intro bl bb bc;refine Ny.keep bl bb ?_;rintro⟨id,o,q,A,M,R,V,a5⟩
  exact bc id o q M R (aa id A) V a5
 ·intro k o q A M R V;rcases obj k o A with⟨i,o0,d,rfl,rfl⟩|⟨d,t,_⟩
  ·rcases ac i o0 q d (l i o0 q d V)with n|⟨id,o1,q1,n,L,c3,c4,c5⟩
   ·exact .inl n
   ·exact .inr ⟨id,o1,q1,L,c3,aa id n,c4,c5⟩
  ·exact .inr ⟨k,o,q,t,M,R,MQ k o q t V,rfl⟩
 ·intro id hh;by_cases Z:id<J.next
  ·left;rcases hh with⟨q,a⟩|m
   ·have u:(if id<J.next then F id else _)=some q:=a;rw[au Z]at u;exact .inl ⟨q,u⟩
   ·have y:(if id<J.next then F.gh id else _)=true:=m;rw[au Z]at y;exact .inr y
  ·right;refine⟨ah,?_⟩;show id<J.next+(s.next-(s.gn+s.ka+1))
   rcases hh with⟨q,a⟩|m
   ·have u:(if id<J.next then F id else v (id-J.next+B))=some q:=a;rw[aj Z]at u;have:id-J.next+(s.gn+s.ka+1)<s.next:=ae _ _ u;omega
   ·have y:(if id<J.next then F.gh id else v.gh (id-J.next+B))=true:=m;rw[aj Z]at y;have:id-J.next+(s.gn+s.ka+1)<s.next:=(ab _ y).2;omega
 ·intro b hb;rcases af b hb with n|n|⟨id,o1,q1,n,L,c3,c4,c5⟩
  ·exact .inl n
  ·exact .inr (.inl n)
  ·exact .inr (.inr ⟨id,o1,q1,L,c3,aa id n,c4,c5⟩)
def avD{T:aJ}(M:vG T.tabs P.globals.size){f:FuncId}{st:W6}{d:aN}(D:d.pre.ok=true)(hC:∀gs A,T.I d.key gs=some A->NV P T.tabs f st d.pre d.posts gs A):@dK T P f (@aaC T.togQ P st d):=by
 letI:=T
 intro Ot J rr J' m F w az hS ae;unfold aaC at m;split at m
 ·cases m
 next args af=>
 obtain⟨vs,rfl,hv⟩:=WU af ae;split at m;next r p fz ay=>
 split at m
 ·cases m
 next ps aD=>
 split at m;rotate_left
 ·cases m
 next z=>
 split at m;rotate_left
 ·cases m
 next tag N=>
 split at m;rotate_left
 ·cases m
 next e s E=>
 split at m;rotate_left
 ·cases m
 next x=>
 split at m;rotate_left
 ·cases m
 next ns ag=>
 cases m;rw[aO,aO,aO]at z;obtain⟨z,ai,O,R⟩:=z;unfold Vg at z;simp only[aO,jv]at z;obtain⟨⟨⟨⟨V,m2⟩,m3⟩,m4⟩,m5⟩:=z;have V:=bM V;rw[aO,aO]at x;obtain⟨q1,q2,q3⟩:=x;have q2:=bM q2;have q3:=bM q3;unfold gX.ok at D;rw[aO,aO]at D;obtain⟨⟨_,I⟩,IQ⟩:=D;have I:AV.pW d.pre.next d.pre.args=true:=by
  have:∀l:Wm,Fp d.pre.next l=true->AV.pW d.pre.next (l.map (·.2))=true:=by
   intro l;induction l with
   |nil=>intro _;rfl
   |cons a l ih=>intro h;simp only[Fp,aO]at h;simp only[iC,AV.pW,aO];exact⟨h.1,ih h.2⟩
  exact this _ I
 have ak:∀id∈fz,J.lock<=id:=λid u=>uh (List.all_eq_true.1 ai id u);have W:∀id∈pI r,J.lock<=id:=λid u=>by have:=List.all_eq_true.1 O id u;rw[aO]at this;exact uh this.1
 have al:∀id∈pI r,id∉fz:=λid u z=>by have:=List.all_eq_true.1 O id u;rw[aO,ac6.2 z]at this;simp at this
 obtain⟨cZ,f1,f2,f3⟩:=Y4 hS fz ak;obtain⟨gt,t1,L⟩:=gK N;simp only[Nd.den]at L;split at L;rotate_left
 ·cases L
 next gs X=>
 split at L;rotate_left
 ·cases L
 next A hI=>
 obtain⟨t,r0,Y,e2,s2,rfl,am,an,aE,Z⟩:=hC gs A hI;simp only[kP,aY]at L;subst L;have ao:=aaN t1 d.posts 0 E (rZ _) (e2,s2) (by simpa using am);cases ao;obtain⟨n1,n2⟩:=Ql X hI _ 1 s.al (r:=r0) (λk=>by rw[KC,vk]) an ag;have aa:∀j g,Y[j]? =some g->T.val (ns.getD j 0)=some g:=by
  intro j g hj;have ap:j<ns.length:=by have:=(fH.1 hj).1;omega
  have z:ns[j]? =some (ns.getD j 0):=by rw[yK,bT ap];rfl
  rw[n2 j _ z];exact hj
 have C:wH T P T.tabs d.pre.gn d.pre.next F J w fz r ps gs cZ:=⟨hS,X,f1,f3,V,ah⟩
 obtain⟨hR,ab⟩:=aaj (ka:=d.pre.ka) rfl M IQ ah V C f2.rel.jc (λid o q b2 b3 b4 b5=>f2.rel.lq id o q (by rw[Eb,aj b2];exact b3) b4 b5) m3 m5;let J1:aC:=kills J fz
 let F1:Env:=⟨F.pl,cZ,F.gh⟩
 let w0:Base:=⟨w,λb=>∃id o q,id∈pI r/\J1.get id=some o/\o.own=true/\F1 id=some q/\q.bl=b,λi=>if d.pre.gn<i/\i<=d.pre.gn+d.pre.ka then(match dF i r with|some (some id)=>F1 id|_=>none)else none⟩
 have hF:@jX (Tg T.tabs gs d.pre.ka) P w0 cZ (sU T.tabs d.pre.gn d.pre.next r F cZ) (d.pre.st T.tabs) w:=by
  refine @jX.mk (Tg T.tabs gs d.pre.ka) P w0 cZ _ _ w hR ⟨rfl,rfl,rfl,cO _,λ_ _ _=>rfl⟩ ?_ (λ_ _ h=>h) (λ_ h=>.inl h) ?_
  ·intro i o q a1 a2 a3;obtain⟨id,o',b1,b2,b3,b4,b5⟩:=ab i o q a1 a2 a3;exact .inr ⟨id,o',q,agE b1,by show(kills J fz).get id=_;rw[Eb,aj b2];exact b3,b4,b5,rfl⟩
  ·intro i q hi;have y:(if d.pre.gn<i/\i<=d.pre.gn+d.pre.ka then(match dF i r with|some (some id)=>F1 id|_=>none)else none)=some q:=hi;split at y
   ·next hr=>
    split at y
    ·next id u=>
     refine⟨?_,ah,by show i<=P.globals.size+d.pre.ka;omega⟩;rw[Gj hr.1 ah u];exact y
    ·cases y
   ·cases y
 have aq:=Gl (ka:=d.pre.ka) C _ _ _ I m4 hv;refine lC.mono (Z w0 cZ w vs ⟨_,hF,aq⟩) ?_;rintro v w' ⟨us,rfl,F2,ar,av⟩
 have aw:Dy r J1 d.pre.gn d.pre.ka=true:=by
  have:∀n i,(∀j,i<j->j<=i+n->∃id,dF j r=some (some id)/\id∉fz)->Dy r J i n=true->Dy r J1 i n=true:=by
   intro n;induction n with
   |zero=>intro i _ _;rfl
   |succ n ih=>
    intro i ac h;simp only[Dy,aO]at h⊢;obtain⟨id,h1,h2⟩:=ac (i+1) ah ah;refine⟨?_,ih (i+1) (λj a b=>ac j ah ah) h.2⟩;have h3:=h.1;rw[h1]at h3⊢;simp only at h3⊢;show(match(kills J fz).get id with|some (.cells _ _ _ _)=>true|_=>false)=true
    rw[Eb,aj h2];exact h3
  refine this _ _ (λj a b=>?_) R;obtain⟨id,c,et,uY,aL,g1,g2⟩:=XZ R j a b;exact⟨id,g1,al id (agE g1)⟩
 obtain⟨F',ax,ad⟩:=St.avl (T:=T) (tabs:=T.tabs) (G:=d.pre.gn) (ka:=d.pre.ka) rfl V f2.rel m3 (by rw[L9];exact W) aw q1 q2 q3 aa ar av;have B:=f2.trans ax;rw[ZT,L9]at B;rw[ZT]at ad;exact⟨F',B,akg ad⟩
def Z9(P:Program)(tabs:Qt)(pl:lG)(b:Wt)(fuel:Nat)(st:W6)(a:aN)(c:Nat)(h:List ResultVar)(o:AC)(d:List Nd)(g:Wg)(p:Leaf):Bool:=
 match p with
 |.ret (q::l)=>match @wP ⟨d,g,a.pre.ka⟩ (EM P tabs ⟨d,g,a.pre.ka⟩ b) (JH P ⟨d,g,a.pre.ka⟩ pl fuel) o {t:=zT (xA st (AV.qB (λj=>j) a.pre.args)) 0 .nil,n:=max (xA st (AV.qB (λj=>j) a.pre.args)).length c,gn:=P.globals.size} (a.pre.EL tabs λj=>j)with
  |some (e,u,i)=>(match e with|.exit _=>false|_=>true)&&match Bd P i u h with
   |some k=>match d[q]? with
    |some (.ci .i64 t)=>match a.posts[t.toNat]? with
     |some (_,s)=>decide (0<=t)&&(s.ok&&(Nat.beq s.ka a.pre.ka&&(match DU a.pre.np s.al l with
      |some m=>Nat.beq m.length s.np&&(match @aqR ⟨d,g,a.pre.ka⟩ P s k i with
       |⟨r,_,fz⟩=>Om r s.gn s.ka&&@Vg ⟨d,g,a.pre.ka⟩ P s k i fz r m)
      |none=>false)))
     |none=>false
    |_=>false
   |none=>false
  |none=>false
 |_=>false
def NV.Qi{tabs:Qt}(N:vG tabs P.globals.size)(hm:P.follows .mixedOrders=true)(hn:wI P){pl:lG}{I:iJ}(ac:yL P tabs I pl){z:Wt}{fuel:Nat}{f:FuncId}{fn:Func}{c:Code}{Y:Q2}{st:W6}{D:aN}{n:Nat}(ad:n=D.pre.np){t:Tree}
 (hf:P.funcs[f]? =some fn) (hc:fn.body=some c)
 (IV:∀k A,dF k z=some A->A.pre.ok=true/\∀b,(nG Y c).oQ k b->∀gs x,I A.key gs=some x->vw P tabs b A.pre A.posts gs x)
 (Ae:t.chk (Z9 P tabs pl z fuel st D fn.ntmps fn.results.toList (nG Y c)) (List.replicate D.pre.np .arg) []=true) {gs x:Q1} (hd:(aH.tree n t).den I gs=some x):NV P tabs f st D.pre D.posts gs x:=by
 simp only[aH.den]at hd;split at hd;rotate_left
 ·cases hd
 next O=>
 subst ad;obtain⟨ns,ds,V,lf,d,h2,⟨aE,h3⟩,h4⟩:=Tree.Lc t Ae (Dv.start I gs _ O) hd;let T:aJ:=Tw tabs I D.pre.ka h2
 unfold Z9 at d;split at d;rotate_left
 ·cases d
 next tn l=>
 split at d;rotate_left
 ·cases d
 next e a' J' aa=>
 rw[aO]at d;obtain⟨he,d⟩:=d;split at d;rotate_left
 ·cases d
 next rs ae=>
 split at d;rotate_left
 ·cases d
 next tt af=>
 split at d;rotate_left
 ·cases d
 next e' s p=>
 rw[aO,aO,aO,decide_eq_true_iff]at d;obtain⟨c1,c2,c3,d⟩:=d;split at d;rotate_left
 ·cases d
 next l2 ag=>
 rw[aO]at d;obtain⟨c4,d⟩:=d;have c3:=bM c3;have c4:=bM c4;split at d;next r pp fz aL=>
 rw[aO]at d;obtain⟨c5,c6⟩:=d;unfold Vg at c6;simp only[aO,jv]at c6;obtain⟨⟨⟨⟨m1,m2⟩,m3⟩,m4⟩,m5⟩:=c6;have m1:=bM m1;have M:valsOf (λn=>V[n]?) (tn::l)=some x:=h4;simp only[valsOf]at M;split at M;rotate_left
 ·cases M
 next g r0 hg ai=>
 cases M;obtain⟨m,E,ak⟩:=TW h3 O ag ai;obtain⟨g',k1,k2⟩:=h2.node tn _ af aA;have al:V[tn]? =some g:=hg;rw[al]at k1;cases k1;simp only[Nd.den,aY]at k2;subst k2;unfold gX.ok at c2;rw[aO,aO]at c2;obtain⟨⟨_,W⟩,IQ⟩:=c2;have W:AV.pW s.next s.args=true:=by
  have:∀l:Wm,Fp s.next l=true->AV.pW s.next (l.map (·.2))=true:=by
   intro l;induction l with
   |nil=>intro _;rfl
   |cons a l ih=>intro h;simp only[Fp,aO]at h;simp only[iC,AV.pW,aO];exact⟨h.1,ih h.2⟩
  exact this _ W
 refine⟨tt.toNat,r0,m,e',s,by rw[Dj c1],p,ak,by rw[<-c4];exact acA E,λw0 dQ w vs hA=>?_⟩;have LW:∀Q:eH->bF->aC->Prop,Q e a' J'->@AT T P c {t:=zT (xA st (AV.qB (λj=>j) D.pre.args)) 0 .nil,n:=max (xA st (AV.qB (λj=>j) D.pre.args)).length fn.ntmps,gn:=P.globals.size} (D.pre.EL tabs λj=>j) Q:=by
  intro Q hq;have:=@XW P T (EM P tabs ⟨ns,ds,D.pre.ka⟩ z) (JH P ⟨ns,ds,D.pre.ka⟩ pl fuel) (abL (T:=T) hm hn (ac T rfl rfl) fuel) (nG Y c) (yO Y c 0).2 (λk b hk a J e1 a1 J1 hs Q' am=>by
   unfold EM at hs;split at hs
   ·next A an=>
    obtain⟨k1,k2⟩:=IV k A an;exact ZY (T:=T) rfl N k1 (λgs x hI=>k2 b hk gs x hI) hs am
   ·cases hs) _ _ _ _ _ aa Q hq
  rwa [show(nG Y c).erase=c from(yO Y c 0).1]at this
 have R:∀j g,gs[j]? =some g->T.val ((λj=>j) j)=some g:=by
  intro j g hj;show V[j]? =some g
  rw[h3];have:=(fH.1 hj).1;rw[mY this];exact hj
 obtain⟨F,ao,ap⟩:=hA;have aq:=afU (T:=T) (f:=λj=>j) rfl rfl R ao;have ar:@aG T F (AV.qB (λj=>j) D.pre.args) vs:=aG.eF (S:=Tg tabs gs D.pre.ka) (T:=T) R _ _ ap;have av:Calls P f ⟨xB st vs⟩ w λen B=>∃v,en=.returned v/\∃y,v=CW y/\NR P tabs s m w0 dQ y B:=by
  letI:=T
  have aw:aG F (xA st (AV.qB (λj=>j) D.pre.args)) (xB st vs):=VN ar;refine calls_of_wp hf hc ?_;refine LW (λe2 Z J2=>e2=e/\Z=a'/\J2=J') ⟨rfl,rfl,rfl⟩ w0 dQ F w _ _ aq rfl (YN aw) ?_;rintro e2 Z J2 F1 A' B ⟨rfl,rfl,rfl⟩ hF ax ht
  obtain⟨y,r1,r2⟩:=Qx hF.rel ht (fun|.tmp t=>pure (A'.tmps.getD t undef)|.cell a t=>do loadVar t (<-asAddr (A'.tmps.getD a undef))) (λ_=>rfl) (λ_ _=>rfl) _ _ ae;obtain⟨cZ,f1,f2,f3⟩:=Ul hF ax fz;have C:wH T P tabs s.gn s.next F1 J2 B fz r l2 m cZ:=⟨hF.rel,E,f1,f3,m1,ah⟩
  obtain⟨hR,ab⟩:=aaj (ka:=s.ka) (T:=T) rfl N IQ ah m1 C f2.rel.jc (λid o q b2 b3 b4 b5=>f2.rel.lq id o q (by rw[Eb,aj b2];exact b3) b4 b5) m3 m5;have ay:=Gl (ka:=s.ka) C _ _ _ W m4 r2;have az:NR P tabs s m w0 dQ y B:=by
   refine⟨_,@jX.mk (Tg tabs m s.ka) P w0 dQ _ _ B hR hF.kept ?_ f2.uU f2.qH ?_,ay⟩
   ·intro i o q a1 Z a3;obtain⟨id,u,b1,b2,b3,b4,b5⟩:=ab i o q a1 Z a3;exact hF.own id u q b3 b4 b5
   ·intro i q hi;obtain⟨a1,Z,a3⟩:=hF.rE i q hi;have aD:i<=P.globals.size+s.ka:=by rw[c3];exact a3
    refine⟨?_,Z,aD⟩;rw[Gj ah ah (X0 c5 i ah ah)];exact a1
  have L:(results fn A'.tmps).run P B=.ok (if h:(⟨y⟩:QQ).size=1 then(⟨y⟩:QQ)[0]else .tuple ⟨y⟩) B:=by unfold results;rw[Xp];simp only[aU,XJ];exact uH (λr:Result Q6=>(r.andThen λa B=>Result.ok a.toArray B).andThen λa B=>Sem.run P (pure (if h:a.size=1 then a[0]else Value.tuple a)) B) r1
  have ZC:(if h:(⟨y⟩:QQ).size=1 then(⟨y⟩:QQ)[0]else .tuple ⟨y⟩)=CW y:=by
   match y with
   |[]=>rfl
   |[u]=>rfl
   |u::u'::y=>rfl
  rw[ZC]at L
  have p:A'.defers=[]/\∃v,(results fn A'.tmps).run P B=.ok v B/\∃v',Ending.returned v=.returned v'/\∃y,v'=CW y/\NR P tabs s m w0 dQ y B:=
   ⟨ht.none,_,L,_,rfl,y,rfl,az⟩
  cases e2 with
  |normal=>exact p
  |ret=>exact p
  |exit id=>simp at he
 right;refine⟨?_,Calls.mono' av ?_⟩
 ·have X:=hn f fn c hf hc;simp only[callFunc,aU,program,Sem.run,aT,hf];simp only[X,ig,if_false,hc,KH,bH]
 ·rintro en B ⟨v,rfl,h5⟩
  exact⟨v,rfl,h5⟩
end
noncomputable section
variable{P:Program}{H:Type}{enc:TypeId×Value->H}
inductive bW where
 |bool
 |int (k:IntKind)
 |str
 |list (agg:Bool) (e:List bW)
abbrev WK:=List bW
def fieldTys(P:Program)(r:TypeId->Option WK):Nat->List Field->Option WK
 |_,[]=>some []
 |off,f::fs=>match r f.type with
  |some l=>if Nat.beq f.offset off&&Nat.beq (P.cellsOf f.type) l.length then match fieldTys P r (off+l.length) fs with
   |some m=>some (l++m)
   |none=>none
   else none
  |none=>none
def yQ(P:Program):Nat->TypeId->Option WK
 |0,_=>none
 |n+1,t=>match P.underlying t with
  |some .bool=>some [.bool]
  |some (.int k)=>some [.int k]
  |some .string=>some [.str]
  |some (.slice e)=>match yQ P n e,nU P e with
   |some l,some b=>if Nat.beq (P.cellsOf e) l.length&&Nat.ble 1 l.length&&Nat.ble 1 (P.bytesOf e)&&(b ||Nat.beq l.length 1)then some [.list b l]else none
   |_,_=>none
  |some (.struct fs)=>match fieldTys P (yQ P n) 0 fs.toList with
   |some l=>if Nat.beq (P.cellsOf t) l.length then some l else none
   |none=>none
  |_=>none
mutual
def bW.has:bW->GV->Prop
 |.bool,g=>∃b,g=.b b
 |.int k,g=>∃n,g=.i k n/\k.min<=n/\n<=k.max
 |.str,g=>∃s,g=.s s/\s.length<=reachBytes
 |.list agg e,g=>∃xs,g=.l xs/\xs.length<=reachBytes/\∀x∈xs,bW.jq e x.cells/\x.scalar = !agg
def bW.jq:WK->List GV->Prop
 |[],gs=>gs=[]
 |t::ts,gs=>∃g r,gs=g::r/\bW.has t g/\bW.jq ts r
end
def bW.has.scalar{t:bW}{g:GV}(h:t.has g):g.scalar=true:=by
 cases t<;>simp only[bW.has]at h
 ·obtain⟨b,rfl⟩:=h;rfl
 ·obtain⟨b,rfl,_⟩:=h;rfl
 ·obtain⟨b,rfl,_⟩:=h;rfl
 ·obtain⟨b,rfl,_⟩:=h;rfl
def bW.jq.scalars:∀{l:WK}{gs:Q1},bW.jq l gs->gs.all GV.scalar=true/\gs.length=l.length
 |[],gs,h=>by simp only[bW.jq]at h;subst h;exact⟨rfl,rfl⟩
 |t::l,gs,h=>by simp only[bW.jq]at h;obtain⟨g,r,rfl,h1,a⟩:=h;have:=bW.jq.scalars a;simp[h1.scalar,this.1,this.2]
def bW.jq.append:∀{l m:WK}{gs a:Q1},bW.jq l gs->bW.jq m a->bW.jq (l++m) (gs++a)
 |[],m,gs,a,h,b=>by simp only[bW.jq]at h;subst h;simpa using b
 |t::l,m,gs,a,h,b=>by simp only[bW.jq]at h;obtain⟨g,r,rfl,h1,c⟩:=h;simp only[bI,bW.jq];exact⟨g,r++a,rfl,h1,bW.jq.append c b⟩
def aS.append{ro:Qf}:∀{l m:Q1}{vs b:Q6},aS ro l vs->aS ro m b->aS ro (l++m) (vs++b)
 |[],m,vs,b,h,c=>by simp only[aS]at h;subst h;simpa using c
 |a::l,m,vs,b,h,c=>by simp only[aS]at h;obtain⟨x,xs,rfl,h1,d⟩:=h;simp only[bI,aS];exact⟨x,xs++b,rfl,h1,aS.append d c⟩
def akD:∀{e:TypeId}{a:List (DataW H)}{d:DataW H},d∈a->∀z∈d.weights P e,z∈DataW.weightsAll P e a
 |e,[],d,h,z,_=>by simp at h
 |e,c::a,d,h,z,b=>by
  simp only[DataW.weightsAll,ny];rcases bJ.1 h with rfl|h
  ·exact .inl b
  ·exact .inr (akD h z b)
def yV(w:World):Nat->Option Obj:=λb=>w.heap[b]?
def cell?_at {w:World} {a:Addr} {v:Value} (h:w.cell? a=some v):a.spot=none/\∃c elem b,w.heap[a.block]? =some (.cells c elem b)/\c[a.off]? =some v:=by
 unfold World.cell? at h;split at h
 ·next c elem b d=>
  split at h
  ·cases h
  ·next e=>exact⟨by simpa using e,c,elem,b,d,h⟩
 ·cases h
def afK{w:World}{r:TypeId->Option WK}{fuel:Nat}{cs:Q6}
 (e:∀t l ch (x:DataW H×List MemPlace),r t=some l->DataW.trod enc P w 0 (λ_=>true) true fuel t ch=some x->(∀z∈x.1.weights P t,z<=reachBytes)->∃gs,aS (yV w) gs ch/\bW.jq l gs):
 ∀(fs:List Field)(xs:List (DataW H×List MemPlace))(off:Nat)(l:WK),fieldTys P r off fs=some l->xs.length=fs.length->
  (∀(i:Nat)(f:Field),fs[i]? =some f->DataW.trod enc P w 0 (λ_=>true) true fuel f.type ((cs.drop f.offset).take (P.cellsOf f.type))=xs[i]?)->
  (∀z∈DataW.weightsEach P (fs.map (·.type)) (xs.map (·.1)),z<=reachBytes)->
  ∃gs,aS (yV w) gs ((cs.drop off).take l.length)/\bW.jq l gs
 |[],xs,off,l,h,_,_,_=>by simp only[fieldTys,aY]at h;subst h;exact⟨[],by simp[aS],by simp[bW.jq]⟩
 |f::fs,[],off,l,_,b,_,_=>by simp at b
 |f::fs,x::xs,off,l,h,b,g,j=>by
  simp only[fieldTys]at h;split at h
  ·next a h1=>
   split at h
   ·next c=>
    rw[aO]at c;have o:=bM c.1;have p:=bM c.2;split at h
    ·next m q=>
     cases h;have k:=g 0 f rfl;simp only[kP]at k;obtain⟨gs,n,s⟩:=e f.type a _ x h1 k (λz d=>j z (by simp only[iC,DataW.weightsEach,ny];exact .inl d))
     obtain⟨u,v,y⟩:=afK e fs xs (off+a.length) m q (by simpa using b) (λi A B=>by have:=g (i+1) A (by simpa using B);simpa using this)
      (λz d=>j z (by simp only[iC,DataW.weightsEach,ny];exact .inr d))
     refine⟨gs++u,?_,s.append y⟩;rw[o,p]at n;have:(cs.drop off).take (a++m).length=(cs.drop off).take a.length++(cs.drop (off+a.length)).take m.length:=by rw[gu,Dk,uf]
     rw[this];exact aS.append n v
    ·cases h
   ·cases h
  ·cases h
def afo{c:Nat}{ch:Nat->List Value}{arr:QQ}{off:Nat}:∀(n:Nat)(_:∀i,i<n->(ch i).length=c/\∀j,j<c->arr[off+i*c+j]? =(ch i)[j]?),
 ((List.range n).flatMap ch).length=n*c/\∀(k:Nat) x,((List.range n).flatMap ch)[k]? =some x->arr[off+k]? =some x
 |0,_=>aA
 |n+1,h=>by
  obtain⟨h1,b⟩:=afo n λi hi=>h i ah;obtain⟨d,e⟩:=h n ah;rw[List.range_succ,ac9];simp only[jS,List.flatMap_nil,qZ];refine⟨by rw[gu,h1,d,rC,Hr],λk x a=>?_⟩;by_cases g:k<n*c
  ·rw[mY ah]at a;exact b k x a
  ·rw[wE ah,h1]at a;have l:=(fH.1 a).1;have:=e (k-n*c) ah;rw[a]at this;rw[<-this];congr 1;omega
def aS.ofFn{ro:Qf}{G:Nat->GV}{Y:Nat->Value}:∀(l:Q2),(∀i∈l,GR ro (G i) (Y i))->aS ro (l.map G) (l.map Y)
 |[],_=>by simp[aS]
 |i::l,h=>by simp only[iC,aS];exact⟨_,_,rfl,h i aA,aS.ofFn l λj a=>h j (by simp[a])⟩
def aco{w:World}:∀(n m:Nat)(t:TypeId)(cs:Q6)(x:DataW H×List MemPlace)(l:WK),yQ P n t=some l->DataW.trod enc P w 0 (λ_=>true) true m t cs=some x->
 (∀z∈x.1.weights P t,z<=reachBytes)->∃gs,aS (yV w) gs cs/\bW.jq l gs
 |0,m,t,cs,x,l,q,h,hw=>by simp[yQ]at q
 |n+1,m,t,cs,x,l,q,h,hw=>by
  simp only[yQ]at q;split at q
  ·next B=>
   cases q;obtain⟨b,rfl,rfl⟩:=DataW.trod_bool B h;exact⟨[.b b],by simp[aS,GR],by simp only[bW.jq];exact⟨_,_,rfl,by simp[bW.has],rfl⟩⟩
  ·next k B=>
   cases q;obtain⟨b,rfl,rfl,ai⟩:=DataW.trod_int B h;have aa:k.min<=b/\b<=k.max:=by simpa[Lit.wf]using ai
   exact⟨[.i k b],by simp[aS,GR],by simp only[bW.jq];exact⟨_,_,rfl,by simp only[bW.has];exact⟨b,rfl,aa⟩,rfl⟩⟩
  ·next B=>
   cases q;obtain⟨s,rfl,rfl,hs⟩:=DataW.trod_string B h;refine⟨[.s s.data.toList],by simp only[aS,GR];exact⟨_,_,rfl,by cases s with|mk a=>cases a;rfl,rfl⟩,by simp only[bW.jq];exact⟨_,_,rfl,by simp only[bW.has];exact⟨_,rfl,hw _ (by simp[DataW.weights])⟩,rfl⟩⟩
  ·next e B=>
   split at q
   ·next le N he ax=>
    split at q
    ·next E=>
     cases q;simp only[aO,nO]at E;obtain⟨⟨⟨c1,c2⟩,c3⟩,c4⟩:=E;have c1:=bM c1;have c2:=uh c2;have c3:=uh c3;rcases Deep.open_slice B h with⟨rfl,rfl⟩|⟨a,len,ar,I,n',D,Pl,rfl,hb,hl,hm,rfl,rfl,hi⟩
     ·exact⟨[.l []],by simp[aS,GR],by simp only[bW.jq];exact⟨_,_,rfl,by simp only[bW.has];exact⟨[],rfl,aA,aA⟩,rfl⟩⟩
     have ak:I*P.bytesOf e<=reachBytes:=by have:=hw (I*P.bytesOf e) (by simp only[DataW.weights,B,bJ,iw,List.length_range];left;rw[Rn hl]);exact this
     have al:I<=reachBytes:=kR (akS _ c3) ak;have one:∀i,i<len->∃o gs,(o.length=P.cellsOf e/\∀j,j<P.cellsOf e->w.cell? (((a.add (i*P.cellsOf e))).add j)=o[j]?)/\aS (yV w) gs o/\bW.jq le gs:=by
      intro i d;obtain⟨o,V,h2⟩:=hi i ah;obtain⟨_,h3,h4⟩:=World.cells?_some V;obtain⟨gs,g1,g2⟩:=aco n n' e o _ le he h2 (λz hz=>hw z (by simp only[DataW.weights,B,bJ,ny];right;left;exact akD (by simp only[qK,zK];exact⟨i,d,rfl⟩) z hz))
      exact⟨o,gs,⟨h3,h4⟩,g1,g2⟩
     by_cases hz:I=0
     ·have am:len=0:=ah;subst hz;subst am;refine⟨[.l []],by simp only[aS,GR];exact⟨_,_,rfl,.inl ⟨trivial,_,rfl⟩,rfl⟩,by simp only[bW.jq];exact⟨_,_,rfl,by simp only[bW.has];exact⟨[],rfl,aA,aA⟩,rfl⟩⟩
     have ha:a.spot=none/\∃v L fr,w.heap[a.block]? =some (.cells v L fr):=by obtain⟨o,V,h2⟩:=hi 0 ah;obtain⟨_,h3,h4⟩:=World.cells?_some V;have h5:=h4 0 ah;have W:o[0]? =some o[0]:=bT ah;rw[W]at h5;have O:=cell?_at h5;simp only[Nat.zero_mul,Addr.add,if_true]at O;exact⟨O.1,O.2.choose,O.2.choose_spec.choose,O.2.choose_spec.choose_spec.choose,O.2.choose_spec.choose_spec.choose_spec.1⟩
     obtain⟨ab,v,L,fr,M⟩:=ha;obtain⟨bl,A,sp⟩:=a;simp only at ab M;subst ab;have ac:∀i j:Nat,((Addr.mk bl A none).add i).add j=⟨bl,A+i+j,none⟩:=by intro i j;unfold Addr.add;split<;>split<;>simp_all
     have an:∃(o:Nat->List Value)(G:Nat->List GV),∀i,i<len->(o i).length=P.cellsOf e/\(∀j,j<P.cellsOf e->v[A+i*P.cellsOf e+j]? =(o i)[j]?)/\aS (yV w) (G i) (o i)/\bW.jq le (G i):=by refine⟨λi=>if d:i<len then(one i d).choose else[],λi=>if d:i<len then(one i d).choose_spec.choose else[],λi d=>?_⟩;simp only[dif_pos d];obtain⟨⟨V,h2⟩,h3,h4⟩:=(one i d).choose_spec.choose_spec;refine⟨V,λj hj=>?_,h3,h4⟩;have:=h2 j hj;rw[ac]at this;rw[<-this];have W:=bT (l:=(one i d).choose) (i:=j) ah;rw[W]at this;have O:=cell?_at this;simp only at O;obtain⟨_,c',e',f',h7,h8⟩:=O;rw[M]at h7;cases h7;rw[this,h8]
     obtain⟨o,G,hG⟩:=an;obtain⟨q1,q2⟩:=afo (c:=P.cellsOf e) (ch:=o) (arr:=v) (off:=A) len λi d=>⟨(hG i d).1,λj hj=>(hG i d).2.1 j hj⟩
     have ao:∀i,i<len->(G i).length=le.length:=λi d=>(hG i d).2.2.2.scalars.2;let X:Nat->GV:=λi=>if N then .g (G i)else(G i).headD (.l [])
     let Y:Nat->Value:=λi=>if N then .agg ⟨o i⟩else(o i).headD undef
     have hX:∀i,i<len->(X i).cells=G i/\(X i).scalar = !N/\GR (yV w) (X i) (Y i)/\(Y i).cells.toList=o i:=by
      intro i d;obtain⟨p1,p2,p3,p4⟩:=hG i d;cases N with
      |true=>simp only[X,Y,if_true];exact⟨rfl,rfl,by simp only[GR];exact⟨_,rfl,p3⟩,rfl⟩
      |false=>
       have R:le.length=1:=by simpa using c4
       obtain⟨g,hg⟩:∃g,G i=[g]:=Xz.1 (by rw[ao i d,R]);obtain⟨y,hy⟩:∃y,o i=[y]:=Xz.1 (by rw[p1,c1,R]);have Z:g.scalar=true:=by have:=p4.scalars.1;rw[hg]at this;simpa using this
       have LZ:GR (yV w) g y:=by rw[hg,hy]at p3;simp only[aS]at p3;obtain⟨u,us,e1,e2,_⟩:=p3;cases e1;exact e2
       simp only[X,Y,hg,hy,List.headD_cons,ig,if_false,Bool.not_false];refine⟨by cases g<;>first|rfl|(simp[GV.scalar]at Z),Z,LZ,?_⟩;cases g<;>simp only[GR]at LZ
       ·subst LZ;rfl
       ·subst LZ;rfl
       ·subst LZ;rfl
       ·rcases LZ with⟨_,_,rfl⟩|⟨_,_,_,_,_,rfl,_⟩<;>rfl
       ·simp[GV.scalar]at Z
     refine⟨[.l ((List.range len).map X)],?_,?_⟩
     ·simp only[aS];refine⟨_,_,rfl,?_,rfl⟩;simp only[GR];right;have ad:dN ((List.range len).map Y)=(List.range len).flatMap o:=by unfold dN;rw[List.flatMap_map];rw[List.flatMap_def,List.flatMap_def,List.map_congr_left λi p=>(hX i (zK.1 p)).2.2.2]
      refine⟨bl,A,I,(List.range len).map Y,P.cellsOf e,aA,by simpa using hl,aS.ofFn _ λi p=>(hX i (zK.1 p)).2.2.1,?_,λap=>⟨v,L,fr,M,?_,?_⟩⟩
      ·intro y hy;obtain⟨i,p,rfl⟩:=qK.1 hy;have:=(hX i (zK.1 p)).2.2.2;rw[<-J8,this];exact(hG i (zK.1 p)).1
      ·rw[ad,q1];have ae:0<len:=by
        rcases Ro len with h0|h0
        ·subst h0;simp at ap
        ·exact h0
       have af:0<P.cellsOf e:=ah;have hk:len*P.cellsOf e-1<((List.range len).flatMap o).length:=by rw[q1];have:0<len*P.cellsOf e:=Oa ae af;omega
       have:=q2 _ _ (bT hk);have:=(qI.1 this).1;have:0<len*P.cellsOf e:=Oa ae af;omega
      ·rw[ad];exact q2
     ·simp only[bW.jq];refine⟨_,_,rfl,?_,rfl⟩;simp only[bW.has];refine⟨_,rfl,by simp;omega,λy hy=>?_⟩;obtain⟨i,p,rfl⟩:=qK.1 hy;obtain⟨k1,k2,_⟩:=hX i (zK.1 p);rw[k1];exact⟨(hG i (zK.1 p)).2.2.2,k2⟩
    ·cases q
   ·cases q
  ·next fs B=>
   split at q
   ·next l' hf=>
    split at q
    ·next ag=>
     cases q;have ag:=bM ag;obtain⟨xs,n',rfl,rfl,av,aq,hx⟩:=DataW.trod_struct B h
     obtain⟨gs,g1,g2⟩:=afK (enc:=enc) (P:=P) (w:=w) (fuel:=n') (cs:=cs) (r:=yQ P n) (λt l o x V h2 h3=>aco n n' t o x l V h2 h3) fs.toList xs 0 l hf (by simpa using aq)
      (λi f hi=>hx i f (by simpa using hi)) (λz hz=>hw z (by simp only[DataW.weights,B];simpa using hz))
     refine⟨gs,?_,g2⟩;rw[dD,kQ ah]at g1;exact g1
    ·cases q
   ·cases q
  ·cases q
def argTys(P:Program)(n:Nat):List TypeId->Option (List (Bool×WK))
 |[]=>some []
 |t::ts=>match yQ P n t,nU P t,argTys P n ts with
  |some l,some b,some r=>if b ||Nat.beq l.length 1 then some ((b,l)::r)else none
  |_,_,_=>none
def hasArgs:List (Bool×WK)->List GV->Prop
 |[],gs=>gs=[]
 |(b,l)::r,gs=>∃g a,gs=g::a/\bW.jq l g.cells/\g.scalar = !b/\hasArgs r a
def avo{w:World}{r:Reach}{c:Nat}{t:TypeId}{v:Value}(h:Value.okWide P w r c t v):(nU P t=some true->∃cs,v=.agg cs)/\
 (nU P t=some false->v.cells =#[v]\/∀n,yQ P n t=none):=by
 unfold Value.okWide at h;unfold nU;constructor
 ·intro a;split at a
  ·next b=>rw[b]at h;simp only at h;obtain⟨cs,rfl,_⟩:=h;exact⟨cs,rfl⟩
  ·next b=>rw[b]at h;simp only at h;obtain⟨cs,rfl,_⟩:=h;exact⟨cs,rfl⟩
  ·cases a
  ·cases a
 ·intro a;split at a
  ·cases a
  ·cases a
  ·next u d e b=>
   rw[b]at h
   cases u<;>first
    |(exact absurd rfl (d _))
    |(exact absurd rfl (e _ _))
    |(right;intro n;cases n<;>simp[yQ,b];done)
    |(left;simp only[Cell.okWide,b,Cell.ok]at h;cases v<;>first|rfl|(simp only at h;done)|(cases h;done))
  ·cases a
def Kept.below{W a:World}(h:Kept W a):Go.RowKit.Below W.heap.size W a:=⟨h.os,h.tape,h.output,h.size,h.keep⟩
def akf{W g:World}(i:laidOutB P=true)(j:Kept W g){k:Nat->Bool}:∀{ts:List TypeId}{vs:Q6}{e:List (DataW H)}{ps:List MemPlace},DataW.TrodAll enc P W 0 (λ_=>true) true ts vs e ps->
 (∀t∈ts,P.readableRec t=true/\t<P.types.size)->(∀x∈ps,x.block<W.heap.size)->(∀x∈ps,k x.block=true)->DataW.TrodAll enc P g 0 k true ts vs e ps
 |[],[],[],ps,h,_,_,_=>h
 |t::ts,v::vs,d::e,ps,h,l,b,c=>by
  obtain⟨p,q,h1,m,rfl⟩:=h;obtain⟨r1,r2⟩:=l t aA
  exact⟨p,q,WideElems.Trod_stays i r1 r2 h1 (λx a=>j.below.same (b x (XC _ a))) (λx a=>c x (XC _ a)),
   akf i j m (λn o=>l n (by simp[o])) (λx a=>b x (adg _ a)) (λx a=>c x (adg _ a)),rfl⟩
 |[],_::_,_,_,h,_,_,_=>by simp[DataW.TrodAll]at h
 |[],[],_::_,_,h,_,_,_=>by simp[DataW.TrodAll]at h
 |_::_,[],_,_,h,_,_,_=>by simp[DataW.TrodAll]at h
 |_::_,_::_,[],_,h,_,_,_=>by simp[DataW.TrodAll]at h
end
open Go.ChangeShapes Go.WideShapes Go.ChangeAt Go.RowKit
noncomputable section
variable{P:Program}
def amo{g:aJ}{call:Caller}{f:FuncId}{J0 J':aC}(b:@qV g P call)(h0:@zO g J0 P.globals.size)(d:call f [] J0=some (.b true,J')){ro:Qf}{w:World}(a:xW g.tabs ro w):
 lC P f ⟨[]⟩ w λv w'=>v=.bool true/\Kept w w':=by
 letI:=g
 have k:SR P (vM P.globals.size J0 ro) J0 w:=KJ h0.1 (λid o l=>by obtain⟨c,rfl,m,h⟩:=h0.2 id o l;obtain⟨n,e,q,s,t,u⟩:=a.tab _ m;exact⟨h,c,rfl,⟨n,e,q,a.at' _ _ s,t,u⟩⟩) a.at' (λp x=>a.tab p x)
 refine lC.mono (b f [] J0 _ _ d _ w [] k rfl) ?_;rintro v w' ⟨F',i,j⟩
 simp only[VR]at j;exact⟨j,i.kept h0.own⟩
def avE{T:aJ}{f:FuncId}(h:∀ro w,xW T.tabs ro w->lC P f ⟨[]⟩ w λv w'=>v=.bool true/\Kept w w'):@dK T P f JA:=by
 letI:=T
 intro args J r e a F w g b c;unfold JA at a;split at a
 ·cases a;simp only[aG]at c;subst c;refine lC.mono (h F.ro w b.VW) ?_;rintro v w' ⟨rfl,d⟩
  exact⟨F,St.aau b d,by simp only[VR]⟩
 ·cases a
def AC.pK:AC->Nat->Option Code
 |.plain _,_=>none
 |.seq x y,k=>match x.pK k with
  |some b=>some b
  |none=>y.pK k
 |.cond _ y z,k=>match y.pK k with
  |some b=>some b
  |none=>z.pK k
 |.block _ x,k=>x.pK k
 |.loop a b,k=>if Nat.beq a k then some b else none
 |.peel x a b,k=>if Nat.beq a k then some b else x.pK k
def AC.Gi{k:Nat}{b:Code}:∀{x:AC},x.pK k=some b->x.oQ k b
 |.plain _,h=>by simp[AC.pK]at h
 |.seq x y,h=>by
  simp only[AC.pK]at h;split at h
  ·next a=>cases h;exact .inl (AC.Gi a)
  ·exact .inr (AC.Gi h)
 |.cond _ x y,h=>by
  simp only[AC.pK]at h;split at h
  ·next a=>cases h;exact .inl (AC.Gi a)
  ·exact .inr (AC.Gi h)
 |.block _ x,h=>AC.Gi (x:=x) h
 |.loop c d,h=>by
  simp only[AC.pK]at h;split at h
  ·next e=>cases h;exact⟨Nat.eq_of_beq_eq_true e,rfl⟩
  ·cases h
 |.peel x c d,h=>by
  simp only[AC.pK]at h;split at h
  ·next e=>cases h;exact .inl ⟨Nat.eq_of_beq_eq_true e,rfl⟩
  ·exact .inr (AC.Gi h)
def H7(ps:Q2):∀(c:Code)(n:Nat),n<=(lJ ps c n).2/\∀k b,(lJ ps c n).1.oQ k b->(n<=k/\k<(lJ ps c n).2)/\(lJ ps c n).1.pK k=some b
 |.seq x y,n=>by
  obtain⟨h1,a⟩:=H7 ps x n;obtain⟨j,d⟩:=H7 ps y (lJ ps x n).2;simp only[lJ,AC.oQ,AC.pK];refine⟨ah,λk b h=>?_⟩;rcases h with h|h
  ·obtain⟨r,e⟩:=a k b h;exact⟨ah,by rw[e]⟩
  ·obtain⟨r,e⟩:=d k b h;refine⟨ah,?_⟩;cases g:(lJ ps x n).1.pK k with
   |none=>exact e
   |some i=>have:=(a k i (AC.Gi g)).1;omega
 |.cond _ x y,n=>by
  obtain⟨h1,a⟩:=H7 ps x n;obtain⟨j,d⟩:=H7 ps y (lJ ps x n).2;simp only[lJ,AC.oQ,AC.pK];refine⟨ah,λk b h=>?_⟩;rcases h with h|h
  ·obtain⟨r,e⟩:=a k b h;exact⟨ah,by rw[e]⟩
  ·obtain⟨r,e⟩:=d k b h;refine⟨ah,?_⟩;cases g:(lJ ps x n).1.pK k with
   |none=>exact e
   |some i=>have:=(a k i (AC.Gi g)).1;omega
 |.block id x,n=>H7 ps x n
 |.loop x,n=>by
  obtain⟨h1,a⟩:=H7 ps x (n+1);simp only[lJ];split
  ·exact⟨aA,λk b h=>by simp[AC.oQ]at h⟩
  ·split
   ·simp only[AC.oQ,AC.pK];refine⟨ah,λk b h=>?_⟩;rcases h with⟨rfl,rfl⟩|h
    ·exact⟨ah,aA⟩
    ·obtain⟨r,e⟩:=a k b h;refine⟨ah,?_⟩;have:Nat.beq n k=false:=by cases l:Nat.beq n k with|false=>rfl|true=>have:=bM l;omega
     rw[this];exact e
   ·simp only[AC.oQ,AC.pK];refine⟨ah,λk b h=>?_⟩;obtain⟨rfl,rfl⟩:=h;exact⟨ah,aA⟩
 |.skip,n|.region _ _ _,n|.rangeFunc _ _ _ _,n|.exit _,n|.scope _,n|.label _,n|.goto _,n|.ret,n|.refuse _,n=>⟨Nat.le_refl _,λk b h=>by simp[lJ,AC.oQ]at h⟩
def atT{ps:Q2}{c:Code}{k:Nat}{b:Code}(h:(nG ps c).oQ k b):(nG ps c).pK k=some b:=((H7 ps c 0).2 k b h).2
def wR:Code->List (Q2×Nat)->Code
 |c,[]=>c
 |c,(ps,k)::r=>wR (((nG ps c).pK k).getD .skip) r
def alD{ps:Q2}{c:Code}{k:Nat}{b:Code}(h:(nG ps c).oQ k b):wR c [(ps,k)]=b:=by simp only[wR,atT h,rD]
def ad6{ps:Q2}{k:Nat}:∀(r:YY)(c:Code),wR c (r++[(ps,k)])=wR (wR c r) [(ps,k)]
 |[],_=>rfl
 |(_,_)::r,_=>ad6 r _
abbrev Hf:=Q1->List GV->Prop
def NU(b:List Hf)(k:Nat)(gs a:Q1):Prop:=match b[k]? with
 |some c=>c gs a
 |none=>False
def uo(Ds:Wa):iP:=λk=>Ds[k]?
def Kq(C:Nat->List GV->List GV->Prop)(d:aH)(c:Hf):Prop:=∀I:iJ,(∀k gs a,I k gs=some a->C k gs a)->∀gs a,d.den I gs=some a->c gs a
def J6(C:Nat->List GV->List GV->Prop):Wa->List Hf->Prop
 |[],[]=>True
 |d::a,c::cs=>Kq C d c/\J6 C a cs
 |_,_=>False
def J6.at{C:Nat->List GV->List GV->Prop}:∀{b:Wa}{cs:List Hf},J6 C b cs->∀{k:Nat}{d:aH},b[k]? =some d->∃c,cs[k]? =some c/\Kq C d c
 |[],[],_,k,d,a=>by simp at a
 |i::b,e::cs,h,k,d,a=>by
  cases k with
  |zero=>simp at a;subst a;exact⟨e,rfl,h.1⟩
  |succ k=>obtain⟨c,h1,g⟩:=J6.at h.2 (k:=k) (by simpa using a);exact⟨c,by simpa using h1,g⟩
 |[],_::_,h,_,_,_=>h.elim
 |_::_,[],h,_,_,_=>h.elim
def atJ{Ds:Wa}{b:List Hf}(h:J6 (NU b) Ds b):∀k gs a,(uo Ds).lim k gs=some a->NU b k gs a:=by refine iP.atK λk d e I g gs a i=>?_;obtain⟨c,j,l⟩:=h.at e;unfold NU;rw[j];exact l I g gs a i
def Dt(P:Program)(tabs:Qt)(I:iJ)(e:AC)(c:Wt):Prop:=
 ∀k a,dF k c=some a->a.pre.ok=true/\∀b,e.oQ k b->∀gs d,I a.key gs=some d->vw P tabs b a.pre a.posts gs d
def Dt.nil{tabs:Qt}{I:iJ}{a:AC}:Dt P tabs I a []:=λk b h=>by simp[dF]at h
def Dt.cons{tabs:Qt}{I:iJ}{ps:Q2}{c:Code}{k:Nat}{g:aN}{a:Wt}(i:g.pre.ok=true)(n:∀gs d,I g.key gs=some d->vw P tabs (wR c [(ps,k)]) g.pre g.posts gs d)
 (r:Dt P tabs I (nG ps c) a):Dt P tabs I (nG ps c) ((k,g)::a):=by
 intro m j h;simp only[dF]at h;cases e:Nat.beq m k with
 |true=>rw[e]at h;cases h;have e:=bM e;subst e;exact⟨i,λb l gs d o=>by rw[<-alD l];exact n gs d o⟩
 |false=>rw[e]at h;exact r m j h
def vw.avn{tabs:Qt}(g:vG tabs P.globals.size)(m:P.follows .mixedOrders=true)(o:wI P){pl:lG}{I:iJ}(j:yL P tabs I pl){a:Wt}{fuel:Nat}{d:aN}(k:d.pre.ok=true){n:Nat}(l:n=d.pre.np)
 {ps:Q2} {b:Code} {t:Tree} (p:Dt P tabs I (nG ps b) a) (e:∀gs c,I d.key gs=some c->vw P tabs b d.pre d.posts gs c)
 (q:t.chk (U9 P tabs pl a fuel d (nG ps b)) (List.replicate d.pre.np .arg) []=true) {gs c:Q1} (i:(aH.tree n t).den I gs=some c):vw P tabs b d.pre d.posts gs c:=by
 simp only[aH.den]at i;split at i
 ·next h=>exact vw.Qi g m o j k p e q (by rw[h,l]) i
 ·cases i
def PL.nil:lG:=λ_=>[]
def PL.cons(f:FuncId)(p:gQ->dM)(l:lG):lG:=λN=>(f,p N)::l N
def PL.avp{tabs:Qt}{I:iJ}:yL P tabs I PL.nil:=λT _ _ p a=>by simp[PL.nil]at a
def PL.Vy{tabs:Qt}{I:iJ}{f:FuncId}{p:gQ->dM}{l:lG}(h:∀T:aJ,T.tabs=tabs->T.I=I->@dK T P f (p T.togQ))(d:yL P tabs I l):yL P tabs I (PL.cons f p l):=by
 intro T b c q a;rcases bJ.1 a with rfl|a
 ·exact h T b c
 ·exact d T b c q a
def orP(p q:dM):dM:=λargs J=>match p args J with
 |some r=>some r
 |none=>q args J
def avw{T:aJ}{f:FuncId}{p q:dM}(c:@dK T P f p)(d:@dK T P f q):@dK T P f (orP p q):=by
 letI:=T
 intro args J r b a;unfold orP at a;split at a
 ·next r0 e=>cases a;exact c args J r b e
 ·exact d args J r b a
