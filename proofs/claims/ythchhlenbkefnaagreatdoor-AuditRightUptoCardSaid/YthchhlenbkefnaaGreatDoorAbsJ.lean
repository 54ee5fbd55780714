/- Loops by contract: the step that the evaluator takes at a loop, and how a loop's contract is proved. -/
import Derived.Test.YthchhlenbkefnaaGreatDoorAbsI
import Derived.ChangeArms
import Derived.Deep.Slices
import Derived.Carry
import Derived.ProofKit
import Derived.OpenShut
import Derived.Deep.DeepHandedRow
set_option linter.all false
namespace Go.aN
noncomputable section
variable{P:Program}
structure US where
 r:W7
 p:WD
 fz:Q2
def US.IX(u:US)(j m:Nat):US:=match dL j u.p with
 |some _=>u
 |none=>{u with p:=(j,m)::u.p}
def US.Pz(u:US)(i:Nat)(x:QR):US:=match dL i u.r with
 |some _=>u
 |none=>{u with r:=(i,x)::u.r}
section
variable[gY]
def NS(P:Program)(J:aA)(a:AV):Option (Nat×QR):=
 match jg a with
 |some m=>some (m,none)
 |none=>match a with
  |.sv id _=>match J.get id with
   |some (.vec m _ _)=>some (m,some id)
   |_=>none
  |.sl id b len c=>match J.get id with
   |some (.cells _ d _ _)=>(listOf P J d (.sl id b len c)).map λm=>(m,some id)
   |_=>none
  |_=>none
mutual
def uV(P:Program)(G:Nat)(J:aA):AV->AV->US->US
 |.nd j,a,u=>match NS P J a with
  |some (m,some id)=>{u.IX j m with fz:=id::u.fz}
  |some (m,none)=>u.IX j m
  |none=>u
 |.sv i _,a,u=>match a with
  |.sv id _=>u.Pz i (some id)
  |.gK=>u.Pz i none
  |_=>u
 |.p i _,a,u=>match a with
  |.p id _=>if i<=G then u else u.Pz i (some id)
  |_=>u
 |.mp i,a,u=>match a with
  |.mp id=>u.Pz i (some id)
  |_=>u
 |.sl i _ _ _,a,u=>match a with
  |.sl id _ _ _=>u.Pz i (some id)
  |_=>u
 |.rx j _,a,u=>match a with
  |.rx m _=>u.IX j m
  |_=>u
 |.fn _ e g,a,u=>match a with
  |.fn _ b c=>H9 P G J g c (H9 P G J e b u)
  |_=>u
 |.agg l,a,u=>match a with
  |.agg d=>H9 P G J l d u
  |_=>u
 |.fB l,a,u=>match a with
  |.fB d=>H9 P G J l d u
  |_=>u
 |.jq _ x,a,u=>match a with
  |.jq _ h=>uV P G J x h u
  |_=>u
 |_,_,u=>u
def H9(P:Program)(G:Nat)(J:aA):Q3->List AV->US->US
 |[],_,u=>u
 |a::l,m,u=>match m with
  |b::c=>H9 P G J l c (uV P G J a b u)
  |[]=>u
end
def al4(P:Program)(G:Nat)(J:aA)(t:Tr AV):Wm->US->US
 |[],u=>u
 |p::l,u=>al4 P G J t l (match t.get p.1 with|some v=>uV P G J p.2 v u|none=>u)
def X6(P:Program)(G:Nat)(J:aA):Xs->US->US
 |[],u=>u
 |p::l,u=>X6 P G J l (match dL p.1 u.r with
  |some (some id)=>match p.2,J.get id with
   |.cells c _ _ _,some (.cells a _ _ _)=>H9 P G J c a u
   |.vec j _ _,some (.vec m _ _)=>u.IX j m
   |.smap j _ _,some (.smap m _ _)=>u.IX j m
   |.smap j _ _,some (.map [])=>match fQ (.ml [])with
    |some m=>u.IX j m
    |none=>u
   |_,_=>u
  |some none=>match p.2 with
   |.vec j _ _=>match fQ (.ml [])with
    |some m=>u.IX j m
    |none=>u
   |_=>u
  |none=>u)
def acz(p:WD):Nat->Nat->Option Q2
 |_,0=>some []
 |j,n+1=>match dL j p,acz p (j+1) n with
  |some m,some r=>some (m::r)
  |_,_=>none
def YX:Nat->Nat->List (Nat×QR)
 |_,0=>[]
 |i,n+1=>(i+1,some (i+1))::YX (i+1) n
def fit(P:Program)(s:iD)(a:bG)(J:aA):US:=X6 P s.gn J s.objs (al4 P s.gn J a.t s.slots ⟨YX s.gn s.ka,[],[]⟩)
def fits(P:Program)(s:iD)(a:bG)(J:aA)(ps:Q2):Bool:=Nat.beq ps.length s.np&&match fit P s a J with
 |⟨r,_,fz⟩=>abd P s a J fz r ps
structure aJ where
 key:Nat
 pre:iD
 posts:K0
abbrev Ww:=List (Nat×aJ)
abbrev Wt:=List aJ
def Kz(tag:Nat):K0->Nat->Option (fG×iD)
 |[],_=>none
 |[p],_=>some p
 |p::q::l,t=>match fQ (.ci .i64 t)with
  |some c=>match fQ (.bin .eql tag c)with
   |some b=>match ZI b with
    |some true=>some p
    |some false=>Kz tag (q::l) (t+1)
    |none=>none
   |none=>none
  |none=>none
def Di(a:Nat)(ps:Q2):List QR->Nat->Nat->Option Q2
 |_,_,0=>some []
 |some i::b,j,n+1=>match ps[i]?,Di a ps b j n with
  |some m,some r=>some (m::r)
  |_,_=>none
 |none::b,j,n+1=>match fQ (.call a ps j),Di a ps b (j+1) n with
  |some m,some r=>some (m::r)
  |_,_=>none
 |[],j,n+1=>match fQ (.call a ps j),Di a ps [] (j+1) n with
  |some m,some r=>some (m::r)
  |_,_=>none
def aa0(P:Program)(tabs:Qt)(b:aJ)(a:bG)(J:aA):Wb:=
 match acz (fit P b.pre a J).p 0 b.pre.np with
 |some ps=>if fits P b.pre a J ps then
   match fQ (.call b.key ps 0)with
   |some tag=>match Kz tag b.posts 0 with
    |some (e,s)=>if Nat.beq s.ka gY.ka then match Di b.key ps s.al 1 s.np with
     |some c=>some (e,s.TW (λj=>c.getD j 0),s.Fh tabs (λj=>c.getD j 0))
     |none=>none
     else none
    |none=>none
   |none=>none
  else none
 |none=>none
end
def vN:List QR->List GV->List GV->Option Q1
 |[],_,r=>some r
 |some i::a,gs,r=>match gs[i]?,vN a gs r with
  |some g,some l=>some (g::l)
  |_,_=>none
 |none::a,gs,x::r=>match vN a gs r with
  |some l=>some (x::l)
  |none=>none
 |none::_,_,[]=>none
def Eh(a:Nat):List QR->List Nat->Option Q2
 |[],r=>some r
 |some i::b,r=>bif Nat.blt i a then(match Eh a b r with
  |some l=>some (i::l)
  |none=>none)else none
 |none::b,x::r=>match Eh a b r with
  |some l=>some (x::l)
  |none=>none
 |none::_,[]=>none
def IK(a:Nat)(l:Q2):List QR->Bool
 |[]=>true
 |none::b=>IK a l b
 |some i::b=>Nat.blt i a&&((match l[i]? with|some m=>Nat.beq m i|none=>false)&&IK a l b)
def Ub(a:Nat)(l:Q2):K0->Bool
 |[]=>true
 |p::ps=>IK a l p.2.al&&Ub a l ps
def adA{val:Wa}:∀{l:Q2}{gs:Q1},valsOf val l=some gs->∀(i m:Nat),l[i]? =some m->gs[i]? =val m
 |[],gs,h,i,m,a=>by simp at a
 |x::l,gs,h,i,m,a=>by
  simp only[valsOf]at h;split at h
  ·next g r h5 h6=>
   cases h;cases i with
   |zero=>simp at a;subst a;simp[h5]
   |succ i=>simpa using adA h6 i m (by simpa using a)
  ·cases h
def Ve{k:Nat}{gs b e:Q1}(a:b=gs++e)(q:gs.length=k):∀{j:List QR}{l d:Q2}{r:Q1},Eh k j l=some d->valsOf (λn=>b[n]?) l=some r->∃rest,valsOf (λn=>b[n]?) d=some rest/\vN j gs r=some rest
 |[],l,d,r,h,c=>by simp only[Eh,aY]at h;subst h;exact⟨r,c,rfl⟩
 |some i::j,l,d,r,h,c=>by
  simp only[Eh]at h;cases m:Nat.blt i k with
  |false=>rw[m]at h;cases h
  |true=>
   rw[m]at h;simp only[cond_true]at h;rw[jB]at m;split at h
   ·next s o=>
    cases h;obtain⟨rest,p,h5⟩:=Ve a q o c;have hi:b[i]? =some (gs[i]'(by omega)):=by rw[a,og (by omega),bT (by omega)]
    refine⟨gs[i]'(by omega)::rest,?_,?_⟩
    ·simp only[valsOf,hi,p]
    ·simp only[vN,h5,bT (show i<gs.length by omega)]
   ·cases h
 |none::j,[],d,r,h,c=>by simp[Eh]at h
 |none::j,x::l,d,r,h,c=>by
  simp only[Eh]at h;split at h
  ·next s o=>
   cases h;simp only[valsOf]at c;split at c
   ·next g v t u=>
    cases c;obtain⟨rest,p,h5⟩:=Ve a q o u;exact⟨g::rest,by simp only[valsOf,t,p],by simp only[vN,h5]⟩
   ·cases c
  ·cases h
def ZX{k:Nat}{gs b e c:Q1}(a:b=gs++e)(o:gs.length=k){l:Q2}(g:valsOf (λn=>b[n]?) l=some c):∀{d:List QR},IK k l d=true->∀r,vN d c r=vN d gs r
 |[],_,r=>rfl
 |none::d,h,[]=>rfl
 |none::d,h,x::r=>by simp only[IK]at h;simp only[vN,ZX a o g h r]
 |some i::d,h,r=>by
  simp only[IK,aK,jB]at h;obtain⟨h1,j,p⟩:=h;split at j
  ·next m q=>
   have:=bK j;subst this;have s:c[m]? =gs[m]?:=by
    rw[adA g m m q];show b[m]? =gs[m]?
    rw[a,og (by omega)]
   simp only[vN,ZX a o g p r,s]
  ·cases j
def aeM{c:Nat}{l:Q2}:∀{a:K0},Ub c l a=true->∀p∈a,IK c l p.2.al=true
 |q::a,h,p,b=>by
  simp only[Ub,aK]at h;rcases bH.1 b with rfl|b
  ·exact h.1
  ·exact aeM h.2 p b
def wH(P:Program)(tabs:Qt)(b:Code)(d:iD)(c:K0)(gs g:Q1):Prop:=
 ∃(t:Nat)(r a:Q1)(e:fG)(s:iD),g=GV.i .i64 t::r/\c[t]? =some (e,s)/\vN s.al gs r=some a/\a.length=s.np/\∀w0 h A w K,TA P tabs d gs w0 h A w->(∀i j,TA P tabs s a w0 h i j->K e.toExit i j)->BL P b K A w
def abP{T:aH}{tag:Nat}{d:Nat}(g:T.val tag=some (.i .i64 (d:Nat))):∀(l:K0)(t:Nat){p:fG×iD},@Kz T.togY tag l t=some p->t<=d->∀q,l[d-t]? =some q->p=q
 |[],t,p,h,_,q,a=>by simp[Kz]at h
 |[x],t,p,h,k,q,a=>by
  simp only[Kz,aY]at h;cases j:d-t with
  |zero=>rw[j]at a;simp at a;rw[<-h,a]
  |succ n=>rw[j]at a;simp at a
 |x::y::l,t,p,h,k,q,a=>by
  letI:=T
  simp only[Kz]at h;split at h
  ·next c z=>
   split at h
   ·next b A=>
    obtain⟨D,B,s⟩:=gU z;simp only[Nd.den,aY]at s;subst s;obtain⟨u,v,m⟩:=gU A;have o:aH.val tag=some (.i .i64 (d:Nat)):=g;simp only[Nd.den,o,B,iJ,if_true,bV,aY]at m;split at h
    ·next j=>
     cases h;have:=T.CO b true (Qd j);have i:T.val b=some u:=v;rw[i]at this;cases this;simp at m;have:d-t=0:=by omega
     rw[this]at a;simpa using a
    ·next j=>
     have:=T.CO b false (Qd j);have i:T.val b=some u:=v;rw[i]at this;cases this;simp at m;have e:d-t=(d-(t+1))+1:=by omega
     rw[e,wE]at a;exact abP g (y::l) (t+1) h (by omega) q a
    ·cases h
   ·cases h
  ·cases h
def Rh{T:aH}{d:Nat}{ps:Q2}{gs e:Q1}(b:valsOf T.val ps=some gs)(v:T.I d gs=some e):∀(n j:Nat)(p:List QR){o:Q2}{r rest:Q1},(∀k:Nat,r[k]? =e[j+k]?)->vN p gs r=some rest->@Di T.togY d ps p j n=some o->o.length=n/\∀(i m:Nat),o[i]? =some m->T.val m=rest[i]?
 |0,j,p,o,r,rest,_,_,h=>by
  letI:=T
  have:o=[]:=by unfold Di at h;simpa using h.symm
  subst this;simp
 |n+1,j,some M::p,o,r,rest,q,a,h=>by
  letI:=T
  simp only[Di]at h;simp only[vN]at a;split at a
  ·next g l N E=>
   cases a;split at h
   ·next m L y c=>
    cases h;obtain⟨z,A⟩:=Rh b v n j p q E c;refine⟨by simp[z],λi B hi=>?_⟩;cases i with
    |zero=>simp at hi;subst hi;have:=adA b M m y;rw[kX,<-N];exact this.symm
    |succ i=>simpa using A i B (by simpa using hi)
   ·cases h
  ·cases a
 |n+1,j,none::p,o,[],rest,q,a,h=>by simp[vN]at a
 |n+1,j,none::p,o,x::r,rest,q,a,h=>by
  letI:=T
  simp only[Di]at h;simp only[vN]at a;split at a
  ·next l E=>
   cases a;split at h
   ·next m L y c=>
    cases h;obtain⟨z,A⟩:=Rh b v n (j+1) p (r:=r) (λk=>by have:=q (k+1);rw[wE]at this;rw[this];congr 1;omega) E c
    refine⟨by simp[z],λi B hi=>?_⟩;cases i with
    |zero=>simp at hi;subst hi;obtain⟨g,I,D⟩:=gU y;have s:valsOf aH.val ps=some gs:=b;have t:aH.I d gs=some e:=v;simp only[Nd.den,s,t]at D;have u:T.val m=some g:=I;have:=q 0;simp only[kX,oL]at this;rw[u,kX,this];exact D.symm
    |succ i=>simpa using A i B (by simpa using hi)
   ·cases h
  ·cases a
 |n+1,j,[],o,r,rest,q,a,h=>by
  letI:=T
  simp only[Di]at h;simp only[vN,aY]at a;subst a;split at h
  ·next m L y c=>
   cases h;obtain⟨z,A⟩:=Rh b v n (j+1) [] (r:=r.tail) (λk=>by have:=q (k+1);rw[List.getElem?_tail,this];congr 1;omega) rfl c
   refine⟨by simp[z],λi B hi=>?_⟩;cases i with
   |zero=>simp at hi;subst hi;obtain⟨g,I,D⟩:=gU y;have s:valsOf aH.val ps=some gs:=b;have t:aH.I d gs=some e:=v;simp only[Nd.den,s,t]at D;have u:T.val m=some g:=I;have:=q 0;rw[oL]at this;rw[u,this];exact D.symm
   |succ i=>have:=A i B (by simpa using hi);rw[this,List.getElem?_tail]
  ·cases h
def aa1{T:aH}{tabs:Qt}(O:T.tabs=tabs)(o:wK tabs P.globals.size){n:aJ}(x:n.pre.ok=true){b:Code}(Y:∀gs d,T.I n.key gs=some d->wH P tabs b n.pre n.posts gs d)
 {a R:bG} {J J':aA} {e:fG} (h:@aa0 T.togY P tabs n a J=some (e,R,J')) {Q:fG->bG->aA->Prop} (Z:Q e R J'):@DL T P b a J Q:=by
 letI:=T
 unfold aa0 at h;split at h
 ·next ps aa=>
  split at h
  ·next c=>
   split at h
   ·next tag p=>
    split at h
    ·next e' s i=>
     split at h;rotate_left
     ·cases h
     next l=>
     have l:=bK l;split at h
     ·next v y=>
      cases h;obtain⟨gt,t1,m⟩:=gU p;simp only[Nd.den]at m;split at m
      ·next gs q=>
       split at m
       ·next d V=>
        obtain⟨t,r,W,e2,s2,rfl,z,B,ab,u⟩:=Y gs d V;simp only[kX,aY]at m;subst m;have D:=abP t1 n.posts 0 i (tJ _) (e2,s2) (by simpa using z);cases D;obtain⟨n1,n2⟩:=Rh q V _ 1 s.al (r:=r) (λk=>by rw[LD,wE]) B y;intro w0 eH F w A K hF hl ht hK;unfold fits at c;rw[aK]at c;have E:=abg O o x hF hl ht c.2 q;refine u w0 eH A w K E λA' w' I=>?_;obtain⟨F',L,M⟩:=acZ (T:=T) (f:=λj=>v.getD j 0) O l.symm (λj g X=>by
         have N:j<v.length:=by have:=(fM.1 X).1;omega
         have hm:v[j]? =some (v.getD j 0):=by rw[zC,bT N];rfl
         rw[n2 j _ hm];exact X) I
        exact hK e _ _ F' A' w' Z L rfl M
       ·cases m
      ·cases m
     ·cases h
    ·cases h
   ·cases h
  ·cases h
 ·cases h
def adz{val:Wa}:∀{l:Q2}{gs:Q1},valsOf val l=some gs->gs.length=l.length
 |[],gs,h=>by simp only[valsOf,aY]at h;subst h;rfl
 |x::l,gs,h=>by
  simp only[valsOf]at h;split at h
  ·next h5 h6=>cases h;simp[adz h6]
  ·cases h
def fG.eq:fG->fG->Bool
 |.normal,.normal=>true
 |.ret,.ret=>true
 |.exit a,.exit b=>Nat.beq a b
 |_,_=>false
def fG.eq_of{a b:fG}(h:a.eq b=true):a=b:=by
 cases a<;>cases b<;>first|rfl|(cases h;done)|skip
 rw[bK h]
abbrev mF:=gY->List (FuncId×dZ)
def zF(P:Program)(tabs:Qt)(I:iO)(pl:mF):Prop:=∀T:aH,T.tabs=tabs->T.I=I->∀p∈pl T.togY,@dO T P p.1 p.2
def KF(P:Program)(N:gY)(pl:mF)(fuel:Nat):Code->bG->aA->Option (fG×bG×aA):=@FV N P (YP P) (acy (pl N)) fuel
def Fj(P:Program)(tabs:Qt)(N:gY)(b:Ww):YD:=λk a J=>match dL k b with
 |some c=>@aa0 N P tabs c a J
 |none=>none
def Wp(P:Program)(tabs:Qt)(pl:mF)(b:Ww)(fuel:Nat)(a:aJ)(i:AC)(c:List Nd)(d:Wg)(k:Leaf):Bool:=
 match @xR ⟨c,d,a.pre.ka⟩ (Fj P tabs ⟨c,d,a.pre.ka⟩ b) (KF P ⟨c,d,a.pre.ka⟩ pl fuel) i (a.pre.TW λj=>j) (a.pre.Fh tabs λj=>j)with
 |some (e,g,h)=>match k with
  |.ret (m::l)=>match c[m]? with
   |some (.ci .i64 t)=>match a.posts[t.toNat]? with
    |some (n,s)=>decide (0<=t)&&!(e.eq .normal)&&e.eq n&&s.ok&&(match Eh a.pre.np s.al l with|some o=>@fits ⟨c,d,a.pre.ka⟩ P s g h o|none=>false)
    |none=>false
   |_=>false
  |.tail f l=>Nat.beq f a.key&&e.eq .normal&&(Ub a.pre.np l a.posts&&@fits ⟨c,d,a.pre.ka⟩ P a.pre g h l)
  |_=>false
 |none=>false
@[reducible] def Tw(tabs:Qt)(I:iO)(ka:Nat){b:List Nd}{c:Wg}{a:Q1}(h:D5 I b c a):aH:={nodes:=b,dec:=c,ka:=ka,tabs:=tabs,I:=I,val:=λn=>a[n]?,sH:=h.node,CO:=h.dec}
def D5.start(I:iO)(gs:Q1)(n:Nat)(h:gs.length=n):D5 I (List.replicate n .arg) [] gs:=
 ⟨by simp[h],λk e a c=>absurd (aek.1 (rQ a)).2 c,λk b d=>by simp at d⟩
def acR{T:aH}(a:P.follows .mixedOrders=true)(b:xK P){pl:mF}(c:∀p∈pl T.togY,@dO T P p.1 p.2)(fuel:Nat):@Pg T P (KF P T.togY pl fuel):=
 (@afN T P _ _ (ags a) (akl c) b fuel).1
def wH.Q5{tabs:Qt}(p:wK tabs P.globals.size)(hm:P.follows .mixedOrders=true)(hn:xK P){pl:mF}{I:iO}(aa:zF P tabs I pl){h:Ww}{fuel:Nat}{m:aJ}(ab:m.pre.ok=true){ps:Q2}{b:Code}{t:Tree}
 (Jz:∀k i,dL k h=some i->i.pre.ok=true/\∀c,(oq ps b).ql k c->∀gs d,I i.key gs=some d->wH P tabs c i.pre i.posts gs d)
 (B:∀gs d,I m.key gs=some d->wH P tabs b m.pre m.posts gs d)
 (A8:t.chk (Wp P tabs pl h fuel m (oq ps b)) (List.replicate m.pre.np .arg) []=true) {gs d:Q1} (q:gs.length=m.pre.np) (hd:t.den I gs=some d):wH P tabs b m.pre m.posts gs d:=by
 obtain⟨ns,ds,O,lf,o,h2,⟨an,h3⟩,R⟩:=Tree.MG t A8 (D5.start I gs _ q) hd;let T:aH:=Tw tabs I m.pre.ka h2
 unfold Wp at o;split at o
 ·next e a' J' V=>
  have Nk:∀Q:fG->bG->aA->Prop,Q e a' J'->@AT T P b (m.pre.TW λj=>j) (m.pre.Fh tabs λj=>j) Q:=by
   intro Q hq;have:=@YT P T (Fj P tabs ⟨ns,ds,m.pre.ka⟩ h) (KF P ⟨ns,ds,m.pre.ka⟩ pl fuel) (acR (T:=T) hm hn (aa T rfl rfl) fuel) (oq ps b) (zI ps b 0).2 (λk c hk a J Z a1 J1 hs Q' ac=>by
    unfold Fj at hs;split at hs
    ·next i ad=>
     obtain⟨k1,k2⟩:=Jz k i ad;exact aa1 (T:=T) rfl p k1 (λgs d hI=>k2 c hk gs d hI) hs ac
    ·cases hs) _ _ _ _ _ V Q hq
   rwa [show(oq ps b).erase=b from(zI ps b 0).1]at this
  have x:∀j g,gs[j]? =some g->T.val ((λj=>j) j)=some g:=by
   intro j g hj;show O[j]? =some g
   rw[h3];have:=(fM.1 hj).1;rw[og this];exact hj
  split at o
  ·next tn l=>
   split at o
   ·next tt ae=>
    split at o
    ·next e' s D=>
     simp only[aK,decide_eq_true_iff]at o;obtain⟨⟨⟨⟨t0,t1⟩,t2⟩,W⟩,y⟩:=o;split at y;rotate_left
     ·cases y
     next l2 af=>
     have Z:=fG.eq_of t2;subst Z;simp only[valsOf]at R;split at R
     ·next g r hg ag=>
      cases R;obtain⟨g',k1,k2⟩:=h2.node tn _ ae (by simp);have ai:O[tn]? =some g:=hg;rw[ai]at k1;cases k1;simp only[Nd.den,aY]at k2;subst k2;obtain⟨n,u,ak⟩:=Ve h3 q af ag;have al:n.length=s.np:=by unfold fits at y;rw[aK]at y;rw[<-bK y.1];exact adz u
      refine⟨tt.toNat,r,n,e,s,by rw[Il t0],D,ak,al,λw0 eH A w K hS hK=>BL.step ?_⟩;obtain⟨F,hF,ht⟩:=acZ (T:=T) (f:=λj=>j) rfl rfl x hS;refine Nk (λv X Y=>v=e/\X=a'/\Y=J') ⟨rfl,rfl,rfl⟩ w0 eH F w A _ hF rfl ht ?_;rintro v X Y F' A' w' ⟨rfl,rfl,rfl⟩ E L M
      unfold fits at y;rw[aK]at y;have N:=abg (T:=T) rfl p W E L M y.2 u;have:=hK A' w' N;cases v with
      |normal=>simp[fG.eq]at t1
      |exit id=>exact this
      |ret=>exact this
     ·cases R
    ·cases o
   ·cases o
  ·next f l=>
   simp only[aK]at o;obtain⟨⟨t1,t2⟩,t5,W⟩:=o;have Z:=fG.eq_of t2;subst Z;have v:=bK t1;subst v;obtain⟨am,z,hI⟩:=R;obtain⟨tn,r,n,v,s,r1,r2,r5,r3,r4⟩:=B am d hI;refine⟨tn,r,n,v,s,r1,r2,by rw[<-ZX h3 q z (aeM t5 _ (rQ r2)) r];exact r5,r3,λw0 eH A w K hS hK=>BL.step ?_⟩;obtain⟨F,hF,ht⟩:=acZ (T:=T) (f:=λj=>j) rfl rfl x hS;refine Nk (λv X Y=>v=.normal/\X=a'/\Y=J') ⟨rfl,rfl,rfl⟩ w0 eH F w A _ hF rfl ht ?_;rintro e3 X Y F' A' w' ⟨rfl,rfl,rfl⟩ E L M
   unfold fits at W;rw[aK]at W;have N:=abg (T:=T) rfl p ab E L M W.2 z;exact r4 w0 eH A' w' K N hK
  ·cases o
 ·cases o
structure oZ(P:Program)(tabs:Qt)(f:FuncId)(st:W6)(sh:WK)(gs out:Q1):Prop where
 call:amL P tabs f st gs out
 fits:oW sh out=true
section
variable[gY]
def UF(P:Program)(J:aA)(fz:Q2)(a:AV):QR:=
 match NS P J a with
 |some (m,none)=>some m
 |some (m,some _)=>if Vu P J fz a m then some m else none
 |none=>none
def P5(P:Program)(J:aA)(fz:Q2):Q3->Option Q2
 |[]=>some []
 |a::l=>match UF P J fz a,P5 P J fz l with
  |some m,some r=>some (m::r)
  |_,_=>none
def Yb(P:Program)(J:aA)(fz:Q2):AV->Option Nat
 |.agg l=>match P5 P J fz l with
  |some b=>fQ (.mk b)
  |none=>none
 |a=>UF P J fz a
def valsN(P:Program)(J:aA)(fz:Q2):Q3->Option Q2
 |[]=>some []
 |a::l=>match Yb P J fz a,valsN P J fz l with
  |some m,some r=>some (m::r)
  |_,_=>none
def ahc(P:Program)(J:aA)(a:AV):Q2:=match NS P J a with
 |some (_,some id)=>[id]
 |_=>[]
def En(P:Program)(J:aA):Q3->List Nat
 |[]=>[]
 |.agg l::r=>l.flatMap (ahc P J)++En P J r
 |a::r=>ahc P J a++En P J r
def WU(k:Nat)(a:Q2)(j:Nat):pq->Option AV
 |.sc=>lu (.call k a j)
 |.ag n=>match fQ (.call k a j)with
  |some m=>(Jd m 0 n).map .agg
  |none=>none
def Kt(k:Nat)(b:Q2):Nat->List pq->Option Q3
 |_,[]=>some []
 |j,s::l=>match WU k b j s,Kt k b (j+1) l with
  |some a,some r=>some (a::r)
  |_,_=>none
def WW(P:Program)(k:Nat)(st:W6)(b:WK):dZ:=λc J=>match Dy st c with
 |none=>none
 |some args=>
 let fz:=En P J args
 if fz.all (Nat.ble J.lock ·)then
  match valsN P J fz args with
  |some d=>match Kt k d 0 b with
   |some (a::l)=>some (KQ (a::l),kills J fz)
   |_=>none
  |none=>none
 else none
end
def aai{T:aH}{F:Env}{J:aA}{w:World}(h:@SR T P F J w):∀fz:Q2,(∀id∈fz,J.lock<=id)->∃dF,(∀b o,F.ro b=some o->dF b=some o)/\@St T P F J w ⟨F.pl,dF,F.gh⟩ (kills J fz) w/\
 (∀id∈fz,∀o q,J.get id=some o->o.own=true->F id=some q->dF q.bl=w.heap[q.bl]?)
 |[],_=>⟨F.ro,λ_ _ h=>h,@St.refl T _ _ _ _ h,by simp⟩
 |id::fz,l=>by
  letI:=T
  obtain⟨dF,u,p,s⟩:=aai h fz (λk z=>l k (yK _ z));by_cases v:∃o q,(kills J fz).get id=some o/\o.own=true/\F id=some q
  ·obtain⟨o,q,A,m,x⟩:=v;have t:=St.freeze p.rel A m (by rw[Nz];exact l id (by simp)) (show(⟨F.pl,dF,F.gh⟩:Env) id=some q from x);refine⟨Hu dF w q.bl,λb o B=>Xl p.rel.jl q.bl b o (u b o B),p.trans t,?_⟩;intro d i n j g a c;show(if j.bl=q.bl then w.heap[q.bl]? else dF j.bl)=_
   split
   ·next e=>rw[e]
   ·next e=>
    rcases bH.1 i with rfl|i
    ·rw[x]at c;cases c;exact absurd rfl e
    ·exact s d i n j g a c
  ·refine⟨dF,u,p.V9 id,?_⟩;intro d i n j g a c;rcases bH.1 i with rfl|i
   ·by_cases y:d∈fz
    ·exact s d y n j g a c
    ·exact absurd ⟨n,j,by rw[EC,ah y];exact g,a,c⟩ v
   ·exact s d i n j g a c
section
variable{T:aH}{tabs:Qt}{G next:Nat}{F:Env}{J:aA}{w:World}{fz:Q2}{r:W7}{ps:Q2}{gs:Q1}{dF:Qf}
def ayx{a:AV}{m:Nat}(h:@NS T.togY P J a=some (m,none)):@jg T.togY a=some m:=by
 letI:=T
 unfold NS at h;split at h
 ·next b c=>cases h;exact c
 ·split at h
  ·split at h<;>cases h
  ·split at h
   ·obtain⟨b,_,e⟩:=bC.1 h;cases e
   ·cases h
  ·cases h
def afw(C:xJ T P tabs G next F J w fz r ps gs dF){a:AV}{m:Nat}{v:Value}(h:@UF T.togY P J fz a=some m)(s:@VR T F a v):∃g,T.val m=some g/\g.scalar=true/\GR dF g v:=by
 letI:=T
 unfold UF at h;split at h
 ·next t b=>
  cases h;obtain⟨g,k,l,u⟩:=ng (ayx b) s;exact⟨g,k,l,GR.mono C.vZ _ _ u⟩
 ·next t id b=>
  split at h
  ·next x=>
   cases h;have j:∃g,T.val m=some g:=by
    unfold NS at b;split at b
    ·cases b
    ·split at b
     ·next y n=>
      split at b
      ·next z A f i=>
       cases b;rcases C.rel.live _ _ i with⟨q,L,o⟩|⟨_,M,N,O,B,p⟩
       ·obtain⟨Q,D,_⟩:=o.NK;exact⟨_,D⟩
       ·cases B;exact⟨_,p⟩
      ·cases b
     ·split at b
      ·next c A R E i=>
       obtain⟨z,d,e⟩:=bC.1 b;cases e;unfold listOf at d;simp only[i]at d;split at d
       ·split at d
        ·split at d
         ·split at d
          ·obtain⟨g,I,_⟩:=gU d;exact⟨g,I⟩
          ·cases d
         ·cases d
        ·cases d
       ·cases d
      ·cases b
     ·cases b
   obtain⟨g,i⟩:=j;obtain⟨k,l⟩:=ag8 C x s i;exact⟨g,i,k,l⟩
  ·cases h
 ·cases h
def afB(C:xJ T P tabs G next F J w fz r ps gs dF):∀{l:Q3}{d:Q2}{vs:Q6},@P5 T.togY P J fz l=some d->@aC T F l vs->∃b,valsOf T.val d=some b/\b.all GV.scalar=true/\aS dF b vs
 |[],d,vs,h,c=>by simp only[P5,aY]at h;subst h;simp only[aC]at c;subst c;exact⟨[],rfl,rfl,by simp[aS]⟩
 |a::l,d,vs,h,c=>by
  letI:=T
  simp only[P5]at h;split at h
  ·next m v e i=>
   cases h;simp only[aC]at c;obtain⟨x,j,rfl,k,n⟩:=c;obtain⟨g,o,p,q⟩:=afw C e k;obtain⟨b,s,t,u⟩:=afB C i n;exact⟨g::b,by simp only[valsOf,o,s],by simp[p,t],by simp only[aS];exact⟨x,j,rfl,q,u⟩⟩
  ·cases h
def aFu(C:xJ T P tabs G next F J w fz r ps gs dF){a:AV}{m:Nat}{v:Value}(h:@Yb T.togY P J fz a=some m)(e:@VR T F a v):∃g,T.val m=some g/\GR dF g v/\(match a with|.agg l=>∃b,g=.g b/\b.length=l.length|_=>g.scalar=true):=by
 letI:=T
 cases a;case agg l=>
  simp only[Yb]at h;split at h
  ·next o i=>
   simp only[VR]at e;obtain⟨p,rfl,c⟩:=e;obtain⟨b,q,s,n⟩:=afB C i c;obtain⟨g,j,d⟩:=gU h;have k:valsOf aH.val o=some b:=q;simp only[Nd.den,k,s,if_true,aY]at d;subst d;exact⟨_,j,by simp only[GR];exact⟨p,rfl,n⟩,b,rfl,by rw[n.length,c.length]⟩
  ·cases h
 all_goals
  simp only[Yb]at h;obtain⟨g,j,d,t⟩:=afw C h e;exact⟨g,j,t,d⟩
def ady(C:xJ T P tabs G next F J w fz r ps gs dF):∀{l:Q3}{c:Q2}{vs:Q6},@valsN T.togY P J fz l=some c->@aC T F l vs->∃d,valsOf T.val c=some d/\aS dF d vs
 |[],c,vs,h,b=>by simp only[valsN,aY]at h;subst h;simp only[aC]at b;subst b;exact⟨[],rfl,by simp[aS]⟩
 |a::l,c,vs,h,b=>by
  letI:=T
  simp only[valsN]at h;split at h
  ·next m t e i=>
   cases h;simp only[aC]at b;obtain⟨x,j,rfl,k,n⟩:=b;obtain⟨g,o,p,_⟩:=aFu C e k;obtain⟨d,q,s⟩:=ady C i n;exact⟨g::d,by simp only[valsOf,o,q],by simp only[aS];exact⟨x,j,rfl,p,s⟩⟩
  ·cases h
def abB{k:Nat}{A:Q2}{B e:Q1}(p:valsOf T.val A=some B)(E:T.I k B=some e){F':Env}:∀{I:WK}{j:Nat}{l:Q3}{D:Q6}{rest:Q1},@Kt T.togY k A j I=some l->oW I rest=true->(∀i,rest[i]? =e[j+i]?)->aS F'.ro rest D->@aC T F' l D
 |[],j,l,D,rest,h,d,L,q=>by
  cases rest with
  |cons a b=>simp[oW]at d
  |nil=>simp only[Kt,aY]at h;subst h;simp only[aS]at q;subst q;simp[aC]
 |s::I,j,l,D,rest,h,d,L,q=>by
  letI:=T
  cases rest with
  |nil=>cases s<;>simp[oW]at d
  |cons g rest=>
   simp only[Kt]at h;split at h
   ·next a r' t v=>
    cases h;simp only[aS]at q;obtain⟨u,x,rfl,M,W⟩:=q;have X:=L 0;simp only[kX,oL]at X;have o:(Nd.call k A j).den aH.I aH.val=some g:=by have N:valsOf aH.val A=some B:=p;have O:aH.I k B=some e:=E;simp only[Nd.den,N,O];exact X.symm
    have c:∀i,rest[i]? =e[j+1+i]?:=λi=>by have:=L (i+1);rw[wE]at this;rw[this];congr 1;omega
    cases s with
    |sc=>simp only[oW,aK]at d;refine⟨u,x,rfl,?_,abB p E v d.2 c W⟩;obtain⟨_,g',_,y,k3⟩:=nV (F:=F') t;rw[o]at y;cases y;exact k3 u d.1 M
    |ag n=>
     simp only[oW,aK]at d;refine⟨u,x,rfl,?_,abB p E v d.2 c W⟩;simp only[WU]at t;split at t
     ·next m hm=>
      obtain⟨l',Q,rfl⟩:=bC.1 t;obtain⟨g',k1,y⟩:=gU hm;rw[o]at y;cases y;obtain⟨aa,h5,h6⟩:=UH (F:=F') k1 n 0 Q;cases g with
      |g Y=>have z:=bK d.1.2;simp only[GR]at M;obtain⟨Z,rfl,R⟩:=M;simp only[VR];refine⟨Z,rfl,h6 Z ?_⟩;obtain⟨e1,e2,_⟩:=uo h5;have V:Y.length=n:=z;rw[e1,dN,lG (by rw[nG];show Y.length<=n;omega)];exact(qj _ _).1 R
      |_=>simp[GV.scalar]at d
     ·cases t
   ·cases h
def al3{T:aH}{F:Env}{l:Q3}{d:Q6}(h:@aC T F l d):@VR T F (KQ l) (DF d):=by
 letI:=T
 have c:=h.length;match l,d,h,c with
 |[a],[u],h,_=>simp only[aC]at h;obtain⟨x,i,e,g,j⟩:=h;cases e;exact g
 |[],[],h,_=>show VR F (.fB []) (.tuple ⟨[]⟩);simp only[VR];exact⟨_,rfl,h⟩
 |a::b::l,u::k::d,h,_=>show VR F (.fB _) (.tuple ⟨_⟩);simp only[VR];exact⟨_,rfl,h⟩
 |[],_::_,_,c=>simp at c
 |[_],[],_,c=>simp at c
 |[_],_::_::_,_,c=>simp at c
 |_::_::_,[],_,c=>simp at c
 |_::_::_,[_],_,c=>simp at c
def ajC{f:FuncId}{k:Nat}{st:W6}{q:WK}(V:∀gs a,T.I k gs=some a->oZ P T.tabs f st q gs a):@dO T P f (@WW T.togY P k st q):=by
 letI:=T
 intro Pq J rr J' c F w W O x;unfold WW at c;split at c
 ·cases c
 next args y=>
 obtain⟨X,rfl,Y⟩:=X3 y x;simp only at c;split at c
 ·next z=>
  have Z:∀id∈En P J args,J.lock<=id:=λid A=>vC (List.all_eq_true.1 z id A);split at c
  ·next Q B=>
   split at c
   ·next a0 l o=>
    cases c;obtain⟨dF,f1,D,f3⟩:=aai O (En P J args) Z;have C:xJ T P T.tabs P.globals.size (P.globals.size+1) F J w (En P J args) [] [] [] dF:=⟨O,rfl,f1,f3,rfl,DW _⟩
    obtain⟨t,R,k2⟩:=ady C B Y;have u:∃a,T.I k t=some a:=by
     have d:∀{m g},fQ (.call k Q 0)=some m->aH.val m=some g->∃a,T.I k t=some a:=by
      intro m g e hg;obtain⟨g',_,d2⟩:=gU e;have E:valsOf aH.val Q=some t:=R;simp only[Nd.den,E]at d2;split at d2
      ·next r hr=>exact⟨r,hr⟩
      ·cases d2
     cases q with
     |nil=>simp[Kt]at o
     |cons s q=>
      simp only[Kt]at o;split at o
      ·next a1 r1 b _=>
       cases s with
       |sc=>
        simp only[WU,lu]at b;split at b
        ·next m e=>obtain⟨g,I,_⟩:=gU e;exact d e I
        ·cases b
       |ag n=>
        simp only[WU]at b;split at b
        ·next m e=>obtain⟨g,I,_⟩:=gU e;exact d e I
        ·cases b
      ·cases o
    obtain⟨a,u⟩:=u;obtain⟨h,p⟩:=V t a u;refine lZ.mono (h dF w X D.rel.Xn k2) ?_;rintro v w' ⟨j,L,us,rfl,M⟩
    have N:=St.ayi (ro':=j) D.rel L;refine⟨_,D.trans N,al3 (abB R u (F':=⟨F.pl,j,F.gh⟩) o p (λi=>by simp) M)⟩
   ·cases c
  ·cases c
 ·cases c
def acO:WK->List AV->Bool
 |[],[]=>true
 |.sc::l,a::m=>(match a with|.agg _=>false|_=>true)&&acO l m
 |.ag n::l,a::m=>(match a with|.agg c=>Nat.beq c.length n|_=>false)&&acO l m
 |_,_=>false
section
variable[gY]
def IU:Nat->List pq->Option Q3
 |_,[]=>some []
 |j,.sc::l=>match IU (j+1) l with
  |some r=>some (.nd j::r)
  |none=>none
 |j,.ag n::l=>match Jd j 0 n,IU (j+1) l with
  |some c,some r=>some (.agg c::r)
  |_,_=>none
end
def Y3{F:Env}:∀{p:WK}{j:Nat}{l:Q3}{vs:Q6}{rest:Q1},@IU T.togY j p=some l->oW p rest=true->(∀i g,rest[i]? =some g->T.val (j+i)=some g)->aS F.ro rest vs->@aC T F l vs
 |[],j,l,vs,rest,h,e,q,m=>by
  cases rest with
  |cons a b=>simp[oW]at e
  |nil=>simp only[IU,aY]at h;subst h;simp only[aS]at m;subst m;simp[aC]
 |s::p,j,l,vs,rest,h,e,q,m=>by
  letI:=T
  cases rest with
  |nil=>cases s<;>simp[oW]at e
  |cons g rest=>
   simp only[aS]at m;obtain⟨u,y,rfl,t,z⟩:=m;have A:=q 0 g (by simp);have d:∀i g,rest[i]? =some g->T.val (j+1+i)=some g:=λi g hi=>by have:=q (i+1) g (by simpa using hi);rw[<-this];congr 1;omega
   cases s with
   |sc=>
    simp only[IU]at h;split at h
    ·next D k=>
     cases h;simp only[oW,aK]at e;exact⟨u,y,rfl,by simp only[VR];exact⟨g,A,e.1,t⟩,Y3 k e.2 d z⟩
    ·cases h
   |ag n=>
    simp only[IU]at h;split at h
    ·next c D E k=>
     cases h;simp only[oW,aK]at e;refine⟨u,y,rfl,?_,Y3 k e.2 d z⟩;obtain⟨I,L,M⟩:=UH (F:=F) A n 0 E;cases g with
     |g B=>have o:=bK e.1.2;simp only[GR]at t;obtain⟨vs,rfl,v⟩:=t;simp only[VR];refine⟨vs,rfl,M vs ?_⟩;obtain⟨N,O,_⟩:=uo L;have x:B.length=n:=o;rw[N,dN,lG (by rw[nG];show B.length<=n;omega)];exact(qj _ _).1 v
     |_=>simp[GV.scalar]at e
    ·cases h
def aa6(P:Program)(tabs:Qt)(pl:mF)(a:Ww)(fuel:Nat)(st:W6)(j k:WK)(b:Nat)(g:List ResultVar)(m:AC)(c:List Nd)(d:Wg)(o:Leaf):Bool:=
 match o with
 |.ret l=>match @IU ⟨c,d,0⟩ 0 j with
  |some args=>match @xR ⟨c,d,0⟩ (Fj P tabs ⟨c,d,0⟩ a) (KF P ⟨c,d,0⟩ pl fuel) m {t:=Az (yw st args) 0 .nil,n:=max (yw st args).length b,gn:=P.globals.size} ⟨qM (xC tabs),P.globals.size+1,0⟩with
   |some (e,p,h)=>(match e with|.exit _=>false|_=>true)&&match BU P h p g with
    |some i=>acO k i&&match @valsN ⟨c,d,0⟩ P h (@En ⟨c,d,0⟩ P h i) i with
     |some q=>y8 l q
     |none=>false
    |none=>false
   |none=>false
  |none=>false
 |_=>false
def XY(a:wK tabs P.globals.size)(c:T.tabs=tabs):@Au T ⟨qM (xC tabs),P.globals.size+1,0⟩ P.globals.size:=by refine⟨Nat.lt_succ_self _,λid o d=>?_⟩;have g:=QZ (show(qM (xC tabs)).get id=some o from d);obtain⟨p,b,e⟩:=rM.1 g;cases e;exact⟨p.2,rfl,by rw[c];exact b,a.low p b⟩
def oZ.Q5{tabs:Qt}(O:wK tabs P.globals.size)(hm:P.follows .mixedOrders=true)(hn:xK P){pl:mF}{I:iO}(ai:zF P tabs I pl){y:Ww}{fuel:Nat}{f:FuncId}{fn:Func}{c:Code}{Z:Q2}{st:W6}{yD zZ:WK}{t:Tree}
 (hf:P.funcs[f]? =some fn) (hc:fn.body=some c)
 (Jz:∀k z,dL k y=some z->z.pre.ok=true/\∀b,(oq Z c).ql k b->∀gs d,I z.key gs=some d->wH P tabs b z.pre z.posts gs d)
 (A8:t.chk (aa6 P tabs pl y fuel st yD zZ fn.ntmps fn.results.toList (oq Z c)) (List.replicate yD.length .arg) []=true) {gs d:Q1} (D:(aF.fn yD zZ t).den I gs=some d):oZ P tabs f st zZ gs d:=by
 simp only[aF.den]at D;split at D;rotate_left
 ·cases D
 next q=>
 split at D;rotate_left
 ·cases D
 next aL aa=>
 split at D;rotate_left
 ·cases D
 next ak=>
 cases D;have D:=aa;have ab:gs.length=yD.length:=by
  clear D aa A8;induction yD generalizing gs with
  |nil=>cases gs with|nil=>rfl|cons _ _=>simp[oW]at q
  |cons s sh ih=>cases gs with
   |nil=>cases s<;>simp[oW]at q
   |cons g gs=>cases s<;>simp only[oW,aK]at q<;>simp[ih q.2]
 obtain⟨ns,ds,R,lf,m,h2,⟨aE,h3⟩,h4⟩:=Tree.MG t A8 (D5.start I gs _ ab) D;let T:aH:=Tw tabs I 0 h2
 unfold aa6 at m;split at m
 ·next l=>
  split at m
  ·next args V=>
   split at m
   ·next e a' J' ac=>
    rw[aK]at m;obtain⟨he,m⟩:=m;split at m
    ·next rs al=>
     rw[aK]at m;obtain⟨aM,m⟩:=m;split at m
     ·next l' am=>
      have an:=abo m;subst an;have Nk:∀Q:fG->bG->aA->Prop,Q e a' J'->@AT T P c {t:=Az (yw st args) 0 .nil,n:=max (yw st args).length fn.ntmps,gn:=P.globals.size} ⟨qM (xC tabs),P.globals.size+1,0⟩ Q:=by
       intro Q hq;have:=@YT P T (Fj P tabs ⟨ns,ds,0⟩ y) (KF P ⟨ns,ds,0⟩ pl fuel) (acR (T:=T) hm hn (ai T rfl rfl) fuel) (oq Z c) (zI Z c 0).2 (λk b hk a J e1 a1 J1 hs Q' ao=>by
        unfold Fj at hs;split at hs
        ·next z ap=>
         obtain⟨k1,k2⟩:=Jz k z ap;exact aa1 (T:=T) rfl O k1 (λgs d hI=>k2 b hk gs d hI) hs ao
        ·cases hs) _ _ _ _ _ ac Q hq
       rwa [show(oq Z c).erase=c from(zI Z c 0).1]at this
      have ad:∀i g,gs[i]? =some g->T.val (0+i)=some g:=by
       intro j g hj;show R[0+j]? =some g
       rw[h3,lQ];have:=(fM.1 hj).1;rw[og this];exact hj
      have aq:∀E w vs,yP tabs E w->aS E gs vs->Calls P f ⟨yx st vs⟩ w λen A=>∃v,en=.returned v/\∃L,IE E L w A/\∃x,v=DF x/\aS L d x:=by
       intro E w vs B W;letI:=T
       have X:Au (⟨qM (xC tabs),P.globals.size+1,0⟩:aA) P.globals.size:=XY (T:=T) O rfl
       have ar:SR P (wV P.globals.size ⟨qM (xC tabs),P.globals.size+1,0⟩ E) ⟨qM (xC tabs),P.globals.size+1,0⟩ w:=
        LQ X.1 (λid o ho=>by obtain⟨c,rfl,ae,av⟩:=X.2 id o ho;obtain⟨cs,af,fr,k1,k2,k3⟩:=B.tab _ ae;exact⟨av,c,rfl,⟨cs,af,fr,B.at' _ _ k1,k2,k3⟩⟩) B.at' (λp hp=>B.tab p hp)
       have aw:aC (wV P.globals.size ⟨qM (xC tabs),P.globals.size+1,0⟩ E) (yw st args) (yx st vs):=Xe (Y3 (T:=T) V q ad W);refine calls_of_wp hf hc ?_;refine Nk (λe2 a2 J2=>e2=e/\a2=a'/\J2=J') ⟨rfl,rfl,rfl⟩ (.shut w) E (wV P.globals.size ⟨qM (xC tabs),P.globals.size+1,0⟩ E) w _ _ (kP.start ar X.own) rfl (ZT aw) ?_;rintro e2 a2 J2 F1 A' A ⟨rfl,rfl,rfl⟩ hF ax ht
       obtain⟨x,r1,r2⟩:=Rw hF.rel ht (fun|.tmp t=>pure (A'.tmps.getD t undef)|.cell a t=>do loadVar t (<-asAddr (A'.tmps.getD a undef))) (λ_=>rfl) (λ_ _=>rfl) _ _ al;obtain⟨dF,f1,f2,f3⟩:=Vt hF ax (@En ⟨ns,ds,0⟩ P J2 rs);have C:xJ T P tabs P.globals.size (P.globals.size+1) F1 J2 A (@En ⟨ns,ds,0⟩ P J2 rs) [] [] [] dF:=⟨hF.rel,rfl,f1,f3,rfl,DW _⟩
       obtain⟨gl,k1,k2⟩:=ady C am r2;have ay:gl=d:=by have ag:valsOf (λn=>R[n]?) l=some d:=h4;have az:valsOf (λn=>R[n]?) l=some gl:=k1;rw[az]at ag;cases ag;rfl
       subst ay;have M:(results fn A'.tmps).run P A=.ok (if h:(⟨x⟩:QQ).size=1 then(⟨x⟩:QQ)[0]else .tuple ⟨x⟩) A:=by unfold results;rw[Ym];simp only[aV,YH];exact uf (λr:Result Q6=>(r.andThen λa A=>Result.ok a.toArray A).andThen λa A=>Sem.run P (pure (if h:a.size=1 then a[0]else Value.tuple a)) A) r1
       have aD:(if h:(⟨x⟩:QQ).size=1 then(⟨x⟩:QQ)[0]else .tuple ⟨x⟩)=DF x:=by
        match x with
        |[]=>rfl
        |[u]=>rfl
        |u::u'::x=>rfl
       rw[aD]at M
       have N:A'.defers=[]/\∃v,(results fn A'.tmps).run P A=.ok v A/\∃v',Ending.returned v=.returned v'/\(∃L,IE E L w A/\∃x,v'=DF x/\aS L gl x):=
        ⟨ht.none,_,M,_,rfl,⟨dF,⟨hF.kept.shut,f2.vZ,f2.akJ,f2.rel.jl⟩,x,rfl,k2⟩⟩
       cases e2 with
       |normal=>exact N
       |ret=>exact N
       |exit id=>simp at he
      refine⟨λE w vs B W=>?_,?_⟩
      ·right;refine⟨?_,Calls.mono' (aq E w vs B W) ?_⟩
       ·have Y:=hn f fn c hf hc;simp only[callFunc,aV,program,Sem.run,aU,hf];simp only[Y,iw,if_false,hc,LM,bJ]
       ·rintro en A ⟨v,rfl,h5⟩
        exact⟨v,rfl,h5⟩
      ·exact ak
     ·cases m
    ·cases m
   ·cases m
  ·cases m
 ·cases m
end
end
open Go.RowKit
noncomputable section
variable{P:Program}
section
variable[gY]
end
def aS.plain{ro a:Qf}:∀{l:Q1}{vs:Q6},(∀g∈l,(∃x,g=.s x)\/∃k n,g=.i k n)->aS ro l vs->aS a l vs
 |[],vs,_,h=>h
 |g::l,vs,b,h=>by simp only[aS]at h⊢;obtain⟨x,xs,rfl,h1,c⟩:=h;refine⟨x,xs,rfl,?_,aS.plain (λg d=>b g (by simp[d])) c⟩;rcases b g (by simp)with⟨y,rfl⟩|⟨k,n,rfl⟩<;>exact h1
end
noncomputable section
variable{P:Program}
def iD.args(s:iD):Q3:=s.slots.map (·.2)
def OU(P:Program)(tabs:Qt)(s:iD)(gs:Q1)(w0:Base)(a:Qf)(vs:Q6)(w:World):Prop:=
 ∃F,@kP (Tg tabs gs s.ka) P w0 a F (s.st tabs) w/\@aC (Tg tabs gs s.ka) F s.args vs
def OX(P:Program)(tabs:Qt)(f:FuncId)(st:W6)(c:iD)(b:K0)(gs d:Q1):Prop:=
 ∃(t:Nat)(r a:Q1)(e:fG)(s:iD),d=GV.i .i64 t::r/\b[t]? =some (e,s)/\vN s.al gs r=some a/\a.length=s.np/\
  ∀w0 g w h,OU P tabs c gs w0 g h w->lZ P f ⟨yx st h⟩ w λv j=>∃i,v=DF i/\OU P tabs s a w0 g i j
mutual
def AV.ren(ρ f:Nat->Nat):AV->AV
 |.nd j=>.nd (f j)
 |.rx j off=>.rx (f j) off
 |.sv id j=>.sv (ρ id) (f j)
 |.p id off=>.p (ρ id) off
 |.mp id=>.mp (ρ id)
 |.sl id off len cap=>.sl (ρ id) off len cap
 |.fn g fi cs=>.fn g (AV.yA ρ f fi) (AV.yA ρ f cs)
 |.jq t a=>.jq t (a.ren ρ f)
 |.agg l=>.agg (AV.yA ρ f l)
 |.fB l=>.fB (AV.yA ρ f l)
 |a=>a
def AV.yA(ρ f:Nat->Nat):Q3->List AV
 |[]=>[]
 |a::l=>a.ren ρ f::AV.yA ρ f l
end
mutual
def AV.okS(G:Nat):AV->Bool
 |.sv id _=>Nat.blt G id
 |.sl id _ _ _=>Nat.blt G id
 |.fn _ fi cs=>AV.Bv G fi&&AV.Bv G cs
 |.jq _ a=>a.okS G
 |.agg l=>AV.Bv G l
 |.fB l=>AV.Bv G l
 |.nd _|.rx _ _|.p _ _|.mp _|.b _|.i _ _|.s _|.jU|.gK|.zW|.uP|.qK=>true
 |_=>false
def AV.Bv(G:Nat):Q3->Bool
 |[]=>true
 |a::l=>a.okS G&&AV.Bv G l
end
def bI.ren(ρ f:Nat->Nat):bI->bI
 |.cells c et rw opn=>.cells (AV.yA ρ f c) et rw opn
 |.vec j et b=>.vec (f j) et b
 |.smap j a sz=>.smap (f j) a sz
 |o=>o
def bI.okS(G:Nat):bI->Bool
 |.cells c _ rw _=>AV.Bv G c&&rw
 |.vec _ _ _=>true
 |.smap _ _ _=>true
 |_=>false
def acL(ρ f:Nat->Nat):∀l:Q3,AV.yA ρ f l=l.map (AV.ren ρ f)
 |[]=>rfl
 |a::l=>by simp[AV.yA,acL ρ f l]
structure Pe(S T:aH)(G:Nat)(ρ f:Nat->Nat)(F F':Env):Prop where
 val:∀j g,S.val j=some g->T.val (f j)=some g
 pl:∀i q,G<i->F i=some q->F' (ρ i)=some q
 gl:∀i q,i<=G->F i=some q->∃q',F' (ρ i)=some q'/\q'.bl=q.bl/\q'.ba=q.ba
 gh:∀i,G<i->F.gh i=true->F'.gh (ρ i)=true
 ro:∀b o,F.ro b=some o->F'.ro b=some o
section
variable{S T:aH}{G:Nat}{ρ f:Nat->Nat}{F F':Env}
mutual
def VR.ren(h:Pe S T G ρ f F F'):∀(a:AV)(v:Value),a.okS G=true->@VR S F a v->@VR T F' (a.ren ρ f) v
 |.b _,_,_,b=>by simpa only[VR,AV.ren]using b
 |.i _ _,_,_,b=>by simpa only[VR,AV.ren]using b
 |.s _,_,_,b=>by simpa only[VR,AV.ren]using b
 |.jU,_,_,b=>by simpa only[VR,AV.ren]using b
 |.p i off,v,_,b=>by
  simp only[VR,AV.ren]at b⊢;obtain⟨q,m,rfl⟩:=b;by_cases hi:i<=G
  ·obtain⟨p,d,k,n⟩:=h.gl i q hi m;exact⟨p,d,by rw[k,n]⟩
  ·exact⟨q,h.pl i q (by omega) m,rfl⟩
 |.gK,_,_,b=>by simpa only[VR,AV.ren]using b
 |.sl i off len z,v,c,b=>by simp only[AV.okS,jB]at c;simp only[VR,AV.ren]at b⊢;obtain⟨q,m,d,rfl⟩:=b;exact⟨q,h.pl i q c m,d,rfl⟩
 |.qK,_,_,b=>by simpa only[VR,AV.ren]using b
 |.mp i,v,_,b=>by
  simp only[VR,AV.ren]at b⊢;obtain⟨q,m,rfl⟩:=b;by_cases hi:i<=G
  ·obtain⟨p,d,k,n⟩:=h.gl i q hi m;exact⟨p,d,by rw[k]⟩
  ·exact⟨q,h.pl i q (by omega) m,rfl⟩
 |.zW,_,_,b=>by simpa only[VR,AV.ren]using b
 |.fn _ A s,_,c,b=>by simp only[AV.okS,aK]at c;simp only[VR,AV.ren]at b⊢;obtain⟨t,u,e,d,k⟩:=b;exact⟨t,u,e,aC.ren h A t c.1 d,aC.ren h s u c.2 k⟩
 |.uP,_,_,b=>by simpa only[VR,AV.ren]using b
 |.jq _ a,_,c,b=>by simp only[AV.okS]at c;simp only[VR,AV.ren]at b⊢;obtain⟨x,e,d⟩:=b;exact⟨x,e,VR.ren h a x c d⟩
 |.agg l,_,c,b=>by simp only[AV.okS]at c;simp only[VR,AV.ren]at b⊢;obtain⟨x,e,d⟩:=b;exact⟨x,e,aC.ren h l x c d⟩
 |.fB l,_,c,b=>by simp only[AV.okS]at c;simp only[VR,AV.ren]at b⊢;obtain⟨x,e,d⟩:=b;exact⟨x,e,aC.ren h l x c d⟩
 |.z _ _ _,_,c,_=>by simp[AV.okS]at c
 |.ro _,_,c,_=>by simp[AV.okS]at c
 |.rp _ _,_,c,_=>by simp[AV.okS]at c
 |.nd _,_,_,b=>by simp only[VR,AV.ren]at b⊢;obtain⟨g,d,k,n⟩:=b;exact⟨g,h.val _ _ d,k,GR.mono h.ro _ _ n⟩
 |.rx _ _,_,_,b=>by simp only[VR,AV.ren]at b⊢;obtain⟨g,B,base,s,o,D,x,d,k,n,E⟩:=b;exact⟨g,B,base,s,o,D,x,h.val _ _ d,h.ro _ _ k,GR.mono h.ro _ _ n,E⟩
 |.sv i j,_,c,b=>by
  simp only[AV.okS,jB]at c;simp only[VR,AV.ren]at b⊢;obtain⟨y,d,⟨q,m,k⟩|⟨I,k⟩⟩:=b
  ·exact⟨y,h.val _ _ d,.inl ⟨q,h.pl i q c m,k⟩⟩
  ·exact⟨y,h.val _ _ d,.inr ⟨h.gh i c I,k⟩⟩
 |.pv _ _ _,_,c,_=>by simp[AV.okS]at c
 |.pd _ _,_,c,_=>by simp[AV.okS]at c
def aC.ren(h:Pe S T G ρ f F F'):∀(l:Q3)(vs:Q6),AV.Bv G l=true->@aC S F l vs->@aC T F' (AV.yA ρ f l) vs
 |[],_,_,b=>by simpa only[aC,AV.yA]using b
 |a::l,_,c,b=>by simp only[AV.Bv,aK]at c;simp only[aC,AV.yA]at b⊢;obtain⟨x,xs,e,h1,d⟩:=b;exact⟨x,xs,e,VR.ren h a x c.1 h1,aC.ren h l xs c.2 d⟩
end
def OR.ren(h:Pe S T G ρ f F F'){q:Place}{w:World}{o:bI}(i:o.okS G=true)(r:@OR S P F q w o):@OR T P F' q w (o.ren ρ f):=by
 cases o with
 |cells c v V y=>
  simp only[bI.okS,aK]at i;obtain⟨n,d,p,W,⟨r1,r2,r3,O,z,A,B⟩⟩:=r;have Q:(AV.yA ρ f c).length=c.length:=by rw[acL];simp
  have D:∀a∈c,a.okS G=true:=by
   have:∀l:Q3,AV.Bv G l=true->∀a∈l,a.okS G=true:=by
    intro l;induction l with
    |nil=>intro _ a t;simp at t
    |cons b l X=>
     intro h a t;simp only[AV.Bv,aK]at h;rcases bH.1 t with rfl|t
     ·exact h.1
     ·exact X h.2 a t
   exact this c i.1
  refine⟨n,d,p,W,@uy.mk T P F' q _ v V y n d p r1 (by rw[Q];exact r2) (λe=>by rw[Q];exact r3 e) (λk a u=>?_) z A B⟩;rw[acL,iY]at u;obtain⟨E,R,rfl⟩:=bC.1 u;obtain⟨x,Y,Z⟩:=O k E R;exact⟨x,Y,VR.ren h E x (D E (rQ R)) Z⟩
 |iter s pos=>simp[bI.okS]at i
 |map es=>simp[bI.okS]at i
 |pmap es=>simp[bI.okS]at i
 |iterM m=>simp[bI.okS]at i
 |smap j kk sz=>obtain⟨I,ms,g,L,M,N⟩:=r;exact⟨I,ms,g,h.val _ _ L,M,N.mono h.ro⟩
 |vec j v b=>obtain⟨I,n,d,p,ys,L,M,N,k4,k5,k6,⟨r1,r2,r3,O,z,A,B⟩,k8⟩:=r;exact⟨I,n,d,p,ys,h.val _ _ L,M,aS.mono h.ro _ _ N,k4,k5,k6,@uy.mk T P F' q [] v true true n d p r1 r2 r3 (λk a u=>by simp at u) z A B,k8⟩
def Live.ren(h:Pe S T G ρ f F F'){w:World}{i:Nat}{o:bI}(hi:G<i)(a:o.okS G=true)(r:@Live S P F w i o):@Live T P F' w (ρ i) (o.ren ρ f):=by
 rcases r with⟨q,c,d⟩|⟨e,n,g,b,rfl,j⟩
 ·exact .inl ⟨q,h.pl i q hi c,OR.ren h a d⟩
 ·exact .inr ⟨h.gh i hi e,f n,g,b,rfl,h.val _ _ j⟩
end
def bI.aby{G:Nat}{o:bI}(h:o.okS G=true):o.own=true:=by
 cases o<;>simp only[bI.okS,aK,iw]at h<;>simp[bI.own]
 exact h.2
def rhoC(G ka next:Nat)(r:W7)(i:Nat):Nat:=if i<=G then i else if i<=G+ka then(match dL i r with|some (some id)=>id|_=>0)else next+(i-(G+ka+1))
def N9(ρ f:Nat->Nat):Xs->Tr bI->Tr bI
 |[],h=>h
 |p::l,h=>(N9 ρ f l h).set (ρ p.1) (some (p.2.ren ρ f))
def qH:W7->List Nat
 |[]=>[]
 |p::l=>match p.2 with
  |some id=>id::qH l
  |none=>qH l
def U6{α:Type}:List (Nat×α)->Bool
 |[]=>true
 |p::l=>(match dL p.1 l with|none=>true|some _=>false)&&U6 l
def D6(r:W7)(J:aA):Nat->Nat->Bool
 |_,0=>true
 |i,n+1=>(match dL (i+1) r with
  |some (some id)=>(match J.get id with|some (.cells _ _ _ _)=>true|_=>false)
  |_=>false)&&D6 r J (i+1) n
def acv(s:iD):Bool:=Nat.blt (s.gn+s.ka) s.next&&AV.Bv s.gn s.args&&U6 s.objs&&s.objs.all λp=>Nat.blt s.gn p.1&&Nat.blt p.1 s.next&&p.2.okS s.gn
section
variable[gY]
def atM(P:Program)(s:iD)(l:Q3)(J:aA):US:=X6 P s.gn J s.objs (H9 P s.gn J s.args l ⟨[],[],[]⟩)
def atN(P:Program)(s:iD)(l:Q3)(J:aA):US:=X6 P s.gn J s.objs (H9 P s.gn J s.args l ⟨YX s.gn s.ka,[],[]⟩)
def Wy(P:Program)(s:iD)(l:Q3)(J:aA)(fz:Q2)(r:W7)(ps:Q2):Bool:=
 Nat.beq s.gn P.globals.size&&Nat.blt (s.gn+s.ka) s.next&&KD r&&C9 P s.gn J fz r ps s.args l&&NI P s.gn s.next J fz r ps s.objs
def abE(P:Program)(st:W6)(a:aJ):dZ:=λc J=>match Dy st c with
 |none=>none
 |some args=>match atM P a.pre args J with
  |⟨r,p,fz⟩=>match acz p 0 a.pre.np with
   |none=>none
   |some ps=>
    if Wy P a.pre args J fz r ps&&(fz.all (Nat.ble J.lock ·)&&((qH r).all (λid=>Nat.ble J.lock id&&!(fz.contains id))&&D6 r J a.pre.gn a.pre.ka))then
     match fQ (.call a.key ps 0)with
     |some tag=>match Kz tag a.posts 0 with
      |some (_,s)=>if acv s&&(Nat.beq s.ka a.pre.ka&&Nat.beq s.gn a.pre.gn)then match Di a.key ps s.al 1 s.np with
       |some b=>some (KQ (AV.yA (rhoC s.gn s.ka J.next r) (λj=>b.getD j 0) s.args),⟨N9 (rhoC s.gn s.ka J.next r) (λj=>b.getD j 0) s.objs (kills (kills J fz) (qH r)).h,J.next+(s.next-(s.gn+s.ka+1)),J.lock⟩)
       |none=>none
       else none
      |none=>none
     |none=>none
    else none
end
def agx{α:Type}:∀{l:List (Nat×α)},U6 l=true->∀{k:Nat}{v:α},(k,v)∈l->dL k l=some v
 |[],_,k,v,h=>by simp at h
 |p::l,a,k,v,h=>by
  simp only[U6,aK]at a;rcases bH.1 h with e|h
  ·subst e;simp[dL]
  ·have h1:=agx a.2 h;simp only[dL];cases c:Nat.beq k p.1 with
   |true=>have e:=bK c;have b:=a.1;rw[<-e,h1]at b;cases b
   |false=>exact h1
def ahg{α:Type}:∀{l m:List (Nat×α)}{k:Nat}{v:α},dL k l=some v->dL k (l++m)=some v
 |[],m,k,v,h=>by simp[dL]at h
 |p::l,m,k,v,h=>by
  simp only[bg,dL]at h⊢;cases a:Nat.beq k p.1 with
  |true=>rw[a]at h;exact h
  |false=>rw[a]at h;exact ahg h
def akr{ρ f:Nat->Nat}:∀{l:Xs}{h:Tr bI}{k:Nat}{o:bI},(N9 ρ f l h).get k=some o->(∃i o0,(i,o0)∈l/\ρ i=k/\o=o0.ren ρ f)\/(h.get k=some o/\∀p∈l,ρ p.1≠k)
 |[],h,k,o,a=>.inr ⟨a,λp b=>by simp at b⟩
 |q::l,h,k,o,a=>by
  simp only[N9,Tr.vS]at a;split at a
  ·next e=>cases a;exact .inl ⟨q.1,q.2,by simp,e.symm,rfl⟩
  ·next e=>
   rcases akr a with⟨i,o0,h1,c,d⟩|⟨h1,c⟩
   ·exact .inl ⟨i,o0,yK _ h1,c,d⟩
   ·refine .inr ⟨h1,λp b=>?_⟩;rcases bH.1 b with rfl|b
    ·exact λg=>e g.symm
    ·exact c p b
def ahV{r:W7}:∀{i id:Nat},dL i r=some (some id)->id∈qH r:=by
 induction r with
 |nil=>intro i id h;simp[dL]at h
 |cons p l b=>
  intro i id h;simp only[dL]at h;cases a:Nat.beq i p.1 with
  |true=>rw[a]at h;simp only[cond_true,aY]at h;simp only[qH,h];simp
  |false=>
   rw[a]at h;have:=b h;simp only[qH];split
   ·exact yK _ this
   ·exact this
def YZ{r:W7}{J:aA}:∀{n i:Nat},D6 r J i n=true->∀j,i<j->j<=i+n->∃id c et rw opn,dL j r=some (some id)/\J.get id=some (.cells c et rw opn)
 |0,i,_,j,h1,d=>by omega
 |n+1,i,h,j,h1,d=>by
  simp only[D6,aK]at h;by_cases e:j=i+1
  ·subst e;have a:=h.1;split at a
   ·next id b=>
    split at a
    ·next c et rw opn g=>exact⟨id,c,et,rw,opn,b,g⟩
    ·cases a
   ·cases a
  ·exact YZ h.2 j (by omega) (by omega)
def St.ayk{T:aH}{tabs:Qt}(vU:T.tabs=tabs){G ka:Nat}(hG:G=P.globals.size){F v:Env}{J:aA}{w w':World}(h:@SR T P F J w){r:W7}(ad:KD r=true)(aa:∀id∈qH r,J.lock<=id)(ak:D6 r J G ka=true)
 {s:iD} (hs:acv s=true) (al:s.ka=ka) (am:s.gn=G) {gs:Q1} {f:Nat->Nat} (hf:∀j g,gs[j]? =some g->T.val (f j)=some g)
 (hF:@kP (Tg tabs gs s.ka) P ⟨w,λb=>∃id o q,id∈qH r/\J.get id=some o/\o.own=true/\F id=some q/\q.bl=b,λi=>if G<i/\i<=G+ka then(match dL i r with|some (some id)=>F id|_=>none)else none⟩ F.ro v (s.st tabs) w')
 {vs:Q6} (hv:@aC (Tg tabs gs s.ka) v s.args vs):
 ∃F',@St T P F J w F' ⟨N9 (rhoC s.gn s.ka J.next r) f s.objs (kills J (qH r)).h,J.next+(s.next-(s.gn+s.ka+1)),J.lock⟩ w'/\@aC T F' (AV.yA (rhoC s.gn s.ka J.next r) f s.args) vs:=by
 obtain⟨⟨an,ae,ao,ab,ap,aq,ar,av⟩,Oy,aw,ax,af,ay⟩:=hF;letI:=T
 subst al;subst am;unfold acv at hs;simp only[aK,jB]at hs;obtain⟨⟨⟨p1,p2⟩,p3⟩,p4⟩:=hs;have Kv:∀i o,(i,o)∈s.objs->s.gn<i/\i<s.next/\o.okS s.gn=true:=by intro i o I;have:=List.all_eq_true.1 p4 _ I;simp only[aK,jB]at this;exact⟨this.1.1,this.1.2,this.2⟩
 have RQ:∀i o,(i,o)∈s.objs->(s.st tabs).get i=some o:=by
  intro i o I;show(qM (s.objs++xC tabs)).get i=some o
  rw[Kq];exact ahg (agx p3 I)
 let B:Nat:=s.gn+s.ka+1
 let F':Env:=⟨λid=>if id<J.next then F id else v (id-J.next+B),v.ro,λid=>if id<J.next then F.gh id else v.gh (id-J.next+B)⟩
 have az:∀b o,F.ro b=some o->v.ro b=some o:=ax;have z:F.le F':=by
  refine⟨λid q a=>?_,az,λid m=>?_⟩
  ·show(if id<J.next then F id else _)=some q
   rw[aj (h.dom id q a)];exact a
  ·show(if id<J.next then F.gh id else _)=true
   rw[aj (h.kK id m).2];exact m
 have tK:∀i,s.gn<i->i<=s.gn+s.ka->∃id q,dL i r=some (some id)/\F id=some q/\v i=some q/\id<J.next/\(∃o,J.get id=some o):=by intro i d t;obtain⟨id,c,et,wo,be,D,g2⟩:=YZ ak i d t;obtain⟨q,a,_⟩:=h.obj _ _ g2 rfl;have:=(ay i q (by show(if s.gn<i/\i<=s.gn+s.ka then _ else _)=_;rw[aj ⟨d,t⟩,D];exact a)).1;exact⟨id,q,D,a,this,h.dom id q a,_,g2⟩
 have Og:∀i id,s.gn<i->i<=s.gn+s.ka->dL i r=some (some id)->rhoC s.gn s.ka J.next r i=id:=by intro i id d t h3;unfold rhoC;rw[ah (by omega),aj t,h3]
 have KE:∀i,s.gn+s.ka<i->rhoC s.gn s.ka J.next r i=J.next+(i-B):=by intro i d;unfold rhoC;rw[ah (by omega),ah (by omega)]
 have KA:∀i,s.gn+s.ka<i->F' (J.next+(i-B))=v i/\F'.gh (J.next+(i-B))=v.gh i:=by
  intro i d;have e:J.next+(i-B)-J.next+B=i:=by show J.next+(i-(s.gn+s.ka+1))-J.next+(s.gn+s.ka+1)=i;omega
  constructor
  ·show(if J.next+(i-B)<J.next then _ else v (J.next+(i-B)-J.next+B))=_
   rw[ah (by omega),e]
  ·show(if J.next+(i-B)<J.next then _ else v.gh (J.next+(i-B)-J.next+B))=_
   rw[ah (by omega),e]
 have ag:Pe (Tg tabs gs s.ka) T s.gn (rhoC s.gn s.ka J.next r) f v F':=by
  refine⟨hf,λi q hi a=>?_,λi q hi a=>?_,λi hi m=>?_,λ_ _ h=>h⟩
  ·by_cases V:i<=s.gn+s.ka
   ·obtain⟨id,O,D,g2,g3,g4,_⟩:=tK i hi V;rw[Og i id hi V D];rw[a]at g3;cases g3;exact z.pl _ _ g2
   ·rw[KE i (by omega),(KA i (by omega)).1];exact a
  ·obtain⟨sz,es,e1⟩:=an i (by omega);rw[a]at e1;cases e1;obtain⟨aD,aE,e2⟩:=h.nS i (by omega);refine⟨⟨i,0,aD,aE⟩,?_,rfl,rfl⟩;show F' (rhoC s.gn s.ka J.next r i)=_
   unfold rhoC;rw[aj hi];exact z.pl _ _ e2
  ·by_cases V:i<=s.gn+s.ka
   ·obtain⟨id,O,D,g2,g3,_⟩:=tK i hi V;rw[(ab i m).1]at g3;cases g3
   ·rw[KE i (by omega),(KA i (by omega)).2];exact m
 have aL:∀id o,(kills J (qH r)).get id=some o->id∉qH r/\J.get id=some o:=by
  intro id o m;rw[EC]at m;split at m
  ·cases m
  ·next I=>exact⟨I,m⟩
 have WS:∀id o q,id∉qH r->J.get id=some o->F id=some q->∀eG o0 X,eG∈qH r->J.get eG=some o0->o0.own=true->F eG=some X->X.bl≠q.bl:=by intro id o q I m a eG o0 X aM aP aR a0;exact h.sep eG o0 id o X q aP aR m (λe=>I (e▸aM)) a0 a
 have a7:∀id o q,id∉qH r->J.get id=some o->F id=some q->q.bl<w.heap.size->w'.heap[q.bl]? =w.heap[q.bl]?:=by
  intro id o q I m a E;refine Oy.keep q.bl E ?_;rintro⟨eG,o0,X,A,M,Q,R,a5⟩
  exact WS id o q I m a eG o0 X A M Q R a5
 have obj:∀k o,(N9 (rhoC s.gn s.ka J.next r) f s.objs (kills J (qH r)).h).get k=some o->(∃i o0,(i,o0)∈s.objs/\rhoC s.gn s.ka J.next r i=k/\o=o0.ren (rhoC s.gn s.ka J.next r) f)\/(k∉qH r/\J.get k=some o/\∀p∈s.objs,rhoC s.gn s.ka J.next r p.1≠k):=by
  intro k o V;rcases akr V with d|⟨d,t⟩
  ·exact .inl d
  ·obtain⟨h3,h4⟩:=aL k o d;exact .inr ⟨h3,h4,t⟩
 have NW:∀k o q,J.get k=some o->F' k=some q->F k=some q:=by intro k o q m a;have E:k<J.next:=h.hasLt (h.Qs m);have u:(if k<J.next then F k else _)=some q:=a;rw[aj E]at u;exact u
 have l:∀i o q,(i,o)∈s.objs->F' (rhoC s.gn s.ka J.next r i)=some q->v i=some q:=by
  intro i o q I a;obtain⟨D,g2,g3⟩:=Kv i o I;by_cases V:i<=s.gn+s.ka
  ·obtain⟨id,O,A,M,Q,R,_⟩:=tK i D V;rw[Og i id D V A]at a;have:=z.pl _ _ M;rw[a]at this;cases this;exact Q
  ·rw[KE i (by omega),(KA i (by omega)).1]at a;exact a
 have bh:∀i j oi oj,(i,oi)∈s.objs->(j,oj)∈s.objs->rhoC s.gn s.ka J.next r i=rhoC s.gn s.ka J.next r j->i=j:=by
  intro i j oi oj hi hj e;obtain⟨D,g2,_⟩:=Kv i oi hi;obtain⟨W,k2,_⟩:=Kv j oj hj;by_cases n:i<=s.gn+s.ka<;>by_cases L:j<=s.gn+s.ka
  ·obtain⟨id,_,A,_,_,_,_⟩:=tK i D n;obtain⟨a8,_,N,_,_,_,_⟩:=tK j W L;rw[Og i id D n A,Og j a8 W L N]at e;subst e;exact acH ad i j id A N
  ·obtain⟨id,_,A,_,_,R,_⟩:=tK i D n;rw[Og i id D n A,KE j (by omega)]at e;omega
  ·obtain⟨id,_,A,_,_,R,_⟩:=tK j W L;rw[Og j id W L A,KE i (by omega)]at e;omega
  ·rw[KE i (by omega),KE j (by omega)]at e;have hB:B=s.gn+s.ka+1:=rfl;omega
 have ac:∀i o q,(i,o)∈s.objs->v i=some q->w.heap.size<=q.bl\/∃id o0 X,id∈qH r/\J.get id=some o0/\o0.own=true/\F id=some X/\X.bl=q.bl:=by intro i o q I a;exact aw i o q (RQ i o I) (bI.aby (Kv i o I).2.2) a
 have E:∀k o q,J.get k=some o->F k=some q->q.bl<w.heap.size:=λk o q m a=>(h.at m a).lt;refine⟨F',⟨z,⟨?_,?_,?_,?_,?_,aq,?_,?_⟩,Oy.size,?_,?_,Oy.os,Oy.tape,Oy.output,rfl,Nat.le_add_right _ _,?_,?_⟩,aC.ren ag _ _ p2 hv⟩
 ·intro g m;obtain⟨sz,es,e⟩:=h.nS g m;exact⟨sz,es,z.pl _ _ e⟩
 ·intro id q a;show id<J.next+(s.next-(s.gn+s.ka+1))
  by_cases Y:id<J.next
  ·omega
  ·have u:(if id<J.next then F id else v (id-J.next+B))=some q:=a;rw[ah Y]at u;have:=ae _ _ u;have:id-J.next+(s.gn+s.ka+1)<s.next:=this;omega
 ·intro k o V;rcases obj k o V with⟨i,o0,d,rfl,rfl⟩|⟨d,t,_⟩
  ·obtain⟨D,g2,g3⟩:=Kv i o0 d;exact Live.ren ag D g3 (ao i o0 (RQ i o0 d))
  ·refine((h.live k o t).heap λq a a9=>?_).mono z
   exact a7 k o q d t a a9.lt
 ·intro id m;have y:(if id<J.next then F.gh id else v.gh (id-J.next+B))=true:=m;show(if id<J.next then F id else v (id-J.next+B))=none/\id<J.next+(s.next-(s.gn+s.ka+1))
  by_cases Y:id<J.next
  ·rw[aj Y]at y⊢;exact⟨(h.kK id y).1,by omega⟩
  ·rw[ah Y]at y⊢;obtain⟨A,M⟩:=ab _ y;have bi:id-J.next+(s.gn+s.ka+1)<s.next:=M;exact⟨A,by omega⟩
 ·intro k o k' o' q O A M Q R a5 a6;rcases obj k o A with⟨i,o0,d,rfl,rfl⟩|⟨d,t,_⟩<;>rcases obj k' o' Q with⟨j,QY,W,rfl,rfl⟩|⟨W,k2,_⟩
  ·have N:=l i o0 q d a5;have b2:=l j QY O W a6;exact ap i o0 j QY q O (RQ i o0 d) (bI.aby (Kv i o0 d).2.2) (RQ j QY W) (λe=>R (by rw[e])) N b2
  ·have N:=l i o0 q d a5;have b2:=NW k' o' O k2 a6;rcases ac i o0 q d N with n|⟨id,o1,Z,n,L,c3,c4,c5⟩
   ·have:=E k' o' O k2 b2;omega
   ·rw[<-c5];exact WS k' o' O W k2 b2 id o1 Z n L c3 c4
  ·have N:=NW k o q t a5;have b2:=l j QY O W a6;rcases ac j QY O W b2 with n|⟨id,o1,Z,n,L,c3,c4,c5⟩
   ·have:=E k o q t N;omega
   ·rw[<-c5];exact λe=>WS k o q d t N id o1 Z n L c3 c4 e.symm
  ·exact h.sep k o k' o' q O t M k2 R (NW k o q t a5) (NW k' o' O k2 a6)
 ·intro k o q A M Q;rcases obj k o A with⟨i,o0,d,rfl,rfl⟩|⟨d,t,_⟩
  ·exact ar i o0 q (RQ i o0 d) (bI.aby (Kv i o0 d).2.2) (l i o0 q d Q)
  ·have N:=NW k o q t Q;show v.ro q.bl=none
   cases ba:v.ro q.bl with
   |none=>rfl
   |some x=>
    rcases af q.bl (by rw[ba];simp)with n|n|⟨id,o1,Z,n,L,c3,c4,c5⟩
    ·exact absurd (h.lV k o q t M N) n
    ·have:=E k o q t N;have bj:w.heap.size<=q.bl:=n;omega
    ·exact absurd c5 (WS k o q d t N id o1 Z n L c3 c4)
 ·intro p hp;have bb:p∈tabs:=by rw[<-vU];exact hp
  obtain⟨cs,ai,fr,e1,e2⟩:=av p bb;exact⟨cs,ai,fr,e1,e2⟩
 ·intro bl bc bd;refine Oy.keep bl bc ?_;rintro⟨id,o,q,A,M,Q,R,a5⟩
  exact bd id o q M Q (aa id A) R a5
 ·intro k o q A M Q R;rcases obj k o A with⟨i,o0,d,rfl,rfl⟩|⟨d,t,_⟩
  ·rcases ac i o0 q d (l i o0 q d R)with n|⟨id,o1,Z,n,L,c3,c4,c5⟩
   ·exact .inl n
   ·exact .inr ⟨id,o1,Z,L,c3,aa id n,c4,c5⟩
  ·exact .inr ⟨k,o,q,t,M,Q,NW k o q t R,rfl⟩
 ·intro id hh;by_cases Y:id<J.next
  ·left;rcases hh with⟨q,a⟩|m
   ·have u:(if id<J.next then F id else _)=some q:=a;rw[aj Y]at u;exact .inl ⟨q,u⟩
   ·have y:(if id<J.next then F.gh id else _)=true:=m;rw[aj Y]at y;exact .inr y
  ·right;refine⟨by omega,?_⟩;show id<J.next+(s.next-(s.gn+s.ka+1))
   rcases hh with⟨q,a⟩|m
   ·have u:(if id<J.next then F id else v (id-J.next+B))=some q:=a;rw[ah Y]at u;have:id-J.next+(s.gn+s.ka+1)<s.next:=ae _ _ u;omega
   ·have y:(if id<J.next then F.gh id else v.gh (id-J.next+B))=true:=m;rw[ah Y]at y;have:id-J.next+(s.gn+s.ka+1)<s.next:=(ab _ y).2;omega
 ·intro b hb;rcases af b hb with n|n|⟨id,o1,Z,n,L,c3,c4,c5⟩
  ·exact .inl n
  ·exact .inr (.inl n)
  ·exact .inr (.inr ⟨id,o1,Z,L,c3,aa id n,c4,c5⟩)
def ayB{T:aH}(M:wK T.tabs P.globals.size){f:FuncId}{st:W6}{d:aJ}(D:d.pre.ok=true)(hC:∀gs A,T.I d.key gs=some A->OX P T.tabs f st d.pre d.posts gs A):@dO T P f (@abE T.togY P st d):=by
 letI:=T
 intro Pq J rr J' m F w ay hS ad;unfold abE at m;split at m
 ·cases m
 next args ae=>
 obtain⟨vs,rfl,hv⟩:=X3 ae ad;split at m;next r p fz ax=>
 split at m
 ·cases m
 next ps az=>
 split at m;rotate_left
 ·cases m
 next z=>
 split at m;rotate_left
 ·cases m
 next tag N=>
 split at m;rotate_left
 ·cases m
 next e s E=>
 split at m;rotate_left
 ·cases m
 next x=>
 split at m;rotate_left
 ·cases m
 next ns af=>
 cases m;rw[aK,aK,aK]at z;obtain⟨z,ag,O,Q⟩:=z;unfold Wy at z;simp only[aK,jB]at z;obtain⟨⟨⟨⟨R,m2⟩,m3⟩,m4⟩,m5⟩:=z;have R:=bK R;rw[aK,aK]at x;obtain⟨q1,q2,q3⟩:=x;have q2:=bK q2;have q3:=bK q3;unfold iD.ok at D;rw[aK,aK]at D;obtain⟨⟨_,I⟩,Jw⟩:=D;have I:AV.qO d.pre.next d.pre.args=true:=by
  have:∀l:Wm,F6 d.pre.next l=true->AV.qO d.pre.next (l.map (·.2))=true:=by
   intro l;induction l with
   |nil=>intro _;rfl
   |cons a l ih=>intro h;simp only[F6,aK]at h;simp only[iP,AV.qO,aK];exact⟨h.1,ih h.2⟩
  exact this _ I
 have ai:∀id∈fz,J.lock<=id:=λid u=>vC (List.all_eq_true.1 ag id u);have V:∀id∈qH r,J.lock<=id:=λid u=>by have:=List.all_eq_true.1 O id u;rw[aK]at this;exact vC this.1
 have ak:∀id∈qH r,id∉fz:=λid u z=>by have:=List.all_eq_true.1 O id u;rw[aK,ad8.2 z]at this;simp at this
 obtain⟨dF,f1,f2,f3⟩:=aai hS fz ai;obtain⟨gt,t1,L⟩:=gU N;simp only[Nd.den]at L;split at L;rotate_left
 ·cases L
 next gs W=>
 split at L;rotate_left
 ·cases L
 next A hI=>
 obtain⟨t,r0,X,e2,s2,rfl,al,am,aD,Y⟩:=hC gs A hI;simp only[kX,aY]at L;subst L;have an:=abP t1 d.posts 0 E (tJ _) (e2,s2) (by simpa using al);cases an;obtain⟨n1,n2⟩:=Rh W hI _ 1 s.al (r:=r0) (λk=>by rw[LD,wE]) am af;have Z:∀j g,X[j]? =some g->T.val (ns.getD j 0)=some g:=by
  intro j g hj;have ao:j<ns.length:=by have:=(fM.1 hj).1;omega
  have z:ns[j]? =some (ns.getD j 0):=by rw[zC,bT ao];rfl
  rw[n2 j _ z];exact hj
 have C:xJ T P T.tabs d.pre.gn d.pre.next F J w fz r ps gs dF:=⟨hS,W,f1,f3,R,by omega⟩
 obtain⟨hR,aa⟩:=abh (ka:=d.pre.ka) rfl M Jw (by omega) R C f2.rel.jl (λid o q b2 b3 b4 b5=>f2.rel.lV id o q (by rw[EC,ah b2];exact b3) b4 b5) m3 m5;let J1:aA:=kills J fz
 let F1:Env:=⟨F.pl,dF,F.gh⟩
 let w0:Base:=⟨w,λb=>∃id o q,id∈qH r/\J1.get id=some o/\o.own=true/\F1 id=some q/\q.bl=b,λi=>if d.pre.gn<i/\i<=d.pre.gn+d.pre.ka then(match dL i r with|some (some id)=>F1 id|_=>none)else none⟩
 have hF:@kP (Tg T.tabs gs d.pre.ka) P w0 dF (uN T.tabs d.pre.gn d.pre.next r F dF) (d.pre.st T.tabs) w:=by
  refine @kP.mk (Tg T.tabs gs d.pre.ka) P w0 dF _ _ w hR ⟨rfl,rfl,rfl,dD _,λ_ _ _=>rfl⟩ ?_ (λ_ _ h=>h) (λ_ h=>.inl h) ?_
  ·intro i o q a1 a2 a3;obtain⟨id,o',b1,b2,b3,b4,b5⟩:=aa i o q a1 a2 a3;exact .inr ⟨id,o',q,ahV b1,by show(kills J fz).get id=_;rw[EC,ah b2];exact b3,b4,b5,rfl⟩
  ·intro i q hi;have y:(if d.pre.gn<i/\i<=d.pre.gn+d.pre.ka then(match dL i r with|some (some id)=>F1 id|_=>none)else none)=some q:=hi;split at y
   ·next hr=>
    split at y
    ·next id u=>
     refine⟨?_,by omega,by show i<=P.globals.size+d.pre.ka;omega⟩;rw[G8 hr.1 (by omega) u];exact y
    ·cases y
   ·cases y
 have ap:=G9 (ka:=d.pre.ka) C _ _ _ I m4 hv;refine lZ.mono (Y w0 dF w vs ⟨_,hF,ap⟩) ?_;rintro v w' ⟨us,rfl,F2,aq,ar⟩
 have av:D6 r J1 d.pre.gn d.pre.ka=true:=by
  have:∀n i,(∀j,i<j->j<=i+n->∃id,dL j r=some (some id)/\id∉fz)->D6 r J i n=true->D6 r J1 i n=true:=by
   intro n;induction n with
   |zero=>intro i _ _;rfl
   |succ n ih=>
    intro i ab h;simp only[D6,aK]at h⊢;obtain⟨id,h1,h2⟩:=ab (i+1) (by omega) (by omega);refine⟨?_,ih (i+1) (λj a b=>ab j (by omega) (by omega)) h.2⟩;have h3:=h.1;rw[h1]at h3⊢;simp only at h3⊢;show(match(kills J fz).get id with|some (.cells _ _ _ _)=>true|_=>false)=true
    rw[EC,ah h2];exact h3
  refine this _ _ (λj a b=>?_) Q;obtain⟨id,c,et,wo,aE,g1,g2⟩:=YZ Q j a b;exact⟨id,g1,ak id (ahV g1)⟩
 obtain⟨F',aw,ac⟩:=St.ayk (T:=T) (tabs:=T.tabs) (G:=d.pre.gn) (ka:=d.pre.ka) rfl R f2.rel m3 (by rw[Nz];exact V) av q1 q2 q3 Z aq ar;have B:=f2.trans aw;rw[aaY,Nz]at B;rw[aaY]at ac;exact⟨F',B,al3 ac⟩
def aa7(P:Program)(tabs:Qt)(pl:mF)(b:Ww)(fuel:Nat)(st:W6)(a:aJ)(c:Nat)(h:List ResultVar)(o:AC)(d:List Nd)(g:Wg)(p:Leaf):Bool:=
 match p with
 |.ret (q::l)=>match @xR ⟨d,g,a.pre.ka⟩ (Fj P tabs ⟨d,g,a.pre.ka⟩ b) (KF P ⟨d,g,a.pre.ka⟩ pl fuel) o {t:=Az (yw st (AV.rC (λj=>j) a.pre.args)) 0 .nil,n:=max (yw st (AV.rC (λj=>j) a.pre.args)).length c,gn:=P.globals.size} (a.pre.Fh tabs λj=>j)with
  |some (e,u,i)=>(match e with|.exit _=>false|_=>true)&&match BU P i u h with
   |some k=>match d[q]? with
    |some (.ci .i64 t)=>match a.posts[t.toNat]? with
     |some (_,s)=>decide (0<=t)&&(s.ok&&(Nat.beq s.ka a.pre.ka&&(match Eh a.pre.np s.al l with
      |some m=>Nat.beq m.length s.np&&(match @atN ⟨d,g,a.pre.ka⟩ P s k i with
       |⟨r,_,fz⟩=>Pn r s.gn s.ka&&@Wy ⟨d,g,a.pre.ka⟩ P s k i fz r m)
      |none=>false)))
     |none=>false
    |_=>false
   |none=>false
  |none=>false
 |_=>false
def OX.Q5{tabs:Qt}(N:wK tabs P.globals.size)(hm:P.follows .mixedOrders=true)(hn:xK P){pl:mF}{I:iO}(ac:zF P tabs I pl){z:Ww}{fuel:Nat}{f:FuncId}{fn:Func}{c:Code}{Y:Q2}{st:W6}{D:aJ}{n:Nat}(ad:n=D.pre.np){t:Tree}
 (hf:P.funcs[f]? =some fn) (hc:fn.body=some c)
 (Jz:∀k A,dL k z=some A->A.pre.ok=true/\∀b,(oq Y c).ql k b->∀gs x,I A.key gs=some x->wH P tabs b A.pre A.posts gs x)
 (A8:t.chk (aa7 P tabs pl z fuel st D fn.ntmps fn.results.toList (oq Y c)) (List.replicate D.pre.np .arg) []=true) {gs x:Q1} (hd:(aF.tree n t).den I gs=some x):OX P tabs f st D.pre D.posts gs x:=by
 simp only[aF.den]at hd;split at hd;rotate_left
 ·cases hd
 next O=>
 subst ad;obtain⟨ns,ds,V,lf,d,h2,⟨aL,h3⟩,h4⟩:=Tree.MG t A8 (D5.start I gs _ O) hd;let T:aH:=Tw tabs I D.pre.ka h2
 unfold aa7 at d;split at d;rotate_left
 ·cases d
 next tn l=>
 split at d;rotate_left
 ·cases d
 next e a' J' aa=>
 rw[aK]at d;obtain⟨he,d⟩:=d;split at d;rotate_left
 ·cases d
 next rs ae=>
 split at d;rotate_left
 ·cases d
 next tt af=>
 split at d;rotate_left
 ·cases d
 next e' s p=>
 rw[aK,aK,aK,decide_eq_true_iff]at d;obtain⟨c1,c2,c3,d⟩:=d;split at d;rotate_left
 ·cases d
 next l2 ag=>
 rw[aK]at d;obtain⟨c4,d⟩:=d;have c3:=bK c3;have c4:=bK c4;split at d;next r pp fz aM=>
 rw[aK]at d;obtain⟨c5,c6⟩:=d;unfold Wy at c6;simp only[aK,jB]at c6;obtain⟨⟨⟨⟨m1,m2⟩,m3⟩,m4⟩,m5⟩:=c6;have m1:=bK m1;have M:valsOf (λn=>V[n]?) (tn::l)=some x:=h4;simp only[valsOf]at M;split at M;rotate_left
 ·cases M
 next g r0 hg ai=>
 cases M;obtain⟨m,E,ak⟩:=Ve h3 O ag ai;obtain⟨g',k1,k2⟩:=h2.node tn _ af (by simp);have al:V[tn]? =some g:=hg;rw[al]at k1;cases k1;simp only[Nd.den,aY]at k2;subst k2;unfold iD.ok at c2;rw[aK,aK]at c2;obtain⟨⟨_,W⟩,Jw⟩:=c2;have W:AV.qO s.next s.args=true:=by
  have:∀l:Wm,F6 s.next l=true->AV.qO s.next (l.map (·.2))=true:=by
   intro l;induction l with
   |nil=>intro _;rfl
   |cons a l ih=>intro h;simp only[F6,aK]at h;simp only[iP,AV.qO,aK];exact⟨h.1,ih h.2⟩
  exact this _ W
 refine⟨tt.toNat,r0,m,e',s,by rw[Il c1],p,ak,by rw[<-c4];exact adz E,λw0 eH w vs hA=>?_⟩;have Nk:∀Q:fG->bG->aA->Prop,Q e a' J'->@AT T P c {t:=Az (yw st (AV.rC (λj=>j) D.pre.args)) 0 .nil,n:=max (yw st (AV.rC (λj=>j) D.pre.args)).length fn.ntmps,gn:=P.globals.size} (D.pre.Fh tabs λj=>j) Q:=by
  intro Q hq;have:=@YT P T (Fj P tabs ⟨ns,ds,D.pre.ka⟩ z) (KF P ⟨ns,ds,D.pre.ka⟩ pl fuel) (acR (T:=T) hm hn (ac T rfl rfl) fuel) (oq Y c) (zI Y c 0).2 (λk b hk a J e1 a1 J1 hs Q' am=>by
   unfold Fj at hs;split at hs
   ·next A an=>
    obtain⟨k1,k2⟩:=Jz k A an;exact aa1 (T:=T) rfl N k1 (λgs x hI=>k2 b hk gs x hI) hs am
   ·cases hs) _ _ _ _ _ aa Q hq
  rwa [show(oq Y c).erase=c from(zI Y c 0).1]at this
 have R:∀j g,gs[j]? =some g->T.val ((λj=>j) j)=some g:=by
  intro j g hj;show V[j]? =some g
  rw[h3];have:=(fM.1 hj).1;rw[og this];exact hj
 obtain⟨F,ao,ap⟩:=hA;have aq:=ag6 (T:=T) (f:=λj=>j) rfl rfl R ao;have ar:@aC T F (AV.rC (λj=>j) D.pre.args) vs:=aC.fE (S:=Tg tabs gs D.pre.ka) (T:=T) R _ _ ap;have av:Calls P f ⟨yx st vs⟩ w λen B=>∃v,en=.returned v/\∃y,v=DF y/\OU P tabs s m w0 eH y B:=by
  letI:=T
  have aw:aC F (yw st (AV.rC (λj=>j) D.pre.args)) (yx st vs):=Xe ar;refine calls_of_wp hf hc ?_;refine Nk (λe2 Z J2=>e2=e/\Z=a'/\J2=J') ⟨rfl,rfl,rfl⟩ w0 eH F w _ _ aq rfl (ZT aw) ?_;rintro e2 Z J2 F1 A' B ⟨rfl,rfl,rfl⟩ hF ax ht
  obtain⟨y,r1,r2⟩:=Rw hF.rel ht (fun|.tmp t=>pure (A'.tmps.getD t undef)|.cell a t=>do loadVar t (<-asAddr (A'.tmps.getD a undef))) (λ_=>rfl) (λ_ _=>rfl) _ _ ae;obtain⟨dF,f1,f2,f3⟩:=Vt hF ax fz;have C:xJ T P tabs s.gn s.next F1 J2 B fz r l2 m dF:=⟨hF.rel,E,f1,f3,m1,by omega⟩
  obtain⟨hR,ab⟩:=abh (ka:=s.ka) (T:=T) rfl N Jw (by omega) m1 C f2.rel.jl (λid o q b2 b3 b4 b5=>f2.rel.lV id o q (by rw[EC,ah b2];exact b3) b4 b5) m3 m5;have ay:=G9 (ka:=s.ka) C _ _ _ W m4 r2;have az:OU P tabs s m w0 eH y B:=by
   refine⟨_,@kP.mk (Tg tabs m s.ka) P w0 eH _ _ B hR hF.kept ?_ f2.vZ f2.rF ?_,ay⟩
   ·intro i o q a1 Z a3;obtain⟨id,u,b1,b2,b3,b4,b5⟩:=ab i o q a1 Z a3;exact hF.own id u q b3 b4 b5
   ·intro i q hi;obtain⟨a1,Z,a3⟩:=hF.tK i q hi;have aD:i<=P.globals.size+s.ka:=by rw[c3];exact a3
    refine⟨?_,Z,aD⟩;rw[G8 (by omega) (by omega) (Y0 c5 i (by omega) (by omega))];exact a1
  have L:(results fn A'.tmps).run P B=.ok (if h:(⟨y⟩:QQ).size=1 then(⟨y⟩:QQ)[0]else .tuple ⟨y⟩) B:=by unfold results;rw[Ym];simp only[aV,YH];exact uf (λr:Result Q6=>(r.andThen λa B=>Result.ok a.toArray B).andThen λa B=>Sem.run P (pure (if h:a.size=1 then a[0]else Value.tuple a)) B) r1
  have aE:(if h:(⟨y⟩:QQ).size=1 then(⟨y⟩:QQ)[0]else .tuple ⟨y⟩)=DF y:=by
   match y with
   |[]=>rfl
   |[u]=>rfl
   |u::u'::y=>rfl
  rw[aE]at L
  have p:A'.defers=[]/\∃v,(results fn A'.tmps).run P B=.ok v B/\∃v',Ending.returned v=.returned v'/\∃y,v'=DF y/\OU P tabs s m w0 eH y B:=
   ⟨ht.none,_,L,_,rfl,y,rfl,az⟩
  cases e2 with
  |normal=>exact p
  |ret=>exact p
  |exit id=>simp at he
 right;refine⟨?_,Calls.mono' av ?_⟩
 ·have X:=hn f fn c hf hc;simp only[callFunc,aV,program,Sem.run,aU,hf];simp only[X,iw,if_false,hc,LM,bJ]
 ·rintro en B ⟨v,rfl,h5⟩
  exact⟨v,rfl,h5⟩
end
noncomputable section
variable{P:Program}{H:Type}{enc:TypeId×Value->H}
inductive bU where
 |bool
 |int (k:IntKind)
 |str
 |list (agg:Bool) (e:List bU)
abbrev WF:=List bU
def fieldTys(P:Program)(r:TypeId->Option WF):Nat->List Field->Option WF
 |_,[]=>some []
 |off,f::fs=>match r f.type with
  |some l=>if Nat.beq f.offset off&&Nat.beq (P.cellsOf f.type) l.length then match fieldTys P r (off+l.length) fs with
   |some m=>some (l++m)
   |none=>none
   else none
  |none=>none
def zK(P:Program):Nat->TypeId->Option WF
 |0,_=>none
 |n+1,t=>match P.underlying t with
  |some .bool=>some [.bool]
  |some (.int k)=>some [.int k]
  |some .string=>some [.str]
  |some (.slice e)=>match zK P n e,oP P e with
   |some l,some b=>if Nat.beq (P.cellsOf e) l.length&&Nat.ble 1 l.length&&Nat.ble 1 (P.bytesOf e)&&(b ||Nat.beq l.length 1)then some [.list b l]else none
   |_,_=>none
  |some (.struct fs)=>match fieldTys P (zK P n) 0 fs.toList with
   |some l=>if Nat.beq (P.cellsOf t) l.length then some l else none
   |none=>none
  |_=>none
mutual
def bU.has:bU->GV->Prop
 |.bool,g=>∃b,g=.b b
 |.int k,g=>∃n,g=.i k n/\k.min<=n/\n<=k.max
 |.str,g=>∃s,g=.s s/\s.length<=reachBytes
 |.list agg e,g=>∃xs,g=.l xs/\xs.length<=reachBytes/\∀x∈xs,bU.jo e x.cells/\x.scalar = !agg
def bU.jo:WF->List GV->Prop
 |[],gs=>gs=[]
 |t::ts,gs=>∃g r,gs=g::r/\bU.has t g/\bU.jo ts r
end
def bU.has.scalar{t:bU}{g:GV}(h:t.has g):g.scalar=true:=by
 cases t<;>simp only[bU.has]at h
 ·obtain⟨b,rfl⟩:=h;rfl
 ·obtain⟨b,rfl,_⟩:=h;rfl
 ·obtain⟨b,rfl,_⟩:=h;rfl
 ·obtain⟨b,rfl,_⟩:=h;rfl
def bU.jo.scalars:∀{l:WF}{gs:Q1},bU.jo l gs->gs.all GV.scalar=true/\gs.length=l.length
 |[],gs,h=>by simp only[bU.jo]at h;subst h;exact⟨rfl,rfl⟩
 |t::l,gs,h=>by simp only[bU.jo]at h;obtain⟨g,r,rfl,h1,a⟩:=h;have:=bU.jo.scalars a;simp[h1.scalar,this.1,this.2]
def bU.jo.append:∀{l m:WF}{gs a:Q1},bU.jo l gs->bU.jo m a->bU.jo (l++m) (gs++a)
 |[],m,gs,a,h,b=>by simp only[bU.jo]at h;subst h;simpa using b
 |t::l,m,gs,a,h,b=>by simp only[bU.jo]at h;obtain⟨g,r,rfl,h1,c⟩:=h;simp only[bg,bU.jo];exact⟨g,r++a,rfl,h1,bU.jo.append c b⟩
def aS.append{ro:Qf}:∀{l m:Q1}{vs b:Q6},aS ro l vs->aS ro m b->aS ro (l++m) (vs++b)
 |[],m,vs,b,h,c=>by simp only[aS]at h;subst h;simpa using c
 |a::l,m,vs,b,h,c=>by simp only[aS]at h;obtain⟨x,xs,rfl,h1,d⟩:=h;simp only[bg,aS];exact⟨x,xs++b,rfl,h1,aS.append d c⟩
def amq:∀{e:TypeId}{a:List (DataW H)}{d:DataW H},d∈a->∀z∈d.weights P e,z∈DataW.weightsAll P e a
 |e,[],d,h,z,_=>by simp at h
 |e,d0::a,d,h,z,b=>by
  simp only[DataW.weightsAll,jJ];rcases bH.1 h with rfl|h
  ·exact .inl b
  ·exact .inr (amq h z b)
def zQ(w:World):Nat->Option Obj:=λb=>w.heap[b]?
def cell?_at {w:World} {a:Addr} {v:Value} (h:w.cell? a=some v):a.spot=none/\∃c elem b,w.heap[a.block]? =some (.cells c elem b)/\c[a.off]? =some v:=by
 unfold World.cell? at h;split at h
 ·next c elem b d=>
  split at h
  ·cases h
  ·next e=>exact⟨by simpa using e,c,elem,b,d,h⟩
 ·cases h
def agU{w:World}{r:TypeId->Option WF}{fuel:Nat}{cs:Q6}
 (e:∀t l ch (x:DataW H×List MemPlace),r t=some l->DataW.trod enc P w 0 (λ_=>true) true fuel t ch=some x->(∀z∈x.1.weights P t,z<=reachBytes)->∃gs,aS (zQ w) gs ch/\bU.jo l gs):
 ∀(fs:List Field)(xs:List (DataW H×List MemPlace))(off:Nat)(l:WF),fieldTys P r off fs=some l->xs.length=fs.length->
  (∀(i:Nat)(f:Field),fs[i]? =some f->DataW.trod enc P w 0 (λ_=>true) true fuel f.type ((cs.drop f.offset).take (P.cellsOf f.type))=xs[i]?)->
  (∀z∈DataW.weightsEach P (fs.map (·.type)) (xs.map (·.1)),z<=reachBytes)->
  ∃gs,aS (zQ w) gs ((cs.drop off).take l.length)/\bU.jo l gs
 |[],xs,off,l,h,_,_,_=>by simp only[fieldTys,aY]at h;subst h;exact⟨[],by simp[aS],by simp[bU.jo]⟩
 |f::fs,[],off,l,_,b,_,_=>by simp at b
 |f::fs,x::xs,off,l,h,b,g,j=>by
  simp only[fieldTys]at h;split at h
  ·next a h1=>
   split at h
   ·next c=>
    rw[aK]at c;have o:=bK c.1;have p:=bK c.2;split at h
    ·next m q=>
     cases h;have k:=g 0 f rfl;simp only[kX]at k;obtain⟨gs,n,s⟩:=e f.type a _ x h1 k (λz d=>j z (by simp only[iP,DataW.weightsEach,jJ];exact .inl d))
     obtain⟨u,v,y⟩:=agU e fs xs (off+a.length) m q (by simpa using b) (λi A B=>by have:=g (i+1) A (by simpa using B);simpa using this)
      (λz d=>j z (by simp only[iP,DataW.weightsEach,jJ];exact .inr d))
     refine⟨gs++u,?_,s.append y⟩;rw[o,p]at n;have:(cs.drop off).take (a++m).length=(cs.drop off).take a.length++(cs.drop (off+a.length)).take m.length:=by rw[eP,DV,rJ]
     rw[this];exact aS.append n v
    ·cases h
   ·cases h
  ·cases h
def agz{c:Nat}{ch:Nat->List Value}{arr:QQ}{off:Nat}:∀(n:Nat)(_:∀i,i<n->(ch i).length=c/\∀j,j<c->arr[off+i*c+j]? =(ch i)[j]?),
 ((List.range n).flatMap ch).length=n*c/\∀(k:Nat) x,((List.range n).flatMap ch)[k]? =some x->arr[off+k]? =some x
 |0,_=>by simp
 |n+1,h=>by
  obtain⟨h1,b⟩:=agz n λi hi=>h i (by omega);obtain⟨d,e⟩:=h n (by omega);rw[List.range_succ,aec];simp only[kE,List.flatMap_nil,qp];refine⟨by rw[eP,h1,d,tH,Iz],λk x a=>?_⟩;by_cases g:k<n*c
  ·rw[og (by omega)]at a;exact b k x a
  ·rw[xI (by omega),h1]at a;have l:=(fM.1 a).1;have:=e (k-n*c) (by omega);rw[a]at this;rw[<-this];congr 1;omega
def aS.ofFn{ro:Qf}{G:Nat->GV}{Y:Nat->Value}:∀(l:Q2),(∀i∈l,GR ro (G i) (Y i))->aS ro (l.map G) (l.map Y)
 |[],_=>by simp[aS]
 |i::l,h=>by simp only[iP,aS];exact⟨_,_,rfl,h i (by simp),aS.ofFn l λj a=>h j (by simp[a])⟩
def adr{w:World}:∀(n m:Nat)(t:TypeId)(cs:Q6)(x:DataW H×List MemPlace)(l:WF),zK P n t=some l->DataW.trod enc P w 0 (λ_=>true) true m t cs=some x->
 (∀z∈x.1.weights P t,z<=reachBytes)->∃gs,aS (zQ w) gs cs/\bU.jo l gs
 |0,m,t,cs,x,l,q,h,hw=>by simp[zK]at q
 |n+1,m,t,cs,x,l,q,h,hw=>by
  simp only[zK]at q;split at q
  ·next B=>
   cases q;obtain⟨b,rfl,rfl⟩:=DataW.trod_bool B h;exact⟨[.b b],by simp[aS,GR],by simp only[bU.jo];exact⟨_,_,rfl,by simp[bU.has],rfl⟩⟩
  ·next k B=>
   cases q;obtain⟨b,rfl,rfl,ai⟩:=DataW.trod_int B h;have aa:k.min<=b/\b<=k.max:=by simpa[Lit.wf]using ai
   exact⟨[.i k b],by simp[aS,GR],by simp only[bU.jo];exact⟨_,_,rfl,by simp only[bU.has];exact⟨b,rfl,aa⟩,rfl⟩⟩
  ·next B=>
   cases q;obtain⟨s,rfl,rfl,hs⟩:=DataW.trod_string B h;refine⟨[.s s.data.toList],by simp only[aS,GR];exact⟨_,_,rfl,by cases s with|mk a=>cases a;rfl,rfl⟩,by simp only[bU.jo];exact⟨_,_,rfl,by simp only[bU.has];exact⟨_,rfl,hw _ (by simp[DataW.weights])⟩,rfl⟩⟩
  ·next e B=>
   split at q
   ·next le N he ax=>
    split at q
    ·next E=>
     cases q;simp only[aK,oK]at E;obtain⟨⟨⟨c1,c2⟩,c3⟩,c4⟩:=E;have c1:=bK c1;have c2:=vC c2;have c3:=vC c3;rcases Deep.open_slice B h with⟨rfl,rfl⟩|⟨a,len,ar,I,n',D,Pl,rfl,hb,hl,hm,rfl,rfl,hi⟩
     ·exact⟨[.l []],by simp[aS,GR],by simp only[bU.jo];exact⟨_,_,rfl,by simp only[bU.has];exact⟨[],rfl,by simp,by simp⟩,rfl⟩⟩
     have ak:I*P.bytesOf e<=reachBytes:=by have:=hw (I*P.bytesOf e) (by simp only[DataW.weights,B,bH,gG,List.length_range];left;rw[Tf hl]);exact this
     have al:I<=reachBytes:=kF (aep _ c3) ak;have one:∀i,i<len->∃o gs,(o.length=P.cellsOf e/\∀j,j<P.cellsOf e->w.cell? (((a.add (i*P.cellsOf e))).add j)=o[j]?)/\aS (zQ w) gs o/\bU.jo le gs:=by
      intro i d;obtain⟨o,R,Z⟩:=hi i (by omega);obtain⟨_,h3,h4⟩:=World.cells?_some R;obtain⟨gs,g1,g2⟩:=adr n n' e o _ le he Z (λz hz=>hw z (by simp only[DataW.weights,B,bH,jJ];right;left;exact amq (by simp only[rM,Aj];exact⟨i,d,rfl⟩) z hz))
      exact⟨o,gs,⟨h3,h4⟩,g1,g2⟩
     by_cases hz:I=0
     ·have am:len=0:=by omega
      subst hz;subst am;refine⟨[.l []],by simp only[aS,GR];exact⟨_,_,rfl,.inl ⟨trivial,_,rfl⟩,rfl⟩,by simp only[bU.jo];exact⟨_,_,rfl,by simp only[bU.has];exact⟨[],rfl,by simp,by simp⟩,rfl⟩⟩
     have ha:a.spot=none/\∃v L fr,w.heap[a.block]? =some (.cells v L fr):=by obtain⟨o,R,Z⟩:=hi 0 (by omega);obtain⟨_,h3,h4⟩:=World.cells?_some R;have h5:=h4 0 (by omega);have V:o[0]? =some o[0]:=bT (by omega);rw[V]at h5;have O:=cell?_at h5;simp only[Nat.zero_mul,Addr.add,if_true]at O;exact⟨O.1,O.2.choose,O.2.choose_spec.choose,O.2.choose_spec.choose_spec.choose,O.2.choose_spec.choose_spec.choose_spec.1⟩
     obtain⟨ab,v,L,fr,M⟩:=ha;obtain⟨bl,A,sp⟩:=a;simp only at ab M;subst ab;have ac:∀i j:Nat,((Addr.mk bl A none).add i).add j=⟨bl,A+i+j,none⟩:=by intro i j;unfold Addr.add;split<;>split<;>simp_all
     have an:∃(o:Nat->List Value)(G:Nat->List GV),∀i,i<len->(o i).length=P.cellsOf e/\(∀j,j<P.cellsOf e->v[A+i*P.cellsOf e+j]? =(o i)[j]?)/\aS (zQ w) (G i) (o i)/\bU.jo le (G i):=by refine⟨λi=>if d:i<len then(one i d).choose else[],λi=>if d:i<len then(one i d).choose_spec.choose else[],λi d=>?_⟩;simp only[dif_pos d];obtain⟨⟨R,Z⟩,h3,h4⟩:=(one i d).choose_spec.choose_spec;refine⟨R,λj hj=>?_,h3,h4⟩;have:=Z j hj;rw[ac]at this;rw[<-this];have V:=bT (l:=(one i d).choose) (i:=j) (by omega);rw[V]at this;have O:=cell?_at this;simp only at O;obtain⟨_,c',e',f',h7,h8⟩:=O;rw[M]at h7;cases h7;rw[this,h8]
     obtain⟨o,G,hG⟩:=an;obtain⟨q1,q2⟩:=agz (c:=P.cellsOf e) (ch:=o) (arr:=v) (off:=A) len λi d=>⟨(hG i d).1,λj hj=>(hG i d).2.1 j hj⟩
     have ao:∀i,i<len->(G i).length=le.length:=λi d=>(hG i d).2.2.2.scalars.2;let X:Nat->GV:=λi=>if N then .g (G i)else(G i).headD (.l [])
     let Y:Nat->Value:=λi=>if N then .agg ⟨o i⟩else(o i).headD undef
     have hX:∀i,i<len->(X i).cells=G i/\(X i).scalar = !N/\GR (zQ w) (X i) (Y i)/\(Y i).cells.toList=o i:=by
      intro i d;obtain⟨p1,p2,p3,p4⟩:=hG i d;cases N with
      |true=>simp only[X,Y,if_true];exact⟨rfl,rfl,by simp only[GR];exact⟨_,rfl,p3⟩,rfl⟩
      |false=>
       have Q:le.length=1:=by simpa using c4
       obtain⟨g,hg⟩:∃g,G i=[g]:=Yx.1 (by rw[ao i d,Q]);obtain⟨y,hy⟩:∃y,o i=[y]:=Yx.1 (by rw[p1,c1,Q]);have W:g.scalar=true:=by have:=p4.scalars.1;rw[hg]at this;simpa using this
       have Nu:GR (zQ w) g y:=by rw[hg,hy]at p3;simp only[aS]at p3;obtain⟨u,us,e1,e2,_⟩:=p3;cases e1;exact e2
       simp only[X,Y,hg,hy,List.headD_cons,iw,if_false,Bool.not_false];refine⟨by cases g<;>first|rfl|(simp[GV.scalar]at W),W,Nu,?_⟩;cases g<;>simp only[GR]at Nu
       ·subst Nu;rfl
       ·subst Nu;rfl
       ·subst Nu;rfl
       ·rcases Nu with⟨_,_,rfl⟩|⟨_,_,_,_,_,rfl,_⟩<;>rfl
       ·simp[GV.scalar]at W
     refine⟨[.l ((List.range len).map X)],?_,?_⟩
     ·simp only[aS];refine⟨_,_,rfl,?_,rfl⟩;simp only[GR];right;have ad:dJ ((List.range len).map Y)=(List.range len).flatMap o:=by unfold dJ;rw[List.flatMap_map];rw[List.flatMap_def,List.flatMap_def,List.map_congr_left λi p=>(hX i (Aj.1 p)).2.2.2]
      refine⟨bl,A,I,(List.range len).map Y,P.cellsOf e,by simp,by simpa using hl,aS.ofFn _ λi p=>(hX i (Aj.1 p)).2.2.1,?_,λap=>⟨v,L,fr,M,?_,?_⟩⟩
      ·intro y hy;obtain⟨i,p,rfl⟩:=rM.1 hy;have:=(hX i (Aj.1 p)).2.2.2;rw[<-Ld,this];exact(hG i (Aj.1 p)).1
      ·rw[ad,q1];have ae:0<len:=by
        rcases Ti len with h0|h0
        ·subst h0;simp at ap
        ·exact h0
       have af:0<P.cellsOf e:=by omega
       have hk:len*P.cellsOf e-1<((List.range len).flatMap o).length:=by rw[q1];have:0<len*P.cellsOf e:=O5 ae af;omega
       have:=q2 _ _ (bT hk);have:=(rG.1 this).1;have:0<len*P.cellsOf e:=O5 ae af;omega
      ·rw[ad];exact q2
     ·simp only[bU.jo];refine⟨_,_,rfl,?_,rfl⟩;simp only[bU.has];refine⟨_,rfl,by simp;omega,λy hy=>?_⟩;obtain⟨i,p,rfl⟩:=rM.1 hy;obtain⟨k1,k2,_⟩:=hX i (Aj.1 p);rw[k1];exact⟨(hG i (Aj.1 p)).2.2.2,k2⟩
    ·cases q
   ·cases q
  ·next fs B=>
   split at q
   ·next l' hf=>
    split at q
    ·next ag=>
     cases q;have ag:=bK ag;obtain⟨xs,n',rfl,rfl,av,aq,hx⟩:=DataW.trod_struct B h
     obtain⟨gs,g1,g2⟩:=agU (enc:=enc) (P:=P) (w:=w) (fuel:=n') (cs:=cs) (r:=zK P n) (λt l o x R Z h3=>adr n n' t o x l R Z h3) fs.toList xs 0 l hf (by simpa using aq)
      (λi f hi=>hx i f (by simpa using hi)) (λz hz=>hw z (by simp only[DataW.weights,B];simpa using hz))
     refine⟨gs,?_,g2⟩;rw[dN,lG (by omega)]at g1;exact g1
    ·cases q
   ·cases q
  ·cases q
def argTys(P:Program)(n:Nat):List TypeId->Option (List (Bool×WF))
 |[]=>some []
 |t::ts=>match zK P n t,oP P t,argTys P n ts with
  |some l,some b,some r=>if b ||Nat.beq l.length 1 then some ((b,l)::r)else none
  |_,_,_=>none
def hasArgs:List (Bool×WF)->List GV->Prop
 |[],gs=>gs=[]
 |(b,l)::r,gs=>∃g a,gs=g::a/\bU.jo l g.cells/\g.scalar = !b/\hasArgs r a
def ayn{w:World}{r:Reach}{c:Nat}{t:TypeId}{v:Value}(h:Value.okWide P w r c t v):(oP P t=some true->∃cs,v=.agg cs)/\
 (oP P t=some false->v.cells =#[v]\/∀n,zK P n t=none):=by
 unfold Value.okWide at h;unfold oP;constructor
 ·intro a;split at a
  ·next b=>rw[b]at h;simp only at h;obtain⟨cs,rfl,_⟩:=h;exact⟨cs,rfl⟩
  ·next b=>rw[b]at h;simp only at h;obtain⟨cs,rfl,_⟩:=h;exact⟨cs,rfl⟩
  ·cases a
  ·cases a
 ·intro a;split at a
  ·cases a
  ·cases a
  ·next u d e b=>
   rw[b]at h
   cases u<;>first
    |(exact absurd rfl (d _))
    |(exact absurd rfl (e _ _))
    |(right;intro n;cases n<;>simp[zK,b];done)
    |(left;simp only[Cell.okWide,b,Cell.ok]at h;cases v<;>first|rfl|(simp only at h;done)|(cases h;done))
  ·cases a
def Kept.below{W a:World}(h:Kept W a):Go.RowKit.Below W.heap.size W a:=⟨h.os,h.tape,h.output,h.size,h.keep⟩
def al2{W g:World}(i:laidOutB P=true)(j:Kept W g){k:Nat->Bool}:∀{ts:List TypeId}{vs:Q6}{e:List (DataW H)}{ps:List MemPlace},DataW.TrodAll enc P W 0 (λ_=>true) true ts vs e ps->
 (∀t∈ts,P.readableRec t=true/\t<P.types.size)->(∀x∈ps,x.block<W.heap.size)->(∀x∈ps,k x.block=true)->DataW.TrodAll enc P g 0 k true ts vs e ps
 |[],[],[],ps,h,_,_,_=>h
 |t::ts,v::vs,d::e,ps,h,l,b,c=>by
  obtain⟨p,q,h1,m,rfl⟩:=h;obtain⟨r1,r2⟩:=l t (by simp)
  exact⟨p,q,WideElems.Trod_stays i r1 r2 h1 (λx a=>j.below.same (b x (YA _ a))) (λx a=>c x (YA _ a)),
   al2 i j m (λn o=>l n (by simp[o])) (λx a=>b x (aei _ a)) (λx a=>c x (aei _ a)),rfl⟩
 |[],_::_,_,_,h,_,_,_=>by simp[DataW.TrodAll]at h
 |[],[],_::_,_,h,_,_,_=>by simp[DataW.TrodAll]at h
 |_::_,[],_,_,h,_,_,_=>by simp[DataW.TrodAll]at h
 |_::_,_::_,[],_,h,_,_,_=>by simp[DataW.TrodAll]at h
end
open Go.ChangeShapes Go.WideShapes Go.ChangeAt Go.RowKit
noncomputable section
variable{P:Program}
def aov{g:aH}{call:Caller}{f:FuncId}{J0 J':aA}(b:@sO g P call)(h0:@Au g J0 P.globals.size)(d:call f [] J0=some (.b true,J')){ro:Qf}{w:World}(a:yP g.tabs ro w):
 lZ P f ⟨[]⟩ w λv w'=>v=.bool true/\Kept w w':=by
 letI:=g
 have k:SR P (wV P.globals.size J0 ro) J0 w:=LQ h0.1 (λid o l=>by obtain⟨c,rfl,m,h⟩:=h0.2 id o l;obtain⟨n,e,q,s,t,u⟩:=a.tab _ m;exact⟨h,c,rfl,⟨n,e,q,a.at' _ _ s,t,u⟩⟩) a.at' (λp x=>a.tab p x)
 refine lZ.mono (b f [] J0 _ _ d _ w [] k rfl) ?_;rintro v w' ⟨F',i,j⟩
 simp only[VR]at j;exact⟨j,i.kept h0.own⟩
def ayD{T:aH}{f:FuncId}(h:∀ro w,yP T.tabs ro w->lZ P f ⟨[]⟩ w λv w'=>v=.bool true/\Kept w w'):@dO T P f Kw:=by
 letI:=T
 intro args J r e a F w g b c;unfold Kw at a;split at a
 ·cases a;simp only[aC]at c;subst c;refine lZ.mono (h F.ro w b.Xn) ?_;rintro v w' ⟨rfl,d⟩
  exact⟨F,St.WT b d,by simp only[VR]⟩
 ·cases a
def AC.qJ:AC->Nat->Option Code
 |.plain _,_=>none
 |.seq x y,k=>match x.qJ k with
  |some b=>some b
  |none=>y.qJ k
 |.cond _ y z,k=>match y.qJ k with
  |some b=>some b
  |none=>z.qJ k
 |.block _ x,k=>x.qJ k
 |.loop a b,k=>if Nat.beq a k then some b else none
 |.peel x a b,k=>if Nat.beq a k then some b else x.qJ k
def AC.G7{k:Nat}{b:Code}:∀{x:AC},x.qJ k=some b->x.ql k b
 |.plain _,h=>by simp[AC.qJ]at h
 |.seq x y,h=>by
  simp only[AC.qJ]at h;split at h
  ·next a=>cases h;exact .inl (AC.G7 a)
  ·exact .inr (AC.G7 h)
 |.cond _ x y,h=>by
  simp only[AC.qJ]at h;split at h
  ·next a=>cases h;exact .inl (AC.G7 a)
  ·exact .inr (AC.G7 h)
 |.block _ x,h=>AC.G7 (x:=x) h
 |.loop c d,h=>by
  simp only[AC.qJ]at h;split at h
  ·next e=>cases h;exact⟨Nat.eq_of_beq_eq_true e,rfl⟩
  ·cases h
 |.peel x c d,h=>by
  simp only[AC.qJ]at h;split at h
  ·next e=>cases h;exact .inl ⟨Nat.eq_of_beq_eq_true e,rfl⟩
  ·exact .inr (AC.G7 h)
def IL(ps:Q2):∀(c:Code)(n:Nat),n<=(mJ ps c n).2/\∀k b,(mJ ps c n).1.ql k b->(n<=k/\k<(mJ ps c n).2)/\(mJ ps c n).1.qJ k=some b
 |.seq x y,n=>by
  obtain⟨h1,a⟩:=IL ps x n;obtain⟨j,d⟩:=IL ps y (mJ ps x n).2;simp only[mJ,AC.ql,AC.qJ];refine⟨by omega,λk b h=>?_⟩;rcases h with h|h
  ·obtain⟨r,e⟩:=a k b h;exact⟨by omega,by rw[e]⟩
  ·obtain⟨r,e⟩:=d k b h;refine⟨by omega,?_⟩;cases g:(mJ ps x n).1.qJ k with
   |none=>exact e
   |some i=>have:=(a k i (AC.G7 g)).1;omega
 |.cond _ x y,n=>by
  obtain⟨h1,a⟩:=IL ps x n;obtain⟨j,d⟩:=IL ps y (mJ ps x n).2;simp only[mJ,AC.ql,AC.qJ];refine⟨by omega,λk b h=>?_⟩;rcases h with h|h
  ·obtain⟨r,e⟩:=a k b h;exact⟨by omega,by rw[e]⟩
  ·obtain⟨r,e⟩:=d k b h;refine⟨by omega,?_⟩;cases g:(mJ ps x n).1.qJ k with
   |none=>exact e
   |some i=>have:=(a k i (AC.G7 g)).1;omega
 |.block id x,n=>IL ps x n
 |.loop x,n=>by
  obtain⟨h1,a⟩:=IL ps x (n+1);simp only[mJ];split
  ·exact⟨by simp,λk b h=>by simp[AC.ql]at h⟩
  ·split
   ·simp only[AC.ql,AC.qJ];refine⟨by omega,λk b h=>?_⟩;rcases h with⟨rfl,rfl⟩|h
    ·exact⟨by omega,by simp⟩
    ·obtain⟨r,e⟩:=a k b h;refine⟨by omega,?_⟩;have:Nat.beq n k=false:=by cases l:Nat.beq n k with|false=>rfl|true=>have:=bK l;omega
     rw[this];exact e
   ·simp only[AC.ql,AC.qJ];refine⟨by omega,λk b h=>?_⟩;obtain⟨rfl,rfl⟩:=h;exact⟨by omega,by simp⟩
 |.skip,n|.region _ _ _,n|.rangeFunc _ _ _ _,n|.exit _,n|.scope _,n|.label _,n|.goto _,n|.ret,n|.refuse _,n=>⟨Nat.le_refl _,λk b h=>by simp[mJ,AC.ql]at h⟩
def aw3{ps:Q2}{c:Code}{k:Nat}{b:Code}(h:(oq ps c).ql k b):(oq ps c).qJ k=some b:=((IL ps c 0).2 k b h).2
def xW:Code->List (Q2×Nat)->Code
 |c,[]=>c
 |c,(ps,k)::r=>xW (((oq ps c).qJ k).getD .skip) r
def anz{ps:Q2}{c:Code}{k:Nat}{b:Code}(h:(oq ps c).ql k b):xW c [(ps,k)]=b:=by simp only[xW,aw3 h,rV]
def afb{ps:Q2}{k:Nat}:∀(r:XN)(c:Code),xW c (r++[(ps,k)])=xW (xW c r) [(ps,k)]
 |[],_=>rfl
 |(_,_)::r,_=>afb r _
abbrev Ik:=Q1->List GV->Prop
def OW(b:List Ik)(k:Nat)(gs a:Q1):Prop:=match b[k]? with
 |some c=>c gs a
 |none=>False
def vF(Ds:W8):iR:=λk=>Ds[k]?
def Ll(C:Nat->List GV->List GV->Prop)(d:aF)(c:Ik):Prop:=∀I:iO,(∀k gs a,I k gs=some a->C k gs a)->∀gs a,d.den I gs=some a->c gs a
def La(C:Nat->List GV->List GV->Prop):W8->List Ik->Prop
 |[],[]=>True
 |d::a,c::cs=>Ll C d c/\La C a cs
 |_,_=>False
def La.at{C:Nat->List GV->List GV->Prop}:∀{b:W8}{cs:List Ik},La C b cs->∀{k:Nat}{d:aF},b[k]? =some d->∃c,cs[k]? =some c/\Ll C d c
 |[],[],_,k,d,a=>by simp at a
 |d0::b,e::cs,h,k,d,a=>by
  cases k with
  |zero=>simp at a;subst a;exact⟨e,rfl,h.1⟩
  |succ k=>obtain⟨c,h1,g⟩:=La.at h.2 (k:=k) (by simpa using a);exact⟨c,by simpa using h1,g⟩
 |[],_::_,h,_,_,_=>h.elim
 |_::_,[],h,_,_,_=>h.elim
def awV{Ds:W8}{b:List Ik}(h:La (OW b) Ds b):∀k gs a,(vF Ds).lim k gs=some a->OW b k gs a:=by refine iR.awW λk d e I g gs a i=>?_;obtain⟨c,j,l⟩:=h.at e;unfold OW;rw[j];exact l I g gs a i
def DY(P:Program)(tabs:Qt)(I:iO)(e:AC)(c:Ww):Prop:=
 ∀k a,dL k c=some a->a.pre.ok=true/\∀b,e.ql k b->∀gs d,I a.key gs=some d->wH P tabs b a.pre a.posts gs d
def DY.nil{tabs:Qt}{I:iO}{a:AC}:DY P tabs I a []:=λk b h=>by simp[dL]at h
def DY.cons{tabs:Qt}{I:iO}{ps:Q2}{c:Code}{k:Nat}{g:aJ}{a:Ww}(i:g.pre.ok=true)(n:∀gs d,I g.key gs=some d->wH P tabs (xW c [(ps,k)]) g.pre g.posts gs d)
 (r:DY P tabs I (oq ps c) a):DY P tabs I (oq ps c) ((k,g)::a):=by
 intro m j h;simp only[dL]at h;cases e:Nat.beq m k with
 |true=>rw[e]at h;cases h;have e:=bK e;subst e;exact⟨i,λb l gs d o=>by rw[<-anz l];exact n gs d o⟩
 |false=>rw[e]at h;exact r m j h
def wH.aym{tabs:Qt}(g:wK tabs P.globals.size)(m:P.follows .mixedOrders=true)(o:xK P){pl:mF}{I:iO}(j:zF P tabs I pl){a:Ww}{fuel:Nat}{d:aJ}(k:d.pre.ok=true){n:Nat}(l:n=d.pre.np)
 {ps:Q2} {b:Code} {t:Tree} (p:DY P tabs I (oq ps b) a) (e:∀gs c,I d.key gs=some c->wH P tabs b d.pre d.posts gs c)
 (q:t.chk (Wp P tabs pl a fuel d (oq ps b)) (List.replicate d.pre.np .arg) []=true) {gs c:Q1} (i:(aF.tree n t).den I gs=some c):wH P tabs b d.pre d.posts gs c:=by
 simp only[aF.den]at i;split at i
 ·next h=>exact wH.Q5 g m o j k p e q (by rw[h,l]) i
 ·cases i
def PL.nil:mF:=λ_=>[]
def PL.cons(f:FuncId)(p:gY->dZ)(l:mF):mF:=λN=>(f,p N)::l N
def PL.ayo{tabs:Qt}{I:iO}:zF P tabs I PL.nil:=λT _ _ p a=>by simp[PL.nil]at a
def PL.Q7{tabs:Qt}{I:iO}{f:FuncId}{p:gY->dZ}{l:mF}(h:∀T:aH,T.tabs=tabs->T.I=I->@dO T P f (p T.togY))(d:zF P tabs I l):zF P tabs I (PL.cons f p l):=by
 intro T b c q a;rcases bH.1 a with rfl|a
 ·exact h T b c
 ·exact d T b c q a
def orP(p q:dZ):dZ:=λargs J=>match p args J with
 |some r=>some r
 |none=>q args J
def ayv{T:aH}{f:FuncId}{p q:dZ}(c:@dO T P f p)(d:@dO T P f q):@dO T P f (orP p q):=by
 letI:=T
 intro args J r b a;unfold orP at a;split at a
 ·next r0 e=>cases a;exact c args J r b e
 ·exact d args J r b a
