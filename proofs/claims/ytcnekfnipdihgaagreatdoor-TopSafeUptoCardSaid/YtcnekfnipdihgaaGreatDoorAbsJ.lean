/- Loops by contract: the step that the evaluator takes at a loop, and how a loop's contract is proved. -/
import Derived.Test.YtcnekfnipdihgaaGreatDoorAbsI
import Derived.ChangeArms
import Derived.Deep.Slices
import Derived.Carry
import Derived.ProofKit
import Derived.OpenShut
import Derived.Deep.DeepHandedRow
set_option linter.all false
namespace Go.aP
noncomputable section
variable{P:Program}
structure US where
 r:Wa
 p:WK
 fz:Q4
def US.Jc(u:US)(j m:Nat):US:=match dW j u.p with
 |some _=>u
 |none=>{u with p:=(j,m)::u.p}
def US.Qk(u:US)(i:Nat)(x:W3):US:=match dW i u.r with
 |some _=>u
 |none=>{u with r:=(i,x)::u.r}
section
variable[iD]
def Ot(P:Program)(J:aC)(a:AV):Option (Nat×W3):=
 match jy a with
 |some m=>some (m,none)
 |none=>match a with
  |.sv id _=>match J.get id with
   |some (.vec m _ _)=>some (m,some id)
   |_=>none
  |.sl id b len c=>match J.get id with
   |some (.cells _ d _ _)=>(listOf P J d (.sl id b len c)).map λm=>(m,some id)
   |_=>none
  |_=>none
mutual
def uV(P:Program)(G:Nat)(J:aC):AV->AV->US->US
 |.nd j,a,u=>match Ot P J a with
  |some (m,some id)=>{u.Jc j m with fz:=id::u.fz}
  |some (m,none)=>u.Jc j m
  |none=>u
 |.sv i _,a,u=>match a with
  |.sv id _=>u.Qk i (some id)
  |.gX=>u.Qk i none
  |_=>u
 |.p i _,a,u=>match a with
  |.p id _=>if i<=G then u else u.Qk i (some id)
  |_=>u
 |.mp i,a,u=>match a with
  |.mp id=>u.Qk i (some id)
  |_=>u
 |.sl i _ _ _,a,u=>match a with
  |.sl id _ _ _=>u.Qk i (some id)
  |_=>u
 |.rx j _,a,u=>match a with
  |.rx m _=>u.Jc j m
  |_=>u
 |.fn _ e g,a,u=>match a with
  |.fn _ b c=>Ip P G J g c (Ip P G J e b u)
  |_=>u
 |.agg l,a,u=>match a with
  |.agg d=>Ip P G J l d u
  |_=>u
 |.fG l,a,u=>match a with
  |.fG d=>Ip P G J l d u
  |_=>u
 |.jE _ x,a,u=>match a with
  |.jE _ h=>uV P G J x h u
  |_=>u
 |_,_,u=>u
def Ip(P:Program)(G:Nat)(J:aC):Q6->List AV->US->US
 |[],_,u=>u
 |a::l,m,u=>match m with
  |b::c=>Ip P G J l c (uV P G J a b u)
  |[]=>u
end
def amC(P:Program)(G:Nat)(J:aC)(t:Tr AV):Wr->US->US
 |[],u=>u
 |p::l,u=>amC P G J t l (match t.get p.1 with|some v=>uV P G J p.2 v u|none=>u)
def YJ(P:Program)(G:Nat)(J:aC):XS->US->US
 |[],u=>u
 |p::l,u=>YJ P G J l (match dW p.1 u.r with
  |some (some id)=>match p.2,J.get id with
   |.cells c _ _ _,some (.cells a _ _ _)=>Ip P G J c a u
   |.vec j _ _,some (.vec m _ _)=>u.Jc j m
   |.smap j _ _,some (.smap m _ _)=>u.Jc j m
   |.smap j _ _,some (.map [])=>match gq (.ml [])with
    |some m=>u.Jc j m
    |none=>u
   |_,_=>u
  |some none=>match p.2 with
   |.vec j _ _=>match gq (.ml [])with
    |some m=>u.Jc j m
    |none=>u
   |_=>u
  |none=>u)
def ac4(p:WK):Nat->Nat->Option Q4
 |_,0=>some []
 |j,n+1=>match dW j p,ac4 p (j+1) n with
  |some m,some r=>some (m::r)
  |_,_=>none
def ZA:Nat->Nat->List (Nat×W3)
 |_,0=>[]
 |i,n+1=>(i+1,some (i+1))::ZA (i+1) n
def fit(P:Program)(s:iK)(a:bK)(J:aC):US:=YJ P s.gn J s.objs (amC P s.gn J a.t s.slots ⟨ZA s.gn s.ka,[],[]⟩)
def fits(P:Program)(s:iK)(a:bK)(J:aC)(ps:Q4):Bool:=Nat.beq ps.length s.np&&match fit P s a J with
 |⟨r,_,fz⟩=>abK P s a J fz r ps
structure aN where
 key:Nat
 pre:iK
 posts:K2
abbrev WD:=List aN
abbrev Wz:=List (Nat×aN)
def KO(tag:Nat):K2->Nat->Option (fM×iK)
 |[],_=>none
 |[p],_=>some p
 |p::q::l,t=>match gq (.ci .i64 t)with
  |some c=>match gq (.bin .eql tag c)with
   |some b=>match aar b with
    |some true=>some p
    |some false=>KO tag (q::l) (t+1)
    |none=>none
   |none=>none
  |none=>none
def Dw(a:Nat)(ps:Q4):List W3->Nat->Nat->Option Q4
 |_,_,0=>some []
 |some i::b,j,n+1=>match ps[i]?,Dw a ps b j n with
  |some m,some r=>some (m::r)
  |_,_=>none
 |none::b,j,n+1=>match gq (.call a ps j),Dw a ps b (j+1) n with
  |some m,some r=>some (m::r)
  |_,_=>none
 |[],j,n+1=>match gq (.call a ps j),Dw a ps [] (j+1) n with
  |some m,some r=>some (m::r)
  |_,_=>none
def abz(P:Program)(tabs:QQ)(b:aN)(a:bK)(J:aC):Wd:=
 match ac4 (fit P b.pre a J).p 0 b.pre.np with
 |some ps=>if fits P b.pre a J ps then
   match gq (.call b.key ps 0)with
   |some tag=>match KO tag b.posts 0 with
    |some (e,s)=>if Nat.beq s.ka iD.ka then match Dw b.key ps s.al 1 s.np with
     |some c=>some (e,s.UL (λj=>c.getD j 0),s.FK tabs (λj=>c.getD j 0))
     |none=>none
     else none
    |none=>none
   |none=>none
  else none
 |none=>none
end
def wo:List W3->List GV->List GV->Option Q3
 |[],_,r=>some r
 |some i::a,gs,r=>match gs[i]?,wo a gs r with
  |some g,some l=>some (g::l)
  |_,_=>none
 |none::a,gs,x::r=>match wo a gs r with
  |some l=>some (x::l)
  |none=>none
 |none::_,_,[]=>none
def Ey(a:Nat):List W3->List Nat->Option Q4
 |[],r=>some r
 |some i::b,r=>bif Nat.blt i a then(match Ey a b r with
  |some l=>some (i::l)
  |none=>none)else none
 |none::b,x::r=>match Ey a b r with
  |some l=>some (x::l)
  |none=>none
 |none::_,[]=>none
def I7(a:Nat)(l:Q4):List W3->Bool
 |[]=>true
 |none::b=>I7 a l b
 |some i::b=>Nat.blt i a&&((match l[i]? with|some m=>Nat.beq m i|none=>false)&&I7 a l b)
def UN(a:Nat)(l:Q4):K2->Bool
 |[]=>true
 |p::ps=>I7 a l p.2.al&&UN a l ps
def ad5{val:Wc}:∀{l:Q4}{gs:Q3},valsOf val l=some gs->∀(i m:Nat),l[i]? =some m->gs[i]? =val m
 |[],gs,h,i,m,a=>by simp at a
 |x::l,gs,h,i,m,a=>by
  simp only[valsOf]at h;split at h
  ·next g r h5 h6=>
   cases h;cases i with
   |zero=>simp at a;subst a;simp[h5]
   |succ i=>simpa using ad5 h6 i m (by simpa using a)
  ·cases h
def VL{k:Nat}{gs b e:Q3}(a:b=gs++e)(q:gs.length=k):∀{j:List W3}{l d:Q4}{r:Q3},Ey k j l=some d->valsOf (λn=>b[n]?) l=some r->∃rest,valsOf (λn=>b[n]?) d=some rest/\wo j gs r=some rest
 |[],l,d,r,h,c=>by simp only[Ey,bf]at h;subst h;exact⟨r,c,rfl⟩
 |some i::j,l,d,r,h,c=>by
  simp only[Ey]at h;cases m:Nat.blt i k with
  |false=>rw[m]at h;cases h
  |true=>
   rw[m]at h;simp only[cond_true]at h;rw[jM]at m;split at h
   ·next s o=>
    cases h;obtain⟨rest,p,h5⟩:=VL a q o c;have hi:b[i]? =some (gs[i]'(by omega)):=by rw[a,oG ah,bV ah]
    refine⟨gs[i]'(by omega)::rest,?_,?_⟩
    ·simp only[valsOf,hi,p]
    ·simp only[wo,h5,bV (ah:i<gs.length)]
   ·cases h
 |none::j,[],d,r,h,c=>by simp[Ey]at h
 |none::j,x::l,d,r,h,c=>by
  simp only[Ey]at h;split at h
  ·next s o=>
   cases h;simp only[valsOf]at c;split at c
   ·next g v t u=>
    cases c;obtain⟨rest,p,h5⟩:=VL a q o u;exact⟨g::rest,by simp only[valsOf,t,p],by simp only[wo,h5]⟩
   ·cases c
  ·cases h
def aaC{k:Nat}{gs b e c:Q3}(a:b=gs++e)(o:gs.length=k){l:Q4}(g:valsOf (λn=>b[n]?) l=some c):∀{d:List W3},I7 k l d=true->∀r,wo d c r=wo d gs r
 |[],_,r=>rfl
 |none::d,h,[]=>rfl
 |none::d,h,x::r=>by simp only[I7]at h;simp only[wo,aaC a o g h r]
 |some i::d,h,r=>by
  simp only[I7,aO,jM]at h;obtain⟨h1,j,p⟩:=h;split at j
  ·next m q=>
   have:=bQ j;subst this;have s:c[m]? =gs[m]?:=by
    rw[ad5 g m m q];show b[m]? =gs[m]?
    rw[a,oG ah]
   simp only[wo,aaC a o g p r,s]
  ·cases j
def afe{c:Nat}{l:Q4}:∀{a:K2},UN c l a=true->∀p∈a,I7 c l p.2.al=true
 |q::a,h,p,b=>by
  simp only[UN,aO]at h;rcases bJ.1 b with rfl|b
  ·exact h.1
  ·exact afe h.2 p b
def wX(P:Program)(tabs:QQ)(b:Code)(d:iK)(c:K2)(gs g:Q3):Prop:=
 ∃(t:Nat)(r a:Q3)(e:fM)(s:iK),g=GV.i .i64 t::r/\c[t]? =some (e,s)/\wo s.al gs r=some a/\a.length=s.np/\∀w0 h A w K,Us P tabs d gs w0 h A w->(∀i j,Us P tabs s a w0 h i j->K e.toExit i j)->BX P b K A w
def acr{T:aJ}{tag:Nat}{d:Nat}(g:T.val tag=some (.i .i64 (d:Nat))):∀(l:K2)(t:Nat){p:fM×iK},@KO T.toiD tag l t=some p->t<=d->∀q,l[d-t]? =some q->p=q
 |[],t,p,h,_,q,a=>by simp[KO]at h
 |[x],t,p,h,j,q,a=>by
  simp only[KO,bf]at h;cases i:d-t with
  |zero=>rw[i]at a;simp at a;rw[<-h,a]
  |succ n=>rw[i]at a;simp at a
 |x::y::l,t,p,h,j,q,a=>by
  letI:=T
  simp only[KO]at h;split at h
  ·next c z=>
   split at h
   ·next b A=>
    obtain⟨D,B,s⟩:=iq z;simp only[Nd.den,bf]at s;subst s;obtain⟨u,v,k⟩:=iq A;have m:aJ.val tag=some (.i .i64 (d:Nat)):=g;simp only[Nd.den,m,B,iV,if_true,dh,bf]at k;split at h
    ·next i=>
     cases h;have:=T.CX b true (QJ i);have o:T.val b=some u:=v;rw[o]at this;cases this;simp at k;have:d-t=0:=ah;rw[this]at a;simpa using a
    ·next i=>
     have:=T.CX b false (QJ i);have o:T.val b=some u:=v;rw[o]at this;cases this;simp at k;have e:d-t=(d-(t+1))+1:=ah;rw[e,vT]at a;exact acr g (y::l) (t+1) h ah q a
    ·cases h
   ·cases h
  ·cases h
def SA{T:aJ}{d:Nat}{ps:Q4}{gs e:Q3}(b:valsOf T.val ps=some gs)(v:T.I d gs=some e):∀(n j:Nat)(p:List W3){o:Q4}{r rest:Q3},(∀k:Nat,r[k]? =e[j+k]?)->wo p gs r=some rest->@Dw T.toiD d ps p j n=some o->o.length=n/\∀(i m:Nat),o[i]? =some m->T.val m=rest[i]?
 |0,j,p,o,r,rest,_,_,h=>by
  letI:=T
  have:o=[]:=by unfold Dw at h;simpa using h.symm
  subst this;simp
 |n+1,j,some M::p,o,r,rest,q,a,h=>by
  letI:=T
  simp only[Dw]at h;simp only[wo]at a;split at a
  ·next g l N E=>
   cases a;split at h
   ·next m L y c=>
    cases h;obtain⟨z,A⟩:=SA b v n j p q E c;refine⟨by simp[z],λi B hi=>?_⟩;cases i with
    |zero=>simp at hi;subst hi;have:=ad5 b M m y;rw[kQ,<-N];exact this.symm
    |succ i=>simpa using A i B (by simpa using hi)
   ·cases h
  ·cases a
 |n+1,j,none::p,o,[],rest,q,a,h=>by simp[wo]at a
 |n+1,j,none::p,o,x::r,rest,q,a,h=>by
  letI:=T
  simp only[Dw]at h;simp only[wo]at a;split at a
  ·next l E=>
   cases a;split at h
   ·next m L y c=>
    cases h;obtain⟨z,A⟩:=SA b v n (j+1) p (r:=r) (λk=>by have:=q (k+1);rw[vT]at this;rw[this];congr 1;omega) E c
    refine⟨by simp[z],λi B hi=>?_⟩;cases i with
    |zero=>simp at hi;subst hi;obtain⟨g,I,D⟩:=iq y;have s:valsOf aJ.val ps=some gs:=b;have t:aJ.I d gs=some e:=v;simp only[Nd.den,s,t]at D;have u:T.val m=some g:=I;have:=q 0;simp only[kQ,oW]at this;rw[u,kQ,this];exact D.symm
    |succ i=>simpa using A i B (by simpa using hi)
   ·cases h
  ·cases a
 |n+1,j,[],o,r,rest,q,a,h=>by
  letI:=T
  simp only[Dw]at h;simp only[wo,bf]at a;subst a;split at h
  ·next m L y c=>
   cases h;obtain⟨z,A⟩:=SA b v n (j+1) [] (r:=r.tail) (λk=>by have:=q (k+1);rw[List.getElem?_tail,this];congr 1;omega) rfl c
   refine⟨by simp[z],λi B hi=>?_⟩;cases i with
   |zero=>simp at hi;subst hi;obtain⟨g,I,D⟩:=iq y;have s:valsOf aJ.val ps=some gs:=b;have t:aJ.I d gs=some e:=v;simp only[Nd.den,s,t]at D;have u:T.val m=some g:=I;have:=q 0;rw[oW]at this;rw[u,this];exact D.symm
   |succ i=>have:=A i B (by simpa using hi);rw[this,List.getElem?_tail]
  ·cases h
def abA{T:aJ}{tabs:QQ}(O:T.tabs=tabs)(o:xk tabs P.globals.size){n:aN}(x:n.pre.ok=true){b:Code}(Z:∀gs d,T.I n.key gs=some d->wX P tabs b n.pre n.posts gs d)
 {a R:bK} {J J':aC} {e:fM} (h:@abz T.toiD P tabs n a J=some (e,R,J')) {Q:fM->bK->aC->Prop} (hq:Q e R J'):@D7 T P b a J Q:=by
 letI:=T
 unfold abz at h;split at h
 ·next ps aa=>
  split at h
  ·next c=>
   split at h
   ·next tag p=>
    split at h
    ·next e' s i=>
     split at h;rotate_left
     ·cases h
     next l=>
     have l:=bQ l;split at h
     ·next v y=>
      cases h;obtain⟨gt,t1,m⟩:=iq p;simp only[Nd.den]at m;split at m
      ·next gs q=>
       split at m
       ·next d W=>
        obtain⟨t,r,X,e2,s2,rfl,z,B,ab,u⟩:=Z gs d W;simp only[kQ,bf]at m;subst m;have D:=acr t1 n.posts 0 i (sG _) (e2,s2) (by simpa using z);cases D;obtain⟨n1,n2⟩:=SA q W _ 1 s.al (r:=r) (λk=>by rw[L8,vT]) B y;intro w0 fA F w A K hF hl ht hK;unfold fits at c;rw[aO]at c;have E:=abN O o x hF hl ht c.2 q;refine u w0 fA A w K E λA' w' I=>?_;obtain⟨F',L,M⟩:=ady (T:=T) (f:=λj=>v.getD j 0) O l.symm (λj g Y=>by
         have N:j<v.length:=by have:=(fV.1 Y).1;omega
         have hm:v[j]? =some (v.getD j 0):=by rw[zN,bV N];rfl
         rw[n2 j _ hm];exact Y) I
        exact hK e _ _ F' A' w' hq L rfl M
       ·cases m
      ·cases m
     ·cases h
    ·cases h
   ·cases h
  ·cases h
 ·cases h
def ad4{val:Wc}:∀{l:Q4}{gs:Q3},valsOf val l=some gs->gs.length=l.length
 |[],gs,h=>by simp only[valsOf,bf]at h;subst h;rfl
 |x::l,gs,h=>by
  simp only[valsOf]at h;split at h
  ·next h5 h6=>cases h;simp[ad4 h6]
  ·cases h
def fM.eq:fM->fM->Bool
 |.normal,.normal=>true
 |.ret,.ret=>true
 |.exit a,.exit b=>Nat.beq a b
 |_,_=>false
def fM.eq_of{a b:fM}(h:a.eq b=true):a=b:=by
 cases a<;>cases b<;>first|rfl|(cases h;done)|skip
 rw[bQ h]
abbrev mY:=iD->List (FuncId×dV)
def zO(P:Program)(tabs:QQ)(I:je)(pl:mY):Prop:=∀T:aJ,T.tabs=tabs->T.I=I->∀p∈pl T.toiD,@dP T P p.1 p.2
def KU(P:Program)(N:iD)(pl:mY)(fuel:Nat):Code->bK->aC->Option (fM×bK×aC):=@Gg N P (Zr P) (ac3 (pl N)) fuel
def FM(P:Program)(tabs:QQ)(N:iD)(b:Wz):Zf:=λk a J=>match dW k b with
 |some c=>@abz N P tabs c a J
 |none=>none
def Xe(P:Program)(tabs:QQ)(pl:mY)(b:Wz)(fuel:Nat)(a:aN)(i:AC)(c:List Nd)(d:Wm)(k:Leaf):Bool:=
 match @yt ⟨c,d,a.pre.ka⟩ (FM P tabs ⟨c,d,a.pre.ka⟩ b) (KU P ⟨c,d,a.pre.ka⟩ pl fuel) i (a.pre.UL λj=>j) (a.pre.FK tabs λj=>j)with
 |some (e,g,h)=>match k with
  |.ret (m::l)=>match c[m]? with
   |some (.ci .i64 t)=>match a.posts[t.toNat]? with
    |some (n,s)=>decide (0<=t)&&!(e.eq .normal)&&e.eq n&&s.ok&&(match Ey a.pre.np s.al l with|some o=>@fits ⟨c,d,a.pre.ka⟩ P s g h o|none=>false)
    |none=>false
   |_=>false
  |.tail f l=>Nat.beq f a.key&&e.eq .normal&&(UN a.pre.np l a.posts&&@fits ⟨c,d,a.pre.ka⟩ P a.pre g h l)
  |_=>false
 |none=>false
@[reducible] def Tw(tabs:QQ)(I:je)(ka:Nat){b:List Nd}{c:Wm}{a:Q3}(h:Eh I b c a):aJ:={nodes:=b,dec:=c,ka:=ka,tabs:=tabs,I:=I,val:=λn=>a[n]?,tH:=h.node,CX:=h.dec}
def Eh.start(I:je)(gs:Q3)(n:Nat)(h:gs.length=n):Eh I (List.replicate n .arg) [] gs:=
 ⟨by simp[h],λk e a c=>absurd (aeO.1 (sD a)).2 c,λk b d=>by simp at d⟩
def adp{T:aJ}(a:P.follows .mixedOrders=true)(b:xX P){pl:mY}(c:∀p∈pl T.toiD,@dP T P p.1 p.2)(fuel:Nat):@PY T P (KU P T.toiD pl fuel):=
 (@agk T P _ _ (agV a) (akS c) b fuel).1
def wX.Sm{tabs:QQ}(p:xk tabs P.globals.size)(hm:P.follows .mixedOrders=true)(hn:xX P){pl:mY}{I:je}(aa:zO P tabs I pl){h:Wz}{fuel:Nat}{m:aN}(ab:m.pre.ok=true){ps:Q4}{b:Code}{t:Tree}
 (JK:∀k i,dW k h=some i->i.pre.ok=true/\∀c,(oI ps b).qE k c->∀gs d,I i.key gs=some d->wX P tabs c i.pre i.posts gs d)
 (B:∀gs d,I m.key gs=some d->wX P tabs b m.pre m.posts gs d)
 (Bo:t.chk (Xe P tabs pl h fuel m (oI ps b)) (List.replicate m.pre.np .arg) []=true) {gs d:Q3} (q:gs.length=m.pre.np) (hd:t.den I gs=some d):wX P tabs b m.pre m.posts gs d:=by
 obtain⟨ns,ds,O,lf,o,h2,⟨an,h3⟩,R⟩:=Tree.Np t Bo (Eh.start I gs _ q) hd;let T:aJ:=Tw tabs I m.pre.ka h2
 unfold Xe at o;split at o
 ·next e a' J' W=>
  have NR:∀Q:fM->bK->aC->Prop,Q e a' J'->@AT T P b (m.pre.UL λj=>j) (m.pre.FK tabs λj=>j) Q:=by
   intro Q hq;have:=@Zw P T (FM P tabs ⟨ns,ds,m.pre.ka⟩ h) (KU P ⟨ns,ds,m.pre.ka⟩ pl fuel) (adp (T:=T) hm hn (aa T rfl rfl) fuel) (oI ps b) (zU ps b 0).2 (λk c hk a J e1 a1 J1 hs Q' ac=>by
    unfold FM at hs;split at hs
    ·next i ad=>
     obtain⟨k1,k2⟩:=JK k i ad;exact abA (T:=T) rfl p k1 (λgs d hI=>k2 c hk gs d hI) hs ac
    ·cases hs) _ _ _ _ _ W Q hq
   rwa [show(oI ps b).erase=b from(zU ps b 0).1]at this
  have x:∀j g,gs[j]? =some g->T.val ((λj=>j) j)=some g:=by
   intro j g hj;show O[j]? =some g
   rw[h3];have:=(fV.1 hj).1;rw[oG this];exact hj
  split at o
  ·next tn l=>
   split at o
   ·next tt ae=>
    split at o
    ·next e' s D=>
     simp only[aO,decide_eq_true_iff]at o;obtain⟨⟨⟨⟨t0,t1⟩,t2⟩,X⟩,y⟩:=o;split at y;rotate_left
     ·cases y
     next l2 af=>
     have e1:=fM.eq_of t2;subst e1;simp only[valsOf]at R;split at R
     ·next g r hg ag=>
      cases R;obtain⟨g',k1,k2⟩:=h2.node tn _ ae aA;have ai:O[tn]? =some g:=hg;rw[ai]at k1;cases k1;simp only[Nd.den,bf]at k2;subst k2;obtain⟨n,u,ak⟩:=VL h3 q af ag;have al:n.length=s.np:=by unfold fits at y;rw[aO]at y;rw[<-bQ y.1];exact ad4 u
      refine⟨tt.toNat,r,n,e,s,by rw[IG t0],D,ak,al,λw0 fA A w K hS hK=>BX.step ?_⟩;obtain⟨F,hF,ht⟩:=ady (T:=T) (f:=λj=>j) rfl rfl x hS;refine NR (λv Y Z=>v=e/\Y=a'/\Z=J') ⟨rfl,rfl,rfl⟩ w0 fA F w A _ hF rfl ht ?_;rintro v Y Z F' A' w' ⟨rfl,rfl,rfl⟩ E L M
      unfold fits at y;rw[aO]at y;have N:=abN (T:=T) rfl p X E L M y.2 u;have:=hK A' w' N;cases v with
      |normal=>simp[fM.eq]at t1
      |exit id=>exact this
      |ret=>exact this
     ·cases R
    ·cases o
   ·cases o
  ·next f l=>
   simp only[aO]at o;obtain⟨⟨t1,t2⟩,t5,X⟩:=o;have e1:=fM.eq_of t2;subst e1;have v:=bQ t1;subst v;obtain⟨am,z,hI⟩:=R;obtain⟨tn,r,n,v,s,r1,r2,r5,r3,r4⟩:=B am d hI;refine⟨tn,r,n,v,s,r1,r2,by rw[<-aaC h3 q z (afe t5 _ (sD r2)) r];exact r5,r3,λw0 fA A w K hS hK=>BX.step ?_⟩;obtain⟨F,hF,ht⟩:=ady (T:=T) (f:=λj=>j) rfl rfl x hS;refine NR (λv Y Z=>v=.normal/\Y=a'/\Z=J') ⟨rfl,rfl,rfl⟩ w0 fA F w A _ hF rfl ht ?_;rintro e3 Y Z F' A' w' ⟨rfl,rfl,rfl⟩ E L M
   unfold fits at X;rw[aO]at X;have N:=abN (T:=T) rfl p ab E L M X.2 z;exact r4 w0 fA A' w' K N hK
  ·cases o
 ·cases o
structure pO(P:Program)(tabs:QQ)(f:FuncId)(st:W8)(sh:WP)(gs out:Q3):Prop where
 call:anl P tabs f st gs out
 fits:pK sh out=true
section
variable[iD]
def Vd(P:Program)(J:aC)(fz:Q4)(a:AV):W3:=
 match Ot P J a with
 |some (m,none)=>some m
 |some (m,some _)=>if V7 P J fz a m then some m else none
 |none=>none
def Jq(P:Program)(J:aC)(fz:Q4):Q6->Option Q4
 |[]=>some []
 |a::l=>match Vd P J fz a,Jq P J fz l with
  |some m,some r=>some (m::r)
  |_,_=>none
def YN(P:Program)(J:aC)(fz:Q4):AV->Option Nat
 |.agg l=>match Jq P J fz l with
  |some b=>gq (.mk b)
  |none=>none
 |a=>Vd P J fz a
def valsN(P:Program)(J:aC)(fz:Q4):Q6->Option Q4
 |[]=>some []
 |a::l=>match YN P J fz a,valsN P J fz l with
  |some m,some r=>some (m::r)
  |_,_=>none
def ahH(P:Program)(J:aC)(a:AV):Q4:=match Ot P J a with
 |some (_,some id)=>[id]
 |_=>[]
def EF(P:Program)(J:aC):Q6->List Nat
 |[]=>[]
 |.agg l::r=>l.flatMap (ahH P J)++EF P J r
 |a::r=>ahH P J a++EF P J r
def XA(k:Nat)(a:Q4)(j:Nat):pR->Option AV
 |.sc=>lI (.call k a j)
 |.ag n=>match gq (.call k a j)with
  |some m=>(Jo m 0 n).map .agg
  |none=>none
def KH(k:Nat)(b:Q4):Nat->List pR->Option Q6
 |_,[]=>some []
 |j,s::l=>match XA k b j s,KH k b (j+1) l with
  |some a,some r=>some (a::r)
  |_,_=>none
def XC(P:Program)(k:Nat)(st:W8)(b:WP):dV:=λc J=>match DV st c with
 |none=>none
 |some args=>
 let fz:=EF P J args
 if fz.all (Nat.ble J.lock ·)then
  match valsN P J fz args with
  |some d=>match KH k d 0 b with
   |some (a::l)=>some (Ll (a::l),kills J fz)
   |_=>none
  |none=>none
 else none
end
def V6{T:aJ}{F:Env}{J:aC}{w:World}(h:@SR T P F J w):∀fz:Q4,(∀id∈fz,J.lock<=id)->∃dG,(∀b o,F.ro b=some o->dG b=some o)/\@St T P F J w ⟨F.pl,dG,F.gh⟩ (kills J fz) w/\
 (∀id∈fz,∀o q,J.get id=some o->o.own=true->F id=some q->dG q.bl=w.heap[q.bl]?)
 |[],_=>⟨F.ro,λ_ _ h=>h,@St.refl T _ _ _ _ h,aA⟩
 |id::fz,l=>by
  letI:=T
  obtain⟨dG,u,p,s⟩:=V6 h fz (λk z=>l k (yU _ z));by_cases v:∃o q,(kills J fz).get id=some o/\o.own=true/\F id=some q
  ·obtain⟨o,q,A,m,x⟩:=v;have t:=St.freeze p.rel A m (by rw[N9];exact l id aA) (show(⟨F.pl,dG,F.gh⟩:Env) id=some q from x);refine⟨Ic dG w q.bl,λb o B=>XY p.rel.jl q.bl b o (u b o B),p.trans t,?_⟩;intro d i n j g a c;show(if j.bl=q.bl then w.heap[q.bl]? else dG j.bl)=_
   split
   ·next e=>rw[e]
   ·next e=>
    rcases bJ.1 i with rfl|i
    ·rw[x]at c;cases c;exact absurd rfl e
    ·exact s d i n j g a c
  ·refine⟨dG,u,p.WY id,?_⟩;intro d i n j g a c;rcases bJ.1 i with rfl|i
   ·by_cases y:d∈fz
    ·exact s d y n j g a c
    ·exact absurd ⟨n,j,by rw[EN,aj y];exact g,a,c⟩ v
   ·exact s d i n j g a c
section
variable{T:aJ}{tabs:QQ}{G next:Nat}{F:Env}{J:aC}{w:World}{fz:Q4}{r:Wa}{ps:Q4}{gs:Q3}{dG:QP}
def ayu{a:AV}{m:Nat}(h:@Ot T.toiD P J a=some (m,none)):@jy T.toiD a=some m:=by
 letI:=T
 unfold Ot at h;split at h
 ·next b c=>cases h;exact c
 ·split at h
  ·split at h<;>cases h
  ·split at h
   ·obtain⟨b,_,e⟩:=bG.1 h;cases e
   ·cases h
  ·cases h
def af0(C:wY T P tabs G next F J w fz r ps gs dG){a:AV}{m:Nat}{v:Value}(h:@Vd T.toiD P J fz a=some m)(s:@VR T F a v):∃g,T.val m=some g/\g.scalar=true/\GR dG g v:=by
 letI:=T
 unfold Vd at h;split at h
 ·next t b=>
  cases h;obtain⟨g,k,l,u⟩:=nK (ayu b) s;exact⟨g,k,l,GR.mono C.wO _ _ u⟩
 ·next t id b=>
  split at h
  ·next x=>
   cases h;have j:∃g,T.val m=some g:=by
    unfold Ot at b;split at b
    ·cases b
    ·split at b
     ·next y n=>
      split at b
      ·next z A f i=>
       cases b;rcases C.rel.live _ _ i with⟨q,M,o⟩|⟨_,N,B,O,D,p⟩
       ·obtain⟨Q,E,_⟩:=o.Oi;exact⟨_,E⟩
       ·cases D;exact⟨_,p⟩
      ·cases b
     ·split at b
      ·next c A R I i=>
       obtain⟨z,d,e⟩:=bG.1 b;cases e;unfold listOf at d;simp only[i]at d;split at d
       ·split at d
        ·split at d
         ·split at d
          ·obtain⟨g,L,_⟩:=iq d;exact⟨g,L⟩
          ·cases d
         ·cases d
        ·cases d
       ·cases d
      ·cases b
     ·cases b
   obtain⟨g,i⟩:=j;obtain⟨k,l⟩:=ahD C x s i;exact⟨g,i,k,l⟩
  ·cases h
 ·cases h
def Vf(C:wY T P tabs G next F J w fz r ps gs dG):∀{l:Q6}{d:Q4}{vs:Qt},@Jq T.toiD P J fz l=some d->@aG T F l vs->∃b,valsOf T.val d=some b/\b.all GV.scalar=true/\aT dG b vs
 |[],d,vs,h,c=>by simp only[Jq,bf]at h;subst h;simp only[aG]at c;subst c;exact⟨[],rfl,rfl,by simp[aT]⟩
 |a::l,d,vs,h,c=>by
  letI:=T
  simp only[Jq]at h;split at h
  ·next m v e i=>
   cases h;simp only[aG]at c;obtain⟨x,j,rfl,k,n⟩:=c;obtain⟨g,o,p,q⟩:=af0 C e k;obtain⟨b,s,t,u⟩:=Vf C i n;exact⟨g::b,by simp only[valsOf,o,s],by simp[p,t],by simp only[aT];exact⟨x,j,rfl,q,u⟩⟩
  ·cases h
def aFh(C:wY T P tabs G next F J w fz r ps gs dG){a:AV}{m:Nat}{v:Value}(h:@YN T.toiD P J fz a=some m)(e:@VR T F a v):∃g,T.val m=some g/\GR dG g v/\(match a with|.agg l=>∃b,g=.g b/\b.length=l.length|_=>g.scalar=true):=by
 letI:=T
 cases a;case agg l=>
  simp only[YN]at h;split at h
  ·next o i=>
   simp only[VR]at e;obtain⟨p,rfl,c⟩:=e;obtain⟨b,q,s,n⟩:=Vf C i c;obtain⟨g,j,d⟩:=iq h;have k:valsOf aJ.val o=some b:=q;simp only[Nd.den,k,s,if_true,bf]at d;subst d;exact⟨_,j,by simp only[GR];exact⟨p,rfl,n⟩,b,rfl,by rw[n.length,c.length]⟩
  ·cases h
 all_goals
  simp only[YN]at h;obtain⟨g,j,d,t⟩:=af0 C h e;exact⟨g,j,t,d⟩
def ad3(C:wY T P tabs G next F J w fz r ps gs dG):∀{l:Q6}{c:Q4}{vs:Qt},@valsN T.toiD P J fz l=some c->@aG T F l vs->∃d,valsOf T.val c=some d/\aT dG d vs
 |[],c,vs,h,b=>by simp only[valsN,bf]at h;subst h;simp only[aG]at b;subst b;exact⟨[],rfl,by simp[aT]⟩
 |a::l,c,vs,h,b=>by
  letI:=T
  simp only[valsN]at h;split at h
  ·next m t e i=>
   cases h;simp only[aG]at b;obtain⟨x,j,rfl,k,n⟩:=b;obtain⟨g,o,p,_⟩:=aFh C e k;obtain⟨d,q,s⟩:=ad3 C i n;exact⟨g::d,by simp only[valsOf,o,q],by simp only[aT];exact⟨x,j,rfl,p,s⟩⟩
  ·cases h
def ab7{k:Nat}{A:Q4}{B e:Q3}(p:valsOf T.val A=some B)(E:T.I k B=some e){F':Env}:∀{I:WP}{j:Nat}{l:Q6}{D:Qt}{rest:Q3},@KH T.toiD k A j I=some l->pK I rest=true->(∀i,rest[i]? =e[j+i]?)->aT F'.ro rest D->@aG T F' l D
 |[],j,l,D,rest,h,d,L,q=>by
  cases rest with
  |cons a b=>simp[pK]at d
  |nil=>simp only[KH,bf]at h;subst h;simp only[aT]at q;subst q;simp[aG]
 |s::I,j,l,D,rest,h,d,L,q=>by
  letI:=T
  cases rest with
  |nil=>cases s<;>simp[pK]at d
  |cons g rest=>
   simp only[KH]at h;split at h
   ·next a r' t v=>
    cases h;simp only[aT]at q;obtain⟨u,x,rfl,M,X⟩:=q;have Y:=L 0;simp only[kQ,oW]at Y;have o:(Nd.call k A j).den aJ.I aJ.val=some g:=by have N:valsOf aJ.val A=some B:=p;have O:aJ.I k B=some e:=E;simp only[Nd.den,N,O];exact Y.symm
    have c:∀i,rest[i]? =e[j+1+i]?:=λi=>by have:=L (i+1);rw[vT]at this;rw[this];congr 1;omega
    cases s with
    |sc=>simp only[pK,aO]at d;refine⟨u,x,rfl,?_,ab7 p E v d.2 c X⟩;obtain⟨_,g',_,y,k3⟩:=oz (F:=F') t;rw[o]at y;cases y;exact k3 u d.1 M
    |ag n=>
     simp only[pK,aO]at d;refine⟨u,x,rfl,?_,ab7 p E v d.2 c X⟩;simp only[XA]at t;split at t
     ·next m hm=>
      obtain⟨l',Q,rfl⟩:=bG.1 t;obtain⟨g',k1,y⟩:=iq hm;rw[o]at y;cases y;obtain⟨aa,h5,h6⟩:=Ve (F:=F') k1 n 0 Q;cases g with
      |g Z=>have z:=bQ d.1.2;simp only[GR]at M;obtain⟨vs,rfl,R⟩:=M;simp only[VR];refine⟨vs,rfl,h6 vs ?_⟩;obtain⟨e1,e2,_⟩:=uJ h5;have W:Z.length=n:=z;rw[e1,dY,lS (by rw[nS];show Z.length<=n;omega)];exact(qC _ _).1 R
      |_=>simp[GV.scalar]at d
     ·cases t
   ·cases h
def amB{T:aJ}{F:Env}{l:Q6}{d:Qt}(h:@aG T F l d):@VR T F (Ll l) (DY d):=by
 letI:=T
 have c:=h.length;match l,d,h,c with
 |[a],[u],h,_=>simp only[aG]at h;obtain⟨x,i,e,g,j⟩:=h;cases e;exact g
 |[],[],h,_=>show VR F (.fG []) (.tuple ⟨[]⟩);simp only[VR];exact⟨_,rfl,h⟩
 |a::b::l,u::k::d,h,_=>show VR F (.fG _) (.tuple ⟨_⟩);simp only[VR];exact⟨_,rfl,h⟩
 |[],_::_,_,c=>simp at c
 |[_],[],_,c=>simp at c
 |[_],_::_::_,_,c=>simp at c
 |_::_::_,[],_,c=>simp at c
 |_::_::_,[_],_,c=>simp at c
def akc{f:FuncId}{k:Nat}{st:W8}{q:WP}(W:∀gs a,T.I k gs=some a->pO P T.tabs f st q gs a):@dP T P f (@XC T.toiD P k st q):=by
 letI:=T
 intro Qg J rr J' c F w X O x;unfold XC at c;split at c
 ·cases c
 next args y=>
 obtain⟨Y,rfl,Z⟩:=YG y x;simp only at c;split at c
 ·next z=>
  have Bq:∀id∈EF P J args,J.lock<=id:=λid A=>um (List.all_eq_true.1 z id A);split at c
  ·next Q B=>
   split at c
   ·next a0 l o=>
    cases c;obtain⟨dG,f1,D,f3⟩:=V6 O (EF P J args) Bq;have C:wY T P T.tabs P.globals.size (P.globals.size+1) F J w (EF P J args) [] [] [] dG:=⟨O,rfl,f1,f3,rfl,Ce _⟩
    obtain⟨t,R,k2⟩:=ad3 C B Z;have u:∃a,T.I k t=some a:=by
     have d:∀{m g},gq (.call k Q 0)=some m->aJ.val m=some g->∃a,T.I k t=some a:=by
      intro m g e hg;obtain⟨g',_,d2⟩:=iq e;have E:valsOf aJ.val Q=some t:=R;simp only[Nd.den,E]at d2;split at d2
      ·next r hr=>exact⟨r,hr⟩
      ·cases d2
     cases q with
     |nil=>simp[KH]at o
     |cons s q=>
      simp only[KH]at o;split at o
      ·next a1 r1 b _=>
       cases s with
       |sc=>
        simp only[XA,lI]at b;split at b
        ·next m e=>obtain⟨g,I,_⟩:=iq e;exact d e I
        ·cases b
       |ag n=>
        simp only[XA]at b;split at b
        ·next m e=>obtain⟨g,I,_⟩:=iq e;exact d e I
        ·cases b
      ·cases o
    obtain⟨a,u⟩:=u;obtain⟨h,p⟩:=W t a u;refine lY.mono (h dG w Y D.rel.X3 k2) ?_;rintro v w' ⟨j,L,us,rfl,M⟩
    have N:=St.ajY (ro':=j) D.rel L;refine⟨_,D.trans N,amB (ab7 R u (F':=⟨F.pl,j,F.gh⟩) o p (λi=>aA) M)⟩
   ·cases c
  ·cases c
 ·cases c
def adl:WP->List AV->Bool
 |[],[]=>true
 |.sc::l,a::m=>(match a with|.agg _=>false|_=>true)&&adl l m
 |.ag n::l,a::m=>(match a with|.agg c=>Nat.beq c.length n|_=>false)&&adl l m
 |_,_=>false
section
variable[iD]
def I9:Nat->List pR->Option Q6
 |_,[]=>some []
 |j,.sc::l=>match I9 (j+1) l with
  |some r=>some (.nd j::r)
  |none=>none
 |j,.ag n::l=>match Jo j 0 n,I9 (j+1) l with
  |some c,some r=>some (.agg c::r)
  |_,_=>none
end
def ZG{F:Env}:∀{p:WP}{j:Nat}{l:Q6}{vs:Qt}{rest:Q3},@I9 T.toiD j p=some l->pK p rest=true->(∀i g,rest[i]? =some g->T.val (j+i)=some g)->aT F.ro rest vs->@aG T F l vs
 |[],j,l,vs,rest,h,e,q,m=>by
  cases rest with
  |cons a b=>simp[pK]at e
  |nil=>simp only[I9,bf]at h;subst h;simp only[aT]at m;subst m;simp[aG]
 |s::p,j,l,vs,rest,h,e,q,m=>by
  letI:=T
  cases rest with
  |nil=>cases s<;>simp[pK]at e
  |cons g rest=>
   simp only[aT]at m;obtain⟨u,y,rfl,t,z⟩:=m;have A:=q 0 g aA;have d:∀i g,rest[i]? =some g->T.val (j+1+i)=some g:=λi g hi=>by have:=q (i+1) g (by simpa using hi);rw[<-this];congr 1;omega
   cases s with
   |sc=>
    simp only[I9]at h;split at h
    ·next D k=>
     cases h;simp only[pK,aO]at e;exact⟨u,y,rfl,by simp only[VR];exact⟨g,A,e.1,t⟩,ZG k e.2 d z⟩
    ·cases h
   |ag n=>
    simp only[I9]at h;split at h
    ·next c D E k=>
     cases h;simp only[pK,aO]at e;refine⟨u,y,rfl,?_,ZG k e.2 d z⟩;obtain⟨I,L,M⟩:=Ve (F:=F) A n 0 E;cases g with
     |g B=>have o:=bQ e.1.2;simp only[GR]at t;obtain⟨vs,rfl,v⟩:=t;simp only[VR];refine⟨vs,rfl,M vs ?_⟩;obtain⟨N,O,_⟩:=uJ L;have x:B.length=n:=o;rw[N,dY,lS (by rw[nS];show B.length<=n;omega)];exact(qC _ _).1 v
     |_=>simp[GV.scalar]at e
    ·cases h
def abE(P:Program)(tabs:QQ)(pl:mY)(a:Wz)(fuel:Nat)(st:W8)(j k:WP)(b:Nat)(g:List ResultVar)(m:AC)(c:List Nd)(d:Wm)(o:Leaf):Bool:=
 match o with
 |.ret l=>match @I9 ⟨c,d,0⟩ 0 j with
  |some args=>match @yt ⟨c,d,0⟩ (FM P tabs ⟨c,d,0⟩ a) (KU P ⟨c,d,0⟩ pl fuel) m {t:=A8 (yI st args) 0 .nil,n:=max (yI st args).length b,gn:=P.globals.size} ⟨qU (xP tabs),P.globals.size+1,0⟩with
   |some (e,p,h)=>(match e with|.exit _=>false|_=>true)&&match CJ P h p g with
    |some i=>adl k i&&match @valsN ⟨c,d,0⟩ P h (@EF ⟨c,d,0⟩ P h i) i with
     |some q=>zy l q
     |none=>false
    |none=>false
   |none=>false
  |none=>false
 |_=>false
def YD(a:xk tabs P.globals.size)(c:T.tabs=tabs):@AY T ⟨qU (xP tabs),P.globals.size+1,0⟩ P.globals.size:=by refine⟨Nat.lt_succ_self _,λid o d=>?_⟩;have g:=Sl (show(qU (xP tabs)).get id=some o from d);obtain⟨p,b,e⟩:=su.1 g;cases e;exact⟨p.2,rfl,by rw[c];exact b,a.low p b⟩
def pO.Sm{tabs:QQ}(O:xk tabs P.globals.size)(hm:P.follows .mixedOrders=true)(hn:xX P){pl:mY}{I:je}(ai:zO P tabs I pl){y:Wz}{fuel:Nat}{f:FuncId}{fn:Func}{c:Code}{pe:Q4}{st:W8}{yN Am:WP}{t:Tree}
 (hf:P.funcs[f]? =some fn) (hc:fn.body=some c)
 (JK:∀k z,dW k y=some z->z.pre.ok=true/\∀b,(oI pe c).qE k b->∀gs d,I z.key gs=some d->wX P tabs b z.pre z.posts gs d)
 (Bo:t.chk (abE P tabs pl y fuel st yN Am fn.ntmps fn.results.toList (oI pe c)) (List.replicate yN.length .arg) []=true) {gs d:Q3} (D:(aH.fn yN Am t).den I gs=some d):pO P tabs f st Am gs d:=by
 simp only[aH.den]at D;split at D;rotate_left
 ·cases D
 next q=>
 split at D;rotate_left
 ·cases D
 next aL aa=>
 split at D;rotate_left
 ·cases D
 next ak=>
 cases D;have D:=aa;have ab:gs.length=yN.length:=by
  clear D aa Bo;induction yN generalizing gs with
  |nil=>cases gs with|nil=>rfl|cons _ _=>simp[pK]at q
  |cons s sh ih=>cases gs with
   |nil=>cases s<;>simp[pK]at q
   |cons g gs=>cases s<;>simp only[pK,aO]at q<;>simp[ih q.2]
 obtain⟨ns,ds,R,lf,m,h2,⟨aE,h3⟩,h4⟩:=Tree.Np t Bo (Eh.start I gs _ ab) D;let T:aJ:=Tw tabs I 0 h2
 unfold abE at m;split at m
 ·next l=>
  split at m
  ·next args W=>
   split at m
   ·next e a' J' ac=>
    rw[aO]at m;obtain⟨he,m⟩:=m;split at m
    ·next rs al=>
     rw[aO]at m;obtain⟨aM,m⟩:=m;split at m
     ·next l' am=>
      have an:=abU m;subst an;have NR:∀Q:fM->bK->aC->Prop,Q e a' J'->@AT T P c {t:=A8 (yI st args) 0 .nil,n:=max (yI st args).length fn.ntmps,gn:=P.globals.size} ⟨qU (xP tabs),P.globals.size+1,0⟩ Q:=by
       intro Q hq;have:=@Zw P T (FM P tabs ⟨ns,ds,0⟩ y) (KU P ⟨ns,ds,0⟩ pl fuel) (adp (T:=T) hm hn (ai T rfl rfl) fuel) (oI pe c) (zU pe c 0).2 (λk b hk a J e1 a1 J1 hs Q' ao=>by
        unfold FM at hs;split at hs
        ·next z ap=>
         obtain⟨k1,k2⟩:=JK k z ap;exact abA (T:=T) rfl O k1 (λgs d hI=>k2 b hk gs d hI) hs ao
        ·cases hs) _ _ _ _ _ ac Q hq
       rwa [show(oI pe c).erase=c from(zU pe c 0).1]at this
      have ad:∀i g,gs[i]? =some g->T.val (0+i)=some g:=by
       intro j g hj;show R[0+j]? =some g
       rw[h3,l9];have:=(fV.1 hj).1;rw[oG this];exact hj
      have aq:∀E w vs,yZ tabs E w->aT E gs vs->Calls P f ⟨yJ st vs⟩ w λen A=>∃v,en=.returned v/\∃L,F9 E L w A/\∃x,v=DY x/\aT L d x:=by
       intro E w vs B X;letI:=T
       have Y:AY (⟨qU (xP tabs),P.globals.size+1,0⟩:aC) P.globals.size:=YD (T:=T) O rfl
       have ar:SR P (xC P.globals.size ⟨qU (xP tabs),P.globals.size+1,0⟩ E) ⟨qU (xP tabs),P.globals.size+1,0⟩ w:=
        MC Y.1 (λid o ho=>by obtain⟨c,rfl,ae,av⟩:=Y.2 id o ho;obtain⟨cs,af,fr,k1,k2,k3⟩:=B.tab _ ae;exact⟨av,c,rfl,⟨cs,af,fr,B.at' _ _ k1,k2,k3⟩⟩) B.at' (λp hp=>B.tab p hp)
       have aw:aG (xC P.globals.size ⟨qU (xP tabs),P.globals.size+1,0⟩ E) (yI st args) (yJ st vs):=XO (ZG (T:=T) W q ad X);refine calls_of_wp hf hc ?_;refine NR (λe2 a2 J2=>e2=e/\a2=a'/\J2=J') ⟨rfl,rfl,rfl⟩ (.shut w) E (xC P.globals.size ⟨qU (xP tabs),P.globals.size+1,0⟩ E) w _ _ (kY.start ar Y.own) rfl (aaz aw) ?_;rintro e2 a2 J2 F1 A' A ⟨rfl,rfl,rfl⟩ hF ax ht
       obtain⟨x,r1,r2⟩:=SS hF.rel ht (fun|.tmp t=>pure (A'.tmps.getD t undef)|.cell a t=>do loadVar t (<-asAddr (A'.tmps.getD a undef))) (λ_=>rfl) (λ_ _=>rfl) _ _ al;obtain⟨dG,f1,f2,f3⟩:=V5 hF ax (@EF ⟨ns,ds,0⟩ P J2 rs);have C:wY T P tabs P.globals.size (P.globals.size+1) F1 J2 A (@EF ⟨ns,ds,0⟩ P J2 rs) [] [] [] dG:=⟨hF.rel,rfl,f1,f3,rfl,Ce _⟩
       obtain⟨gl,k1,k2⟩:=ad3 C am r2;have ay:gl=d:=by have ag:valsOf (λn=>R[n]?) l=some d:=h4;have az:valsOf (λn=>R[n]?) l=some gl:=k1;rw[az]at ag;cases ag;rfl
       subst ay;have M:(results fn A'.tmps).run P A=.ok (if h:(⟨x⟩:W2).size=1 then(⟨x⟩:W2)[0]else .tuple ⟨x⟩) A:=by unfold results;rw[YZ];simp only[aY,Zj];exact uD (λr:Result Qt=>(r.andThen λa A=>Result.ok a.toArray A).andThen λa A=>Sem.run P (pure (if h:a.size=1 then a[0]else Value.tuple a)) A) r1
       have aD:(if h:(⟨x⟩:W2).size=1 then(⟨x⟩:W2)[0]else .tuple ⟨x⟩)=DY x:=by
        match x with
        |[]=>rfl
        |[u]=>rfl
        |u::u'::x=>rfl
       rw[aD]at M
       have N:A'.defers=[]/\∃v,(results fn A'.tmps).run P A=.ok v A/\∃v',Ending.returned v=.returned v'/\(∃L,F9 E L w A/\∃x,v'=DY x/\aT L gl x):=
        ⟨ht.none,_,M,_,rfl,⟨dG,⟨hF.kept.shut,f2.wO,f2.alg,f2.rel.jl⟩,x,rfl,k2⟩⟩
       cases e2 with
       |normal=>exact N
       |ret=>exact N
       |exit id=>simp at he
      refine⟨λE w vs B X=>?_,?_⟩
      ·right;refine⟨?_,Calls.mono' (aq E w vs B X) ?_⟩
       ·have Z:=hn f fn c hf hc;simp only[callFunc,aY,program,Sem.run,aX,hf];simp only[Z,iJ,if_false,hc,Me,bP]
       ·rintro en A ⟨v,rfl,h5⟩
        exact⟨v,rfl,h5⟩
      ·exact ak
     ·cases m
    ·cases m
   ·cases m
  ·cases m
 ·cases m
end
end
open Go.RowKit
noncomputable section
variable{P:Program}
section
variable[iD]
end
def aT.plain{ro a:QP}:∀{l:Q3}{vs:Qt},(∀g∈l,(∃x,g=.s x)\/∃k n,g=.i k n)->aT ro l vs->aT a l vs
 |[],vs,_,h=>h
 |g::l,vs,b,h=>by simp only[aT]at h⊢;obtain⟨x,xs,rfl,h1,c⟩:=h;refine⟨x,xs,rfl,?_,aT.plain (λg d=>b g (by simp[d])) c⟩;rcases b g aA with⟨y,rfl⟩|⟨k,n,rfl⟩<;>exact h1
end
noncomputable section
variable{P:Program}
def iK.args(s:iK):Q6:=s.slots.map (·.2)
def Pq(P:Program)(tabs:QQ)(s:iK)(gs:Q3)(w0:Base)(a:QP)(vs:Qt)(w:World):Prop:=
 ∃F,@kY (Tg tabs gs s.ka) P w0 a F (s.st tabs) w/\@aG (Tg tabs gs s.ka) F s.args vs
def Py(P:Program)(tabs:QQ)(f:FuncId)(st:W8)(c:iK)(b:K2)(gs d:Q3):Prop:=
 ∃(t:Nat)(r a:Q3)(e:fM)(s:iK),d=GV.i .i64 t::r/\b[t]? =some (e,s)/\wo s.al gs r=some a/\a.length=s.np/\
  ∀w0 g w h,Pq P tabs c gs w0 g h w->lY P f ⟨yJ st h⟩ w λv j=>∃i,v=DY i/\Pq P tabs s a w0 g i j
mutual
def AV.ren(U f:Nat->Nat):AV->AV
 |.nd j=>.nd (f j)
 |.rx j off=>.rx (f j) off
 |.sv id j=>.sv (U id) (f j)
 |.p id off=>.p (U id) off
 |.mp id=>.mp (U id)
 |.sl id off len cap=>.sl (U id) off len cap
 |.fn g fi cs=>.fn g (AV.yK U f fi) (AV.yK U f cs)
 |.jE t a=>.jE t (a.ren U f)
 |.agg l=>.agg (AV.yK U f l)
 |.fG l=>.fG (AV.yK U f l)
 |a=>a
def AV.yK(U f:Nat->Nat):Q6->List AV
 |[]=>[]
 |a::l=>a.ren U f::AV.yK U f l
end
mutual
def AV.okS(G:Nat):AV->Bool
 |.sv id _=>Nat.blt G id
 |.sl id _ _ _=>Nat.blt G id
 |.fn _ fi cs=>AV.BM G fi&&AV.BM G cs
 |.jE _ a=>a.okS G
 |.agg l=>AV.BM G l
 |.fG l=>AV.BM G l
 |.nd _|.rx _ _|.p _ _|.mp _|.b _|.i _ _|.s _|.kC|.gX|.Ai|.vF|.qQ=>true
 |_=>false
def AV.BM(G:Nat):Q6->Bool
 |[]=>true
 |a::l=>a.okS G&&AV.BM G l
end
def bM.ren(U f:Nat->Nat):bM->bM
 |.cells c et rw opn=>.cells (AV.yK U f c) et rw opn
 |.vec j et b=>.vec (f j) et b
 |.smap j a sz=>.smap (f j) a sz
 |o=>o
def bM.okS(G:Nat):bM->Bool
 |.cells c _ rw _=>AV.BM G c&&rw
 |.vec _ _ _=>true
 |.smap _ _ _=>true
 |_=>false
def adh(U f:Nat->Nat):∀l:Q6,AV.yK U f l=l.map (AV.ren U f)
 |[]=>rfl
 |a::l=>by simp[AV.yK,adh U f l]
structure PX(S T:aJ)(G:Nat)(U f:Nat->Nat)(F F':Env):Prop where
 val:∀j g,S.val j=some g->T.val (f j)=some g
 pl:∀i q,G<i->F i=some q->F' (U i)=some q
 gl:∀i q,i<=G->F i=some q->∃q',F' (U i)=some q'/\q'.bl=q.bl/\q'.ba=q.ba
 gh:∀i,G<i->F.gh i=true->F'.gh (U i)=true
 ro:∀b o,F.ro b=some o->F'.ro b=some o
section
variable{S T:aJ}{G:Nat}{U f:Nat->Nat}{F F':Env}
mutual
def VR.ren(h:PX S T G U f F F'):∀(a:AV)(v:Value),a.okS G=true->@VR S F a v->@VR T F' (a.ren U f) v
 |.b _,_,_,b=>by simpa only[VR,AV.ren]using b
 |.i _ _,_,_,b=>by simpa only[VR,AV.ren]using b
 |.s _,_,_,b=>by simpa only[VR,AV.ren]using b
 |.kC,_,_,b=>by simpa only[VR,AV.ren]using b
 |.p i off,v,_,b=>by
  simp only[VR,AV.ren]at b⊢;obtain⟨q,m,rfl⟩:=b;by_cases hi:i<=G
  ·obtain⟨p,d,k,n⟩:=h.gl i q hi m;exact⟨p,d,by rw[k,n]⟩
  ·exact⟨q,h.pl i q ah m,rfl⟩
 |.gX,_,_,b=>by simpa only[VR,AV.ren]using b
 |.sl i off len z,v,c,b=>by simp only[AV.okS,jM]at c;simp only[VR,AV.ren]at b⊢;obtain⟨q,m,d,rfl⟩:=b;exact⟨q,h.pl i q c m,d,rfl⟩
 |.qQ,_,_,b=>by simpa only[VR,AV.ren]using b
 |.mp i,v,_,b=>by
  simp only[VR,AV.ren]at b⊢;obtain⟨q,m,rfl⟩:=b;by_cases hi:i<=G
  ·obtain⟨p,d,k,n⟩:=h.gl i q hi m;exact⟨p,d,by rw[k]⟩
  ·exact⟨q,h.pl i q ah m,rfl⟩
 |.Ai,_,_,b=>by simpa only[VR,AV.ren]using b
 |.fn _ A s,_,c,b=>by simp only[AV.okS,aO]at c;simp only[VR,AV.ren]at b⊢;obtain⟨t,u,e,d,k⟩:=b;exact⟨t,u,e,aG.ren h A t c.1 d,aG.ren h s u c.2 k⟩
 |.vF,_,_,b=>by simpa only[VR,AV.ren]using b
 |.jE _ a,_,c,b=>by simp only[AV.okS]at c;simp only[VR,AV.ren]at b⊢;obtain⟨x,e,d⟩:=b;exact⟨x,e,VR.ren h a x c d⟩
 |.agg l,_,c,b=>by simp only[AV.okS]at c;simp only[VR,AV.ren]at b⊢;obtain⟨x,e,d⟩:=b;exact⟨x,e,aG.ren h l x c d⟩
 |.fG l,_,c,b=>by simp only[AV.okS]at c;simp only[VR,AV.ren]at b⊢;obtain⟨x,e,d⟩:=b;exact⟨x,e,aG.ren h l x c d⟩
 |.z _ _ _,_,c,_=>by simp[AV.okS]at c
 |.ro _,_,c,_=>by simp[AV.okS]at c
 |.rp _ _,_,c,_=>by simp[AV.okS]at c
 |.nd _,_,_,b=>by simp only[VR,AV.ren]at b⊢;obtain⟨g,d,k,n⟩:=b;exact⟨g,h.val _ _ d,k,GR.mono h.ro _ _ n⟩
 |.rx _ _,_,_,b=>by simp only[VR,AV.ren]at b⊢;obtain⟨g,B,base,s,o,D,x,d,k,n,E⟩:=b;exact⟨g,B,base,s,o,D,x,h.val _ _ d,h.ro _ _ k,GR.mono h.ro _ _ n,E⟩
 |.sv i j,_,c,b=>by
  simp only[AV.okS,jM]at c;simp only[VR,AV.ren]at b⊢;obtain⟨y,d,⟨q,m,k⟩|⟨I,k⟩⟩:=b
  ·exact⟨y,h.val _ _ d,.inl ⟨q,h.pl i q c m,k⟩⟩
  ·exact⟨y,h.val _ _ d,.inr ⟨h.gh i c I,k⟩⟩
 |.pv _ _ _,_,c,_=>by simp[AV.okS]at c
 |.pd _ _,_,c,_=>by simp[AV.okS]at c
def aG.ren(h:PX S T G U f F F'):∀(l:Q6)(vs:Qt),AV.BM G l=true->@aG S F l vs->@aG T F' (AV.yK U f l) vs
 |[],_,_,b=>by simpa only[aG,AV.yK]using b
 |a::l,_,c,b=>by simp only[AV.BM,aO]at c;simp only[aG,AV.yK]at b⊢;obtain⟨x,xs,e,h1,d⟩:=b;exact⟨x,xs,e,VR.ren h a x c.1 h1,aG.ren h l xs c.2 d⟩
end
def OR.ren(h:PX S T G U f F F'){q:Place}{w:World}{o:bM}(i:o.okS G=true)(r:@OR S P F q w o):@OR T P F' q w (o.ren U f):=by
 cases o with
 |cells c v W y=>
  simp only[bM.okS,aO]at i;obtain⟨n,d,p,X,⟨r1,r2,r3,O,z,A,B⟩⟩:=r;have Q:(AV.yK U f c).length=c.length:=by rw[adh];simp
  have D:∀a∈c,a.okS G=true:=by
   have:∀l:Q6,AV.BM G l=true->∀a∈l,a.okS G=true:=by
    intro l;induction l with
    |nil=>intro _ a t;simp at t
    |cons b l Y=>
     intro h a t;simp only[AV.BM,aO]at h;rcases bJ.1 t with rfl|t
     ·exact h.1
     ·exact Y h.2 a t
   exact this c i.1
  refine⟨n,d,p,X,@uO.mk T P F' q _ v W y n d p r1 (by rw[Q];exact r2) (λe=>by rw[Q];exact r3 e) (λk a u=>?_) z A B⟩;rw[adh,iO]at u;obtain⟨E,R,rfl⟩:=bG.1 u;obtain⟨x,Z,hv⟩:=O k E R;exact⟨x,Z,VR.ren h E x (D E (sD R)) hv⟩
 |iter s pos=>simp[bM.okS]at i
 |map es=>simp[bM.okS]at i
 |pmap es=>simp[bM.okS]at i
 |iterM m=>simp[bM.okS]at i
 |smap j kk sz=>obtain⟨I,ms,g,L,M,N⟩:=r;exact⟨I,ms,g,h.val _ _ L,M,N.mono h.ro⟩
 |vec j v b=>obtain⟨I,n,d,p,ys,L,M,N,k4,k5,k6,⟨r1,r2,r3,O,z,A,B⟩,k8⟩:=r;exact⟨I,n,d,p,ys,h.val _ _ L,M,aT.mono h.ro _ _ N,k4,k5,k6,@uO.mk T P F' q [] v true true n d p r1 r2 r3 (λk a u=>by simp at u) z A B,k8⟩
def Live.ren(h:PX S T G U f F F'){w:World}{i:Nat}{o:bM}(hi:G<i)(a:o.okS G=true)(r:@Live S P F w i o):@Live T P F' w (U i) (o.ren U f):=by
 rcases r with⟨q,c,d⟩|⟨e,n,g,b,rfl,j⟩
 ·exact .inl ⟨q,h.pl i q hi c,OR.ren h a d⟩
 ·exact .inr ⟨h.gh i hi e,f n,g,b,rfl,h.val _ _ j⟩
end
def bM.ab4{G:Nat}{o:bM}(h:o.okS G=true):o.own=true:=by
 cases o<;>simp only[bM.okS,aO,iJ]at h<;>simp[bM.own]
 exact h.2
def rhoC(G ka next:Nat)(r:Wa)(i:Nat):Nat:=if i<=G then i else if i<=G+ka then(match dW i r with|some (some id)=>id|_=>0)else next+(i-(G+ka+1))
def OD(U f:Nat->Nat):XS->Tr bM->Tr bM
 |[],h=>h
 |p::l,h=>(OD U f l h).set (U p.1) (some (p.2.ren U f))
def qN:Wa->List Nat
 |[]=>[]
 |p::l=>match p.2 with
  |some id=>id::qN l
  |none=>qN l
def VD{α:Type}:List (Nat×α)->Bool
 |[]=>true
 |p::l=>(match dW p.1 l with|none=>true|some _=>false)&&VD l
def Ei(r:Wa)(J:aC):Nat->Nat->Bool
 |_,0=>true
 |i,n+1=>(match dW (i+1) r with
  |some (some id)=>(match J.get id with|some (.cells _ _ _ _)=>true|_=>false)
  |_=>false)&&Ei r J (i+1) n
def ac1(s:iK):Bool:=Nat.blt (s.gn+s.ka) s.next&&AV.BM s.gn s.args&&VD s.objs&&s.objs.all λp=>Nat.blt s.gn p.1&&Nat.blt p.1 s.next&&p.2.okS s.gn
section
variable[iD]
def atZ(P:Program)(s:iK)(l:Q6)(J:aC):US:=YJ P s.gn J s.objs (Ip P s.gn J s.args l ⟨[],[],[]⟩)
def at1(P:Program)(s:iK)(l:Q6)(J:aC):US:=YJ P s.gn J s.objs (Ip P s.gn J s.args l ⟨ZA s.gn s.ka,[],[]⟩)
def Xk(P:Program)(s:iK)(l:Q6)(J:aC)(fz:Q4)(r:Wa)(ps:Q4):Bool:=
 Nat.beq s.gn P.globals.size&&Nat.blt (s.gn+s.ka) s.next&&KR r&&Dp P s.gn J fz r ps s.args l&&Og P s.gn s.next J fz r ps s.objs
def XD(P:Program)(st:W8)(a:aN):dV:=λc J=>match DV st c with
 |none=>none
 |some args=>match atZ P a.pre args J with
  |⟨r,p,fz⟩=>match ac4 p 0 a.pre.np with
   |none=>none
   |some ps=>
    if Xk P a.pre args J fz r ps&&(fz.all (Nat.ble J.lock ·)&&((qN r).all (λid=>Nat.ble J.lock id&&!(fz.contains id))&&Ei r J a.pre.gn a.pre.ka))then
     match gq (.call a.key ps 0)with
     |some tag=>match KO tag a.posts 0 with
      |some (_,s)=>if ac1 s&&(Nat.beq s.ka a.pre.ka&&Nat.beq s.gn a.pre.gn)then match Dw a.key ps s.al 1 s.np with
       |some b=>some (Ll (AV.yK (rhoC s.gn s.ka J.next r) (λj=>b.getD j 0) s.args),⟨OD (rhoC s.gn s.ka J.next r) (λj=>b.getD j 0) s.objs (kills (kills J fz) (qN r)).h,J.next+(s.next-(s.gn+s.ka+1)),J.lock⟩)
       |none=>none
       else none
      |none=>none
     |none=>none
    else none
end
def ag0{α:Type}:∀{l:List (Nat×α)},VD l=true->∀{k:Nat}{v:α},(k,v)∈l->dW k l=some v
 |[],_,k,v,h=>by simp at h
 |p::l,a,k,v,h=>by
  simp only[VD,aO]at a;rcases bJ.1 h with e|h
  ·subst e;simp[dW]
  ·have h1:=ag0 a.2 h;simp only[dW];cases c:Nat.beq k p.1 with
   |true=>have e:=bQ c;have b:=a.1;rw[<-e,h1]at b;cases b
   |false=>exact h1
def ahL{α:Type}:∀{l m:List (Nat×α)}{k:Nat}{v:α},dW k l=some v->dW k (l++m)=some v
 |[],m,k,v,h=>by simp[dW]at h
 |p::l,m,k,v,h=>by
  simp only[bg,dW]at h⊢;cases a:Nat.beq k p.1 with
  |true=>rw[a]at h;exact h
  |false=>rw[a]at h;exact ahL h
def akY{U f:Nat->Nat}:∀{l:XS}{h:Tr bM}{k:Nat}{o:bM},(OD U f l h).get k=some o->(∃i o0,(i,o0)∈l/\U i=k/\o=o0.ren U f)\/(h.get k=some o/\∀p∈l,U p.1≠k)
 |[],h,k,o,a=>.inr ⟨a,λp b=>by simp at b⟩
 |q::l,h,k,o,a=>by
  simp only[OD,Tr.wE]at a;split at a
  ·next e=>cases a;exact .inl ⟨q.1,q.2,aA,e.symm,rfl⟩
  ·next e=>
   rcases akY a with⟨i,o0,h1,c,d⟩|⟨h1,c⟩
   ·exact .inl ⟨i,o0,yU _ h1,c,d⟩
   ·refine .inr ⟨h1,λp b=>?_⟩;rcases bJ.1 b with rfl|b
    ·exact λg=>e g.symm
    ·exact c p b
def aiv{r:Wa}:∀{i id:Nat},dW i r=some (some id)->id∈qN r:=by
 induction r with
 |nil=>intro i id h;simp[dW]at h
 |cons p l b=>
  intro i id h;simp only[dW]at h;cases a:Nat.beq i p.1 with
  |true=>rw[a]at h;simp only[cond_true,bf]at h;simp only[qN,h];simp
  |false=>
   rw[a]at h;have:=b h;simp only[qN];split
   ·exact yU _ this
   ·exact this
def ZB{r:Wa}{J:aC}:∀{n i:Nat},Ei r J i n=true->∀j,i<j->j<=i+n->∃id c et rw opn,dW j r=some (some id)/\J.get id=some (.cells c et rw opn)
 |0,i,_,j,h1,d=>ah
 |n+1,i,h,j,h1,d=>by
  simp only[Ei,aO]at h;by_cases e:j=i+1
  ·subst e;have a:=h.1;split at a
   ·next id b=>
    split at a
    ·next c et rw opn g=>exact⟨id,c,et,rw,opn,b,g⟩
    ·cases a
   ·cases a
  ·exact ZB h.2 j ah ah
def St.ayh{T:aJ}{tabs:QQ}(wH:T.tabs=tabs){G ka:Nat}(hG:G=P.globals.size){F v:Env}{J:aC}{w w':World}(h:@SR T P F J w){r:Wa}(ad:KR r=true)(aa:∀id∈qN r,J.lock<=id)(ak:Ei r J G ka=true)
 {s:iK} (hs:ac1 s=true) (al:s.ka=ka) (am:s.gn=G) {gs:Q3} {f:Nat->Nat} (hf:∀j g,gs[j]? =some g->T.val (f j)=some g)
 (hF:@kY (Tg tabs gs s.ka) P ⟨w,λb=>∃id o q,id∈qN r/\J.get id=some o/\o.own=true/\F id=some q/\q.bl=b,λi=>if G<i/\i<=G+ka then(match dW i r with|some (some id)=>F id|_=>none)else none⟩ F.ro v (s.st tabs) w')
 {vs:Qt} (hv:@aG (Tg tabs gs s.ka) v s.args vs):
 ∃F',@St T P F J w F' ⟨OD (rhoC s.gn s.ka J.next r) f s.objs (kills J (qN r)).h,J.next+(s.next-(s.gn+s.ka+1)),J.lock⟩ w'/\@aG T F' (AV.yK (rhoC s.gn s.ka J.next r) f s.args) vs:=by
 obtain⟨⟨an,ae,ao,ab,ap,aq,ar,av⟩,O1,aw,ax,af,ay⟩:=hF;letI:=T
 subst al;subst am;unfold ac1 at hs;simp only[aO,jM]at hs;obtain⟨⟨⟨p1,p2⟩,p3⟩,p4⟩:=hs;have KJ:∀i o,(i,o)∈s.objs->s.gn<i/\i<s.next/\o.okS s.gn=true:=by intro i o I;have:=List.all_eq_true.1 p4 _ I;simp only[aO,jM]at this;exact⟨this.1.1,this.1.2,this.2⟩
 have Tn:∀i o,(i,o)∈s.objs->(s.st tabs).get i=some o:=by
  intro i o I;show(qU (s.objs++xP tabs)).get i=some o
  rw[KE];exact ahL (ag0 p3 I)
 let B:Nat:=s.gn+s.ka+1
 let F':Env:=⟨λid=>if id<J.next then F id else v (id-J.next+B),v.ro,λid=>if id<J.next then F.gh id else v.gh (id-J.next+B)⟩
 have az:∀b o,F.ro b=some o->v.ro b=some o:=ax;have z:F.le F':=by
  refine⟨λid q a=>?_,az,λid m=>?_⟩
  ·show(if id<J.next then F id else _)=some q
   rw[au (h.dom id q a)];exact a
  ·show(if id<J.next then F.gh id else _)=true
   rw[au (h.kH id m).2];exact m
 have uo:∀i,s.gn<i->i<=s.gn+s.ka->∃id q,dW i r=some (some id)/\F id=some q/\v i=some q/\id<J.next/\(∃o,J.get id=some o):=by intro i d t;obtain⟨id,c,et,wP,bh,D,g2⟩:=ZB ak i d t;obtain⟨q,a,_⟩:=h.obj _ _ g2 rfl;have:=(ay i q (by show(if s.gn<i/\i<=s.gn+s.ka then _ else _)=_;rw[au ⟨d,t⟩,D];exact a)).1;exact⟨id,q,D,a,this,h.dom id q a,_,g2⟩
 have OL:∀i id,s.gn<i->i<=s.gn+s.ka->dW i r=some (some id)->rhoC s.gn s.ka J.next r i=id:=by intro i id d t h3;unfold rhoC;rw[aj ah,au t,h3]
 have KT:∀i,s.gn+s.ka<i->rhoC s.gn s.ka J.next r i=J.next+(i-B):=by intro i d;unfold rhoC;rw[aj ah,aj ah]
 have KP:∀i,s.gn+s.ka<i->F' (J.next+(i-B))=v i/\F'.gh (J.next+(i-B))=v.gh i:=by
  intro i d;have e:J.next+(i-B)-J.next+B=i:=by show J.next+(i-(s.gn+s.ka+1))-J.next+(s.gn+s.ka+1)=i;omega
  constructor
  ·show(if J.next+(i-B)<J.next then _ else v (J.next+(i-B)-J.next+B))=_
   rw[aj ah,e]
  ·show(if J.next+(i-B)<J.next then _ else v.gh (J.next+(i-B)-J.next+B))=_
   rw[aj ah,e]
 have ag:PX (Tg tabs gs s.ka) T s.gn (rhoC s.gn s.ka J.next r) f v F':=by
  refine⟨hf,λi q hi a=>?_,λi q hi a=>?_,λi hi m=>?_,λ_ _ h=>h⟩
  ·by_cases W:i<=s.gn+s.ka
   ·obtain⟨id,O,D,g2,g3,g4,_⟩:=uo i hi W;rw[OL i id hi W D];rw[a]at g3;cases g3;exact z.pl _ _ g2
   ·rw[KT i ah,(KP i ah).1];exact a
  ·obtain⟨sz,es,e1⟩:=an i ah;rw[a]at e1;cases e1;obtain⟨aD,aE,e2⟩:=h.nR i ah;refine⟨⟨i,0,aD,aE⟩,?_,rfl,rfl⟩;show F' (rhoC s.gn s.ka J.next r i)=_
   unfold rhoC;rw[au hi];exact z.pl _ _ e2
  ·by_cases W:i<=s.gn+s.ka
   ·obtain⟨id,O,D,g2,g3,_⟩:=uo i hi W;rw[(ab i m).1]at g3;cases g3
   ·rw[KT i ah,(KP i ah).2];exact m
 have aL:∀id o,(kills J (qN r)).get id=some o->id∉qN r/\J.get id=some o:=by
  intro id o m;rw[EN]at m;split at m
  ·cases m
  ·next I=>exact⟨I,m⟩
 have Xy:∀id o q,id∉qN r->J.get id=some o->F id=some q->∀eX o0 Y,eX∈qN r->J.get eX=some o0->o0.own=true->F eX=some Y->Y.bl≠q.bl:=by intro id o q I m a eX o0 Y aM aR a0 a7;exact h.sep eX o0 id o Y q aR a0 m (λe=>I (e▸aM)) a7 a
 have a8:∀id o q,id∉qN r->J.get id=some o->F id=some q->q.bl<w.heap.size->w'.heap[q.bl]? =w.heap[q.bl]?:=by
  intro id o q I m a E;refine O1.keep q.bl E ?_;rintro⟨eX,o0,Y,A,M,Q,R,a5⟩
  exact Xy id o q I m a eX o0 Y A M Q R a5
 have obj:∀k o,(OD (rhoC s.gn s.ka J.next r) f s.objs (kills J (qN r)).h).get k=some o->(∃i o0,(i,o0)∈s.objs/\rhoC s.gn s.ka J.next r i=k/\o=o0.ren (rhoC s.gn s.ka J.next r) f)\/(k∉qN r/\J.get k=some o/\∀p∈s.objs,rhoC s.gn s.ka J.next r p.1≠k):=by
  intro k o W;rcases akY W with d|⟨d,t⟩
  ·exact .inl d
  ·obtain⟨h3,h4⟩:=aL k o d;exact .inr ⟨h3,h4,t⟩
 have Oy:∀k o q,J.get k=some o->F' k=some q->F k=some q:=by intro k o q m a;have E:k<J.next:=h.hasLt (h.Q9 m);have u:(if k<J.next then F k else _)=some q:=a;rw[au E]at u;exact u
 have l:∀i o q,(i,o)∈s.objs->F' (rhoC s.gn s.ka J.next r i)=some q->v i=some q:=by
  intro i o q I a;obtain⟨D,g2,g3⟩:=KJ i o I;by_cases W:i<=s.gn+s.ka
  ·obtain⟨id,O,A,M,Q,R,_⟩:=uo i D W;rw[OL i id D W A]at a;have:=z.pl _ _ M;rw[a]at this;cases this;exact Q
  ·rw[KT i ah,(KP i ah).1]at a;exact a
 have bi:∀i j oi oj,(i,oi)∈s.objs->(j,oj)∈s.objs->rhoC s.gn s.ka J.next r i=rhoC s.gn s.ka J.next r j->i=j:=by
  intro i j oi oj hi hj e;obtain⟨D,g2,_⟩:=KJ i oi hi;obtain⟨X,k2,_⟩:=KJ j oj hj;by_cases n:i<=s.gn+s.ka<;>by_cases L:j<=s.gn+s.ka
  ·obtain⟨id,_,A,_,_,_,_⟩:=uo i D n;obtain⟨a9,_,N,_,_,_,_⟩:=uo j X L;rw[OL i id D n A,OL j a9 X L N]at e;subst e;exact adb ad i j id A N
  ·obtain⟨id,_,A,_,_,R,_⟩:=uo i D n;rw[OL i id D n A,KT j ah]at e;omega
  ·obtain⟨id,_,A,_,_,R,_⟩:=uo j X L;rw[OL j id X L A,KT i ah]at e;omega
  ·rw[KT i ah,KT j ah]at e;have hB:B=s.gn+s.ka+1:=rfl;omega
 have ac:∀i o q,(i,o)∈s.objs->v i=some q->w.heap.size<=q.bl\/∃id o0 Y,id∈qN r/\J.get id=some o0/\o0.own=true/\F id=some Y/\Y.bl=q.bl:=by intro i o q I a;exact aw i o q (Tn i o I) (bM.ab4 (KJ i o I).2.2) a
 have E:∀k o q,J.get k=some o->F k=some q->q.bl<w.heap.size:=λk o q m a=>(h.at m a).lt;refine⟨F',⟨z,⟨?_,?_,?_,?_,?_,aq,?_,?_⟩,O1.size,?_,?_,O1.os,O1.tape,O1.output,rfl,Nat.le_add_right _ _,?_,?_⟩,aG.ren ag _ _ p2 hv⟩
 ·intro g m;obtain⟨sz,es,e⟩:=h.nR g m;exact⟨sz,es,z.pl _ _ e⟩
 ·intro id q a;show id<J.next+(s.next-(s.gn+s.ka+1))
  by_cases Z:id<J.next
  ·omega
  ·have u:(if id<J.next then F id else v (id-J.next+B))=some q:=a;rw[aj Z]at u;have:=ae _ _ u;have:id-J.next+(s.gn+s.ka+1)<s.next:=this;omega
 ·intro k o W;rcases obj k o W with⟨i,o0,d,rfl,rfl⟩|⟨d,t,_⟩
  ·obtain⟨D,g2,g3⟩:=KJ i o0 d;exact Live.ren ag D g3 (ao i o0 (Tn i o0 d))
  ·refine((h.live k o t).heap λq a ba=>?_).mono z
   exact a8 k o q d t a ba.lt
 ·intro id m;have y:(if id<J.next then F.gh id else v.gh (id-J.next+B))=true:=m;show(if id<J.next then F id else v (id-J.next+B))=none/\id<J.next+(s.next-(s.gn+s.ka+1))
  by_cases Z:id<J.next
  ·rw[au Z]at y⊢;exact⟨(h.kH id y).1,ah⟩
  ·rw[aj Z]at y⊢;obtain⟨A,M⟩:=ab _ y;have bj:id-J.next+(s.gn+s.ka+1)<s.next:=M;exact⟨A,ah⟩
 ·intro k o k' o' q O A M Q R a5 a6;rcases obj k o A with⟨i,o0,d,rfl,rfl⟩|⟨d,t,_⟩<;>rcases obj k' o' Q with⟨j,Sj,X,rfl,rfl⟩|⟨X,k2,_⟩
  ·have N:=l i o0 q d a5;have b2:=l j Sj O X a6;exact ap i o0 j Sj q O (Tn i o0 d) (bM.ab4 (KJ i o0 d).2.2) (Tn j Sj X) (λe=>R (by rw[e])) N b2
  ·have N:=l i o0 q d a5;have b2:=Oy k' o' O k2 a6;rcases ac i o0 q d N with n|⟨id,o1,q1,n,L,c3,c4,c5⟩
   ·have:=E k' o' O k2 b2;omega
   ·rw[<-c5];exact Xy k' o' O X k2 b2 id o1 q1 n L c3 c4
  ·have N:=Oy k o q t a5;have b2:=l j Sj O X a6;rcases ac j Sj O X b2 with n|⟨id,o1,q1,n,L,c3,c4,c5⟩
   ·have:=E k o q t N;omega
   ·rw[<-c5];exact λe=>Xy k o q d t N id o1 q1 n L c3 c4 e.symm
  ·exact h.sep k o k' o' q O t M k2 R (Oy k o q t a5) (Oy k' o' O k2 a6)
 ·intro k o q A M Q;rcases obj k o A with⟨i,o0,d,rfl,rfl⟩|⟨d,t,_⟩
  ·exact ar i o0 q (Tn i o0 d) (bM.ab4 (KJ i o0 d).2.2) (l i o0 q d Q)
  ·have N:=Oy k o q t Q;show v.ro q.bl=none
   cases bb:v.ro q.bl with
   |none=>rfl
   |some x=>
    rcases af q.bl (by rw[bb];simp)with n|n|⟨id,o1,q1,n,L,c3,c4,c5⟩
    ·exact absurd (h.lU k o q t M N) n
    ·have:=E k o q t N;have bk:w.heap.size<=q.bl:=n;omega
    ·exact absurd c5 (Xy k o q d t N id o1 q1 n L c3 c4)
 ·intro p hp;have bc:p∈tabs:=by rw[<-wH];exact hp
  obtain⟨cs,ai,fr,e1,e2⟩:=av p bc;exact⟨cs,ai,fr,e1,e2⟩
 ·intro bl bd be;refine O1.keep bl bd ?_;rintro⟨id,o,q,A,M,Q,R,a5⟩
  exact be id o q M Q (aa id A) R a5
 ·intro k o q A M Q R;rcases obj k o A with⟨i,o0,d,rfl,rfl⟩|⟨d,t,_⟩
  ·rcases ac i o0 q d (l i o0 q d R)with n|⟨id,o1,q1,n,L,c3,c4,c5⟩
   ·exact .inl n
   ·exact .inr ⟨id,o1,q1,L,c3,aa id n,c4,c5⟩
  ·exact .inr ⟨k,o,q,t,M,Q,Oy k o q t R,rfl⟩
 ·intro id hh;by_cases Z:id<J.next
  ·left;rcases hh with⟨q,a⟩|m
   ·have u:(if id<J.next then F id else _)=some q:=a;rw[au Z]at u;exact .inl ⟨q,u⟩
   ·have y:(if id<J.next then F.gh id else _)=true:=m;rw[au Z]at y;exact .inr y
  ·right;refine⟨ah,?_⟩;show id<J.next+(s.next-(s.gn+s.ka+1))
   rcases hh with⟨q,a⟩|m
   ·have u:(if id<J.next then F id else v (id-J.next+B))=some q:=a;rw[aj Z]at u;have:id-J.next+(s.gn+s.ka+1)<s.next:=ae _ _ u;omega
   ·have y:(if id<J.next then F.gh id else v.gh (id-J.next+B))=true:=m;rw[aj Z]at y;have:id-J.next+(s.gn+s.ka+1)<s.next:=(ab _ y).2;omega
 ·intro b hb;rcases af b hb with n|n|⟨id,o1,q1,n,L,c3,c4,c5⟩
  ·exact .inl n
  ·exact .inr (.inl n)
  ·exact .inr (.inr ⟨id,o1,q1,L,c3,aa id n,c4,c5⟩)
def akb{T:aJ}(M:xk T.tabs P.globals.size){f:FuncId}{st:W8}{d:aN}(D:d.pre.ok=true)(hC:∀gs A,T.I d.key gs=some A->Py P T.tabs f st d.pre d.posts gs A):@dP T P f (@XD T.toiD P st d):=by
 letI:=T
 intro Qg J rr J' m F w az hS ae;unfold XD at m;split at m
 ·cases m
 next args af=>
 obtain⟨vs,rfl,hv⟩:=YG af ae;split at m;next r p fz ay=>
 split at m
 ·cases m
 next ps aD=>
 split at m;rotate_left
 ·cases m
 next z=>
 split at m;rotate_left
 ·cases m
 next tag N=>
 split at m;rotate_left
 ·cases m
 next e s E=>
 split at m;rotate_left
 ·cases m
 next x=>
 split at m;rotate_left
 ·cases m
 next ns ag=>
 cases m;rw[aO,aO,aO]at z;obtain⟨z,ai,O,Q⟩:=z;unfold Xk at z;simp only[aO,jM]at z;obtain⟨⟨⟨⟨R,m2⟩,m3⟩,m4⟩,m5⟩:=z;have R:=bQ R;rw[aO,aO]at x;obtain⟨q1,q2,q3⟩:=x;have q2:=bQ q2;have q3:=bQ q3;unfold iK.ok at D;rw[aO,aO]at D;obtain⟨⟨_,I⟩,JI⟩:=D;have I:AV.qW d.pre.next d.pre.args=true:=by
  have:∀l:Wr,Gp d.pre.next l=true->AV.qW d.pre.next (l.map (·.2))=true:=by
   intro l;induction l with
   |nil=>intro _;rfl
   |cons a l ih=>intro h;simp only[Gp,aO]at h;simp only[iU,AV.qW,aO];exact⟨h.1,ih h.2⟩
  exact this _ I
 have ak:∀id∈fz,J.lock<=id:=λid u=>um (List.all_eq_true.1 ai id u);have W:∀id∈qN r,J.lock<=id:=λid u=>by have:=List.all_eq_true.1 O id u;rw[aO]at this;exact um this.1
 have al:∀id∈qN r,id∉fz:=λid u z=>by have:=List.all_eq_true.1 O id u;rw[aO,aeD.2 z]at this;simp at this
 obtain⟨dG,f1,f2,f3⟩:=V6 hS fz ak;obtain⟨gt,t1,L⟩:=iq N;simp only[Nd.den]at L;split at L;rotate_left
 ·cases L
 next gs X=>
 split at L;rotate_left
 ·cases L
 next A hI=>
 obtain⟨t,r0,Y,e2,s2,rfl,am,an,aE,Z⟩:=hC gs A hI;simp only[kQ,bf]at L;subst L;have ao:=acr t1 d.posts 0 E (sG _) (e2,s2) (by simpa using am);cases ao;obtain⟨n1,n2⟩:=SA X hI _ 1 s.al (r:=r0) (λk=>by rw[L8,vT]) an ag;have aa:∀j g,Y[j]? =some g->T.val (ns.getD j 0)=some g:=by
  intro j g hj;have ap:j<ns.length:=by have:=(fV.1 hj).1;omega
  have z:ns[j]? =some (ns.getD j 0):=by rw[zN,bV ap];rfl
  rw[n2 j _ z];exact hj
 have C:wY T P T.tabs d.pre.gn d.pre.next F J w fz r ps gs dG:=⟨hS,X,f1,f3,R,ah⟩
 obtain⟨hR,ab⟩:=abO (ka:=d.pre.ka) rfl M JI ah R C f2.rel.jl (λid o q b2 b3 b4 b5=>f2.rel.lU id o q (by rw[EN,aj b2];exact b3) b4 b5) m3 m5;let J1:aC:=kills J fz
 let F1:Env:=⟨F.pl,dG,F.gh⟩
 let w0:Base:=⟨w,λb=>∃id o q,id∈qN r/\J1.get id=some o/\o.own=true/\F1 id=some q/\q.bl=b,λi=>if d.pre.gn<i/\i<=d.pre.gn+d.pre.ka then(match dW i r with|some (some id)=>F1 id|_=>none)else none⟩
 have hF:@kY (Tg T.tabs gs d.pre.ka) P w0 dG (vw T.tabs d.pre.gn d.pre.next r F dG) (d.pre.st T.tabs) w:=by
  refine @kY.mk (Tg T.tabs gs d.pre.ka) P w0 dG _ _ w hR ⟨rfl,rfl,rfl,dK _,λ_ _ _=>rfl⟩ ?_ (λ_ _ h=>h) (λ_ h=>.inl h) ?_
  ·intro i o q a1 a2 a3;obtain⟨id,o',b1,b2,b3,b4,b5⟩:=ab i o q a1 a2 a3;exact .inr ⟨id,o',q,aiv b1,by show(kills J fz).get id=_;rw[EN,aj b2];exact b3,b4,b5,rfl⟩
  ·intro i q hi;have y:(if d.pre.gn<i/\i<=d.pre.gn+d.pre.ka then(match dW i r with|some (some id)=>F1 id|_=>none)else none)=some q:=hi;split at y
   ·next hr=>
    split at y
    ·next id u=>
     refine⟨?_,ah,by show i<=P.globals.size+d.pre.ka;omega⟩;rw[Hy hr.1 ah u];exact y
    ·cases y
   ·cases y
 have aq:=Hz (ka:=d.pre.ka) C _ _ _ I m4 hv;refine lY.mono (Z w0 dG w vs ⟨_,hF,aq⟩) ?_;rintro v w' ⟨us,rfl,F2,ar,av⟩
 have aw:Ei r J1 d.pre.gn d.pre.ka=true:=by
  have:∀n i,(∀j,i<j->j<=i+n->∃id,dW j r=some (some id)/\id∉fz)->Ei r J i n=true->Ei r J1 i n=true:=by
   intro n;induction n with
   |zero=>intro i _ _;rfl
   |succ n ih=>
    intro i ac h;simp only[Ei,aO]at h⊢;obtain⟨id,h1,h2⟩:=ac (i+1) ah ah;refine⟨?_,ih (i+1) (λj a b=>ac j ah ah) h.2⟩;have h3:=h.1;rw[h1]at h3⊢;simp only at h3⊢;show(match(kills J fz).get id with|some (.cells _ _ _ _)=>true|_=>false)=true
    rw[EN,aj h2];exact h3
  refine this _ _ (λj a b=>?_) Q;obtain⟨id,c,et,wP,aL,g1,g2⟩:=ZB Q j a b;exact⟨id,g1,al id (aiv g1)⟩
 obtain⟨F',ax,ad⟩:=St.ayh (T:=T) (tabs:=T.tabs) (G:=d.pre.gn) (ka:=d.pre.ka) rfl R f2.rel m3 (by rw[N9];exact W) aw q1 q2 q3 aa ar av;have B:=f2.trans ax;rw[abx,N9]at B;rw[abx]at ad;exact⟨F',B,amB ad⟩
def abG(P:Program)(tabs:QQ)(pl:mY)(b:Wz)(fuel:Nat)(st:W8)(a:aN)(c:Nat)(h:List ResultVar)(o:AC)(d:List Nd)(g:Wm)(p:Leaf):Bool:=
 match p with
 |.ret (q::l)=>match @yt ⟨d,g,a.pre.ka⟩ (FM P tabs ⟨d,g,a.pre.ka⟩ b) (KU P ⟨d,g,a.pre.ka⟩ pl fuel) o {t:=A8 (yI st (AV.rQ (λj=>j) a.pre.args)) 0 .nil,n:=max (yI st (AV.rQ (λj=>j) a.pre.args)).length c,gn:=P.globals.size} (a.pre.FK tabs λj=>j)with
  |some (e,u,i)=>(match e with|.exit _=>false|_=>true)&&match CJ P i u h with
   |some k=>match d[q]? with
    |some (.ci .i64 t)=>match a.posts[t.toNat]? with
     |some (_,s)=>decide (0<=t)&&(s.ok&&(Nat.beq s.ka a.pre.ka&&(match Ey a.pre.np s.al l with
      |some m=>Nat.beq m.length s.np&&(match @at1 ⟨d,g,a.pre.ka⟩ P s k i with
       |⟨r,_,fz⟩=>Qd r s.gn s.ka&&@Xk ⟨d,g,a.pre.ka⟩ P s k i fz r m)
      |none=>false)))
     |none=>false
    |_=>false
   |none=>false
  |none=>false
 |_=>false
def Py.Sm{tabs:QQ}(N:xk tabs P.globals.size)(hm:P.follows .mixedOrders=true)(hn:xX P){pl:mY}{I:je}(ac:zO P tabs I pl){z:Wz}{fuel:Nat}{f:FuncId}{fn:Func}{c:Code}{Z:Q4}{st:W8}{D:aN}{n:Nat}(ad:n=D.pre.np){t:Tree}
 (hf:P.funcs[f]? =some fn) (hc:fn.body=some c)
 (JK:∀k A,dW k z=some A->A.pre.ok=true/\∀b,(oI Z c).qE k b->∀gs x,I A.key gs=some x->wX P tabs b A.pre A.posts gs x)
 (Bo:t.chk (abG P tabs pl z fuel st D fn.ntmps fn.results.toList (oI Z c)) (List.replicate D.pre.np .arg) []=true) {gs x:Q3} (hd:(aH.tree n t).den I gs=some x):Py P tabs f st D.pre D.posts gs x:=by
 simp only[aH.den]at hd;split at hd;rotate_left
 ·cases hd
 next O=>
 subst ad;obtain⟨ns,ds,W,lf,d,h2,⟨aL,h3⟩,h4⟩:=Tree.Np t Bo (Eh.start I gs _ O) hd;let T:aJ:=Tw tabs I D.pre.ka h2
 unfold abG at d;split at d;rotate_left
 ·cases d
 next tn l=>
 split at d;rotate_left
 ·cases d
 next e a' J' aa=>
 rw[aO]at d;obtain⟨he,d⟩:=d;split at d;rotate_left
 ·cases d
 next rs ae=>
 split at d;rotate_left
 ·cases d
 next tt af=>
 split at d;rotate_left
 ·cases d
 next e' s p=>
 rw[aO,aO,aO,decide_eq_true_iff]at d;obtain⟨c1,c2,c3,d⟩:=d;split at d;rotate_left
 ·cases d
 next l2 ag=>
 rw[aO]at d;obtain⟨c4,d⟩:=d;have c3:=bQ c3;have c4:=bQ c4;split at d;next r pp fz aM=>
 rw[aO]at d;obtain⟨c5,c6⟩:=d;unfold Xk at c6;simp only[aO,jM]at c6;obtain⟨⟨⟨⟨m1,m2⟩,m3⟩,m4⟩,m5⟩:=c6;have m1:=bQ m1;have M:valsOf (λn=>W[n]?) (tn::l)=some x:=h4;simp only[valsOf]at M;split at M;rotate_left
 ·cases M
 next g r0 hg ai=>
 cases M;obtain⟨m,E,ak⟩:=VL h3 O ag ai;obtain⟨g',k1,k2⟩:=h2.node tn _ af aA;have al:W[tn]? =some g:=hg;rw[al]at k1;cases k1;simp only[Nd.den,bf]at k2;subst k2;unfold iK.ok at c2;rw[aO,aO]at c2;obtain⟨⟨_,X⟩,JI⟩:=c2;have X:AV.qW s.next s.args=true:=by
  have:∀l:Wr,Gp s.next l=true->AV.qW s.next (l.map (·.2))=true:=by
   intro l;induction l with
   |nil=>intro _;rfl
   |cons a l ih=>intro h;simp only[Gp,aO]at h;simp only[iU,AV.qW,aO];exact⟨h.1,ih h.2⟩
  exact this _ X
 refine⟨tt.toNat,r0,m,e',s,by rw[IG c1],p,ak,by rw[<-c4];exact ad4 E,λw0 fA w vs hA=>?_⟩;have NR:∀Q:fM->bK->aC->Prop,Q e a' J'->@AT T P c {t:=A8 (yI st (AV.rQ (λj=>j) D.pre.args)) 0 .nil,n:=max (yI st (AV.rQ (λj=>j) D.pre.args)).length fn.ntmps,gn:=P.globals.size} (D.pre.FK tabs λj=>j) Q:=by
  intro Q hq;have:=@Zw P T (FM P tabs ⟨ns,ds,D.pre.ka⟩ z) (KU P ⟨ns,ds,D.pre.ka⟩ pl fuel) (adp (T:=T) hm hn (ac T rfl rfl) fuel) (oI Z c) (zU Z c 0).2 (λk b hk a J e1 a1 J1 hs Q' am=>by
   unfold FM at hs;split at hs
   ·next A an=>
    obtain⟨k1,k2⟩:=JK k A an;exact abA (T:=T) rfl N k1 (λgs x hI=>k2 b hk gs x hI) hs am
   ·cases hs) _ _ _ _ _ aa Q hq
  rwa [show(oI Z c).erase=c from(zU Z c 0).1]at this
 have R:∀j g,gs[j]? =some g->T.val ((λj=>j) j)=some g:=by
  intro j g hj;show W[j]? =some g
  rw[h3];have:=(fV.1 hj).1;rw[oG this];exact hj
 obtain⟨F,ao,ap⟩:=hA;have aq:=ahB (T:=T) (f:=λj=>j) rfl rfl R ao;have ar:@aG T F (AV.rQ (λj=>j) D.pre.args) vs:=aG.fJ (S:=Tg tabs gs D.pre.ka) (T:=T) R _ _ ap;have av:Calls P f ⟨yJ st vs⟩ w λen B=>∃v,en=.returned v/\∃y,v=DY y/\Pq P tabs s m w0 fA y B:=by
  letI:=T
  have aw:aG F (yI st (AV.rQ (λj=>j) D.pre.args)) (yJ st vs):=XO ar;refine calls_of_wp hf hc ?_;refine NR (λe2 a2 J2=>e2=e/\a2=a'/\J2=J') ⟨rfl,rfl,rfl⟩ w0 fA F w _ _ aq rfl (aaz aw) ?_;rintro e2 a2 J2 F1 A' B ⟨rfl,rfl,rfl⟩ hF ax ht
  obtain⟨y,r1,r2⟩:=SS hF.rel ht (fun|.tmp t=>pure (A'.tmps.getD t undef)|.cell a t=>do loadVar t (<-asAddr (A'.tmps.getD a undef))) (λ_=>rfl) (λ_ _=>rfl) _ _ ae;obtain⟨dG,f1,f2,f3⟩:=V5 hF ax fz;have C:wY T P tabs s.gn s.next F1 J2 B fz r l2 m dG:=⟨hF.rel,E,f1,f3,m1,ah⟩
  obtain⟨hR,ab⟩:=abO (ka:=s.ka) (T:=T) rfl N JI ah m1 C f2.rel.jl (λid o q b2 b3 b4 b5=>f2.rel.lU id o q (by rw[EN,aj b2];exact b3) b4 b5) m3 m5;have ay:=Hz (ka:=s.ka) C _ _ _ X m4 r2;have az:Pq P tabs s m w0 fA y B:=by
   refine⟨_,@kY.mk (Tg tabs m s.ka) P w0 fA _ _ B hR hF.kept ?_ f2.wO f2.rW ?_,ay⟩
   ·intro i o q a1 a2 a3;obtain⟨id,u,b1,b2,b3,b4,b5⟩:=ab i o q a1 a2 a3;exact hF.own id u q b3 b4 b5
   ·intro i q hi;obtain⟨a1,a2,a3⟩:=hF.uo i q hi;have aD:i<=P.globals.size+s.ka:=by rw[c3];exact a3
    refine⟨?_,a2,aD⟩;rw[Hy ah ah (ZC c5 i ah ah)];exact a1
  have L:(results fn A'.tmps).run P B=.ok (if h:(⟨y⟩:W2).size=1 then(⟨y⟩:W2)[0]else .tuple ⟨y⟩) B:=by unfold results;rw[YZ];simp only[aY,Zj];exact uD (λr:Result Qt=>(r.andThen λa B=>Result.ok a.toArray B).andThen λa B=>Sem.run P (pure (if h:a.size=1 then a[0]else Value.tuple a)) B) r1
  have aE:(if h:(⟨y⟩:W2).size=1 then(⟨y⟩:W2)[0]else .tuple ⟨y⟩)=DY y:=by
   match y with
   |[]=>rfl
   |[u]=>rfl
   |u::u'::y=>rfl
  rw[aE]at L
  have p:A'.defers=[]/\∃v,(results fn A'.tmps).run P B=.ok v B/\∃v',Ending.returned v=.returned v'/\∃y,v'=DY y/\Pq P tabs s m w0 fA y B:=
   ⟨ht.none,_,L,_,rfl,y,rfl,az⟩
  cases e2 with
  |normal=>exact p
  |ret=>exact p
  |exit id=>simp at he
 right;refine⟨?_,Calls.mono' av ?_⟩
 ·have Y:=hn f fn c hf hc;simp only[callFunc,aY,program,Sem.run,aX,hf];simp only[Y,iJ,if_false,hc,Me,bP]
 ·rintro en B ⟨v,rfl,h5⟩
  exact⟨v,rfl,h5⟩
end
noncomputable section
variable{P:Program}{H:Type}{enc:TypeId×Value->H}
inductive cO where
 |bool
 |int (k:IntKind)
 |str
 |list (agg:Bool) (e:List cO)
abbrev WN:=List cO
def fieldTys(P:Program)(r:TypeId->Option WN):Nat->List Field->Option WN
 |_,[]=>some []
 |off,f::fs=>match r f.type with
  |some l=>if Nat.beq f.offset off&&Nat.beq (P.cellsOf f.type) l.length then match fieldTys P r (off+l.length) fs with
   |some m=>some (l++m)
   |none=>none
   else none
  |none=>none
def zX(P:Program):Nat->TypeId->Option WN
 |0,_=>none
 |n+1,t=>match P.underlying t with
  |some .bool=>some [.bool]
  |some (.int k)=>some [.int k]
  |some .string=>some [.str]
  |some (.slice e)=>match zX P n e,pG P e with
   |some l,some b=>if Nat.beq (P.cellsOf e) l.length&&Nat.ble 1 l.length&&Nat.ble 1 (P.bytesOf e)&&(b ||Nat.beq l.length 1)then some [.list b l]else none
   |_,_=>none
  |some (.struct fs)=>match fieldTys P (zX P n) 0 fs.toList with
   |some l=>if Nat.beq (P.cellsOf t) l.length then some l else none
   |none=>none
  |_=>none
mutual
def cO.has:cO->GV->Prop
 |.bool,g=>∃b,g=.b b
 |.int k,g=>∃n,g=.i k n/\k.min<=n/\n<=k.max
 |.str,g=>∃s,g=.s s/\s.length<=reachBytes
 |.list agg e,g=>∃xs,g=.l xs/\xs.length<=reachBytes/\∀x∈xs,cO.jD e x.cells/\x.scalar = !agg
def cO.jD:WN->List GV->Prop
 |[],gs=>gs=[]
 |t::ts,gs=>∃g r,gs=g::r/\cO.has t g/\cO.jD ts r
end
def cO.has.scalar{t:cO}{g:GV}(h:t.has g):g.scalar=true:=by
 cases t<;>simp only[cO.has]at h
 ·obtain⟨b,rfl⟩:=h;rfl
 ·obtain⟨b,rfl,_⟩:=h;rfl
 ·obtain⟨b,rfl,_⟩:=h;rfl
 ·obtain⟨b,rfl,_⟩:=h;rfl
def cO.jD.scalars:∀{l:WN}{gs:Q3},cO.jD l gs->gs.all GV.scalar=true/\gs.length=l.length
 |[],gs,h=>by simp only[cO.jD]at h;subst h;exact⟨rfl,rfl⟩
 |t::l,gs,h=>by simp only[cO.jD]at h;obtain⟨g,r,rfl,h1,a⟩:=h;have:=cO.jD.scalars a;simp[h1.scalar,this.1,this.2]
def cO.jD.append:∀{l m:WN}{gs a:Q3},cO.jD l gs->cO.jD m a->cO.jD (l++m) (gs++a)
 |[],m,gs,a,h,b=>by simp only[cO.jD]at h;subst h;simpa using b
 |t::l,m,gs,a,h,b=>by simp only[cO.jD]at h;obtain⟨g,r,rfl,h1,c⟩:=h;simp only[bg,cO.jD];exact⟨g,r++a,rfl,h1,cO.jD.append c b⟩
def aT.append{ro:QP}:∀{l m:Q3}{vs b:Qt},aT ro l vs->aT ro m b->aT ro (l++m) (vs++b)
 |[],m,vs,b,h,c=>by simp only[aT]at h;subst h;simpa using c
 |a::l,m,vs,b,h,c=>by simp only[aT]at h;obtain⟨x,xs,rfl,h1,d⟩:=h;simp only[bg,aT];exact⟨x,xs++b,rfl,h1,aT.append d c⟩
def amX:∀{e:TypeId}{a:List (DataW H)}{d:DataW H},d∈a->∀z∈d.weights P e,z∈DataW.weightsAll P e a
 |e,[],d,h,z,_=>by simp at h
 |e,d0::a,d,h,z,b=>by
  simp only[DataW.weightsAll,iP];rcases bJ.1 h with rfl|h
  ·exact .inl b
  ·exact .inr (amX h z b)
def Ae(w:World):Nat->Option Obj:=λb=>w.heap[b]?
def cell?_at {w:World} {a:Addr} {v:Value} (h:w.cell? a=some v):a.spot=none/\∃c elem b,w.heap[a.block]? =some (.cells c elem b)/\c[a.off]? =some v:=by
 unfold World.cell? at h;split at h
 ·next c elem b d=>
  split at h
  ·cases h
  ·next e=>exact⟨by simpa using e,c,elem,b,d,h⟩
 ·cases h
def ahp{w:World}{r:TypeId->Option WN}{fuel:Nat}{cs:Qt}
 (e:∀t l ch (x:DataW H×List MemPlace),r t=some l->DataW.trod enc P w 0 (λ_=>true) true fuel t ch=some x->(∀z∈x.1.weights P t,z<=reachBytes)->∃gs,aT (Ae w) gs ch/\cO.jD l gs):
 ∀(fs:List Field)(xs:List (DataW H×List MemPlace))(off:Nat)(l:WN),fieldTys P r off fs=some l->xs.length=fs.length->
  (∀(i:Nat)(f:Field),fs[i]? =some f->DataW.trod enc P w 0 (λ_=>true) true fuel f.type ((cs.drop f.offset).take (P.cellsOf f.type))=xs[i]?)->
  (∀z∈DataW.weightsEach P (fs.map (·.type)) (xs.map (·.1)),z<=reachBytes)->
  ∃gs,aT (Ae w) gs ((cs.drop off).take l.length)/\cO.jD l gs
 |[],xs,off,l,h,_,_,_=>by simp only[fieldTys,bf]at h;subst h;exact⟨[],by simp[aT],by simp[cO.jD]⟩
 |f::fs,[],off,l,_,b,_,_=>by simp at b
 |f::fs,x::xs,off,l,h,b,g,j=>by
  simp only[fieldTys]at h;split at h
  ·next a h1=>
   split at h
   ·next c=>
    rw[aO]at c;have o:=bQ c.1;have p:=bQ c.2;split at h
    ·next m q=>
     cases h;have k:=g 0 f rfl;simp only[kQ]at k;obtain⟨gs,n,s⟩:=e f.type a _ x h1 k (λz d=>j z (by simp only[iU,DataW.weightsEach,iP];exact .inl d))
     obtain⟨u,v,y⟩:=ahp e fs xs (off+a.length) m q (by simpa using b) (λi A B=>by have:=g (i+1) A (by simpa using B);simpa using this)
      (λz d=>j z (by simp only[iU,DataW.weightsEach,iP];exact .inr d))
     refine⟨gs++u,?_,s.append y⟩;rw[o,p]at n;have:(cs.drop off).take (a++m).length=(cs.drop off).take a.length++(cs.drop (off+a.length)).take m.length:=by rw[dM,Ec,rZ]
     rw[this];exact aT.append n v
    ·cases h
   ·cases h
  ·cases h
def ag2{c:Nat}{ch:Nat->List Value}{arr:W2}{off:Nat}:∀(n:Nat)(_:∀i,i<n->(ch i).length=c/\∀j,j<c->arr[off+i*c+j]? =(ch i)[j]?),
 ((List.range n).flatMap ch).length=n*c/\∀(k:Nat) x,((List.range n).flatMap ch)[k]? =some x->arr[off+k]? =some x
 |0,_=>aA
 |n+1,h=>by
  obtain⟨h1,b⟩:=ag2 n λi hi=>h i ah;obtain⟨d,e⟩:=h n ah;rw[List.range_succ,aeH];simp only[kP,List.flatMap_nil,lQ];refine⟨by rw[dM,h1,d,uj,IX],λk x a=>?_⟩;by_cases g:k<n*c
  ·rw[oG ah]at a;exact b k x a
  ·rw[xW ah,h1]at a;have l:=(fV.1 a).1;have:=e (k-n*c) ah;rw[a]at this;rw[<-this];congr 1;omega
def aT.ofFn{ro:QP}{G:Nat->GV}{Y:Nat->Value}:∀(l:Q4),(∀i∈l,GR ro (G i) (Y i))->aT ro (l.map G) (l.map Y)
 |[],_=>by simp[aT]
 |i::l,h=>by simp only[iU,aT];exact⟨_,_,rfl,h i aA,aT.ofFn l λj a=>h j (by simp[a])⟩
def adW{w:World}:∀(n m:Nat)(t:TypeId)(cs:Qt)(x:DataW H×List MemPlace)(l:WN),zX P n t=some l->DataW.trod enc P w 0 (λ_=>true) true m t cs=some x->
 (∀z∈x.1.weights P t,z<=reachBytes)->∃gs,aT (Ae w) gs cs/\cO.jD l gs
 |0,m,t,cs,x,l,q,h,hw=>by simp[zX]at q
 |n+1,m,t,cs,x,l,q,h,hw=>by
  simp only[zX]at q;split at q
  ·next B=>
   cases q;obtain⟨b,rfl,rfl⟩:=DataW.trod_bool B h;exact⟨[.b b],by simp[aT,GR],by simp only[cO.jD];exact⟨_,_,rfl,by simp[cO.has],rfl⟩⟩
  ·next k B=>
   cases q;obtain⟨b,rfl,rfl,ai⟩:=DataW.trod_int B h;have aa:k.min<=b/\b<=k.max:=by simpa[Lit.wf]using ai
   exact⟨[.i k b],by simp[aT,GR],by simp only[cO.jD];exact⟨_,_,rfl,by simp only[cO.has];exact⟨b,rfl,aa⟩,rfl⟩⟩
  ·next B=>
   cases q;obtain⟨s,rfl,rfl,hs⟩:=DataW.trod_string B h;refine⟨[.s s.data.toList],by simp only[aT,GR];exact⟨_,_,rfl,by cases s with|mk a=>cases a;rfl,rfl⟩,by simp only[cO.jD];exact⟨_,_,rfl,by simp only[cO.has];exact⟨_,rfl,hw _ (by simp[DataW.weights])⟩,rfl⟩⟩
  ·next e B=>
   split at q
   ·next le N he ax=>
    split at q
    ·next E=>
     cases q;simp only[aO,oV]at E;obtain⟨⟨⟨c1,c2⟩,c3⟩,c4⟩:=E;have c1:=bQ c1;have c2:=um c2;have c3:=um c3;rcases Deep.open_slice B h with⟨rfl,rfl⟩|⟨a,len,ar,I,n',D,Pl,rfl,hb,hl,hm,rfl,rfl,hi⟩
     ·exact⟨[.l []],by simp[aT,GR],by simp only[cO.jD];exact⟨_,_,rfl,by simp only[cO.has];exact⟨[],rfl,aA,aA⟩,rfl⟩⟩
     have ak:I*P.bytesOf e<=reachBytes:=by have:=hw (I*P.bytesOf e) (by simp only[DataW.weights,B,bJ,gG,List.length_range];left;rw[Ui hl]);exact this
     have al:I<=reachBytes:=kR (aeT _ c3) ak;have one:∀i,i<len->∃o gs,(o.length=P.cellsOf e/\∀j,j<P.cellsOf e->w.cell? (((a.add (i*P.cellsOf e))).add j)=o[j]?)/\aT (Ae w) gs o/\cO.jD le gs:=by
      intro i d;obtain⟨o,R,h2⟩:=hi i ah;obtain⟨_,h3,h4⟩:=World.cells?_some R;obtain⟨gs,g1,g2⟩:=adW n n' e o _ le he h2 (λz hz=>hw z (by simp only[DataW.weights,B,bJ,iP];right;left;exact amX (by simp only[su,AO];exact⟨i,d,rfl⟩) z hz))
      exact⟨o,gs,⟨h3,h4⟩,g1,g2⟩
     by_cases hz:I=0
     ·have am:len=0:=ah;subst hz;subst am;refine⟨[.l []],by simp only[aT,GR];exact⟨_,_,rfl,.inl ⟨trivial,_,rfl⟩,rfl⟩,by simp only[cO.jD];exact⟨_,_,rfl,by simp only[cO.has];exact⟨[],rfl,aA,aA⟩,rfl⟩⟩
     have ha:a.spot=none/\∃v L fr,w.heap[a.block]? =some (.cells v L fr):=by obtain⟨o,R,h2⟩:=hi 0 ah;obtain⟨_,h3,h4⟩:=World.cells?_some R;have h5:=h4 0 ah;have W:o[0]? =some o[0]:=bV ah;rw[W]at h5;have O:=cell?_at h5;simp only[Nat.zero_mul,Addr.add,if_true]at O;exact⟨O.1,O.2.choose,O.2.choose_spec.choose,O.2.choose_spec.choose_spec.choose,O.2.choose_spec.choose_spec.choose_spec.1⟩
     obtain⟨ab,v,L,fr,M⟩:=ha;obtain⟨bl,A,sp⟩:=a;simp only at ab M;subst ab;have ac:∀i j:Nat,((Addr.mk bl A none).add i).add j=⟨bl,A+i+j,none⟩:=by intro i j;unfold Addr.add;split<;>split<;>simp_all
     have an:∃(o:Nat->List Value)(G:Nat->List GV),∀i,i<len->(o i).length=P.cellsOf e/\(∀j,j<P.cellsOf e->v[A+i*P.cellsOf e+j]? =(o i)[j]?)/\aT (Ae w) (G i) (o i)/\cO.jD le (G i):=by refine⟨λi=>if d:i<len then(one i d).choose else[],λi=>if d:i<len then(one i d).choose_spec.choose else[],λi d=>?_⟩;simp only[dif_pos d];obtain⟨⟨R,h2⟩,h3,h4⟩:=(one i d).choose_spec.choose_spec;refine⟨R,λj hj=>?_,h3,h4⟩;have:=h2 j hj;rw[ac]at this;rw[<-this];have W:=bV (l:=(one i d).choose) (i:=j) ah;rw[W]at this;have O:=cell?_at this;simp only at O;obtain⟨_,c',e',f',h7,h8⟩:=O;rw[M]at h7;cases h7;rw[this,h8]
     obtain⟨o,G,hG⟩:=an;obtain⟨q1,q2⟩:=ag2 (c:=P.cellsOf e) (ch:=o) (arr:=v) (off:=A) len λi d=>⟨(hG i d).1,λj hj=>(hG i d).2.1 j hj⟩
     have ao:∀i,i<len->(G i).length=le.length:=λi d=>(hG i d).2.2.2.scalars.2;let X:Nat->GV:=λi=>if N then .g (G i)else(G i).headD (.l [])
     let Y:Nat->Value:=λi=>if N then .agg ⟨o i⟩else(o i).headD undef
     have hX:∀i,i<len->(X i).cells=G i/\(X i).scalar = !N/\GR (Ae w) (X i) (Y i)/\(Y i).cells.toList=o i:=by
      intro i d;obtain⟨p1,p2,p3,p4⟩:=hG i d;cases N with
      |true=>simp only[X,Y,if_true];exact⟨rfl,rfl,by simp only[GR];exact⟨_,rfl,p3⟩,rfl⟩
      |false=>
       have Q:le.length=1:=by simpa using c4
       obtain⟨g,hg⟩:∃g,G i=[g]:=Y9.1 (by rw[ao i d,Q]);obtain⟨y,hy⟩:∃y,o i=[y]:=Y9.1 (by rw[p1,c1,Q]);have Z:g.scalar=true:=by have:=p4.scalars.1;rw[hg]at this;simpa using this
       have NY:GR (Ae w) g y:=by rw[hg,hy]at p3;simp only[aT]at p3;obtain⟨u,us,e1,e2,_⟩:=p3;cases e1;exact e2
       simp only[X,Y,hg,hy,List.headD_cons,iJ,if_false,Bool.not_false];refine⟨by cases g<;>first|rfl|(simp[GV.scalar]at Z),Z,NY,?_⟩;cases g<;>simp only[GR]at NY
       ·subst NY;rfl
       ·subst NY;rfl
       ·subst NY;rfl
       ·rcases NY with⟨_,_,rfl⟩|⟨_,_,_,_,_,rfl,_⟩<;>rfl
       ·simp[GV.scalar]at Z
     refine⟨[.l ((List.range len).map X)],?_,?_⟩
     ·simp only[aT];refine⟨_,_,rfl,?_,rfl⟩;simp only[GR];right;have ad:dR ((List.range len).map Y)=(List.range len).flatMap o:=by unfold dR;rw[List.flatMap_map];rw[List.flatMap_def,List.flatMap_def,List.map_congr_left λi p=>(hX i (AO.1 p)).2.2.2]
      refine⟨bl,A,I,(List.range len).map Y,P.cellsOf e,aA,by simpa using hl,aT.ofFn _ λi p=>(hX i (AO.1 p)).2.2.1,?_,λap=>⟨v,L,fr,M,?_,?_⟩⟩
      ·intro y hy;obtain⟨i,p,rfl⟩:=su.1 hy;have:=(hX i (AO.1 p)).2.2.2;rw[<-IC,this];exact(hG i (AO.1 p)).1
      ·rw[ad,q1];have ae:0<len:=by
        rcases Uj len with h0|h0
        ·subst h0;simp at ap
        ·exact h0
       have af:0<P.cellsOf e:=ah;have hk:len*P.cellsOf e-1<((List.range len).flatMap o).length:=by rw[q1];have:0<len*P.cellsOf e:=PO ae af;omega
       have:=q2 _ _ (bV hk);have:=(rX.1 this).1;have:0<len*P.cellsOf e:=PO ae af;omega
      ·rw[ad];exact q2
     ·simp only[cO.jD];refine⟨_,_,rfl,?_,rfl⟩;simp only[cO.has];refine⟨_,rfl,by simp;omega,λy hy=>?_⟩;obtain⟨i,p,rfl⟩:=su.1 hy;obtain⟨k1,k2,_⟩:=hX i (AO.1 p);rw[k1];exact⟨(hG i (AO.1 p)).2.2.2,k2⟩
    ·cases q
   ·cases q
  ·next fs B=>
   split at q
   ·next l' hf=>
    split at q
    ·next ag=>
     cases q;have ag:=bQ ag;obtain⟨xs,n',rfl,rfl,av,aq,hx⟩:=DataW.trod_struct B h
     obtain⟨gs,g1,g2⟩:=ahp (enc:=enc) (P:=P) (w:=w) (fuel:=n') (cs:=cs) (r:=zX P n) (λt l o x R h2 h3=>adW n n' t o x l R h2 h3) fs.toList xs 0 l hf (by simpa using aq)
      (λi f hi=>hx i f (by simpa using hi)) (λz hz=>hw z (by simp only[DataW.weights,B];simpa using hz))
     refine⟨gs,?_,g2⟩;rw[dY,lS ah]at g1;exact g1
    ·cases q
   ·cases q
  ·cases q
def argTys(P:Program)(n:Nat):List TypeId->Option (List (Bool×WN))
 |[]=>some []
 |t::ts=>match zX P n t,pG P t,argTys P n ts with
  |some l,some b,some r=>if b ||Nat.beq l.length 1 then some ((b,l)::r)else none
  |_,_,_=>none
def hasArgs:List (Bool×WN)->List GV->Prop
 |[],gs=>gs=[]
 |(b,l)::r,gs=>∃g a,gs=g::a/\cO.jD l g.cells/\g.scalar = !b/\hasArgs r a
def ayk{w:World}{r:Reach}{c:Nat}{t:TypeId}{v:Value}(h:Value.okWide P w r c t v):(pG P t=some true->∃cs,v=.agg cs)/\
 (pG P t=some false->v.cells =#[v]\/∀n,zX P n t=none):=by
 unfold Value.okWide at h;unfold pG;constructor
 ·intro a;split at a
  ·next b=>rw[b]at h;simp only at h;obtain⟨cs,rfl,_⟩:=h;exact⟨cs,rfl⟩
  ·next b=>rw[b]at h;simp only at h;obtain⟨cs,rfl,_⟩:=h;exact⟨cs,rfl⟩
  ·cases a
  ·cases a
 ·intro a;split at a
  ·cases a
  ·cases a
  ·next u d e b=>
   rw[b]at h
   cases u<;>first
    |(exact absurd rfl (d _))
    |(exact absurd rfl (e _ _))
    |(right;intro n;cases n<;>simp[zX,b];done)
    |(left;simp only[Cell.okWide,b,Cell.ok]at h;cases v<;>first|rfl|(simp only at h;done)|(cases h;done))
  ·cases a
def Kept.below{W a:World}(h:Kept W a):Go.RowKit.Below W.heap.size W a:=⟨h.os,h.tape,h.output,h.size,h.keep⟩
def amx{W g:World}(i:laidOutB P=true)(j:Kept W g){k:Nat->Bool}:∀{ts:List TypeId}{vs:Qt}{e:List (DataW H)}{ps:List MemPlace},DataW.TrodAll enc P W 0 (λ_=>true) true ts vs e ps->
 (∀t∈ts,P.readableRec t=true/\t<P.types.size)->(∀x∈ps,x.block<W.heap.size)->(∀x∈ps,k x.block=true)->DataW.TrodAll enc P g 0 k true ts vs e ps
 |[],[],[],ps,h,_,_,_=>h
 |t::ts,v::vs,d::e,ps,h,l,b,c=>by
  obtain⟨p,q,h1,m,rfl⟩:=h;obtain⟨r1,r2⟩:=l t aA
  exact⟨p,q,WideElems.Trod_stays i r1 r2 h1 (λx a=>j.below.same (b x (Pz _ a))) (λx a=>c x (Pz _ a)),
   amx i j m (λn o=>l n (by simp[o])) (λx a=>b x (Zc _ a)) (λx a=>c x (Zc _ a)),rfl⟩
 |[],_::_,_,_,h,_,_,_=>by simp[DataW.TrodAll]at h
 |[],[],_::_,_,h,_,_,_=>by simp[DataW.TrodAll]at h
 |_::_,[],_,_,h,_,_,_=>by simp[DataW.TrodAll]at h
 |_::_,_::_,[],_,h,_,_,_=>by simp[DataW.TrodAll]at h
end
open Go.ChangeShapes Go.WideShapes Go.ChangeAt Go.RowKit
noncomputable section
variable{P:Program}
def aoX{g:aJ}{call:Caller}{f:FuncId}{J0 J':aC}(b:@tN g P call)(h0:@AY g J0 P.globals.size)(d:call f [] J0=some (.b true,J')){ro:QP}{w:World}(a:yZ g.tabs ro w):
 lY P f ⟨[]⟩ w λv w'=>v=.bool true/\Kept w w':=by
 letI:=g
 have k:SR P (xC P.globals.size J0 ro) J0 w:=MC h0.1 (λid o l=>by obtain⟨c,rfl,m,h⟩:=h0.2 id o l;obtain⟨n,e,q,s,t,u⟩:=a.tab _ m;exact⟨h,c,rfl,⟨n,e,q,a.at' _ _ s,t,u⟩⟩) a.at' (λp x=>a.tab p x)
 refine lY.mono (b f [] J0 _ _ d _ w [] k rfl) ?_;rintro v w' ⟨F',i,j⟩
 simp only[VR]at j;exact⟨j,i.kept h0.own⟩
def ayz{T:aJ}{f:FuncId}(h:∀ro w,yZ T.tabs ro w->lY P f ⟨[]⟩ w λv w'=>v=.bool true/\Kept w w'):@dP T P f KL:=by
 letI:=T
 intro args J r e a F w g b c;unfold KL at a;split at a
 ·cases a;simp only[aG]at c;subst c;refine lY.mono (h F.ro w b.X3) ?_;rintro v w' ⟨rfl,d⟩
  exact⟨F,St.Xz b d,by simp only[VR]⟩
 ·cases a
def AC.qP:AC->Nat->Option Code
 |.plain _,_=>none
 |.seq x y,k=>match x.qP k with
  |some b=>some b
  |none=>y.qP k
 |.cond _ y z,k=>match y.qP k with
  |some b=>some b
  |none=>z.qP k
 |.block _ x,k=>x.qP k
 |.loop a b,k=>if Nat.beq a k then some b else none
 |.peel x a b,k=>if Nat.beq a k then some b else x.qP k
def AC.Hw{k:Nat}{b:Code}:∀{x:AC},x.qP k=some b->x.qE k b
 |.plain _,h=>by simp[AC.qP]at h
 |.seq x y,h=>by
  simp only[AC.qP]at h;split at h
  ·next a=>cases h;exact .inl (AC.Hw a)
  ·exact .inr (AC.Hw h)
 |.cond _ x y,h=>by
  simp only[AC.qP]at h;split at h
  ·next a=>cases h;exact .inl (AC.Hw a)
  ·exact .inr (AC.Hw h)
 |.block _ x,h=>AC.Hw (x:=x) h
 |.loop c d,h=>by
  simp only[AC.qP]at h;split at h
  ·next e=>cases h;exact⟨Nat.eq_of_beq_eq_true e,rfl⟩
  ·cases h
 |.peel x c d,h=>by
  simp only[AC.qP]at h;split at h
  ·next e=>cases h;exact .inl ⟨Nat.eq_of_beq_eq_true e,rfl⟩
  ·exact .inr (AC.Hw h)
def I8(ps:Q4):∀(c:Code)(n:Nat),n<=(ng ps c n).2/\∀k b,(ng ps c n).1.qE k b->(n<=k/\k<(ng ps c n).2)/\(ng ps c n).1.qP k=some b
 |.seq x y,n=>by
  obtain⟨h1,a⟩:=I8 ps x n;obtain⟨j,d⟩:=I8 ps y (ng ps x n).2;simp only[ng,AC.qE,AC.qP];refine⟨ah,λk b h=>?_⟩;rcases h with h|h
  ·obtain⟨r,e⟩:=a k b h;exact⟨ah,by rw[e]⟩
  ·obtain⟨r,e⟩:=d k b h;refine⟨ah,?_⟩;cases g:(ng ps x n).1.qP k with
   |none=>exact e
   |some i=>have:=(a k i (AC.Hw g)).1;omega
 |.cond _ x y,n=>by
  obtain⟨h1,a⟩:=I8 ps x n;obtain⟨j,d⟩:=I8 ps y (ng ps x n).2;simp only[ng,AC.qE,AC.qP];refine⟨ah,λk b h=>?_⟩;rcases h with h|h
  ·obtain⟨r,e⟩:=a k b h;exact⟨ah,by rw[e]⟩
  ·obtain⟨r,e⟩:=d k b h;refine⟨ah,?_⟩;cases g:(ng ps x n).1.qP k with
   |none=>exact e
   |some i=>have:=(a k i (AC.Hw g)).1;omega
 |.block id x,n=>I8 ps x n
 |.loop x,n=>by
  obtain⟨h1,a⟩:=I8 ps x (n+1);simp only[ng];split
  ·exact⟨aA,λk b h=>by simp[AC.qE]at h⟩
  ·split
   ·simp only[AC.qE,AC.qP];refine⟨ah,λk b h=>?_⟩;rcases h with⟨rfl,rfl⟩|h
    ·exact⟨ah,aA⟩
    ·obtain⟨r,e⟩:=a k b h;refine⟨ah,?_⟩;have:Nat.beq n k=false:=by cases l:Nat.beq n k with|false=>rfl|true=>have:=bQ l;omega
     rw[this];exact e
   ·simp only[AC.qE,AC.qP];refine⟨ah,λk b h=>?_⟩;obtain⟨rfl,rfl⟩:=h;exact⟨ah,aA⟩
 |.skip,n|.region _ _ _,n|.rangeFunc _ _ _ _,n|.exit _,n|.scope _,n|.label _,n|.goto _,n|.ret,n|.refuse _,n=>⟨Nat.le_refl _,λk b h=>by simp[ng,AC.qE]at h⟩
def aw1{ps:Q4}{c:Code}{k:Nat}{b:Code}(h:(oI ps c).qE k b):(oI ps c).qP k=some b:=((I8 ps c 0).2 k b h).2
def yu:Code->List (Q4×Nat)->Code
 |c,[]=>c
 |c,(ps,k)::r=>yu (((oI ps c).qP k).getD .skip) r
def an2{ps:Q4}{c:Code}{k:Nat}{b:Code}(h:(oI ps c).qE k b):yu c [(ps,k)]=b:=by simp only[yu,aw1 h,sH]
def afD{ps:Q4}{k:Nat}:∀(r:XX)(c:Code),yu c (r++[(ps,k)])=yu (yu c r) [(ps,k)]
 |[],_=>rfl
 |(_,_)::r,_=>afD r _
abbrev IE:=Q3->List GV->Prop
def Px(b:List IE)(k:Nat)(gs a:Q3):Prop:=match b[k]? with
 |some c=>c gs a
 |none=>False
def vU(Ds:Wb):jg:=λk=>Ds[k]?
def LU(C:Nat->List GV->List GV->Prop)(d:aH)(c:IE):Prop:=∀I:je,(∀k gs a,I k gs=some a->C k gs a)->∀gs a,d.den I gs=some a->c gs a
def LJ(C:Nat->List GV->List GV->Prop):Wb->List IE->Prop
 |[],[]=>True
 |d::a,c::cs=>LU C d c/\LJ C a cs
 |_,_=>False
def LJ.at{C:Nat->List GV->List GV->Prop}:∀{b:Wb}{cs:List IE},LJ C b cs->∀{k:Nat}{d:aH},b[k]? =some d->∃c,cs[k]? =some c/\LU C d c
 |[],[],_,k,d,a=>by simp at a
 |d0::b,e::cs,h,k,d,a=>by
  cases k with
  |zero=>simp at a;subst a;exact⟨e,rfl,h.1⟩
  |succ k=>obtain⟨c,h1,g⟩:=LJ.at h.2 (k:=k) (by simpa using a);exact⟨c,by simpa using h1,g⟩
 |[],_::_,h,_,_,_=>h.elim
 |_::_,[],h,_,_,_=>h.elim
def awT{Ds:Wb}{b:List IE}(h:LJ (Px b) Ds b):∀k gs a,(vU Ds).lim k gs=some a->Px b k gs a:=by refine jg.awU λk d e I g gs a i=>?_;obtain⟨c,j,l⟩:=h.at e;unfold Px;rw[j];exact l I g gs a i
def Ee(P:Program)(tabs:QQ)(I:je)(e:AC)(c:Wz):Prop:=
 ∀k a,dW k c=some a->a.pre.ok=true/\∀b,e.qE k b->∀gs d,I a.key gs=some d->wX P tabs b a.pre a.posts gs d
def Ee.nil{tabs:QQ}{I:je}{a:AC}:Ee P tabs I a []:=λk b h=>by simp[dW]at h
def Ee.cons{tabs:QQ}{I:je}{ps:Q4}{c:Code}{k:Nat}{g:aN}{a:Wz}(i:g.pre.ok=true)(n:∀gs d,I g.key gs=some d->wX P tabs (yu c [(ps,k)]) g.pre g.posts gs d)
 (r:Ee P tabs I (oI ps c) a):Ee P tabs I (oI ps c) ((k,g)::a):=by
 intro m j h;simp only[dW]at h;cases e:Nat.beq m k with
 |true=>rw[e]at h;cases h;have e:=bQ e;subst e;exact⟨i,λb l gs d o=>by rw[<-an2 l];exact n gs d o⟩
 |false=>rw[e]at h;exact r m j h
def wX.ayj{tabs:QQ}(g:xk tabs P.globals.size)(m:P.follows .mixedOrders=true)(o:xX P){pl:mY}{I:je}(j:zO P tabs I pl){a:Wz}{fuel:Nat}{d:aN}(k:d.pre.ok=true){n:Nat}(l:n=d.pre.np)
 {ps:Q4} {b:Code} {t:Tree} (p:Ee P tabs I (oI ps b) a) (e:∀gs c,I d.key gs=some c->wX P tabs b d.pre d.posts gs c)
 (q:t.chk (Xe P tabs pl a fuel d (oI ps b)) (List.replicate d.pre.np .arg) []=true) {gs c:Q3} (i:(aH.tree n t).den I gs=some c):wX P tabs b d.pre d.posts gs c:=by
 simp only[aH.den]at i;split at i
 ·next h=>exact wX.Sm g m o j k p e q (by rw[h,l]) i
 ·cases i
def PL.nil:mY:=λ_=>[]
def PL.cons(f:FuncId)(p:iD->dV)(l:mY):mY:=λN=>(f,p N)::l N
def PL.ayl{tabs:QQ}{I:je}:zO P tabs I PL.nil:=λT _ _ p a=>by simp[PL.nil]at a
def PL.Oj{tabs:QQ}{I:je}{f:FuncId}{p:iD->dV}{l:mY}(h:∀T:aJ,T.tabs=tabs->T.I=I->@dP T P f (p T.toiD))(d:zO P tabs I l):zO P tabs I (PL.cons f p l):=by
 intro T b c q a;rcases bJ.1 a with rfl|a
 ·exact h T b c
 ·exact d T b c q a
def orP(p q:dV):dV:=λargs J=>match p args J with
 |some r=>some r
 |none=>q args J
def ays{T:aJ}{f:FuncId}{p q:dV}(c:@dP T P f p)(d:@dP T P f q):@dP T P f (orP p q):=by
 letI:=T
 intro args J r b a;unfold orP at a;split at a
 ·next r0 e=>cases a;exact c args J r b e
 ·exact d args J r b a
