/- Loops by contract: the step that the evaluator takes at a loop, and how a loop's contract is proved. -/
import Derived.Test.YtogfeeabnklegaaGreatDoorAbsI
import Derived.ChangeArms
import Derived.Deep.Slices
import Derived.Carry
import Derived.ProofKit
import Derived.OpenShut
import Derived.Deep.DeepHandedRow
set_option linter.all false
namespace Go.aP
noncomputable section
variable{P:Program}
structure US where
 r:W8
 p:WF
 fz:Q2
def US.Jz(u:US)(j m:Nat):US:=match dV j u.p with
 |some _=>u
 |none=>{u with p:=(j,m)::u.p}
def US.Qw(u:US)(i:Nat)(x:W2):US:=match dV i u.r with
 |some _=>u
 |none=>{u with r:=(i,x)::u.r}
section
variable[iI]
def OT(P:Program)(J:aC)(a:AV):Option (Nat×W2):=
 match jD a with
 |some m=>some (m,none)
 |none=>match a with
  |.sv id _=>match J.get id with
   |some (.vec m _ _)=>some (m,some id)
   |_=>none
  |.sl id b len c=>match J.get id with
   |some (.cells _ d _ _)=>(listOf P J d (.sl id b len c)).map λm=>(m,some id)
   |_=>none
  |_=>none
mutual
def uV(P:Program)(G:Nat)(J:aC):AV->AV->US->US
 |.nd j,a,u=>match OT P J a with
  |some (m,some id)=>{u.Jz j m with fz:=id::u.fz}
  |some (m,none)=>u.Jz j m
  |none=>u
 |.sv i _,a,u=>match a with
  |.sv id _=>u.Qw i (some id)
  |.iq=>u.Qw i none
  |_=>u
 |.p i _,a,u=>match a with
  |.p id _=>if i<=G then u else u.Qw i (some id)
  |_=>u
 |.mp i,a,u=>match a with
  |.mp id=>u.Qw i (some id)
  |_=>u
 |.sl i _ _ _,a,u=>match a with
  |.sl id _ _ _=>u.Qw i (some id)
  |_=>u
 |.rx j _,a,u=>match a with
  |.rx m _=>u.Jz j m
  |_=>u
 |.fn _ e g,a,u=>match a with
  |.fn _ b c=>IZ P G J g c (IZ P G J e b u)
  |_=>u
 |.agg l,a,u=>match a with
  |.agg d=>IZ P G J l d u
  |_=>u
 |.fG l,a,u=>match a with
  |.fG d=>IZ P G J l d u
  |_=>u
 |.jL _ x,a,u=>match a with
  |.jL _ h=>uV P G J x h u
  |_=>u
 |_,_,u=>u
def IZ(P:Program)(G:Nat)(J:aC):Q3->List AV->US->US
 |[],_,u=>u
 |a::l,m,u=>match m with
  |b::c=>IZ P G J l c (uV P G J a b u)
  |[]=>u
end
def amM(P:Program)(G:Nat)(J:aC)(t:Tr AV):Wo->US->US
 |[],u=>u
 |p::l,u=>amM P G J t l (match t.get p.1 with|some v=>uV P G J p.2 v u|none=>u)
def YT(P:Program)(G:Nat)(J:aC):YY->US->US
 |[],u=>u
 |p::l,u=>YT P G J l (match dV p.1 u.r with
  |some (some id)=>match p.2,J.get id with
   |.cells c _ _ _,some (.cells a _ _ _)=>IZ P G J c a u
   |.vec j _ _,some (.vec m _ _)=>u.Jz j m
   |.smap j _ _,some (.smap m _ _)=>u.Jz j m
   |.smap j _ _,some (.map [])=>match gI (.ml [])with
    |some m=>u.Jz j m
    |none=>u
   |_,_=>u
  |some none=>match p.2 with
   |.vec j _ _=>match gI (.ml [])with
    |some m=>u.Jz j m
    |none=>u
   |_=>u
  |none=>u)
def ac9(p:WF):Nat->Nat->Option Q2
 |_,0=>some []
 |j,n+1=>match dV j p,ac9 p (j+1) n with
  |some m,some r=>some (m::r)
  |_,_=>none
def ZJ:Nat->Nat->List (Nat×W2)
 |_,0=>[]
 |i,n+1=>(i+1,some (i+1))::ZJ (i+1) n
def fit(P:Program)(s:iM)(a:bM)(J:aC):US:=YT P s.gn J s.objs (amM P s.gn J a.t s.slots ⟨ZJ s.gn s.ka,[],[]⟩)
def fits(P:Program)(s:iM)(a:bM)(J:aC)(ps:Q2):Bool:=Nat.beq ps.length s.np&&match fit P s a J with
 |⟨r,_,fz⟩=>abR P s a J fz r ps
structure aN where
 key:Nat
 pre:iM
 posts:K0
abbrev Wz:=List (Nat×aN)
abbrev Wt:=List aN
def Lr(tag:Nat):K0->Nat->Option (fQ×iM)
 |[],_=>none
 |[p],_=>some p
 |p::q::l,t=>match gI (.ci .i64 t)with
  |some c=>match gI (.bin .eql tag c)with
   |some b=>match aaw b with
    |some true=>some p
    |some false=>Lr tag (q::l) (t+1)
    |none=>none
   |none=>none
  |none=>none
def DZ(a:Nat)(ps:Q2):List W2->Nat->Nat->Option Q2
 |_,_,0=>some []
 |some i::b,j,n+1=>match ps[i]?,DZ a ps b j n with
  |some m,some r=>some (m::r)
  |_,_=>none
 |none::b,j,n+1=>match gI (.call a ps j),DZ a ps b (j+1) n with
  |some m,some r=>some (m::r)
  |_,_=>none
 |[],j,n+1=>match gI (.call a ps j),DZ a ps [] (j+1) n with
  |some m,some r=>some (m::r)
  |_,_=>none
def abG(P:Program)(tabs:QP)(b:aN)(a:bM)(J:aC):Wd:=
 match ac9 (fit P b.pre a J).p 0 b.pre.np with
 |some ps=>if fits P b.pre a J ps then
   match gI (.call b.key ps 0)with
   |some tag=>match Lr tag b.posts 0 with
    |some (e,s)=>if Nat.beq s.ka iI.ka then match DZ b.key ps s.al 1 s.np with
     |some c=>some (e,s.U3 (λj=>c.getD j 0),s.Gl tabs (λj=>c.getD j 0))
     |none=>none
     else none
    |none=>none
   |none=>none
  else none
 |none=>none
end
def wO:List W2->List GV->List GV->Option Q1
 |[],_,r=>some r
 |some i::a,gs,r=>match gs[i]?,wO a gs r with
  |some g,some l=>some (g::l)
  |_,_=>none
 |none::a,gs,x::r=>match wO a gs r with
  |some l=>some (x::l)
  |none=>none
 |none::_,_,[]=>none
def EU(a:Nat):List W2->List Nat->Option Q2
 |[],r=>some r
 |some i::b,r=>bif Nat.blt i a then(match EU a b r with
  |some l=>some (i::l)
  |none=>none)else none
 |none::b,x::r=>match EU a b r with
  |some l=>some (x::l)
  |none=>none
 |none::_,[]=>none
def Jt(a:Nat)(l:Q2):List W2->Bool
 |[]=>true
 |none::b=>Jt a l b
 |some i::b=>Nat.blt i a&&((match l[i]? with|some m=>Nat.beq m i|none=>false)&&Jt a l b)
def U4(a:Nat)(l:Q2):K0->Bool
 |[]=>true
 |p::ps=>Jt a l p.2.al&&U4 a l ps
def aec{val:Wb}:∀{l:Q2}{gs:Q1},valsOf val l=some gs->∀(i m:Nat),l[i]? =some m->gs[i]? =val m
 |[],gs,h,i,m,a=>by simp at a
 |x::l,gs,h,i,m,a=>by
  simp only[valsOf]at h;split at h
  ·next g r h5 h6=>
   cases h;cases i with
   |zero=>simp at a;subst a;simp[h5]
   |succ i=>simpa using aec h6 i m (by simpa using a)
  ·cases h
def VY{k:Nat}{gs b e:Q1}(a:b=gs++e)(q:gs.length=k):∀{j:List W2}{l d:Q2}{r:Q1},EU k j l=some d->valsOf (λn=>b[n]?) l=some r->∃rest,valsOf (λn=>b[n]?) d=some rest/\wO j gs r=some rest
 |[],l,d,r,h,c=>by simp only[EU,bF]at h;subst h;exact⟨r,c,rfl⟩
 |some i::j,l,d,r,h,c=>by
  simp only[EU]at h;cases m:Nat.blt i k with
  |false=>rw[m]at h;cases h
  |true=>
   rw[m]at h;simp only[cond_true]at h;rw[jX]at m;split at h
   ·next s o=>
    cases h;obtain⟨rest,p,h5⟩:=VY a q o c;have hi:b[i]? =some (gs[i]'(by omega)):=by rw[a,pG ah,bZ ah]
    refine⟨gs[i]'(by omega)::rest,?_,?_⟩
    ·simp only[valsOf,hi,p]
    ·simp only[wO,h5,bZ (ah:i<gs.length)]
   ·cases h
 |none::j,[],d,r,h,c=>by simp[EU]at h
 |none::j,x::l,d,r,h,c=>by
  simp only[EU]at h;split at h
  ·next s o=>
   cases h;simp only[valsOf]at c;split at c
   ·next g v t u=>
    cases c;obtain⟨rest,p,h5⟩:=VY a q o u;exact⟨g::rest,by simp only[valsOf,t,p],by simp only[wO,h5]⟩
   ·cases c
  ·cases h
def aaG{k:Nat}{gs b e c:Q1}(a:b=gs++e)(o:gs.length=k){l:Q2}(g:valsOf (λn=>b[n]?) l=some c):∀{d:List W2},Jt k l d=true->∀r,wO d c r=wO d gs r
 |[],_,r=>rfl
 |none::d,h,[]=>rfl
 |none::d,h,x::r=>by simp only[Jt]at h;simp only[wO,aaG a o g h r]
 |some i::d,h,r=>by
  simp only[Jt,aO,jX]at h;obtain⟨h1,j,p⟩:=h;split at j
  ·next m q=>
   have:=bV j;subst this;have s:c[m]? =gs[m]?:=by
    rw[aec g m m q];show b[m]? =gs[m]?
    rw[a,pG ah]
   simp only[wO,aaG a o g p r,s]
  ·cases j
def afn{c:Nat}{l:Q2}:∀{a:K0},U4 c l a=true->∀p∈a,Jt c l p.2.al=true
 |q::a,h,p,b=>by
  simp only[U4,aO]at h;rcases bI.1 b with rfl|b
  ·exact h.1
  ·exact afn h.2 p b
def xB(P:Program)(tabs:QP)(b:Code)(d:iM)(c:K0)(gs g:Q1):Prop:=
 ∃(t:Nat)(r a:Q1)(e:fQ)(s:iM),g=GV.i .i64 t::r/\c[t]? =some (e,s)/\wO s.al gs r=some a/\a.length=s.np/\∀w0 h A w K,UJ P tabs d gs w0 h A w->(∀i j,UJ P tabs s a w0 h i j->K e.toExit i j)->CZ P b K A w
def acC{T:aJ}{tag:Nat}{d:Nat}(g:T.val tag=some (.i .i64 (d:Nat))):∀(l:K0)(t:Nat){p:fQ×iM},@Lr T.toiI tag l t=some p->t<=d->∀q,l[d-t]? =some q->p=q
 |[],t,p,h,_,q,a=>by simp[Lr]at h
 |[x],t,p,h,k,q,a=>by
  simp only[Lr,bF]at h;cases j:d-t with
  |zero=>rw[j]at a;simp at a;rw[<-h,a]
  |succ n=>rw[j]at a;simp at a
 |x::y::l,t,p,h,k,q,a=>by
  letI:=T
  simp only[Lr]at h;split at h
  ·next c v=>
   split at h
   ·next b z=>
    obtain⟨D,A,s⟩:=iG v;simp only[Nd.den,bF]at s;subst s;obtain⟨g2,u,m⟩:=iG z;have o:aJ.val tag=some (.i .i64 (d:Nat)):=g;simp only[Nd.den,o,A,jd,if_true,dw,bF]at m;split at h
    ·next j=>
     cases h;have:=T.Dy b true (QS j);have i:T.val b=some g2:=u;rw[i]at this;cases this;simp at m;have:d-t=0:=ah;rw[this]at a;simpa using a
    ·next j=>
     have:=T.Dy b false (QS j);have i:T.val b=some g2:=u;rw[i]at this;cases this;simp at m;have e:d-t=(d-(t+1))+1:=ah;rw[e,xw]at a;exact acC g (y::l) (t+1) h ah q a
    ·cases h
   ·cases h
  ·cases h
def SG{T:aJ}{d:Nat}{ps:Q2}{gs e:Q1}(b:valsOf T.val ps=some gs)(v:T.I d gs=some e):∀(n j:Nat)(p:List W2){o:Q2}{r rest:Q1},(∀k:Nat,r[k]? =e[j+k]?)->wO p gs r=some rest->@DZ T.toiI d ps p j n=some o->o.length=n/\∀(i m:Nat),o[i]? =some m->T.val m=rest[i]?
 |0,j,p,o,r,rest,_,_,h=>by
  letI:=T
  have:o=[]:=by unfold DZ at h;simpa using h.symm
  subst this;simp
 |n+1,j,some N::p,o,r,rest,q,a,h=>by
  letI:=T
  simp only[DZ]at h;simp only[wO]at a;split at a
  ·next g l O I=>
   cases a;split at h
   ·next m M y c=>
    cases h;obtain⟨z,A⟩:=SG b v n j p q I c;refine⟨by simp[z],λi D hi=>?_⟩;cases i with
    |zero=>simp at hi;subst hi;have:=aec b N m y;rw[l9,<-O];exact this.symm
    |succ i=>simpa using A i D (by simpa using hi)
   ·cases h
  ·cases a
 |n+1,j,none::p,o,[],rest,q,a,h=>by simp[wO]at a
 |n+1,j,none::p,o,x::r,rest,q,a,h=>by
  letI:=T
  simp only[DZ]at h;simp only[wO]at a;split at a
  ·next l I=>
   cases a;split at h
   ·next m M y c=>
    cases h;obtain⟨z,A⟩:=SG b v n (j+1) p (r:=r) (λk=>by have:=q (k+1);rw[xw]at this;rw[this];congr 1;omega) I c
    refine⟨by simp[z],λi D hi=>?_⟩;cases i with
    |zero=>simp at hi;subst hi;obtain⟨g,L,E⟩:=iG y;have s:valsOf aJ.val ps=some gs:=b;have t:aJ.I d gs=some e:=v;simp only[Nd.den,s,t]at E;have u:T.val m=some g:=L;have:=q 0;simp only[l9,pY]at this;rw[u,l9,this];exact E.symm
    |succ i=>simpa using A i D (by simpa using hi)
   ·cases h
  ·cases a
 |n+1,j,[],o,r,rest,q,a,h=>by
  letI:=T
  simp only[DZ]at h;simp only[wO,bF]at a;subst a;split at h
  ·next m M y c=>
   cases h;obtain⟨z,A⟩:=SG b v n (j+1) [] (r:=r.tail) (λk=>by have:=q (k+1);rw[List.getElem?_tail,this];congr 1;omega) rfl c
   refine⟨by simp[z],λi D hi=>?_⟩;cases i with
   |zero=>simp at hi;subst hi;obtain⟨g,L,E⟩:=iG y;have s:valsOf aJ.val ps=some gs:=b;have t:aJ.I d gs=some e:=v;simp only[Nd.den,s,t]at E;have u:T.val m=some g:=L;have:=q 0;rw[pY]at this;rw[u,this];exact E.symm
   |succ i=>have:=A i D (by simpa using hi);rw[this,List.getElem?_tail]
  ·cases h
def abH{T:aJ}{tabs:QP}(R:T.tabs=tabs)(o:xG tabs P.globals.size){n:aN}(x:n.pre.ok=true){b:Code}(Z:∀gs d,T.I n.key gs=some d->xB P tabs b n.pre n.posts gs d)
 {a V:bM} {J J':aC} {e:fQ} (h:@abG T.toiI P tabs n a J=some (e,V,J')) {Q:fQ->bM->aC->Prop} (hq:Q e V J'):@Eo T P b a J Q:=by
 letI:=T
 unfold abG at h;split at h
 ·next ps aa=>
  split at h
  ·next c=>
   split at h
   ·next tag p=>
    split at h
    ·next e' s i=>
     split at h;rotate_left
     ·cases h
     next l=>
     have l:=bV l;split at h
     ·next v y=>
      cases h;obtain⟨gt,t1,m⟩:=iG p;simp only[Nd.den]at m;split at m
      ·next gs q=>
       split at m
       ·next d W=>
        obtain⟨t,r,X,e2,s2,rfl,z,D,ab,u⟩:=Z gs d W;simp only[l9,bF]at m;subst m;have E:=acC t1 n.posts 0 i (vG _) (e2,s2) (by simpa using z);cases E;obtain⟨n1,n2⟩:=SG q W _ 1 s.al (r:=r) (λk=>by rw[MV,xw]) D y;intro w0 fB F w A K hF hl ht hK;unfold fits at c;rw[aO]at c;have I:=abU R o x hF hl ht c.2 q;refine u w0 fB A w K I λA' w' L=>?_;obtain⟨F',M,N⟩:=adE (T:=T) (f:=λj=>v.getD j 0) R l.symm (λj g Y=>by
         have O:j<v.length:=by have:=(gu.1 Y).1;omega
         have hm:v[j]? =some (v.getD j 0):=by rw[Ak,bZ O];rfl
         rw[n2 j _ hm];exact Y) L
        exact hK e _ _ F' A' w' hq M rfl N
       ·cases m
      ·cases m
     ·cases h
    ·cases h
   ·cases h
  ·cases h
 ·cases h
def aeb{val:Wb}:∀{l:Q2}{gs:Q1},valsOf val l=some gs->gs.length=l.length
 |[],gs,h=>by simp only[valsOf,bF]at h;subst h;rfl
 |x::l,gs,h=>by
  simp only[valsOf]at h;split at h
  ·next h5 h6=>cases h;simp[aeb h6]
  ·cases h
def fQ.eq:fQ->fQ->Bool
 |.normal,.normal=>true
 |.ret,.ret=>true
 |.exit a,.exit b=>Nat.beq a b
 |_,_=>false
def fQ.eq_of{a b:fQ}(h:a.eq b=true):a=b:=by
 cases a<;>cases b<;>first|rfl|(cases h;done)|skip
 rw[bV h]
abbrev nJ:=iI->List (FuncId×fO)
def Am(P:Program)(tabs:QP)(I:ji)(pl:nJ):Prop:=∀T:aJ,T.tabs=tabs->T.I=I->∀p∈pl T.toiI,@fJ T P p.1 p.2
def LH(P:Program)(N:iI)(pl:nJ)(fuel:Nat):Code->bM->aC->Option (fQ×bM×aC):=@GL N P (ZA P) (ac8 (pl N)) fuel
def Gm(P:Program)(tabs:QP)(N:iI)(b:Wz):Zo:=λk a J=>match dV k b with
 |some c=>@abG N P tabs c a J
 |none=>none
def Xk(P:Program)(tabs:QP)(pl:nJ)(b:Wz)(fuel:Nat)(a:aN)(i:AC)(c:List Nd)(d:Wk)(k:Leaf):Bool:=
 match @yI ⟨c,d,a.pre.ka⟩ (Gm P tabs ⟨c,d,a.pre.ka⟩ b) (LH P ⟨c,d,a.pre.ka⟩ pl fuel) i (a.pre.U3 λj=>j) (a.pre.Gl tabs λj=>j)with
 |some (e,g,h)=>match k with
  |.ret (m::l)=>match c[m]? with
   |some (.ci .i64 t)=>match a.posts[t.toNat]? with
    |some (n,s)=>decide (0<=t)&&!(e.eq .normal)&&e.eq n&&s.ok&&(match EU a.pre.np s.al l with|some o=>@fits ⟨c,d,a.pre.ka⟩ P s g h o|none=>false)
    |none=>false
   |_=>false
  |.tail f l=>Nat.beq f a.key&&e.eq .normal&&(U4 a.pre.np l a.posts&&@fits ⟨c,d,a.pre.ka⟩ P a.pre g h l)
  |_=>false
 |none=>false
@[reducible] def Tw(tabs:QP)(I:ji)(ka:Nat){b:List Nd}{c:Wk}{a:Q1}(h:ED I b c a):aJ:={nodes:=b,dec:=c,ka:=ka,tabs:=tabs,I:=I,val:=λn=>a[n]?,uo:=h.node,Dy:=h.dec}
def ED.start(I:ji)(gs:Q1)(n:Nat)(h:gs.length=n):ED I (List.replicate n .arg) [] gs:=
 ⟨by simp[h],λk e a c=>absurd (aeX.1 (tN a)).2 c,λk b d=>by simp at d⟩
def adu{T:aJ}(a:P.follows .mixedOrders=true)(b:yD P){pl:nJ}(c:∀p∈pl T.toiI,@fJ T P p.1 p.2)(fuel:Nat):@Qj T P (LH P T.toiI pl fuel):=
 (@agp T P _ _ (agX a) (akW c) b fuel).1
def xB.SB{tabs:QP}(p:xG tabs P.globals.size)(hm:P.follows .mixedOrders=true)(hn:yD P){pl:nJ}{I:ji}(aa:Am P tabs I pl){h:Wz}{fuel:Nat}{m:aN}(ab:m.pre.ok=true){ps:Q2}{b:Code}{t:Tree}
 (Ku:∀k i,dV k h=some i->i.pre.ok=true/\∀c,(pK ps b).qY k c->∀gs d,I i.key gs=some d->xB P tabs c i.pre i.posts gs d)
 (D:∀gs d,I m.key gs=some d->xB P tabs b m.pre m.posts gs d)
 (BU:t.chk (Xk P tabs pl h fuel m (pK ps b)) (List.replicate m.pre.np .arg) []=true) {gs d:Q1} (q:gs.length=m.pre.np) (hd:t.den I gs=some d):xB P tabs b m.pre m.posts gs d:=by
 obtain⟨ns,ds,R,lf,o,h2,⟨an,h3⟩,V⟩:=Tree.NM t BU (ED.start I gs _ q) hd;let T:aJ:=Tw tabs I m.pre.ka h2
 unfold Xk at o;split at o
 ·next e a' J' W=>
  have Oi:∀Q:fQ->bM->aC->Prop,Q e a' J'->@AT T P b (m.pre.U3 λj=>j) (m.pre.Gl tabs λj=>j) Q:=by
   intro Q hq;have:=@ZF P T (Gm P tabs ⟨ns,ds,m.pre.ka⟩ h) (LH P ⟨ns,ds,m.pre.ka⟩ pl fuel) (adu (T:=T) hm hn (aa T rfl rfl) fuel) (pK ps b) (Au ps b 0).2 (λk c hk a J e1 a1 J1 hs Q' ac=>by
    unfold Gm at hs;split at hs
    ·next i ad=>
     obtain⟨k1,k2⟩:=Ku k i ad;exact abH (T:=T) rfl p k1 (λgs d hI=>k2 c hk gs d hI) hs ac
    ·cases hs) _ _ _ _ _ W Q hq
   rwa [show(pK ps b).erase=b from(Au ps b 0).1]at this
  have x:∀j g,gs[j]? =some g->T.val ((λj=>j) j)=some g:=by
   intro j g hj;show R[j]? =some g
   rw[h3];have:=(gu.1 hj).1;rw[pG this];exact hj
  split at o
  ·next tn l=>
   split at o
   ·next tt ae=>
    split at o
    ·next e' s E=>
     simp only[aO,decide_eq_true_iff]at o;obtain⟨⟨⟨⟨t0,t1⟩,t2⟩,X⟩,y⟩:=o;split at y;rotate_left
     ·cases y
     next l2 af=>
     have e1:=fQ.eq_of t2;subst e1;simp only[valsOf]at V;split at V
     ·next g r hg ag=>
      cases V;obtain⟨g',k1,k2⟩:=h2.node tn _ ae aA;have ai:R[tn]? =some g:=hg;rw[ai]at k1;cases k1;simp only[Nd.den,bF]at k2;subst k2;obtain⟨n,u,ak⟩:=VY h3 q af ag;have al:n.length=s.np:=by unfold fits at y;rw[aO]at y;rw[<-bV y.1];exact aeb u
      refine⟨tt.toNat,r,n,e,s,by rw[Jd t0],E,ak,al,λw0 fB A w K hS hK=>CZ.step ?_⟩;obtain⟨F,hF,ht⟩:=adE (T:=T) (f:=λj=>j) rfl rfl x hS;refine Oi (λv Y Z=>v=e/\Y=a'/\Z=J') ⟨rfl,rfl,rfl⟩ w0 fB F w A _ hF rfl ht ?_;rintro v Y Z F' A' w' ⟨rfl,rfl,rfl⟩ L M N
      unfold fits at y;rw[aO]at y;have O:=abU (T:=T) rfl p X L M N y.2 u;have:=hK A' w' O;cases v with
      |normal=>simp[fQ.eq]at t1
      |exit id=>exact this
      |ret=>exact this
     ·cases V
    ·cases o
   ·cases o
  ·next f l=>
   simp only[aO]at o;obtain⟨⟨t1,t2⟩,t5,X⟩:=o;have e1:=fQ.eq_of t2;subst e1;have v:=bV t1;subst v;obtain⟨am,z,hI⟩:=V;obtain⟨tn,r,n,v,s,r1,r2,r5,r3,r4⟩:=D am d hI;refine⟨tn,r,n,v,s,r1,r2,by rw[<-aaG h3 q z (afn t5 _ (tN r2)) r];exact r5,r3,λw0 fB A w K hS hK=>CZ.step ?_⟩;obtain⟨F,hF,ht⟩:=adE (T:=T) (f:=λj=>j) rfl rfl x hS;refine Oi (λv Y Z=>v=.normal/\Y=a'/\Z=J') ⟨rfl,rfl,rfl⟩ w0 fB F w A _ hF rfl ht ?_;rintro e3 Y Z F' A' w' ⟨rfl,rfl,rfl⟩ L M N
   unfold fits at X;rw[aO]at X;have O:=abU (T:=T) rfl p ab L M N X.2 z;exact r4 w0 fB A' w' K O hK
  ·cases o
 ·cases o
structure qG(P:Program)(tabs:QP)(f:FuncId)(st:W7)(sh:WN)(gs out:Q1):Prop where
 call:anB P tabs f st gs out
 fits:qE sh out=true
section
variable[iI]
def Vp(P:Program)(J:aC)(fz:Q2)(a:AV):W2:=
 match OT P J a with
 |some (m,none)=>some m
 |some (m,some _)=>if Wp P J fz a m then some m else none
 |none=>none
def QI(P:Program)(J:aC)(fz:Q2):Q3->Option Q2
 |[]=>some []
 |a::l=>match Vp P J fz a,QI P J fz l with
  |some m,some r=>some (m::r)
  |_,_=>none
def YZ(P:Program)(J:aC)(fz:Q2):AV->Option Nat
 |.agg l=>match QI P J fz l with
  |some b=>gI (.mk b)
  |none=>none
 |a=>Vp P J fz a
def valsN(P:Program)(J:aC)(fz:Q2):Q3->Option Q2
 |[]=>some []
 |a::l=>match YZ P J fz a,valsN P J fz l with
  |some m,some r=>some (m::r)
  |_,_=>none
def ahM(P:Program)(J:aC)(a:AV):Q2:=match OT P J a with
 |some (_,some id)=>[id]
 |_=>[]
def E5(P:Program)(J:aC):Q3->List Nat
 |[]=>[]
 |.agg l::r=>l.flatMap (ahM P J)++E5 P J r
 |a::r=>ahM P J a++E5 P J r
def XF(k:Nat)(a:Q2)(j:Nat):qH->Option AV
 |.sc=>lS (.call k a j)
 |.ag n=>match gI (.call k a j)with
  |some m=>(JJ m 0 n).map .agg
  |none=>none
def Lh(k:Nat)(b:Q2):Nat->List qH->Option Q3
 |_,[]=>some []
 |j,s::l=>match XF k b j s,Lh k b (j+1) l with
  |some a,some r=>some (a::r)
  |_,_=>none
def XH(P:Program)(k:Nat)(st:W7)(b:WN):fO:=λc J=>match Eh st c with
 |none=>none
 |some args=>
 let fz:=E5 P J args
 if fz.all (Nat.ble J.lock ·)then
  match valsN P J fz args with
  |some d=>match Lh k d 0 b with
   |some (a::l)=>some (LX (a::l),kills J fz)
   |_=>none
  |none=>none
 else none
end
def aaT{T:aJ}{F:Env}{J:aC}{w:World}(h:@SR T P F J w):∀fz:Q2,(∀id∈fz,J.lock<=id)->∃dQ,(∀b o,F.ro b=some o->dQ b=some o)/\@St T P F J w ⟨F.pl,dQ,F.gh⟩ (kills J fz) w/\
 (∀id∈fz,∀o q,J.get id=some o->o.own=true->F id=some q->dQ q.bl=w.heap[q.bl]?)
 |[],_=>⟨F.ro,λ_ _ h=>h,@St.refl T _ _ _ _ h,aA⟩
 |id::fz,l=>by
  letI:=T
  obtain⟨dQ,u,p,s⟩:=aaT h fz (λk z=>l k (zC _ z));by_cases v:∃o q,(kills J fz).get id=some o/\o.own=true/\F id=some q
  ·obtain⟨o,q,A,m,x⟩:=v;have t:=St.freeze p.rel A m (by rw[Ox];exact l id aA) (show(⟨F.pl,dQ,F.gh⟩:Env) id=some q from x);refine⟨IL dQ w q.bl,λb o D=>X0 p.rel.jF q.bl b o (u b o D),p.trans t,?_⟩;intro d i n j g a c;show(if j.bl=q.bl then w.heap[q.bl]? else dQ j.bl)=_
   split
   ·next e=>rw[e]
   ·next e=>
    rcases bI.1 i with rfl|i
    ·rw[x]at c;cases c;exact absurd rfl e
    ·exact s d i n j g a c
  ·refine⟨dQ,u,p.Xd id,?_⟩;intro d i n j g a c;rcases bI.1 i with rfl|i
   ·by_cases y:d∈fz
    ·exact s d y n j g a c
    ·exact absurd ⟨n,j,by rw[Fq,aj y];exact g,a,c⟩ v
   ·exact s d i n j g a c
section
variable{T:aJ}{tabs:QP}{G next:Nat}{F:Env}{J:aC}{w:World}{fz:Q2}{r:W8}{ps:Q2}{gs:Q1}{dQ:Qf}
def ayR{a:AV}{m:Nat}(h:@OT T.toiI P J a=some (m,none)):@jD T.toiI a=some m:=by
 letI:=T
 unfold OT at h;split at h
 ·next b c=>cases h;exact c
 ·split at h
  ·split at h<;>cases h
  ·split at h
   ·obtain⟨b,_,e⟩:=bJ.1 h;cases e
   ·cases h
  ·cases h
def af2(C:yC T P tabs G next F J w fz r ps gs dQ){a:AV}{m:Nat}{v:Value}(h:@Vp T.toiI P J fz a=some m)(s:@VR T F a v):∃g,T.val m=some g/\g.scalar=true/\GR dQ g v:=by
 letI:=T
 unfold Vp at h;split at h
 ·next t b=>
  cases h;obtain⟨g,k,l,u⟩:=nV (ayR b) s;exact⟨g,k,l,GR.mono C.xg _ _ u⟩
 ·next t id b=>
  split at h
  ·next x=>
   cases h;have j:∃g,T.val m=some g:=by
    unfold OT at b;split at b
    ·cases b
    ·split at b
     ·next y n=>
      split at b
      ·next z A f i=>
       cases b;rcases C.rel.live _ _ i with⟨q,N,o⟩|⟨_,O,D,Q,E,p⟩
       ·obtain⟨R,I,_⟩:=o.OJ;exact⟨_,I⟩
       ·cases E;exact⟨_,p⟩
      ·cases b
     ·split at b
      ·next c A V L i=>
       obtain⟨z,d,e⟩:=bJ.1 b;cases e;unfold listOf at d;simp only[i]at d;split at d
       ·split at d
        ·split at d
         ·split at d
          ·obtain⟨g,M,_⟩:=iG d;exact⟨g,M⟩
          ·cases d
         ·cases d
        ·cases d
       ·cases d
      ·cases b
     ·cases b
   obtain⟨g,i⟩:=j;obtain⟨k,l⟩:=ahI C x s i;exact⟨g,i,k,l⟩
  ·cases h
 ·cases h
def af9(C:yC T P tabs G next F J w fz r ps gs dQ):∀{l:Q3}{d:Q2}{vs:Q6},@QI T.toiI P J fz l=some d->@aG T F l vs->∃b,valsOf T.val d=some b/\b.all GV.scalar=true/\aU dQ b vs
 |[],d,vs,h,c=>by simp only[QI,bF]at h;subst h;simp only[aG]at c;subst c;exact⟨[],rfl,rfl,by simp[aU]⟩
 |a::l,d,vs,h,c=>by
  letI:=T
  simp only[QI]at h;split at h
  ·next m t e i=>
   cases h;simp only[aG]at c;obtain⟨x,j,rfl,k,n⟩:=c;obtain⟨g,o,g2,g3⟩:=af2 C e k;obtain⟨b,p,q,s⟩:=af9 C i n;exact⟨g::b,by simp only[valsOf,o,p],by simp[g2,q],by simp only[aU];exact⟨x,j,rfl,g3,s⟩⟩
  ·cases h
def aFt(C:yC T P tabs G next F J w fz r ps gs dQ){a:AV}{m:Nat}{v:Value}(h:@YZ T.toiI P J fz a=some m)(d:@VR T F a v):∃g,T.val m=some g/\GR dQ g v/\(match a with|.agg l=>∃b,g=.g b/\b.length=l.length|_=>g.scalar=true):=by
 letI:=T
 cases a;case agg l=>
  simp only[YZ]at h;split at h
  ·next n e=>
   simp only[VR]at d;obtain⟨o,rfl,c⟩:=d;obtain⟨b,p,q,k⟩:=af9 C e c;obtain⟨g,i,g2⟩:=iG h;have j:valsOf aJ.val n=some b:=p;simp only[Nd.den,j,q,if_true,bF]at g2;subst g2;exact⟨_,i,by simp only[GR];exact⟨o,rfl,k⟩,b,rfl,by rw[k.length,c.length]⟩
  ·cases h
 all_goals
  simp only[YZ]at h;obtain⟨g,i,g2,g3⟩:=af2 C h d;exact⟨g,i,g3,g2⟩
def aea(C:yC T P tabs G next F J w fz r ps gs dQ):∀{l:Q3}{c:Q2}{vs:Q6},@valsN T.toiI P J fz l=some c->@aG T F l vs->∃d,valsOf T.val c=some d/\aU dQ d vs
 |[],c,vs,h,b=>by simp only[valsN,bF]at h;subst h;simp only[aG]at b;subst b;exact⟨[],rfl,by simp[aU]⟩
 |a::l,c,vs,h,b=>by
  letI:=T
  simp only[valsN]at h;split at h
  ·next m s e i=>
   cases h;simp only[aG]at b;obtain⟨x,j,rfl,k,n⟩:=b;obtain⟨g,o,g2,_⟩:=aFt C e k;obtain⟨d,p,q⟩:=aea C i n;exact⟨g::d,by simp only[valsOf,o,p],by simp only[aU];exact⟨x,j,rfl,g2,q⟩⟩
  ·cases h
def acn{k:Nat}{A:Q2}{D e:Q1}(p:valsOf T.val A=some D)(I:T.I k D=some e){F':Env}:∀{L:WN}{j:Nat}{l:Q3}{E:Q6}{rest:Q1},@Lh T.toiI k A j L=some l->qE L rest=true->(∀i,rest[i]? =e[j+i]?)->aU F'.ro rest E->@aG T F' l E
 |[],j,l,E,rest,h,d,M,q=>by
  cases rest with
  |cons a b=>simp[qE]at d
  |nil=>simp only[Lh,bF]at h;subst h;simp only[aU]at q;subst q;simp[aG]
 |s::L,j,l,E,rest,h,d,M,q=>by
  letI:=T
  cases rest with
  |nil=>cases s<;>simp[qE]at d
  |cons g rest=>
   simp only[Lh]at h;split at h
   ·next a r' t v=>
    cases h;simp only[aU]at q;obtain⟨u,x,rfl,N,g2⟩:=q;have X:=M 0;simp only[l9,pY]at X;have o:(Nd.call k A j).den aJ.I aJ.val=some g:=by have O:valsOf aJ.val A=some D:=p;have Q:aJ.I k D=some e:=I;simp only[Nd.den,O,Q];exact X.symm
    have c:∀i,rest[i]? =e[j+1+i]?:=λi=>by have:=M (i+1);rw[xw]at this;rw[this];congr 1;omega
    cases s with
    |sc=>simp only[qE,aO]at d;refine⟨u,x,rfl,?_,acn p I v d.2 c g2⟩;obtain⟨_,g',_,y,k3⟩:=oU (F:=F') t;rw[o]at y;cases y;exact k3 u d.1 N
    |ag n=>
     simp only[qE,aO]at d;refine⟨u,x,rfl,?_,acn p I v d.2 c g2⟩;simp only[XF]at t;split at t
     ·next m hm=>
      obtain⟨l',R,rfl⟩:=bJ.1 t;obtain⟨g',k1,y⟩:=iG hm;rw[o]at y;cases y;obtain⟨aa,h5,h6⟩:=Vq (F:=F') k1 n 0 R;cases g with
      |g Y=>have z:=bV d.1.2;simp only[GR]at N;obtain⟨Z,rfl,V⟩:=N;simp only[VR];refine⟨Z,rfl,h6 Z ?_⟩;obtain⟨e1,e2,_⟩:=vg h5;have W:Y.length=n:=z;rw[e1,dY,mg (by rw[oG];show Y.length<=n;omega)];exact(qX _ _).1 V
      |_=>simp[GV.scalar]at d
     ·cases t
   ·cases h
def amL{T:aJ}{F:Env}{l:Q3}{d:Q6}(h:@aG T F l d):@VR T F (LX l) (Ei d):=by
 letI:=T
 have c:=h.length;match l,d,h,c with
 |[a],[u],h,_=>simp only[aG]at h;obtain⟨x,i,e,g,j⟩:=h;cases e;exact g
 |[],[],h,_=>show VR F (.fG []) (.tuple ⟨[]⟩);simp only[VR];exact⟨_,rfl,h⟩
 |a::b::l,u::k::d,h,_=>show VR F (.fG _) (.tuple ⟨_⟩);simp only[VR];exact⟨_,rfl,h⟩
 |[],_::_,_,c=>simp at c
 |[_],[],_,c=>simp at c
 |[_],_::_::_,_,c=>simp at c
 |_::_::_,[],_,c=>simp at c
 |_::_::_,[_],_,c=>simp at c
def akg{f:FuncId}{k:Nat}{st:W7}{q:WN}(W:∀gs a,T.I k gs=some a->qG P T.tabs f st q gs a):@fJ T P f (@XH T.toiI P k st q):=by
 letI:=T
 intro Qq J rr J' c F w X Q x;unfold XH at c;split at c
 ·cases c
 next args y=>
 obtain⟨Y,rfl,Z⟩:=YQ y x;simp only at c;split at c
 ·next z=>
  have Fg:∀id∈E5 P J args,J.lock<=id:=λid A=>wB (List.all_eq_true.1 z id A);split at c
  ·next R D=>
   split at c
   ·next a0 l o=>
    cases c;obtain⟨dQ,f1,E,f3⟩:=aaT Q (E5 P J args) Fg;have C:yC T P T.tabs P.globals.size (P.globals.size+1) F J w (E5 P J args) [] [] [] dQ:=⟨Q,rfl,f1,f3,rfl,Ew _⟩
    obtain⟨t,V,k2⟩:=aea C D Z;have u:∃a,T.I k t=some a:=by
     have d:∀{m g},gI (.call k R 0)=some m->aJ.val m=some g->∃a,T.I k t=some a:=by
      intro m g e hg;obtain⟨g',_,d2⟩:=iG e;have I:valsOf aJ.val R=some t:=V;simp only[Nd.den,I]at d2;split at d2
      ·next r hr=>exact⟨r,hr⟩
      ·cases d2
     cases q with
     |nil=>simp[Lh]at o
     |cons s q=>
      simp only[Lh]at o;split at o
      ·next a1 r1 b _=>
       cases s with
       |sc=>
        simp only[XF,lS]at b;split at b
        ·next m e=>obtain⟨g,L,_⟩:=iG e;exact d e L
        ·cases b
       |ag n=>
        simp only[XF]at b;split at b
        ·next m e=>obtain⟨g,L,_⟩:=iG e;exact d e L
        ·cases b
      ·cases o
    obtain⟨a,u⟩:=u;obtain⟨h,p⟩:=W t a u;refine nG.mono (h dQ w Y E.rel.X4 k2) ?_;rintro v w' ⟨j,M,us,rfl,N⟩
    have O:=St.ayB (ro':=j) E.rel M;refine⟨_,E.trans O,amL (acn V u (F':=⟨F.pl,j,F.gh⟩) o p (λi=>aA) N)⟩
   ·cases c
  ·cases c
 ·cases c
def adr:WN->List AV->Bool
 |[],[]=>true
 |.sc::l,a::m=>(match a with|.agg _=>false|_=>true)&&adr l m
 |.ag n::l,a::m=>(match a with|.agg c=>Nat.beq c.length n|_=>false)&&adr l m
 |_,_=>false
section
variable[iI]
def Jw:Nat->List qH->Option Q3
 |_,[]=>some []
 |j,.sc::l=>match Jw (j+1) l with
  |some r=>some (.nd j::r)
  |none=>none
 |j,.ag n::l=>match JJ j 0 n,Jw (j+1) l with
  |some c,some r=>some (.agg c::r)
  |_,_=>none
end
def ZO{F:Env}:∀{p:WN}{j:Nat}{l:Q3}{vs:Q6}{rest:Q1},@Jw T.toiI j p=some l->qE p rest=true->(∀i g,rest[i]? =some g->T.val (j+i)=some g)->aU F.ro rest vs->@aG T F l vs
 |[],j,l,vs,rest,h,e,q,m=>by
  cases rest with
  |cons a b=>simp[qE]at e
  |nil=>simp only[Jw,bF]at h;subst h;simp only[aU]at m;subst m;simp[aG]
 |s::p,j,l,vs,rest,h,e,q,m=>by
  letI:=T
  cases rest with
  |nil=>cases s<;>simp[qE]at e
  |cons g rest=>
   simp only[aU]at m;obtain⟨u,y,rfl,t,g2⟩:=m;have z:=q 0 g aA;have d:∀i g,rest[i]? =some g->T.val (j+1+i)=some g:=λi g hi=>by have:=q (i+1) g (by simpa using hi);rw[<-this];congr 1;omega
   cases s with
   |sc=>
    simp only[Jw]at h;split at h
    ·next D k=>
     cases h;simp only[qE,aO]at e;exact⟨u,y,rfl,by simp only[VR];exact⟨g,z,e.1,t⟩,ZO k e.2 d g2⟩
    ·cases h
   |ag n=>
    simp only[Jw]at h;split at h
    ·next c D E k=>
     cases h;simp only[qE,aO]at e;refine⟨u,y,rfl,?_,ZO k e.2 d g2⟩;obtain⟨I,L,M⟩:=Vq (F:=F) z n 0 E;cases g with
     |g A=>have o:=bV e.1.2;simp only[GR]at t;obtain⟨vs,rfl,v⟩:=t;simp only[VR];refine⟨vs,rfl,M vs ?_⟩;obtain⟨N,O,_⟩:=vg L;have x:A.length=n:=o;rw[N,dY,mg (by rw[oG];show A.length<=n;omega)];exact(qX _ _).1 v
     |_=>simp[GV.scalar]at e
    ·cases h
def abM(P:Program)(tabs:QP)(pl:nJ)(a:Wz)(fuel:Nat)(st:W7)(j k:WN)(b:Nat)(g:List ResultVar)(m:AC)(c:List Nd)(d:Wk)(o:Leaf):Bool:=
 match o with
 |.ret l=>match @Jw ⟨c,d,0⟩ 0 j with
  |some args=>match @yI ⟨c,d,0⟩ (Gm P tabs ⟨c,d,0⟩ a) (LH P ⟨c,d,0⟩ pl fuel) m {t:=BK (yU st args) 0 .nil,n:=max (yU st args).length b,gn:=P.globals.size} ⟨rU (yj tabs),P.globals.size+1,0⟩with
   |some (e,p,h)=>(match e with|.exit _=>false|_=>true)&&match Dk P h p g with
    |some i=>adr k i&&match @valsN ⟨c,d,0⟩ P h (@E5 ⟨c,d,0⟩ P h i) i with
     |some q=>zX l q
     |none=>false
    |none=>false
   |none=>false
  |none=>false
 |_=>false
def YN(a:xG tabs P.globals.size)(c:T.tabs=tabs):@BI T ⟨rU (yj tabs),P.globals.size+1,0⟩ P.globals.size:=by refine⟨Nat.lt_succ_self _,λid o d=>?_⟩;have g:=SA (show(rU (yj tabs)).get id=some o from d);obtain⟨p,b,e⟩:=rZ.1 g;cases e;exact⟨p.2,rfl,by rw[c];exact b,a.low p b⟩
def qG.SB{tabs:QP}(R:xG tabs P.globals.size)(hm:P.follows .mixedOrders=true)(hn:yD P){pl:nJ}{I:ji}(ai:Am P tabs I pl){y:Wz}{fuel:Nat}{f:FuncId}{fn:Func}{c:Code}{pe:Q2}{st:W7}{zh Bc:WN}{t:Tree}
 (hf:P.funcs[f]? =some fn) (hc:fn.body=some c)
 (Ku:∀k z,dV k y=some z->z.pre.ok=true/\∀b,(pK pe c).qY k b->∀gs d,I z.key gs=some d->xB P tabs b z.pre z.posts gs d)
 (BU:t.chk (abM P tabs pl y fuel st zh Bc fn.ntmps fn.results.toList (pK pe c)) (List.replicate zh.length .arg) []=true) {gs d:Q1} (E:(aH.fn zh Bc t).den I gs=some d):qG P tabs f st Bc gs d:=by
 simp only[aH.den]at E;split at E;rotate_left
 ·cases E
 next q=>
 split at E;rotate_left
 ·cases E
 next aL aa=>
 split at E;rotate_left
 ·cases E
 next ak=>
 cases E;have E:=aa;have ab:gs.length=zh.length:=by
  clear E aa BU;induction zh generalizing gs with
  |nil=>cases gs with|nil=>rfl|cons _ _=>simp[qE]at q
  |cons s sh ih=>cases gs with
   |nil=>cases s<;>simp[qE]at q
   |cons g gs=>cases s<;>simp only[qE,aO]at q<;>simp[ih q.2]
 obtain⟨ns,ds,V,lf,m,h2,⟨aE,h3⟩,h4⟩:=Tree.NM t BU (ED.start I gs _ ab) E;let T:aJ:=Tw tabs I 0 h2
 unfold abM at m;split at m
 ·next l=>
  split at m
  ·next args W=>
   split at m
   ·next e a' J' ac=>
    rw[aO]at m;obtain⟨he,m⟩:=m;split at m
    ·next rs al=>
     rw[aO]at m;obtain⟨aM,m⟩:=m;split at m
     ·next l' am=>
      have an:=ab1 m;subst an;have Oi:∀Q:fQ->bM->aC->Prop,Q e a' J'->@AT T P c {t:=BK (yU st args) 0 .nil,n:=max (yU st args).length fn.ntmps,gn:=P.globals.size} ⟨rU (yj tabs),P.globals.size+1,0⟩ Q:=by
       intro Q hq;have:=@ZF P T (Gm P tabs ⟨ns,ds,0⟩ y) (LH P ⟨ns,ds,0⟩ pl fuel) (adu (T:=T) hm hn (ai T rfl rfl) fuel) (pK pe c) (Au pe c 0).2 (λk b hk a J e1 a1 J1 hs Q' ao=>by
        unfold Gm at hs;split at hs
        ·next z ap=>
         obtain⟨k1,k2⟩:=Ku k z ap;exact abH (T:=T) rfl R k1 (λgs d hI=>k2 b hk gs d hI) hs ao
        ·cases hs) _ _ _ _ _ ac Q hq
       rwa [show(pK pe c).erase=c from(Au pe c 0).1]at this
      have ad:∀i g,gs[i]? =some g->T.val (0+i)=some g:=by
       intro j g hj;show V[0+j]? =some g
       rw[h3,mQ];have:=(gu.1 hj).1;rw[pG this];exact hj
      have aq:∀L w vs,zK tabs L w->aU L gs vs->Calls P f ⟨yV st vs⟩ w λen A=>∃v,en=.returned v/\∃M,Jq L M w A/\∃x,v=Ei x/\aU M d x:=by
       intro L w vs D X;letI:=T
       have Y:BI (⟨rU (yj tabs),P.globals.size+1,0⟩:aC) P.globals.size:=YN (T:=T) R rfl
       have ar:SR P (xM P.globals.size ⟨rU (yj tabs),P.globals.size+1,0⟩ L) ⟨rU (yj tabs),P.globals.size+1,0⟩ w:=
        Nc Y.1 (λid o ho=>by obtain⟨c,rfl,ae,av⟩:=Y.2 id o ho;obtain⟨cs,af,fr,k1,k2,k3⟩:=D.tab _ ae;exact⟨av,c,rfl,⟨cs,af,fr,D.at' _ _ k1,k2,k3⟩⟩) D.at' (λp hp=>D.tab p hp)
       have aw:aG (xM P.globals.size ⟨rU (yj tabs),P.globals.size+1,0⟩ L) (yU st args) (yV st vs):=XR (ZO (T:=T) W q ad X);refine calls_of_wp hf hc ?_;refine Oi (λe2 a2 J2=>e2=e/\a2=a'/\J2=J') ⟨rfl,rfl,rfl⟩ (.shut w) L (xM P.globals.size ⟨rU (yj tabs),P.globals.size+1,0⟩ L) w _ _ (lD.start ar Y.own) rfl (aaD aw) ?_;rintro e2 a2 J2 F1 A' A ⟨rfl,rfl,rfl⟩ hF ax ht
       obtain⟨x,r1,r2⟩:=Ti hF.rel ht (fun|.tmp t=>pure (A'.tmps.getD t undef)|.cell a t=>do loadVar t (<-asAddr (A'.tmps.getD a undef))) (λ_=>rfl) (λ_ _=>rfl) _ _ al;obtain⟨dQ,f1,f2,f3⟩:=Wn hF ax (@E5 ⟨ns,ds,0⟩ P J2 rs);have C:yC T P tabs P.globals.size (P.globals.size+1) F1 J2 A (@E5 ⟨ns,ds,0⟩ P J2 rs) [] [] [] dQ:=⟨hF.rel,rfl,f1,f3,rfl,Ew _⟩
       obtain⟨gl,k1,k2⟩:=aea C am r2;have ay:gl=d:=by have ag:valsOf (λn=>V[n]?) l=some d:=h4;have az:valsOf (λn=>V[n]?) l=some gl:=k1;rw[az]at ag;cases ag;rfl
       subst ay;have N:(results fn A'.tmps).run P A=.ok (if h:(⟨x⟩:QR).size=1 then(⟨x⟩:QR)[0]else .tuple ⟨x⟩) A:=by unfold results;rw[Za];simp only[aZ,Zt];exact uS (λr:Result Q6=>(r.andThen λa A=>Result.ok a.toArray A).andThen λa A=>Sem.run P (pure (if h:a.size=1 then a[0]else Value.tuple a)) A) r1
       have aD:(if h:(⟨x⟩:QR).size=1 then(⟨x⟩:QR)[0]else .tuple ⟨x⟩)=Ei x:=by
        match x with
        |[]=>rfl
        |[u]=>rfl
        |u::u'::x=>rfl
       rw[aD]at N
       have O:A'.defers=[]/\∃v,(results fn A'.tmps).run P A=.ok v A/\∃v',Ending.returned v=.returned v'/\(∃M,Jq L M w A/\∃x,v'=Ei x/\aU M gl x):=
        ⟨ht.none,_,N,_,rfl,⟨dQ,⟨hF.kept.shut,f2.xg,f2.alx,f2.rel.jF⟩,x,rfl,k2⟩⟩
       cases e2 with
       |normal=>exact O
       |ret=>exact O
       |exit id=>simp at he
      refine⟨λL w vs D X=>?_,?_⟩
      ·right;refine⟨?_,Calls.mono' (aq L w vs D X) ?_⟩
       ·have Z:=hn f fn c hf hc;simp only[callFunc,aZ,program,Sem.run,aY,hf];simp only[Z,iZ,if_false,hc,Na,bQ]
       ·rintro en A ⟨v,rfl,h5⟩
        exact⟨v,rfl,h5⟩
      ·exact ak
     ·cases m
    ·cases m
   ·cases m
  ·cases m
 ·cases m
end
end
open Go.RowKit
noncomputable section
variable{P:Program}
section
variable[iI]
end
def aU.plain{ro a:Qf}:∀{l:Q1}{vs:Q6},(∀g∈l,(∃x,g=.s x)\/∃k n,g=.i k n)->aU ro l vs->aU a l vs
 |[],vs,_,h=>h
 |g::l,vs,b,h=>by simp only[aU]at h⊢;obtain⟨x,xs,rfl,h1,c⟩:=h;refine⟨x,xs,rfl,?_,aU.plain (λg d=>b g (by simp[d])) c⟩;rcases b g aA with⟨y,rfl⟩|⟨k,n,rfl⟩<;>exact h1
end
noncomputable section
variable{P:Program}
def iM.args(s:iM):Q3:=s.slots.map (·.2)
def PZ(P:Program)(tabs:QP)(s:iM)(gs:Q1)(w0:Base)(a:Qf)(vs:Q6)(w:World):Prop:=
 ∃F,@lD (Tg tabs gs s.ka) P w0 a F (s.st tabs) w/\@aG (Tg tabs gs s.ka) F s.args vs
def P8(P:Program)(tabs:QP)(f:FuncId)(st:W7)(c:iM)(b:K0)(gs d:Q1):Prop:=
 ∃(t:Nat)(r a:Q1)(e:fQ)(s:iM),d=GV.i .i64 t::r/\b[t]? =some (e,s)/\wO s.al gs r=some a/\a.length=s.np/\
  ∀w0 g w h,PZ P tabs c gs w0 g h w->nG P f ⟨yV st h⟩ w λv j=>∃i,v=Ei i/\PZ P tabs s a w0 g i j
mutual
def AV.ren(U f:Nat->Nat):AV->AV
 |.nd j=>.nd (f j)
 |.rx j off=>.rx (f j) off
 |.sv id j=>.sv (U id) (f j)
 |.p id off=>.p (U id) off
 |.mp id=>.mp (U id)
 |.sl id off len cap=>.sl (U id) off len cap
 |.fn g fi cs=>.fn g (AV.yX U f fi) (AV.yX U f cs)
 |.jL t a=>.jL t (a.ren U f)
 |.agg l=>.agg (AV.yX U f l)
 |.fG l=>.fG (AV.yX U f l)
 |a=>a
def AV.yX(U f:Nat->Nat):Q3->List AV
 |[]=>[]
 |a::l=>a.ren U f::AV.yX U f l
end
mutual
def AV.okS(G:Nat):AV->Bool
 |.sv id _=>Nat.blt G id
 |.sl id _ _ _=>Nat.blt G id
 |.fn _ fi cs=>AV.CP G fi&&AV.CP G cs
 |.jL _ a=>a.okS G
 |.agg l=>AV.CP G l
 |.fG l=>AV.CP G l
 |.nd _|.rx _ _|.p _ _|.mp _|.b _|.i _ _|.s _|.kG|.iq|.AU|.vS|.rQ=>true
 |_=>false
def AV.CP(G:Nat):Q3->Bool
 |[]=>true
 |a::l=>a.okS G&&AV.CP G l
end
def bP.ren(U f:Nat->Nat):bP->bP
 |.cells c et rw opn=>.cells (AV.yX U f c) et rw opn
 |.vec j et b=>.vec (f j) et b
 |.smap j a sz=>.smap (f j) a sz
 |o=>o
def bP.okS(G:Nat):bP->Bool
 |.cells c _ rw _=>AV.CP G c&&rw
 |.vec _ _ _=>true
 |.smap _ _ _=>true
 |_=>false
def ado(U f:Nat->Nat):∀l:Q3,AV.yX U f l=l.map (AV.ren U f)
 |[]=>rfl
 |a::l=>by simp[AV.yX,ado U f l]
structure Qi(S T:aJ)(G:Nat)(U f:Nat->Nat)(F F':Env):Prop where
 val:∀j g,S.val j=some g->T.val (f j)=some g
 pl:∀i q,G<i->F i=some q->F' (U i)=some q
 gl:∀i q,i<=G->F i=some q->∃q',F' (U i)=some q'/\q'.bl=q.bl/\q'.ba=q.ba
 gh:∀i,G<i->F.gh i=true->F'.gh (U i)=true
 ro:∀b o,F.ro b=some o->F'.ro b=some o
section
variable{S T:aJ}{G:Nat}{U f:Nat->Nat}{F F':Env}
mutual
def VR.ren(h:Qi S T G U f F F'):∀(a:AV)(v:Value),a.okS G=true->@VR S F a v->@VR T F' (a.ren U f) v
 |.b _,_,_,b=>by simpa only[VR,AV.ren]using b
 |.i _ _,_,_,b=>by simpa only[VR,AV.ren]using b
 |.s _,_,_,b=>by simpa only[VR,AV.ren]using b
 |.kG,_,_,b=>by simpa only[VR,AV.ren]using b
 |.p i off,v,_,b=>by
  simp only[VR,AV.ren]at b⊢;obtain⟨q,m,rfl⟩:=b;by_cases hi:i<=G
  ·obtain⟨p,d,k,n⟩:=h.gl i q hi m;exact⟨p,d,by rw[k,n]⟩
  ·exact⟨q,h.pl i q ah m,rfl⟩
 |.iq,_,_,b=>by simpa only[VR,AV.ren]using b
 |.sl i off len z,v,c,b=>by simp only[AV.okS,jX]at c;simp only[VR,AV.ren]at b⊢;obtain⟨q,m,d,rfl⟩:=b;exact⟨q,h.pl i q c m,d,rfl⟩
 |.rQ,_,_,b=>by simpa only[VR,AV.ren]using b
 |.mp i,v,_,b=>by
  simp only[VR,AV.ren]at b⊢;obtain⟨q,m,rfl⟩:=b;by_cases hi:i<=G
  ·obtain⟨p,d,k,n⟩:=h.gl i q hi m;exact⟨p,d,by rw[k]⟩
  ·exact⟨q,h.pl i q ah m,rfl⟩
 |.AU,_,_,b=>by simpa only[VR,AV.ren]using b
 |.fn _ A s,_,c,b=>by simp only[AV.okS,aO]at c;simp only[VR,AV.ren]at b⊢;obtain⟨t,u,e,d,k⟩:=b;exact⟨t,u,e,aG.ren h A t c.1 d,aG.ren h s u c.2 k⟩
 |.vS,_,_,b=>by simpa only[VR,AV.ren]using b
 |.jL _ a,_,c,b=>by simp only[AV.okS]at c;simp only[VR,AV.ren]at b⊢;obtain⟨x,e,d⟩:=b;exact⟨x,e,VR.ren h a x c d⟩
 |.agg l,_,c,b=>by simp only[AV.okS]at c;simp only[VR,AV.ren]at b⊢;obtain⟨x,e,d⟩:=b;exact⟨x,e,aG.ren h l x c d⟩
 |.fG l,_,c,b=>by simp only[AV.okS]at c;simp only[VR,AV.ren]at b⊢;obtain⟨x,e,d⟩:=b;exact⟨x,e,aG.ren h l x c d⟩
 |.z _ _ _,_,c,_=>by simp[AV.okS]at c
 |.ro _,_,c,_=>by simp[AV.okS]at c
 |.rp _ _,_,c,_=>by simp[AV.okS]at c
 |.nd _,_,_,b=>by simp only[VR,AV.ren]at b⊢;obtain⟨g,d,k,n⟩:=b;exact⟨g,h.val _ _ d,k,GR.mono h.ro _ _ n⟩
 |.rx _ _,_,_,b=>by simp only[VR,AV.ren]at b⊢;obtain⟨g,D,base,s,o,E,x,d,k,n,I⟩:=b;exact⟨g,D,base,s,o,E,x,h.val _ _ d,h.ro _ _ k,GR.mono h.ro _ _ n,I⟩
 |.sv i j,_,c,b=>by
  simp only[AV.okS,jX]at c;simp only[VR,AV.ren]at b⊢;obtain⟨y,d,⟨q,m,k⟩|⟨L,k⟩⟩:=b
  ·exact⟨y,h.val _ _ d,.inl ⟨q,h.pl i q c m,k⟩⟩
  ·exact⟨y,h.val _ _ d,.inr ⟨h.gh i c L,k⟩⟩
 |.pv _ _ _,_,c,_=>by simp[AV.okS]at c
 |.pd _ _,_,c,_=>by simp[AV.okS]at c
def aG.ren(h:Qi S T G U f F F'):∀(l:Q3)(vs:Q6),AV.CP G l=true->@aG S F l vs->@aG T F' (AV.yX U f l) vs
 |[],_,_,b=>by simpa only[aG,AV.yX]using b
 |a::l,_,c,b=>by simp only[AV.CP,aO]at c;simp only[aG,AV.yX]at b⊢;obtain⟨x,xs,e,h1,d⟩:=b;exact⟨x,xs,e,VR.ren h a x c.1 h1,aG.ren h l xs c.2 d⟩
end
def OR.ren(h:Qi S T G U f F F'){q:Place}{w:World}{o:bP}(i:o.okS G=true)(r:@OR S P F q w o):@OR T P F' q w (o.ren U f):=by
 cases o with
 |cells c v W y=>
  simp only[bP.okS,aO]at i;obtain⟨n,d,p,X,⟨r1,r2,r3,Q,z,A,D⟩⟩:=r;have R:(AV.yX U f c).length=c.length:=by rw[ado];simp
  have E:∀a∈c,a.okS G=true:=by
   have:∀l:Q3,AV.CP G l=true->∀a∈l,a.okS G=true:=by
    intro l;induction l with
    |nil=>intro _ a t;simp at t
    |cons b l Y=>
     intro h a t;simp only[AV.CP,aO]at h;rcases bI.1 t with rfl|t
     ·exact h.1
     ·exact Y h.2 a t
   exact this c i.1
  refine⟨n,d,p,X,@vC.mk T P F' q _ v W y n d p r1 (by rw[R];exact r2) (λe=>by rw[R];exact r3 e) (λk a u=>?_) z A D⟩;rw[ado,jy]at u;obtain⟨I,V,rfl⟩:=bJ.1 u;obtain⟨x,Z,hv⟩:=Q k I V;exact⟨x,Z,VR.ren h I x (E I (tN V)) hv⟩
 |iter s pos=>simp[bP.okS]at i
 |map es=>simp[bP.okS]at i
 |pmap es=>simp[bP.okS]at i
 |iterM m=>simp[bP.okS]at i
 |smap j kk sz=>obtain⟨L,ms,g,M,N,O⟩:=r;exact⟨L,ms,g,h.val _ _ M,N,O.mono h.ro⟩
 |vec j v b=>obtain⟨L,n,d,p,ys,M,N,O,k4,k5,k6,⟨r1,r2,r3,Q,z,A,D⟩,k8⟩:=r;exact⟨L,n,d,p,ys,h.val _ _ M,N,aU.mono h.ro _ _ O,k4,k5,k6,@vC.mk T P F' q [] v true true n d p r1 r2 r3 (λk a u=>by simp at u) z A D,k8⟩
def Live.ren(h:Qi S T G U f F F'){w:World}{i:Nat}{o:bP}(hi:G<i)(a:o.okS G=true)(r:@Live S P F w i o):@Live T P F' w (U i) (o.ren U f):=by
 rcases r with⟨q,c,d⟩|⟨e,n,g,b,rfl,j⟩
 ·exact .inl ⟨q,h.pl i q hi c,OR.ren h a d⟩
 ·exact .inr ⟨h.gh i hi e,f n,g,b,rfl,h.val _ _ j⟩
end
def bP.acg{G:Nat}{o:bP}(h:o.okS G=true):o.own=true:=by
 cases o<;>simp only[bP.okS,aO,iZ]at h<;>simp[bP.own]
 exact h.2
def rhoC(G ka next:Nat)(r:W8)(i:Nat):Nat:=if i<=G then i else if i<=G+ka then(match dV i r with|some (some id)=>id|_=>0)else next+(i-(G+ka+1))
def O5(U f:Nat->Nat):YY->Tr bP->Tr bP
 |[],h=>h
 |p::l,h=>(O5 U f l h).set (U p.1) (some (p.2.ren U f))
def rH:W8->List Nat
 |[]=>[]
 |p::l=>match p.2 with
  |some id=>id::rH l
  |none=>rH l
def VO{α:Type}:List (Nat×α)->Bool
 |[]=>true
 |p::l=>(match dV p.1 l with|none=>true|some _=>false)&&VO l
def EG(r:W8)(J:aC):Nat->Nat->Bool
 |_,0=>true
 |i,n+1=>(match dV (i+1) r with
  |some (some id)=>(match J.get id with|some (.cells _ _ _ _)=>true|_=>false)
  |_=>false)&&EG r J (i+1) n
def ac6(s:iM):Bool:=Nat.blt (s.gn+s.ka) s.next&&AV.CP s.gn s.args&&VO s.objs&&s.objs.all λp=>Nat.blt s.gn p.1&&Nat.blt p.1 s.next&&p.2.okS s.gn
section
variable[iI]
def aul(P:Program)(s:iM)(l:Q3)(J:aC):US:=YT P s.gn J s.objs (IZ P s.gn J s.args l ⟨[],[],[]⟩)
def aum(P:Program)(s:iM)(l:Q3)(J:aC):US:=YT P s.gn J s.objs (IZ P s.gn J s.args l ⟨ZJ s.gn s.ka,[],[]⟩)
def Xq(P:Program)(s:iM)(l:Q3)(J:aC)(fz:Q2)(r:W8)(ps:Q2):Bool:=
 Nat.beq s.gn P.globals.size&&Nat.blt (s.gn+s.ka) s.next&&LC r&&DT P s.gn J fz r ps s.args l&&OB P s.gn s.next J fz r ps s.objs
def acr(P:Program)(st:W7)(a:aN):fO:=λc J=>match Eh st c with
 |none=>none
 |some args=>match aul P a.pre args J with
  |⟨r,p,fz⟩=>match ac9 p 0 a.pre.np with
   |none=>none
   |some ps=>
    if Xq P a.pre args J fz r ps&&(fz.all (Nat.ble J.lock ·)&&((rH r).all (λid=>Nat.ble J.lock id&&!(fz.contains id))&&EG r J a.pre.gn a.pre.ka))then
     match gI (.call a.key ps 0)with
     |some tag=>match Lr tag a.posts 0 with
      |some (_,s)=>if ac6 s&&(Nat.beq s.ka a.pre.ka&&Nat.beq s.gn a.pre.gn)then match DZ a.key ps s.al 1 s.np with
       |some b=>some (LX (AV.yX (rhoC s.gn s.ka J.next r) (λj=>b.getD j 0) s.args),⟨O5 (rhoC s.gn s.ka J.next r) (λj=>b.getD j 0) s.objs (kills (kills J fz) (rH r)).h,J.next+(s.next-(s.gn+s.ka+1)),J.lock⟩)
       |none=>none
       else none
      |none=>none
     |none=>none
    else none
end
def ag3{α:Type}:∀{l:List (Nat×α)},VO l=true->∀{k:Nat}{v:α},(k,v)∈l->dV k l=some v
 |[],_,k,v,h=>by simp at h
 |p::l,a,k,v,h=>by
  simp only[VO,aO]at a;rcases bI.1 h with e|h
  ·subst e;simp[dV]
  ·have h1:=ag3 a.2 h;simp only[dV];cases c:Nat.beq k p.1 with
   |true=>have e:=bV c;have b:=a.1;rw[<-e,h1]at b;cases b
   |false=>exact h1
def ahO{α:Type}:∀{l m:List (Nat×α)}{k:Nat}{v:α},dV k l=some v->dV k (l++m)=some v
 |[],m,k,v,h=>by simp[dV]at h
 |p::l,m,k,v,h=>by
  simp only[bD,dV]at h⊢;cases a:Nat.beq k p.1 with
  |true=>rw[a]at h;exact h
  |false=>rw[a]at h;exact ahO h
def ala{U f:Nat->Nat}:∀{l:YY}{h:Tr bP}{k:Nat}{o:bP},(O5 U f l h).get k=some o->(∃i o0,(i,o0)∈l/\U i=k/\o=o0.ren U f)\/(h.get k=some o/\∀p∈l,U p.1≠k)
 |[],h,k,o,a=>.inr ⟨a,λp b=>by simp at b⟩
 |q::l,h,k,o,a=>by
  simp only[O5,Tr.yO]at a;split at a
  ·next e=>cases a;exact .inl ⟨q.1,q.2,aA,e.symm,rfl⟩
  ·next e=>
   rcases ala a with⟨i,o0,h1,c,d⟩|⟨h1,c⟩
   ·exact .inl ⟨i,o0,zC _ h1,c,d⟩
   ·refine .inr ⟨h1,λp b=>?_⟩;rcases bI.1 b with rfl|b
    ·exact λg=>e g.symm
    ·exact c p b
def aiD{r:W8}:∀{i id:Nat},dV i r=some (some id)->id∈rH r:=by
 induction r with
 |nil=>intro i id h;simp[dV]at h
 |cons p l b=>
  intro i id h;simp only[dV]at h;cases a:Nat.beq i p.1 with
  |true=>rw[a]at h;simp only[cond_true,bF]at h;simp only[rH,h];simp
  |false=>
   rw[a]at h;have:=b h;simp only[rH];split
   ·exact zC _ this
   ·exact this
def ZK{r:W8}{J:aC}:∀{n i:Nat},EG r J i n=true->∀j,i<j->j<=i+n->∃id c et rw opn,dV j r=some (some id)/\J.get id=some (.cells c et rw opn)
 |0,i,_,j,h1,d=>ah
 |n+1,i,h,j,h1,d=>by
  simp only[EG,aO]at h;by_cases e:j=i+1
  ·subst e;have a:=h.1;split at a
   ·next id b=>
    split at a
    ·next c et rw opn g=>exact⟨id,c,et,rw,opn,b,g⟩
    ·cases a
   ·cases a
  ·exact ZK h.2 j ah ah
def St.ayD{T:aJ}{tabs:QP}(wU:T.tabs=tabs){G ka:Nat}(hG:G=P.globals.size){F v:Env}{J:aC}{w w':World}(h:@SR T P F J w){r:W8}(ad:LC r=true)(aa:∀id∈rH r,J.lock<=id)(ak:EG r J G ka=true)
 {s:iM} (hs:ac6 s=true) (al:s.ka=ka) (am:s.gn=G) {gs:Q1} {f:Nat->Nat} (hf:∀j g,gs[j]? =some g->T.val (f j)=some g)
 (hF:@lD (Tg tabs gs s.ka) P ⟨w,λb=>∃id o q,id∈rH r/\J.get id=some o/\o.own=true/\F id=some q/\q.bl=b,λi=>if G<i/\i<=G+ka then(match dV i r with|some (some id)=>F id|_=>none)else none⟩ F.ro v (s.st tabs) w')
 {vs:Q6} (hv:@aG (Tg tabs gs s.ka) v s.args vs):
 ∃F',@St T P F J w F' ⟨O5 (rhoC s.gn s.ka J.next r) f s.objs (kills J (rH r)).h,J.next+(s.next-(s.gn+s.ka+1)),J.lock⟩ w'/\@aG T F' (AV.yX (rhoC s.gn s.ka J.next r) f s.args) vs:=by
 obtain⟨⟨an,ae,ao,ab,ap,aq,ar,av⟩,PD,aw,ax,af,ay⟩:=hF;letI:=T
 subst al;subst am;unfold ac6 at hs;simp only[aO,jX]at hs;obtain⟨⟨⟨p1,p2⟩,p3⟩,p4⟩:=hs;have Ll:∀i o,(i,o)∈s.objs->s.gn<i/\i<s.next/\o.okS s.gn=true:=by intro i o I;have:=List.all_eq_true.1 p4 _ I;simp only[aO,jX]at this;exact⟨this.1.1,this.1.2,this.2⟩
 have TK:∀i o,(i,o)∈s.objs->(s.st tabs).get i=some o:=by
  intro i o I;show(rU (s.objs++yj tabs)).get i=some o
  rw[Ld];exact ahO (ag3 p3 I)
 let B:Nat:=s.gn+s.ka+1
 let F':Env:=⟨λid=>if id<J.next then F id else v (id-J.next+B),v.ro,λid=>if id<J.next then F.gh id else v.gh (id-J.next+B)⟩
 have az:∀b o,F.ro b=some o->v.ro b=some o:=ax;have z:F.le F':=by
  refine⟨λid q a=>?_,az,λid m=>?_⟩
  ·show(if id<J.next then F id else _)=some q
   rw[au (h.dom id q a)];exact a
  ·show(if id<J.next then F.gh id else _)=true
   rw[au (h.kZ id m).2];exact m
 have uN:∀i,s.gn<i->i<=s.gn+s.ka->∃id q,dV i r=some (some id)/\F id=some q/\v i=some q/\id<J.next/\(∃o,J.get id=some o):=by intro i d t;obtain⟨id,c,et,xk,bh,D,g2⟩:=ZK ak i d t;obtain⟨q,a,_⟩:=h.obj _ _ g2 rfl;have:=(ay i q (by show(if s.gn<i/\i<=s.gn+s.ka then _ else _)=_;rw[au ⟨d,t⟩,D];exact a)).1;exact⟨id,q,D,a,this,h.dom id q a,_,g2⟩
 have O9:∀i id,s.gn<i->i<=s.gn+s.ka->dV i r=some (some id)->rhoC s.gn s.ka J.next r i=id:=by intro i id d t h3;unfold rhoC;rw[aj ah,au t,h3]
 have LD:∀i,s.gn+s.ka<i->rhoC s.gn s.ka J.next r i=J.next+(i-B):=by intro i d;unfold rhoC;rw[aj ah,aj ah]
 have Ls:∀i,s.gn+s.ka<i->F' (J.next+(i-B))=v i/\F'.gh (J.next+(i-B))=v.gh i:=by
  intro i d;have e:J.next+(i-B)-J.next+B=i:=by show J.next+(i-(s.gn+s.ka+1))-J.next+(s.gn+s.ka+1)=i;omega
  constructor
  ·show(if J.next+(i-B)<J.next then _ else v (J.next+(i-B)-J.next+B))=_
   rw[aj ah,e]
  ·show(if J.next+(i-B)<J.next then _ else v.gh (J.next+(i-B)-J.next+B))=_
   rw[aj ah,e]
 have ag:Qi (Tg tabs gs s.ka) T s.gn (rhoC s.gn s.ka J.next r) f v F':=by
  refine⟨hf,λi q hi a=>?_,λi q hi a=>?_,λi hi m=>?_,λ_ _ h=>h⟩
  ·by_cases V:i<=s.gn+s.ka
   ·obtain⟨id,O,D,g2,g3,g4,_⟩:=uN i hi V;rw[O9 i id hi V D];rw[a]at g3;cases g3;exact z.pl _ _ g2
   ·rw[LD i ah,(Ls i ah).1];exact a
  ·obtain⟨sz,es,e1⟩:=an i ah;rw[a]at e1;cases e1;obtain⟨aD,aE,e2⟩:=h.oO i ah;refine⟨⟨i,0,aD,aE⟩,?_,rfl,rfl⟩;show F' (rhoC s.gn s.ka J.next r i)=_
   unfold rhoC;rw[au hi];exact z.pl _ _ e2
  ·by_cases V:i<=s.gn+s.ka
   ·obtain⟨id,O,D,g2,g3,_⟩:=uN i hi V;rw[(ab i m).1]at g3;cases g3
   ·rw[LD i ah,(Ls i ah).2];exact m
 have aL:∀id o,(kills J (rH r)).get id=some o->id∉rH r/\J.get id=some o:=by
  intro id o m;rw[Fq]at m;split at m
  ·cases m
  ·next I=>exact⟨I,m⟩
 have XC:∀id o q,id∉rH r->J.get id=some o->F id=some q->∀fA o0 X,fA∈rH r->J.get fA=some o0->o0.own=true->F fA=some X->X.bl≠q.bl:=by intro id o q I m a fA o0 X aM aR a0 a7;exact h.sep fA o0 id o X q aR a0 m (λe=>I (e▸aM)) a7 a
 have a8:∀id o q,id∉rH r->J.get id=some o->F id=some q->q.bl<w.heap.size->w'.heap[q.bl]? =w.heap[q.bl]?:=by
  intro id o q I m a E;refine PD.keep q.bl E ?_;rintro⟨fA,o0,X,A,M,Q,R,a5⟩
  exact XC id o q I m a fA o0 X A M Q R a5
 have obj:∀k o,(O5 (rhoC s.gn s.ka J.next r) f s.objs (kills J (rH r)).h).get k=some o->(∃i o0,(i,o0)∈s.objs/\rhoC s.gn s.ka J.next r i=k/\o=o0.ren (rhoC s.gn s.ka J.next r) f)\/(k∉rH r/\J.get k=some o/\∀p∈s.objs,rhoC s.gn s.ka J.next r p.1≠k):=by
  intro k o V;rcases ala V with d|⟨d,t⟩
  ·exact .inl d
  ·obtain⟨h3,h4⟩:=aL k o d;exact .inr ⟨h3,h4,t⟩
 have OX:∀k o q,J.get k=some o->F' k=some q->F k=some q:=by intro k o q m a;have E:k<J.next:=h.hasLt (h.Rk m);have u:(if k<J.next then F k else _)=some q:=a;rw[au E]at u;exact u
 have l:∀i o q,(i,o)∈s.objs->F' (rhoC s.gn s.ka J.next r i)=some q->v i=some q:=by
  intro i o q I a;obtain⟨D,g2,g3⟩:=Ll i o I;by_cases V:i<=s.gn+s.ka
  ·obtain⟨id,O,A,M,Q,R,_⟩:=uN i D V;rw[O9 i id D V A]at a;have:=z.pl _ _ M;rw[a]at this;cases this;exact Q
  ·rw[LD i ah,(Ls i ah).1]at a;exact a
 have bi:∀i j oi oj,(i,oi)∈s.objs->(j,oj)∈s.objs->rhoC s.gn s.ka J.next r i=rhoC s.gn s.ka J.next r j->i=j:=by
  intro i j oi oj hi hj e;obtain⟨D,g2,_⟩:=Ll i oi hi;obtain⟨W,k2,_⟩:=Ll j oj hj;by_cases n:i<=s.gn+s.ka<;>by_cases L:j<=s.gn+s.ka
  ·obtain⟨id,_,A,_,_,_,_⟩:=uN i D n;obtain⟨a9,_,N,_,_,_,_⟩:=uN j W L;rw[O9 i id D n A,O9 j a9 W L N]at e;subst e;exact adi ad i j id A N
  ·obtain⟨id,_,A,_,_,R,_⟩:=uN i D n;rw[O9 i id D n A,LD j ah]at e;omega
  ·obtain⟨id,_,A,_,_,R,_⟩:=uN j W L;rw[O9 j id W L A,LD i ah]at e;omega
  ·rw[LD i ah,LD j ah]at e;have hB:B=s.gn+s.ka+1:=rfl;omega
 have ac:∀i o q,(i,o)∈s.objs->v i=some q->w.heap.size<=q.bl\/∃id o0 X,id∈rH r/\J.get id=some o0/\o0.own=true/\F id=some X/\X.bl=q.bl:=by intro i o q I a;exact aw i o q (TK i o I) (bP.acg (Ll i o I).2.2) a
 have E:∀k o q,J.get k=some o->F k=some q->q.bl<w.heap.size:=λk o q m a=>(h.at m a).lt;refine⟨F',⟨z,⟨?_,?_,?_,?_,?_,aq,?_,?_⟩,PD.size,?_,?_,PD.os,PD.tape,PD.output,rfl,Nat.le_add_right _ _,?_,?_⟩,aG.ren ag _ _ p2 hv⟩
 ·intro g m;obtain⟨sz,es,e⟩:=h.oO g m;exact⟨sz,es,z.pl _ _ e⟩
 ·intro id q a;show id<J.next+(s.next-(s.gn+s.ka+1))
  by_cases Y:id<J.next
  ·omega
  ·have u:(if id<J.next then F id else v (id-J.next+B))=some q:=a;rw[aj Y]at u;have:=ae _ _ u;have:id-J.next+(s.gn+s.ka+1)<s.next:=this;omega
 ·intro k o V;rcases obj k o V with⟨i,o0,d,rfl,rfl⟩|⟨d,t,_⟩
  ·obtain⟨D,g2,g3⟩:=Ll i o0 d;exact Live.ren ag D g3 (ao i o0 (TK i o0 d))
  ·refine((h.live k o t).heap λq a ba=>?_).mono z
   exact a8 k o q d t a ba.lt
 ·intro id m;have y:(if id<J.next then F.gh id else v.gh (id-J.next+B))=true:=m;show(if id<J.next then F id else v (id-J.next+B))=none/\id<J.next+(s.next-(s.gn+s.ka+1))
  by_cases Y:id<J.next
  ·rw[au Y]at y⊢;exact⟨(h.kZ id y).1,ah⟩
  ·rw[aj Y]at y⊢;obtain⟨A,M⟩:=ab _ y;have bj:id-J.next+(s.gn+s.ka+1)<s.next:=M;exact⟨A,ah⟩
 ·intro k o k' o' q O A M Q R a5 a6;rcases obj k o A with⟨i,o0,d,rfl,rfl⟩|⟨d,t,_⟩<;>rcases obj k' o' Q with⟨j,Sz,W,rfl,rfl⟩|⟨W,k2,_⟩
  ·have N:=l i o0 q d a5;have b2:=l j Sz O W a6;exact ap i o0 j Sz q O (TK i o0 d) (bP.acg (Ll i o0 d).2.2) (TK j Sz W) (λe=>R (by rw[e])) N b2
  ·have N:=l i o0 q d a5;have b2:=OX k' o' O k2 a6;rcases ac i o0 q d N with n|⟨id,o1,Z,n,L,c3,c4,c5⟩
   ·have:=E k' o' O k2 b2;omega
   ·rw[<-c5];exact XC k' o' O W k2 b2 id o1 Z n L c3 c4
  ·have N:=OX k o q t a5;have b2:=l j Sz O W a6;rcases ac j Sz O W b2 with n|⟨id,o1,Z,n,L,c3,c4,c5⟩
   ·have:=E k o q t N;omega
   ·rw[<-c5];exact λe=>XC k o q d t N id o1 Z n L c3 c4 e.symm
  ·exact h.sep k o k' o' q O t M k2 R (OX k o q t a5) (OX k' o' O k2 a6)
 ·intro k o q A M Q;rcases obj k o A with⟨i,o0,d,rfl,rfl⟩|⟨d,t,_⟩
  ·exact ar i o0 q (TK i o0 d) (bP.acg (Ll i o0 d).2.2) (l i o0 q d Q)
  ·have N:=OX k o q t Q;show v.ro q.bl=none
   cases bb:v.ro q.bl with
   |none=>rfl
   |some x=>
    rcases af q.bl (by rw[bb];simp)with n|n|⟨id,o1,Z,n,L,c3,c4,c5⟩
    ·exact absurd (h.ng k o q t M N) n
    ·have:=E k o q t N;have bk:w.heap.size<=q.bl:=n;omega
    ·exact absurd c5 (XC k o q d t N id o1 Z n L c3 c4)
 ·intro p hp;have bc:p∈tabs:=by rw[<-wU];exact hp
  obtain⟨cs,ai,fr,e1,e2⟩:=av p bc;exact⟨cs,ai,fr,e1,e2⟩
 ·intro bl bd be;refine PD.keep bl bd ?_;rintro⟨id,o,q,A,M,Q,R,a5⟩
  exact be id o q M Q (aa id A) R a5
 ·intro k o q A M Q R;rcases obj k o A with⟨i,o0,d,rfl,rfl⟩|⟨d,t,_⟩
  ·rcases ac i o0 q d (l i o0 q d R)with n|⟨id,o1,Z,n,L,c3,c4,c5⟩
   ·exact .inl n
   ·exact .inr ⟨id,o1,Z,L,c3,aa id n,c4,c5⟩
  ·exact .inr ⟨k,o,q,t,M,Q,OX k o q t R,rfl⟩
 ·intro id hh;by_cases Y:id<J.next
  ·left;rcases hh with⟨q,a⟩|m
   ·have u:(if id<J.next then F id else _)=some q:=a;rw[au Y]at u;exact .inl ⟨q,u⟩
   ·have y:(if id<J.next then F.gh id else _)=true:=m;rw[au Y]at y;exact .inr y
  ·right;refine⟨ah,?_⟩;show id<J.next+(s.next-(s.gn+s.ka+1))
   rcases hh with⟨q,a⟩|m
   ·have u:(if id<J.next then F id else v (id-J.next+B))=some q:=a;rw[aj Y]at u;have:id-J.next+(s.gn+s.ka+1)<s.next:=ae _ _ u;omega
   ·have y:(if id<J.next then F.gh id else v.gh (id-J.next+B))=true:=m;rw[aj Y]at y;have:id-J.next+(s.gn+s.ka+1)<s.next:=(ab _ y).2;omega
 ·intro b hb;rcases af b hb with n|n|⟨id,o1,Z,n,L,c3,c4,c5⟩
  ·exact .inl n
  ·exact .inr (.inl n)
  ·exact .inr (.inr ⟨id,o1,Z,L,c3,aa id n,c4,c5⟩)
def ayV{T:aJ}(N:xG T.tabs P.globals.size){f:FuncId}{st:W7}{d:aN}(E:d.pre.ok=true)(hC:∀gs A,T.I d.key gs=some A->P8 P T.tabs f st d.pre d.posts gs A):@fJ T P f (@acr T.toiI P st d):=by
 letI:=T
 intro Qq J rr J' m F w az hS ae;unfold acr at m;split at m
 ·cases m
 next args af=>
 obtain⟨vs,rfl,hv⟩:=YQ af ae;split at m;next r p fz ay=>
 split at m
 ·cases m
 next ps aD=>
 split at m;rotate_left
 ·cases m
 next z=>
 split at m;rotate_left
 ·cases m
 next tag O=>
 split at m;rotate_left
 ·cases m
 next e s I=>
 split at m;rotate_left
 ·cases m
 next x=>
 split at m;rotate_left
 ·cases m
 next ns ag=>
 cases m;rw[aO,aO,aO]at z;obtain⟨z,ai,Q,R⟩:=z;unfold Xq at z;simp only[aO,jX]at z;obtain⟨⟨⟨⟨V,m2⟩,m3⟩,m4⟩,m5⟩:=z;have V:=bV V;rw[aO,aO]at x;obtain⟨q1,q2,q3⟩:=x;have q2:=bV q2;have q3:=bV q3;unfold iM.ok at E;rw[aO,aO]at E;obtain⟨⟨_,L⟩,Kq⟩:=E;have L:AV.rX d.pre.next d.pre.args=true:=by
  have:∀l:Wo,G6 d.pre.next l=true->AV.rX d.pre.next (l.map (·.2))=true:=by
   intro l;induction l with
   |nil=>intro _;rfl
   |cons a l ih=>intro h;simp only[G6,aO]at h;simp only[iU,AV.rX,aO];exact⟨h.1,ih h.2⟩
  exact this _ L
 have ak:∀id∈fz,J.lock<=id:=λid u=>wB (List.all_eq_true.1 ai id u);have W:∀id∈rH r,J.lock<=id:=λid u=>by have:=List.all_eq_true.1 Q id u;rw[aO]at this;exact wB this.1
 have al:∀id∈rH r,id∉fz:=λid u z=>by have:=List.all_eq_true.1 Q id u;rw[aO,aeK.2 z]at this;simp at this
 obtain⟨dQ,f1,f2,f3⟩:=aaT hS fz ak;obtain⟨gt,t1,M⟩:=iG O;simp only[Nd.den]at M;split at M;rotate_left
 ·cases M
 next gs X=>
 split at M;rotate_left
 ·cases M
 next A hI=>
 obtain⟨t,r0,Y,e2,s2,rfl,am,an,aE,Z⟩:=hC gs A hI;simp only[l9,bF]at M;subst M;have ao:=acC t1 d.posts 0 I (vG _) (e2,s2) (by simpa using am);cases ao;obtain⟨n1,n2⟩:=SG X hI _ 1 s.al (r:=r0) (λk=>by rw[MV,xw]) an ag;have aa:∀j g,Y[j]? =some g->T.val (ns.getD j 0)=some g:=by
  intro j g hj;have ap:j<ns.length:=by have:=(gu.1 hj).1;omega
  have z:ns[j]? =some (ns.getD j 0):=by rw[Ak,bZ ap];rfl
  rw[n2 j _ z];exact hj
 have C:yC T P T.tabs d.pre.gn d.pre.next F J w fz r ps gs dQ:=⟨hS,X,f1,f3,V,ah⟩
 obtain⟨hR,ab⟩:=abV (ka:=d.pre.ka) rfl N Kq ah V C f2.rel.jF (λid o q b2 b3 b4 b5=>f2.rel.ng id o q (by rw[Fq,aj b2];exact b3) b4 b5) m3 m5;let J1:aC:=kills J fz
 let F1:Env:=⟨F.pl,dQ,F.gh⟩
 let w0:Base:=⟨w,λb=>∃id o q,id∈rH r/\J1.get id=some o/\o.own=true/\F1 id=some q/\q.bl=b,λi=>if d.pre.gn<i/\i<=d.pre.gn+d.pre.ka then(match dV i r with|some (some id)=>F1 id|_=>none)else none⟩
 have hF:@lD (Tg T.tabs gs d.pre.ka) P w0 dQ (vO T.tabs d.pre.gn d.pre.next r F dQ) (d.pre.st T.tabs) w:=by
  refine @lD.mk (Tg T.tabs gs d.pre.ka) P w0 dQ _ _ w hR ⟨rfl,rfl,rfl,dP _,λ_ _ _=>rfl⟩ ?_ (λ_ _ h=>h) (λ_ h=>.inl h) ?_
  ·intro i o q a1 a2 a3;obtain⟨id,o',b1,b2,b3,b4,b5⟩:=ab i o q a1 a2 a3;exact .inr ⟨id,o',q,aiD b1,by show(kills J fz).get id=_;rw[Fq,aj b2];exact b3,b4,b5,rfl⟩
  ·intro i q hi;have y:(if d.pre.gn<i/\i<=d.pre.gn+d.pre.ka then(match dV i r with|some (some id)=>F1 id|_=>none)else none)=some q:=hi;split at y
   ·next hr=>
    split at y
    ·next id u=>
     refine⟨?_,ah,by show i<=P.globals.size+d.pre.ka;omega⟩;rw[Ir hr.1 ah u];exact y
    ·cases y
   ·cases y
 have aq:=Iu (ka:=d.pre.ka) C _ _ _ L m4 hv;refine nG.mono (Z w0 dQ w vs ⟨_,hF,aq⟩) ?_;rintro v w' ⟨us,rfl,F2,ar,av⟩
 have aw:EG r J1 d.pre.gn d.pre.ka=true:=by
  have:∀n i,(∀j,i<j->j<=i+n->∃id,dV j r=some (some id)/\id∉fz)->EG r J i n=true->EG r J1 i n=true:=by
   intro n;induction n with
   |zero=>intro i _ _;rfl
   |succ n ih=>
    intro i ac h;simp only[EG,aO]at h⊢;obtain⟨id,h1,h2⟩:=ac (i+1) ah ah;refine⟨?_,ih (i+1) (λj a b=>ac j ah ah) h.2⟩;have h3:=h.1;rw[h1]at h3⊢;simp only at h3⊢;show(match(kills J fz).get id with|some (.cells _ _ _ _)=>true|_=>false)=true
    rw[Fq,aj h2];exact h3
  refine this _ _ (λj a b=>?_) R;obtain⟨id,c,et,xk,aL,g1,g2⟩:=ZK R j a b;exact⟨id,g1,al id (aiD g1)⟩
 obtain⟨F',ax,ad⟩:=St.ayD (T:=T) (tabs:=T.tabs) (G:=d.pre.gn) (ka:=d.pre.ka) rfl V f2.rel m3 (by rw[Ox];exact W) aw q1 q2 q3 aa ar av;have D:=f2.trans ax;rw[abD,Ox]at D;rw[abD]at ad;exact⟨F',D,amL ad⟩
def abN(P:Program)(tabs:QP)(pl:nJ)(b:Wz)(fuel:Nat)(st:W7)(a:aN)(c:Nat)(h:List ResultVar)(o:AC)(d:List Nd)(g:Wk)(p:Leaf):Bool:=
 match p with
 |.ret (q::l)=>match @yI ⟨d,g,a.pre.ka⟩ (Gm P tabs ⟨d,g,a.pre.ka⟩ b) (LH P ⟨d,g,a.pre.ka⟩ pl fuel) o {t:=BK (yU st (AV.sU (λj=>j) a.pre.args)) 0 .nil,n:=max (yU st (AV.sU (λj=>j) a.pre.args)).length c,gn:=P.globals.size} (a.pre.Gl tabs λj=>j)with
  |some (e,u,i)=>(match e with|.exit _=>false|_=>true)&&match Dk P i u h with
   |some k=>match d[q]? with
    |some (.ci .i64 t)=>match a.posts[t.toNat]? with
     |some (_,s)=>decide (0<=t)&&(s.ok&&(Nat.beq s.ka a.pre.ka&&(match EU a.pre.np s.al l with
      |some m=>Nat.beq m.length s.np&&(match @aum ⟨d,g,a.pre.ka⟩ P s k i with
       |⟨r,_,fz⟩=>Qo r s.gn s.ka&&@Xq ⟨d,g,a.pre.ka⟩ P s k i fz r m)
      |none=>false)))
     |none=>false
    |_=>false
   |none=>false
  |none=>false
 |_=>false
def P8.SB{tabs:QP}(O:xG tabs P.globals.size)(hm:P.follows .mixedOrders=true)(hn:yD P){pl:nJ}{I:ji}(ac:Am P tabs I pl){z:Wz}{fuel:Nat}{f:FuncId}{fn:Func}{c:Code}{Z:Q2}{st:W7}{E:aN}{n:Nat}(ad:n=E.pre.np){t:Tree}
 (hf:P.funcs[f]? =some fn) (hc:fn.body=some c)
 (Ku:∀k A,dV k z=some A->A.pre.ok=true/\∀b,(pK Z c).qY k b->∀gs x,I A.key gs=some x->xB P tabs b A.pre A.posts gs x)
 (BU:t.chk (abN P tabs pl z fuel st E fn.ntmps fn.results.toList (pK Z c)) (List.replicate E.pre.np .arg) []=true) {gs x:Q1} (hd:(aH.tree n t).den I gs=some x):P8 P tabs f st E.pre E.posts gs x:=by
 simp only[aH.den]at hd;split at hd;rotate_left
 ·cases hd
 next R=>
 subst ad;obtain⟨ns,ds,W,lf,d,h2,⟨aL,h3⟩,h4⟩:=Tree.NM t BU (ED.start I gs _ R) hd;let T:aJ:=Tw tabs I E.pre.ka h2
 unfold abN at d;split at d;rotate_left
 ·cases d
 next tn l=>
 split at d;rotate_left
 ·cases d
 next e a' J' aa=>
 rw[aO]at d;obtain⟨he,d⟩:=d;split at d;rotate_left
 ·cases d
 next rs ae=>
 split at d;rotate_left
 ·cases d
 next tt af=>
 split at d;rotate_left
 ·cases d
 next e' s p=>
 rw[aO,aO,aO,decide_eq_true_iff]at d;obtain⟨c1,c2,c3,d⟩:=d;split at d;rotate_left
 ·cases d
 next l2 ag=>
 rw[aO]at d;obtain⟨c4,d⟩:=d;have c3:=bV c3;have c4:=bV c4;split at d;next r pp fz aM=>
 rw[aO]at d;obtain⟨c5,c6⟩:=d;unfold Xq at c6;simp only[aO,jX]at c6;obtain⟨⟨⟨⟨m1,m2⟩,m3⟩,m4⟩,m5⟩:=c6;have m1:=bV m1;have N:valsOf (λn=>W[n]?) (tn::l)=some x:=h4;simp only[valsOf]at N;split at N;rotate_left
 ·cases N
 next g r0 hg ai=>
 cases N;obtain⟨m,L,ak⟩:=VY h3 R ag ai;obtain⟨g',k1,k2⟩:=h2.node tn _ af aA;have al:W[tn]? =some g:=hg;rw[al]at k1;cases k1;simp only[Nd.den,bF]at k2;subst k2;unfold iM.ok at c2;rw[aO,aO]at c2;obtain⟨⟨_,X⟩,Kq⟩:=c2;have X:AV.rX s.next s.args=true:=by
  have:∀l:Wo,G6 s.next l=true->AV.rX s.next (l.map (·.2))=true:=by
   intro l;induction l with
   |nil=>intro _;rfl
   |cons a l ih=>intro h;simp only[G6,aO]at h;simp only[iU,AV.rX,aO];exact⟨h.1,ih h.2⟩
  exact this _ X
 refine⟨tt.toNat,r0,m,e',s,by rw[Jd c1],p,ak,by rw[<-c4];exact aeb L,λw0 fB w vs hA=>?_⟩;have Oi:∀Q:fQ->bM->aC->Prop,Q e a' J'->@AT T P c {t:=BK (yU st (AV.sU (λj=>j) E.pre.args)) 0 .nil,n:=max (yU st (AV.sU (λj=>j) E.pre.args)).length fn.ntmps,gn:=P.globals.size} (E.pre.Gl tabs λj=>j) Q:=by
  intro Q hq;have:=@ZF P T (Gm P tabs ⟨ns,ds,E.pre.ka⟩ z) (LH P ⟨ns,ds,E.pre.ka⟩ pl fuel) (adu (T:=T) hm hn (ac T rfl rfl) fuel) (pK Z c) (Au Z c 0).2 (λk b hk a J e1 a1 J1 hs Q' am=>by
   unfold Gm at hs;split at hs
   ·next A an=>
    obtain⟨k1,k2⟩:=Ku k A an;exact abH (T:=T) rfl O k1 (λgs x hI=>k2 b hk gs x hI) hs am
   ·cases hs) _ _ _ _ _ aa Q hq
  rwa [show(pK Z c).erase=c from(Au Z c 0).1]at this
 have V:∀j g,gs[j]? =some g->T.val ((λj=>j) j)=some g:=by
  intro j g hj;show W[j]? =some g
  rw[h3];have:=(gu.1 hj).1;rw[pG this];exact hj
 obtain⟨F,ao,ap⟩:=hA;have aq:=ahG (T:=T) (f:=λj=>j) rfl rfl V ao;have ar:@aG T F (AV.sU (λj=>j) E.pre.args) vs:=aG.fM (S:=Tg tabs gs E.pre.ka) (T:=T) V _ _ ap;have av:Calls P f ⟨yV st vs⟩ w λen D=>∃v,en=.returned v/\∃y,v=Ei y/\PZ P tabs s m w0 fB y D:=by
  letI:=T
  have aw:aG F (yU st (AV.sU (λj=>j) E.pre.args)) (yV st vs):=XR ar;refine calls_of_wp hf hc ?_;refine Oi (λe2 a2 J2=>e2=e/\a2=a'/\J2=J') ⟨rfl,rfl,rfl⟩ w0 fB F w _ _ aq rfl (aaD aw) ?_;rintro e2 a2 J2 F1 A' D ⟨rfl,rfl,rfl⟩ hF ax ht
  obtain⟨y,r1,r2⟩:=Ti hF.rel ht (fun|.tmp t=>pure (A'.tmps.getD t undef)|.cell a t=>do loadVar t (<-asAddr (A'.tmps.getD a undef))) (λ_=>rfl) (λ_ _=>rfl) _ _ ae;obtain⟨dQ,f1,f2,f3⟩:=Wn hF ax fz;have C:yC T P tabs s.gn s.next F1 J2 D fz r l2 m dQ:=⟨hF.rel,L,f1,f3,m1,ah⟩
  obtain⟨hR,ab⟩:=abV (ka:=s.ka) (T:=T) rfl O Kq ah m1 C f2.rel.jF (λid o q b2 b3 b4 b5=>f2.rel.ng id o q (by rw[Fq,aj b2];exact b3) b4 b5) m3 m5;have ay:=Iu (ka:=s.ka) C _ _ _ X m4 r2;have az:PZ P tabs s m w0 fB y D:=by
   refine⟨_,@lD.mk (Tg tabs m s.ka) P w0 fB _ _ D hR hF.kept ?_ f2.xg f2.tC ?_,ay⟩
   ·intro i o q a1 a2 a3;obtain⟨id,u,b1,b2,b3,b4,b5⟩:=ab i o q a1 a2 a3;exact hF.own id u q b3 b4 b5
   ·intro i q hi;obtain⟨a1,a2,a3⟩:=hF.uN i q hi;have aD:i<=P.globals.size+s.ka:=by rw[c3];exact a3
    refine⟨?_,a2,aD⟩;rw[Ir ah ah (ZL c5 i ah ah)];exact a1
  have M:(results fn A'.tmps).run P D=.ok (if h:(⟨y⟩:QR).size=1 then(⟨y⟩:QR)[0]else .tuple ⟨y⟩) D:=by unfold results;rw[Za];simp only[aZ,Zt];exact uS (λr:Result Q6=>(r.andThen λa D=>Result.ok a.toArray D).andThen λa D=>Sem.run P (pure (if h:a.size=1 then a[0]else Value.tuple a)) D) r1
  have aE:(if h:(⟨y⟩:QR).size=1 then(⟨y⟩:QR)[0]else .tuple ⟨y⟩)=Ei y:=by
   match y with
   |[]=>rfl
   |[u]=>rfl
   |u::u'::y=>rfl
  rw[aE]at M
  have p:A'.defers=[]/\∃v,(results fn A'.tmps).run P D=.ok v D/\∃v',Ending.returned v=.returned v'/\∃y,v'=Ei y/\PZ P tabs s m w0 fB y D:=
   ⟨ht.none,_,M,_,rfl,y,rfl,az⟩
  cases e2 with
  |normal=>exact p
  |ret=>exact p
  |exit id=>simp at he
 right;refine⟨?_,Calls.mono' av ?_⟩
 ·have Y:=hn f fn c hf hc;simp only[callFunc,aZ,program,Sem.run,aY,hf];simp only[Y,iZ,if_false,hc,Na,bQ]
 ·rintro en D ⟨v,rfl,h5⟩
  exact⟨v,rfl,h5⟩
end
noncomputable section
variable{P:Program}{H:Type}{enc:TypeId×Value->H}
inductive dh where
 |bool
 |int (k:IntKind)
 |str
 |list (agg:Bool) (e:List dh)
abbrev WK:=List dh
def fieldTys(P:Program)(r:TypeId->Option WK):Nat->List Field->Option WK
 |_,[]=>some []
 |off,f::fs=>match r f.type with
  |some l=>if Nat.beq f.offset off&&Nat.beq (P.cellsOf f.type) l.length then match fieldTys P r (off+l.length) fs with
   |some m=>some (l++m)
   |none=>none
   else none
  |none=>none
def Az(P:Program):Nat->TypeId->Option WK
 |0,_=>none
 |n+1,t=>match P.underlying t with
  |some .bool=>some [.bool]
  |some (.int k)=>some [.int k]
  |some .string=>some [.str]
  |some (.slice e)=>match Az P n e,qp P e with
   |some l,some b=>if Nat.beq (P.cellsOf e) l.length&&Nat.ble 1 l.length&&Nat.ble 1 (P.bytesOf e)&&(b ||Nat.beq l.length 1)then some [.list b l]else none
   |_,_=>none
  |some (.struct fs)=>match fieldTys P (Az P n) 0 fs.toList with
   |some l=>if Nat.beq (P.cellsOf t) l.length then some l else none
   |none=>none
  |_=>none
mutual
def dh.has:dh->GV->Prop
 |.bool,g=>∃b,g=.b b
 |.int k,g=>∃n,g=.i k n/\k.min<=n/\n<=k.max
 |.str,g=>∃s,g=.s s/\s.length<=reachBytes
 |.list agg e,g=>∃xs,g=.l xs/\xs.length<=reachBytes/\∀x∈xs,dh.jI e x.cells/\x.scalar = !agg
def dh.jI:WK->List GV->Prop
 |[],gs=>gs=[]
 |t::ts,gs=>∃g r,gs=g::r/\dh.has t g/\dh.jI ts r
end
def dh.has.scalar{t:dh}{g:GV}(h:t.has g):g.scalar=true:=by
 cases t<;>simp only[dh.has]at h
 ·obtain⟨b,rfl⟩:=h;rfl
 ·obtain⟨b,rfl,_⟩:=h;rfl
 ·obtain⟨b,rfl,_⟩:=h;rfl
 ·obtain⟨b,rfl,_⟩:=h;rfl
def dh.jI.scalars:∀{l:WK}{gs:Q1},dh.jI l gs->gs.all GV.scalar=true/\gs.length=l.length
 |[],gs,h=>by simp only[dh.jI]at h;subst h;exact⟨rfl,rfl⟩
 |t::l,gs,h=>by simp only[dh.jI]at h;obtain⟨g,r,rfl,h1,a⟩:=h;have:=dh.jI.scalars a;simp[h1.scalar,this.1,this.2]
def dh.jI.append:∀{l m:WK}{gs a:Q1},dh.jI l gs->dh.jI m a->dh.jI (l++m) (gs++a)
 |[],m,gs,a,h,b=>by simp only[dh.jI]at h;subst h;simpa using b
 |t::l,m,gs,a,h,b=>by simp only[dh.jI]at h;obtain⟨g,r,rfl,h1,c⟩:=h;simp only[bD,dh.jI];exact⟨g,r++a,rfl,h1,dh.jI.append c b⟩
def aU.append{ro:Qf}:∀{l m:Q1}{vs b:Q6},aU ro l vs->aU ro m b->aU ro (l++m) (vs++b)
 |[],m,vs,b,h,c=>by simp only[aU]at h;subst h;simpa using c
 |a::l,m,vs,b,h,c=>by simp only[aU]at h;obtain⟨x,xs,rfl,h1,d⟩:=h;simp only[bD,aU];exact⟨x,xs++b,rfl,h1,aU.append d c⟩
def anb:∀{e:TypeId}{a:List (DataW H)}{d:DataW H},d∈a->∀z∈d.weights P e,z∈DataW.weightsAll P e a
 |e,[],d,h,z,_=>by simp at h
 |e,d0::a,d,h,z,b=>by
  simp only[DataW.weightsAll,jP];rcases bI.1 h with rfl|h
  ·exact .inl b
  ·exact .inr (anb h z b)
def AO(w:World):Nat->Option Obj:=λb=>w.heap[b]?
def cell?_at {w:World} {a:Addr} {v:Value} (h:w.cell? a=some v):a.spot=none/\∃c elem b,w.heap[a.block]? =some (.cells c elem b)/\c[a.off]? =some v:=by
 unfold World.cell? at h;split at h
 ·next c elem b d=>
  split at h
  ·cases h
  ·next e=>exact⟨by simpa using e,c,elem,b,d,h⟩
 ·cases h
def ahu{w:World}{r:TypeId->Option WK}{fuel:Nat}{cs:Q6}
 (e:∀t l ch (x:DataW H×List MemPlace),r t=some l->DataW.trod enc P w 0 (λ_=>true) true fuel t ch=some x->(∀z∈x.1.weights P t,z<=reachBytes)->∃gs,aU (AO w) gs ch/\dh.jI l gs):
 ∀(fs:List Field)(xs:List (DataW H×List MemPlace))(off:Nat)(l:WK),fieldTys P r off fs=some l->xs.length=fs.length->
  (∀(i:Nat)(f:Field),fs[i]? =some f->DataW.trod enc P w 0 (λ_=>true) true fuel f.type ((cs.drop f.offset).take (P.cellsOf f.type))=xs[i]?)->
  (∀z∈DataW.weightsEach P (fs.map (·.type)) (xs.map (·.1)),z<=reachBytes)->
  ∃gs,aU (AO w) gs ((cs.drop off).take l.length)/\dh.jI l gs
 |[],xs,off,l,h,_,_,_=>by simp only[fieldTys,bF]at h;subst h;exact⟨[],by simp[aU],by simp[dh.jI]⟩
 |f::fs,[],off,l,_,b,_,_=>by simp at b
 |f::fs,x::xs,off,l,h,b,g,j=>by
  simp only[fieldTys]at h;split at h
  ·next a h1=>
   split at h
   ·next c=>
    rw[aO]at c;have o:=bV c.1;have p:=bV c.2;split at h
    ·next m q=>
     cases h;have k:=g 0 f rfl;simp only[l9]at k;obtain⟨gs,n,g2⟩:=e f.type a _ x h1 k (λz d=>j z (by simp only[iU,DataW.weightsEach,jP];exact .inl d))
     obtain⟨s,u,v⟩:=ahu e fs xs (off+a.length) m q (by simpa using b) (λi y A=>by have:=g (i+1) y (by simpa using A);simpa using this)
      (λz d=>j z (by simp only[iU,DataW.weightsEach,jP];exact .inr d))
     refine⟨gs++s,?_,g2.append v⟩;rw[o,p]at n;have:(cs.drop off).take (a++m).length=(cs.drop off).take a.length++(cs.drop (off+a.length)).take m.length:=by rw[eH,Eu,tK]
     rw[this];exact aU.append n u
    ·cases h
   ·cases h
  ·cases h
def ag5{c:Nat}{ch:Nat->List Value}{arr:QR}{off:Nat}:∀(n:Nat)(_:∀i,i<n->(ch i).length=c/\∀j,j<c->arr[off+i*c+j]? =(ch i)[j]?),
 ((List.range n).flatMap ch).length=n*c/\∀(k:Nat) x,((List.range n).flatMap ch)[k]? =some x->arr[off+k]? =some x
 |0,_=>aA
 |n+1,h=>by
  obtain⟨h1,b⟩:=ag5 n λi hi=>h i ah;obtain⟨d,e⟩:=h n ah;rw[List.range_succ,aeP];simp only[kV,List.flatMap_nil,pX];refine⟨by rw[eH,h1,d,uJ,Jl],λk x a=>?_⟩;by_cases g:k<n*c
  ·rw[pG ah]at a;exact b k x a
  ·rw[yB ah,h1]at a;have l:=(gu.1 a).1;have:=e (k-n*c) ah;rw[a]at this;rw[<-this];congr 1;omega
def aU.ofFn{ro:Qf}{G:Nat->GV}{Y:Nat->Value}:∀(l:Q2),(∀i∈l,GR ro (G i) (Y i))->aU ro (l.map G) (l.map Y)
 |[],_=>by simp[aU]
 |i::l,h=>by simp only[iU,aU];exact⟨_,_,rfl,h i aA,aU.ofFn l λj a=>h j (by simp[a])⟩
def ad4{w:World}:∀(n m:Nat)(t:TypeId)(cs:Q6)(x:DataW H×List MemPlace)(l:WK),Az P n t=some l->DataW.trod enc P w 0 (λ_=>true) true m t cs=some x->
 (∀z∈x.1.weights P t,z<=reachBytes)->∃gs,aU (AO w) gs cs/\dh.jI l gs
 |0,m,t,cs,x,l,q,h,hw=>by simp[Az]at q
 |n+1,m,t,cs,x,l,q,h,hw=>by
  simp only[Az]at q;split at q
  ·next E=>
   cases q;obtain⟨b,rfl,rfl⟩:=DataW.trod_bool E h;exact⟨[.b b],by simp[aU,GR],by simp only[dh.jI];exact⟨_,_,rfl,by simp[dh.has],rfl⟩⟩
  ·next k E=>
   cases q;obtain⟨b,rfl,rfl,ai⟩:=DataW.trod_int E h;have aa:k.min<=b/\b<=k.max:=by simpa[Lit.wf]using ai
   exact⟨[.i k b],by simp[aU,GR],by simp only[dh.jI];exact⟨_,_,rfl,by simp only[dh.has];exact⟨b,rfl,aa⟩,rfl⟩⟩
  ·next E=>
   cases q;obtain⟨s,rfl,rfl,hs⟩:=DataW.trod_string E h;refine⟨[.s s.data.toList],by simp only[aU,GR];exact⟨_,_,rfl,by cases s with|mk a=>cases a;rfl,rfl⟩,by simp only[dh.jI];exact⟨_,_,rfl,by simp only[dh.has];exact⟨_,rfl,hw _ (by simp[DataW.weights])⟩,rfl⟩⟩
  ·next e E=>
   split at q
   ·next le O he ax=>
    split at q
    ·next I=>
     cases q;simp only[aO,qF]at I;obtain⟨⟨⟨c1,c2⟩,c3⟩,c4⟩:=I;have c1:=bV c1;have c2:=wB c2;have c3:=wB c3;rcases Deep.open_slice E h with⟨rfl,rfl⟩|⟨a,len,ar,L,n',D,Pl,rfl,hb,hl,hm,rfl,rfl,hi⟩
     ·exact⟨[.l []],by simp[aU,GR],by simp only[dh.jI];exact⟨_,_,rfl,by simp only[dh.has];exact⟨[],rfl,aA,aA⟩,rfl⟩⟩
     have ak:L*P.bytesOf e<=reachBytes:=by have:=hw (L*P.bytesOf e) (by simp only[DataW.weights,E,bI,gB,List.length_range];left;rw[Uz hl]);exact this
     have al:L<=reachBytes:=kW (anw _ c3) ak;have one:∀i,i<len->∃o gs,(o.length=P.cellsOf e/\∀j,j<P.cellsOf e->w.cell? (((a.add (i*P.cellsOf e))).add j)=o[j]?)/\aU (AO w) gs o/\dh.jI le gs:=by
      intro i d;obtain⟨o,V,h2⟩:=hi i ah;obtain⟨_,h3,h4⟩:=World.cells?_some V;obtain⟨gs,g1,g2⟩:=ad4 n n' e o _ le he h2 (λz hz=>hw z (by simp only[DataW.weights,E,bI,jP];right;left;exact anb (by simp only[rZ,Bv];exact⟨i,d,rfl⟩) z hz))
      exact⟨o,gs,⟨h3,h4⟩,g1,g2⟩
     by_cases hz:L=0
     ·have am:len=0:=ah;subst hz;subst am;refine⟨[.l []],by simp only[aU,GR];exact⟨_,_,rfl,.inl ⟨trivial,_,rfl⟩,rfl⟩,by simp only[dh.jI];exact⟨_,_,rfl,by simp only[dh.has];exact⟨[],rfl,aA,aA⟩,rfl⟩⟩
     have ha:a.spot=none/\∃v M fr,w.heap[a.block]? =some (.cells v M fr):=by obtain⟨o,V,h2⟩:=hi 0 ah;obtain⟨_,h3,h4⟩:=World.cells?_some V;have h5:=h4 0 ah;have W:o[0]? =some o[0]:=bZ ah;rw[W]at h5;have Q:=cell?_at h5;simp only[Nat.zero_mul,Addr.add,if_true]at Q;exact⟨Q.1,Q.2.choose,Q.2.choose_spec.choose,Q.2.choose_spec.choose_spec.choose,Q.2.choose_spec.choose_spec.choose_spec.1⟩
     obtain⟨ab,v,M,fr,N⟩:=ha;obtain⟨bl,A,sp⟩:=a;simp only at ab N;subst ab;have ac:∀i j:Nat,((Addr.mk bl A none).add i).add j=⟨bl,A+i+j,none⟩:=by intro i j;unfold Addr.add;split<;>split<;>simp_all
     have an:∃(o:Nat->List Value)(G:Nat->List GV),∀i,i<len->(o i).length=P.cellsOf e/\(∀j,j<P.cellsOf e->v[A+i*P.cellsOf e+j]? =(o i)[j]?)/\aU (AO w) (G i) (o i)/\dh.jI le (G i):=by refine⟨λi=>if d:i<len then(one i d).choose else[],λi=>if d:i<len then(one i d).choose_spec.choose else[],λi d=>?_⟩;simp only[dif_pos d];obtain⟨⟨V,h2⟩,h3,h4⟩:=(one i d).choose_spec.choose_spec;refine⟨V,λj hj=>?_,h3,h4⟩;have:=h2 j hj;rw[ac]at this;rw[<-this];have W:=bZ (l:=(one i d).choose) (i:=j) ah;rw[W]at this;have Q:=cell?_at this;simp only at Q;obtain⟨_,c',e',f',h7,h8⟩:=Q;rw[N]at h7;cases h7;rw[this,h8]
     obtain⟨o,G,hG⟩:=an;obtain⟨q1,q2⟩:=ag5 (c:=P.cellsOf e) (ch:=o) (arr:=v) (off:=A) len λi d=>⟨(hG i d).1,λj hj=>(hG i d).2.1 j hj⟩
     have ao:∀i,i<len->(G i).length=le.length:=λi d=>(hG i d).2.2.2.scalars.2;let X:Nat->GV:=λi=>if O then .g (G i)else(G i).headD (.l [])
     let Y:Nat->Value:=λi=>if O then .agg ⟨o i⟩else(o i).headD undef
     have hX:∀i,i<len->(X i).cells=G i/\(X i).scalar = !O/\GR (AO w) (X i) (Y i)/\(Y i).cells.toList=o i:=by
      intro i d;obtain⟨p1,p2,p3,p4⟩:=hG i d;cases O with
      |true=>simp only[X,Y,if_true];exact⟨rfl,rfl,by simp only[GR];exact⟨_,rfl,p3⟩,rfl⟩
      |false=>
       have R:le.length=1:=by simpa using c4
       obtain⟨g,hg⟩:∃g,G i=[g]:=Zj.1 (by rw[ao i d,R]);obtain⟨y,hy⟩:∃y,o i=[y]:=Zj.1 (by rw[p1,c1,R]);have Z:g.scalar=true:=by have:=p4.scalars.1;rw[hg]at this;simpa using this
       have Ot:GR (AO w) g y:=by rw[hg,hy]at p3;simp only[aU]at p3;obtain⟨u,us,e1,e2,_⟩:=p3;cases e1;exact e2
       simp only[X,Y,hg,hy,List.headD_cons,iZ,if_false,Bool.not_false];refine⟨by cases g<;>first|rfl|(simp[GV.scalar]at Z),Z,Ot,?_⟩;cases g<;>simp only[GR]at Ot
       ·subst Ot;rfl
       ·subst Ot;rfl
       ·subst Ot;rfl
       ·rcases Ot with⟨_,_,rfl⟩|⟨_,_,_,_,_,rfl,_⟩<;>rfl
       ·simp[GV.scalar]at Z
     refine⟨[.l ((List.range len).map X)],?_,?_⟩
     ·simp only[aU];refine⟨_,_,rfl,?_,rfl⟩;simp only[GR];right;have ad:eP ((List.range len).map Y)=(List.range len).flatMap o:=by unfold eP;rw[List.flatMap_map];rw[List.flatMap_def,List.flatMap_def,List.map_congr_left λi p=>(hX i (Bv.1 p)).2.2.2]
      refine⟨bl,A,L,(List.range len).map Y,P.cellsOf e,aA,by simpa using hl,aU.ofFn _ λi p=>(hX i (Bv.1 p)).2.2.1,?_,λap=>⟨v,M,fr,N,?_,?_⟩⟩
      ·intro y hy;obtain⟨i,p,rfl⟩:=rZ.1 hy;have:=(hX i (Bv.1 p)).2.2.2;rw[<-MF,this];exact(hG i (Bv.1 p)).1
      ·rw[ad,q1];have ae:0<len:=by
        rcases UA len with h0|h0
        ·subst h0;simp at ap
        ·exact h0
       have af:0<P.cellsOf e:=ah;have hk:len*P.cellsOf e-1<((List.range len).flatMap o).length:=by rw[q1];have:0<len*P.cellsOf e:=Qd ae af;omega
       have:=q2 _ _ (bZ hk);have:=(tH.1 this).1;have:0<len*P.cellsOf e:=Qd ae af;omega
      ·rw[ad];exact q2
     ·simp only[dh.jI];refine⟨_,_,rfl,?_,rfl⟩;simp only[dh.has];refine⟨_,rfl,by simp;omega,λy hy=>?_⟩;obtain⟨i,p,rfl⟩:=rZ.1 hy;obtain⟨k1,k2,_⟩:=hX i (Bv.1 p);rw[k1];exact⟨(hG i (Bv.1 p)).2.2.2,k2⟩
    ·cases q
   ·cases q
  ·next fs E=>
   split at q
   ·next l' hf=>
    split at q
    ·next ag=>
     cases q;have ag:=bV ag;obtain⟨xs,n',rfl,rfl,av,aq,hx⟩:=DataW.trod_struct E h
     obtain⟨gs,g1,g2⟩:=ahu (enc:=enc) (P:=P) (w:=w) (fuel:=n') (cs:=cs) (r:=Az P n) (λt l o x V h2 h3=>ad4 n n' t o x l V h2 h3) fs.toList xs 0 l hf (by simpa using aq)
      (λi f hi=>hx i f (by simpa using hi)) (λz hz=>hw z (by simp only[DataW.weights,E];simpa using hz))
     refine⟨gs,?_,g2⟩;rw[dY,mg ah]at g1;exact g1
    ·cases q
   ·cases q
  ·cases q
def argTys(P:Program)(n:Nat):List TypeId->Option (List (Bool×WK))
 |[]=>some []
 |t::ts=>match Az P n t,qp P t,argTys P n ts with
  |some l,some b,some r=>if b ||Nat.beq l.length 1 then some ((b,l)::r)else none
  |_,_,_=>none
def hasArgs:List (Bool×WK)->List GV->Prop
 |[],gs=>gs=[]
 |(b,l)::r,gs=>∃g a,gs=g::a/\dh.jI l g.cells/\g.scalar = !b/\hasArgs r a
def ayH{w:World}{r:Reach}{c:Nat}{t:TypeId}{v:Value}(h:Value.okWide P w r c t v):(qp P t=some true->∃cs,v=.agg cs)/\
 (qp P t=some false->v.cells =#[v]\/∀n,Az P n t=none):=by
 unfold Value.okWide at h;unfold qp;constructor
 ·intro a;split at a
  ·next b=>rw[b]at h;simp only at h;obtain⟨cs,rfl,_⟩:=h;exact⟨cs,rfl⟩
  ·next b=>rw[b]at h;simp only at h;obtain⟨cs,rfl,_⟩:=h;exact⟨cs,rfl⟩
  ·cases a
  ·cases a
 ·intro a;split at a
  ·cases a
  ·cases a
  ·next u d e b=>
   rw[b]at h
   cases u<;>first
    |(exact absurd rfl (d _))
    |(exact absurd rfl (e _ _))
    |(right;intro n;cases n<;>simp[Az,b];done)
    |(left;simp only[Cell.okWide,b,Cell.ok]at h;cases v<;>first|rfl|(simp only at h;done)|(cases h;done))
  ·cases a
def Kept.below{W a:World}(h:Kept W a):Go.RowKit.Below W.heap.size W a:=⟨h.os,h.tape,h.output,h.size,h.keep⟩
def amK{W g:World}(i:laidOutB P=true)(j:Kept W g){k:Nat->Bool}:∀{ts:List TypeId}{vs:Q6}{e:List (DataW H)}{ps:List MemPlace},DataW.TrodAll enc P W 0 (λ_=>true) true ts vs e ps->
 (∀t∈ts,P.readableRec t=true/\t<P.types.size)->(∀x∈ps,x.block<W.heap.size)->(∀x∈ps,k x.block=true)->DataW.TrodAll enc P g 0 k true ts vs e ps
 |[],[],[],ps,h,_,_,_=>h
 |t::ts,v::vs,d::e,ps,h,l,b,c=>by
  obtain⟨p,q,h1,m,rfl⟩:=h;obtain⟨r1,r2⟩:=l t aA
  exact⟨p,q,WideElems.Trod_stays i r1 r2 h1 (λx a=>j.below.same (b x (Zm _ a))) (λx a=>c x (Zm _ a)),
   amK i j m (λn o=>l n (by simp[o])) (λx a=>b x (aeU _ a)) (λx a=>c x (aeU _ a)),rfl⟩
 |[],_::_,_,_,h,_,_,_=>by simp[DataW.TrodAll]at h
 |[],[],_::_,_,h,_,_,_=>by simp[DataW.TrodAll]at h
 |_::_,[],_,_,h,_,_,_=>by simp[DataW.TrodAll]at h
 |_::_,_::_,[],_,h,_,_,_=>by simp[DataW.TrodAll]at h
end
open Go.ChangeShapes Go.WideShapes Go.ChangeAt Go.RowKit
noncomputable section
variable{P:Program}
def ao3{g:aJ}{call:Caller}{f:FuncId}{J0 J':aC}(b:@uz g P call)(h0:@BI g J0 P.globals.size)(d:call f [] J0=some (.b true,J')){ro:Qf}{w:World}(a:zK g.tabs ro w):
 nG P f ⟨[]⟩ w λv w'=>v=.bool true/\Kept w w':=by
 letI:=g
 have k:SR P (xM P.globals.size J0 ro) J0 w:=Nc h0.1 (λid o l=>by obtain⟨c,rfl,m,h⟩:=h0.2 id o l;obtain⟨n,e,q,s,t,u⟩:=a.tab _ m;exact⟨h,c,rfl,⟨n,e,q,a.at' _ _ s,t,u⟩⟩) a.at' (λp x=>a.tab p x)
 refine nG.mono (b f [] J0 _ _ d _ w [] k rfl) ?_;rintro v w' ⟨F',i,j⟩
 simp only[VR]at j;exact⟨j,i.kept h0.own⟩
def ayW{T:aJ}{f:FuncId}(h:∀ro w,zK T.tabs ro w->nG P f ⟨[]⟩ w λv w'=>v=.bool true/\Kept w w'):@fJ T P f Lm:=by
 letI:=T
 intro args J r e a F w g b c;unfold Lm at a;split at a
 ·cases a;simp only[aG]at c;subst c;refine nG.mono (h F.ro w b.X4) ?_;rintro v w' ⟨rfl,d⟩
  exact⟨F,St.ace b d,by simp only[VR]⟩
 ·cases a
def AC.rM:AC->Nat->Option Code
 |.plain _,_=>none
 |.seq x y,k=>match x.rM k with
  |some b=>some b
  |none=>y.rM k
 |.cond _ y z,k=>match y.rM k with
  |some b=>some b
  |none=>z.rM k
 |.block _ x,k=>x.rM k
 |.loop a b,k=>if Nat.beq a k then some b else none
 |.peel x a b,k=>if Nat.beq a k then some b else x.rM k
def AC.Iq{k:Nat}{b:Code}:∀{x:AC},x.rM k=some b->x.qY k b
 |.plain _,h=>by simp[AC.rM]at h
 |.seq x y,h=>by
  simp only[AC.rM]at h;split at h
  ·next a=>cases h;exact .inl (AC.Iq a)
  ·exact .inr (AC.Iq h)
 |.cond _ x y,h=>by
  simp only[AC.rM]at h;split at h
  ·next a=>cases h;exact .inl (AC.Iq a)
  ·exact .inr (AC.Iq h)
 |.block _ x,h=>AC.Iq (x:=x) h
 |.loop c d,h=>by
  simp only[AC.rM]at h;split at h
  ·next e=>cases h;exact⟨Nat.eq_of_beq_eq_true e,rfl⟩
  ·cases h
 |.peel x c d,h=>by
  simp only[AC.rM]at h;split at h
  ·next e=>cases h;exact .inl ⟨Nat.eq_of_beq_eq_true e,rfl⟩
  ·exact .inr (AC.Iq h)
def Ju(ps:Q2):∀(c:Code)(n:Nat),n<=(nM ps c n).2/\∀k b,(nM ps c n).1.qY k b->(n<=k/\k<(nM ps c n).2)/\(nM ps c n).1.rM k=some b
 |.seq x y,n=>by
  obtain⟨h1,a⟩:=Ju ps x n;obtain⟨j,d⟩:=Ju ps y (nM ps x n).2;simp only[nM,AC.qY,AC.rM];refine⟨ah,λk b h=>?_⟩;rcases h with h|h
  ·obtain⟨r,e⟩:=a k b h;exact⟨ah,by rw[e]⟩
  ·obtain⟨r,e⟩:=d k b h;refine⟨ah,?_⟩;cases g:(nM ps x n).1.rM k with
   |none=>exact e
   |some i=>have:=(a k i (AC.Iq g)).1;omega
 |.cond _ x y,n=>by
  obtain⟨h1,a⟩:=Ju ps x n;obtain⟨j,d⟩:=Ju ps y (nM ps x n).2;simp only[nM,AC.qY,AC.rM];refine⟨ah,λk b h=>?_⟩;rcases h with h|h
  ·obtain⟨r,e⟩:=a k b h;exact⟨ah,by rw[e]⟩
  ·obtain⟨r,e⟩:=d k b h;refine⟨ah,?_⟩;cases g:(nM ps x n).1.rM k with
   |none=>exact e
   |some i=>have:=(a k i (AC.Iq g)).1;omega
 |.block id x,n=>Ju ps x n
 |.loop x,n=>by
  obtain⟨h1,a⟩:=Ju ps x (n+1);simp only[nM];split
  ·exact⟨aA,λk b h=>by simp[AC.qY]at h⟩
  ·split
   ·simp only[AC.qY,AC.rM];refine⟨ah,λk b h=>?_⟩;rcases h with⟨rfl,rfl⟩|h
    ·exact⟨ah,aA⟩
    ·obtain⟨r,e⟩:=a k b h;refine⟨ah,?_⟩;have:Nat.beq n k=false:=by cases l:Nat.beq n k with|false=>rfl|true=>have:=bV l;omega
     rw[this];exact e
   ·simp only[AC.qY,AC.rM];refine⟨ah,λk b h=>?_⟩;obtain⟨rfl,rfl⟩:=h;exact⟨ah,aA⟩
 |.skip,n|.region _ _ _,n|.rangeFunc _ _ _ _,n|.exit _,n|.scope _,n|.label _,n|.goto _,n|.ret,n|.refuse _,n=>⟨Nat.le_refl _,λk b h=>by simp[nM,AC.qY]at h⟩
def axj{ps:Q2}{c:Code}{k:Nat}{b:Code}(h:(pK ps c).qY k b):(pK ps c).rM k=some b:=((Ju ps c 0).2 k b h).2
def yJ:Code->List (Q2×Nat)->Code
 |c,[]=>c
 |c,(ps,k)::r=>yJ (((pK ps c).rM k).getD .skip) r
def aoi{ps:Q2}{c:Code}{k:Nat}{b:Code}(h:(pK ps c).qY k b):yJ c [(ps,k)]=b:=by simp only[yJ,axj h,uK]
def afI{ps:Q2}{k:Nat}:∀(r:Xs)(c:Code),yJ c (r++[(ps,k)])=yJ (yJ c r) [(ps,k)]
 |[],_=>rfl
 |(_,_)::r,_=>afI r _
abbrev Jc:=Q1->List GV->Prop
def P7(b:List Jc)(k:Nat)(gs a:Q1):Prop:=match b[k]? with
 |some c=>c gs a
 |none=>False
def wE(Ds:Wc):jl:=λk=>Ds[k]?
def MK(C:Nat->List GV->List GV->Prop)(d:aH)(c:Jc):Prop:=∀I:ji,(∀k gs a,I k gs=some a->C k gs a)->∀gs a,d.den I gs=some a->c gs a
def MB(C:Nat->List GV->List GV->Prop):Wc->List Jc->Prop
 |[],[]=>True
 |d::a,c::cs=>MK C d c/\MB C a cs
 |_,_=>False
def MB.at{C:Nat->List GV->List GV->Prop}:∀{b:Wc}{cs:List Jc},MB C b cs->∀{k:Nat}{d:aH},b[k]? =some d->∃c,cs[k]? =some c/\MK C d c
 |[],[],_,k,d,a=>by simp at a
 |d0::b,e::cs,h,k,d,a=>by
  cases k with
  |zero=>simp at a;subst a;exact⟨e,rfl,h.1⟩
  |succ k=>obtain⟨c,h1,g⟩:=MB.at h.2 (k:=k) (by simpa using a);exact⟨c,by simpa using h1,g⟩
 |[],_::_,h,_,_,_=>h.elim
 |_::_,[],h,_,_,_=>h.elim
def axb{Ds:Wc}{b:List Jc}(h:MB (P7 b) Ds b):∀k gs a,(wE Ds).lim k gs=some a->P7 b k gs a:=by refine jl.axc λk d e I g gs a i=>?_;obtain⟨c,j,l⟩:=h.at e;unfold P7;rw[j];exact l I g gs a i
def Ez(P:Program)(tabs:QP)(I:ji)(e:AC)(c:Wz):Prop:=
 ∀k a,dV k c=some a->a.pre.ok=true/\∀b,e.qY k b->∀gs d,I a.key gs=some d->xB P tabs b a.pre a.posts gs d
def Ez.nil{tabs:QP}{I:ji}{a:AC}:Ez P tabs I a []:=λk b h=>by simp[dV]at h
def Ez.cons{tabs:QP}{I:ji}{ps:Q2}{c:Code}{k:Nat}{g:aN}{a:Wz}(i:g.pre.ok=true)(n:∀gs d,I g.key gs=some d->xB P tabs (yJ c [(ps,k)]) g.pre g.posts gs d)
 (r:Ez P tabs I (pK ps c) a):Ez P tabs I (pK ps c) ((k,g)::a):=by
 intro m j h;simp only[dV]at h;cases e:Nat.beq m k with
 |true=>rw[e]at h;cases h;have e:=bV e;subst e;exact⟨i,λb l gs d o=>by rw[<-aoi l];exact n gs d o⟩
 |false=>rw[e]at h;exact r m j h
def xB.ayF{tabs:QP}(g:xG tabs P.globals.size)(m:P.follows .mixedOrders=true)(o:yD P){pl:nJ}{I:ji}(j:Am P tabs I pl){a:Wz}{fuel:Nat}{d:aN}(k:d.pre.ok=true){n:Nat}(l:n=d.pre.np)
 {ps:Q2} {b:Code} {t:Tree} (p:Ez P tabs I (pK ps b) a) (e:∀gs c,I d.key gs=some c->xB P tabs b d.pre d.posts gs c)
 (q:t.chk (Xk P tabs pl a fuel d (pK ps b)) (List.replicate d.pre.np .arg) []=true) {gs c:Q1} (i:(aH.tree n t).den I gs=some c):xB P tabs b d.pre d.posts gs c:=by
 simp only[aH.den]at i;split at i
 ·next h=>exact xB.SB g m o j k p e q (by rw[h,l]) i
 ·cases i
def PL.nil:nJ:=λ_=>[]
def PL.cons(f:FuncId)(p:iI->fO)(l:nJ):nJ:=λN=>(f,p N)::l N
def PL.ayI{tabs:QP}{I:ji}:Am P tabs I PL.nil:=λT _ _ p a=>by simp[PL.nil]at a
def PL.XD{tabs:QP}{I:ji}{f:FuncId}{p:iI->fO}{l:nJ}(h:∀T:aJ,T.tabs=tabs->T.I=I->@fJ T P f (p T.toiI))(d:Am P tabs I l):Am P tabs I (PL.cons f p l):=by
 intro T b c q a;rcases bI.1 a with rfl|a
 ·exact h T b c
 ·exact d T b c q a
def orP(p q:fO):fO:=λargs J=>match p args J with
 |some r=>some r
 |none=>q args J
def ayP{T:aJ}{f:FuncId}{p q:fO}(c:@fJ T P f p)(d:@fJ T P f q):@fJ T P f (orP p q):=by
 letI:=T
 intro args J r b a;unfold orP at a;split at a
 ·next r0 e=>cases a;exact c args J r b e
 ·exact d args J r b a
