/- Loops by contract: the step that the evaluator takes at a loop, and how a loop's contract is proved. -/
import Derived.Test.YteenmipdepcibaaGreatDoorAbsI
import Derived.ChangeArms
import Derived.Deep.Slices
import Derived.Carry
import Derived.ProofKit
import Derived.OpenShut
import Derived.Deep.DeepHandedRow
set_option linter.unusedSimpArgs false
set_option linter.unusedSectionVars false
set_option linter.unusedVariables false
namespace Go.aN
noncomputable section
variable{P:Program}
structure US where
 r:W5
 p:Ww
 fz:Q2
def US.Gv(u:US)(j m:Nat):US:=match cZ j u.p with
 |some _=>u
 |none=>{u with p:=(j,m)::u.p}
def US.NU(u:US)(i:Nat)(x:QR):US:=match cZ i u.r with
 |some _=>u
 |none=>{u with r:=(i,x)::u.r}
section
variable[gG]
def LJ(P:Program)(J:aA)(a:AV):Option (Nat×QR):=
 match iQ a with
 |some m=>some (m,none)
 |none=>match a with
  |.sv id _=>match J.get id with
   |some (.vec m _ _)=>some (m,some id)
   |_=>none
  |.sl id off len cap=>match J.get id with
   |some (.cells _ et _ _)=>(listOf P J et (.sl id off len cap)).map λm=>(m,some id)
   |_=>none
  |_=>none
mutual
def uV(P:Program)(G:Nat)(J:aA):AV->AV->US->US
 |.nd j,a,u=>match LJ P J a with
  |some (m,some id)=>{u.Gv j m with fz:=id::u.fz}
  |some (m,none)=>u.Gv j m
  |none=>u
 |.sv i _,a,u=>match a with
  |.sv id _=>u.NU i (some id)
  |.fV=>u.NU i none
  |_=>u
 |.p i _,a,u=>match a with
  |.p id _=>if i<=G then u else u.NU i (some id)
  |_=>u
 |.mp i,a,u=>match a with
  |.mp id=>u.NU i (some id)
  |_=>u
 |.sl i _ _ _,a,u=>match a with
  |.sl id _ _ _=>u.NU i (some id)
  |_=>u
 |.rx j _,a,u=>match a with
  |.rx m _=>u.Gv j m
  |_=>u
 |.fn _ fi cs,a,u=>match a with
  |.fn _ fi' cs'=>FT P G J cs cs' (FT P G J fi fi' u)
  |_=>u
 |.agg l,a,u=>match a with
  |.agg l'=>FT P G J l l' u
  |_=>u
 |.dP l,a,u=>match a with
  |.dP l'=>FT P G J l l' u
  |_=>u
 |.iW _ x,a,u=>match a with
  |.iW _ x'=>uV P G J x x' u
  |_=>u
 |_,_,u=>u
def FT(P:Program)(G:Nat)(J:aA):Q3->List AV->US->US
 |[],_,u=>u
 |a::l,m,u=>match m with
  |b::m'=>FT P G J l m' (uV P G J a b u)
  |[]=>u
end
def ajl(P:Program)(G:Nat)(J:aA)(t:Tr AV):Wf->US->US
 |[],u=>u
 |p::l,u=>ajl P G J t l (match t.get p.1 with|some v=>uV P G J p.2 v u|none=>u)
def V6(P:Program)(G:Nat)(J:aA):WP->US->US
 |[],u=>u
 |p::l,u=>V6 P G J l (match cZ p.1 u.r with
  |some (some id)=>match p.2,J.get id with
   |.cells c _ _ _,some (.cells c' _ _ _)=>FT P G J c c' u
   |.vec j _ _,some (.vec m _ _)=>u.Gv j m
   |.smap j _ _,some (.smap m _ _)=>u.Gv j m
   |.smap j _ _,some (.map [])=>match fF (.ml [])with
    |some m=>u.Gv j m
    |none=>u
   |_,_=>u
  |some none=>match p.2 with
   |.vec j _ _=>match fF (.ml [])with
    |some m=>u.Gv j m
    |none=>u
   |_=>u
  |none=>u)
def aaI(p:Ww):Nat->Nat->Option Q2
 |_,0=>some []
 |j,n+1=>match cZ j p,aaI p (j+1) n with
  |some m,some r=>some (m::r)
  |_,_=>none
def Xj:Nat->Nat->List (Nat×QR)
 |_,0=>[]
 |i,n+1=>(i+1,some (i+1))::Xj (i+1) n
def fit(P:Program)(s:gU)(a:bg)(J:aA):US:=V6 P s.gn J s.objs (ajl P s.gn J a.t s.slots ⟨Xj s.gn s.ka,[],[]⟩)
def fits(P:Program)(s:gU)(a:bg)(J:aA)(ps:Q2):Bool:=Nat.beq ps.length s.np&&match fit P s a J with
 |⟨r,_,fz⟩=>Zx P s a J fz r ps
structure aJ where
 key:Nat
 pre:gU
 posts:XN
abbrev Wr:=List aJ
abbrev Wo:=List (Nat×aJ)
def I5(tag:Nat):XN->Nat->Option (dZ×gU)
 |[],_=>none
 |[p],_=>some p
 |p::q::l,t=>match fF (.ci .i64 t)with
  |some c=>match fF (.bin .eql tag c)with
   |some b=>match X8 b with
    |some true=>some p
    |some false=>I5 tag (q::l) (t+1)
    |none=>none
   |none=>none
  |none=>none
def Bc(key:Nat)(ps:Q2):List QR->Nat->Nat->Option Q2
 |_,_,0=>some []
 |some i::al,j,n+1=>match ps[i]?,Bc key ps al j n with
  |some m,some r=>some (m::r)
  |_,_=>none
 |none::al,j,n+1=>match fF (.call key ps j),Bc key ps al (j+1) n with
  |some m,some r=>some (m::r)
  |_,_=>none
 |[],j,n+1=>match fF (.call key ps j),Bc key ps [] (j+1) n with
  |some m,some r=>some (m::r)
  |_,_=>none
def Zl(P:Program)(tabs:Qt)(sp:aJ)(a:bg)(J:aA):W8:=
 match aaI (fit P sp.pre a J).p 0 sp.pre.np with
 |some ps=>if fits P sp.pre a J ps then
   match fF (.call sp.key ps 0)with
   |some tag=>match I5 tag sp.posts 0 with
    |some (e,s)=>if Nat.beq s.ka gG.ka then match Bc sp.key ps s.al 1 s.np with
     |some ns=>some (e,s.Q8 (λj=>ns.getD j 0),s.DX tabs (λj=>ns.getD j 0))
     |none=>none
     else none
    |none=>none
   |none=>none
  else none
 |none=>none
end
def tH:List QR->List GV->List GV->Option Q1
 |[],_,r=>some r
 |some i::al,gs,r=>match gs[i]?,tH al gs r with
  |some g,some l=>some (g::l)
  |_,_=>none
 |none::al,gs,x::r=>match tH al gs r with
  |some l=>some (x::l)
  |none=>none
 |none::_,_,[]=>none
def CO(np:Nat):List QR->List Nat->Option Q2
 |[],r=>some r
 |some i::al,r=>bif Nat.blt i np then(match CO np al r with
  |some l=>some (i::l)
  |none=>none)else none
 |none::al,x::r=>match CO np al r with
  |some l=>some (x::l)
  |none=>none
 |none::_,[]=>none
def Gp(np:Nat)(l:Q2):List QR->Bool
 |[]=>true
 |none::al=>Gp np l al
 |some i::al=>Nat.blt i np&&((match l[i]? with|some m=>Nat.beq m i|none=>false)&&Gp np l al)
def Q9(np:Nat)(l:Q2):XN->Bool
 |[]=>true
 |p::ps=>Gp np l p.2.al&&Q9 np l ps
theorem abG{val:W6}:∀{l:Q2}{gs:Q1},valsOf val l=some gs->∀(i m:Nat),l[i]? =some m->gs[i]? =val m
 |[],gs,h,i,m,hm=>by simp at hm
 |x::l,gs,h,i,m,hm=>by
  simp only[valsOf]at h;split at h
  ·next g r h5 h6=>
   cases h;cases i with
   |zero=>simp at hm;subst hm;simp[h5]
   |succ i=>simpa using abG h6 i m (by simpa using hm)
  ·cases h
theorem SL{np:Nat}{gs env more:Q1}(henv:env=gs++more)(hn:gs.length=np):∀{al:List QR}{l l2:Q2}{r:Q1},CO np al l=some l2->valsOf (λn=>env[n]?) l=some r->∃rest,valsOf (λn=>env[n]?) l2=some rest/\tH al gs r=some rest
 |[],l,l2,r,h,hv=>by simp only[CO,aW]at h;subst h;exact⟨r,hv,rfl⟩
 |some i::al,l,l2,r,h,hv=>by
  simp only[CO]at h;cases hb:Nat.blt i np with
  |false=>rw[hb]at h;cases h
  |true=>
   rw[hb]at h;simp only[cond_true]at h;rw[jd]at hb;split at h
   ·next l3 h3=>
    cases h;obtain⟨rest,h4,h5⟩:=SL henv hn h3 hv;have hi:env[i]? =some (gs[i]'(by omega)):=by rw[henv,mP (by omega),bK (by omega)]
    refine⟨gs[i]'(by omega)::rest,?_,?_⟩
    ·simp only[valsOf,hi,h4]
    ·simp only[tH,h5,bK (show i<gs.length by omega)]
   ·cases h
 |none::al,[],l2,r,h,hv=>by simp[CO]at h
 |none::al,x::l,l2,r,h,hv=>by
  simp only[CO]at h;split at h
  ·next l3 h3=>
   cases h;simp only[valsOf]at hv;split at hv
   ·next g r' h6 h7=>
    cases hv;obtain⟨rest,h4,h5⟩:=SL henv hn h3 h7;exact⟨g::rest,by simp only[valsOf,h6,h4],by simp only[tH,h5]⟩
   ·cases hv
  ·cases h
theorem Yi{np:Nat}{gs env more gs':Q1}(henv:env=gs++more)(hn:gs.length=np){l:Q2}(hv:valsOf (λn=>env[n]?) l=some gs'):∀{al:List QR},Gp np l al=true->∀r,tH al gs' r=tH al gs r
 |[],_,r=>rfl
 |none::al,h,[]=>rfl
 |none::al,h,x::r=>by simp only[Gp]at h;simp only[tH,Yi henv hn hv h r]
 |some i::al,h,r=>by
  simp only[Gp,aK,jd]at h;obtain⟨h1,h2,h3⟩:=h;split at h2
  ·next m hm=>
   have:=bD h2;subst this;have h4:gs'[m]? =gs[m]?:=by
    rw[abG hv m m hm];show env[m]? =gs[m]?
    rw[henv,mP (by omega)]
   simp only[tH,Yi henv hn hv h3 r,h4]
  ·cases h2
theorem acQ{np:Nat}{l:Q2}:∀{posts:XN},Q9 np l posts=true->∀p∈posts,Gp np l p.2.al=true
 |q::posts,h,p,hp=>by
  simp only[Q9,aK]at h;rcases bG.1 hp with rfl|hp
  ·exact h.1
  ·exact acQ h.2 p hp
def uz(P:Program)(tabs:Qt)(b:Code)(pre:gU)(posts:XN)(gs out:Q1):Prop:=
 ∃(t:Nat)(r rest:Q1)(e:dZ)(s:gU),out=GV.i .i64 t::r/\posts[t]? =some (e,s)/\tH s.al gs r=some rest/\rest.length=s.np/\∀w0 dK A w K,QJ P tabs pre gs w0 dK A w->(∀A' w',QJ P tabs s rest w0 dK A' w'->K e.toExit A' w')->zL P b K A w
theorem Z8{T:aH}{tag:Nat}{t0:Nat}(htag:T.val tag=some (.i .i64 (t0:Nat))):∀(l:XN)(t:Nat){p:dZ×gU},@I5 T.togG tag l t=some p->t<=t0->∀q,l[t0-t]? =some q->p=q
 |[],t,p,h,_,q,hq=>by simp[I5]at h
 |[x],t,p,h,hle,q,hq=>by
  simp only[I5,aW]at h;cases hd:t0-t with
  |zero=>rw[hd]at hq;simp at hq;rw[<-h,hq]
  |succ n=>rw[hd]at hq;simp at hq
 |x::y::l,t,p,h,hle,q,hq=>by
  letI:=T
  simp only[I5]at h;split at h
  ·next c hc=>
   split at h
   ·next b hb=>
    obtain⟨g1,k1,k2⟩:=gB hc;simp only[Nd.den,aW]at k2;subst k2;obtain⟨g2,m1,m2⟩:=gB hb;have ar1:aH.val tag=some (.i .i64 (t0:Nat)):=htag;simp only[Nd.den,ar1,k1,gZ,if_true,bQ,aW]at m2;split at h
    ·next hd=>
     cases h;have:=T.Ak b true (Ol hd);have Zw:T.val b=some g2:=m1;rw[Zw]at this;cases this;simp at m2;have:t0-t=0:=by omega
     rw[this]at hq;simpa using hq
    ·next hd=>
     have:=T.Ak b false (Ol hd);have Zw:T.val b=some g2:=m1;rw[Zw]at this;cases this;simp at m2;have e:t0-t=(t0-(t+1))+1:=by omega
     rw[e,uw]at hq;exact Z8 htag (y::l) (t+1) h (by omega) q hq
    ·cases h
   ·cases h
  ·cases h
theorem Pv{T:aH}{key:Nat}{ps:Q2}{gs out:Q1}(hps:valsOf T.val ps=some gs)(hI:T.I key gs=some out):∀(n j:Nat)(al:List QR){ns:Q2}{r rest:Q1},(∀k:Nat,r[k]? =out[j+k]?)->tH al gs r=some rest->@Bc T.togG key ps al j n=some ns->ns.length=n/\∀(i m:Nat),ns[i]? =some m->T.val m=rest[i]?
 |0,j,al,ns,r,rest,_,_,h=>by
  letI:=T
  have:ns=[]:=by unfold Bc at h;simpa using h.symm
  subst this;simp
 |n+1,j,some i0::al,ns,r,rest,hr,he,h=>by
  letI:=T
  simp only[Bc]at h;simp only[tH]at he;split at he
  ·next g l hg hl=>
   cases he;split at h
   ·next m r' hm hr'=>
    cases h;obtain⟨h1,h2⟩:=Pv hps hI n j al hr hl hr';refine⟨by simp[h1],λi m' hi=>?_⟩;cases i with
    |zero=>simp at hi;subst hi;have:=abG hps i0 m hm;rw[jS,<-hg];exact this.symm
    |succ i=>simpa using h2 i m' (by simpa using hi)
   ·cases h
  ·cases he
 |n+1,j,none::al,ns,[],rest,hr,he,h=>by simp[tH]at he
 |n+1,j,none::al,ns,x::r,rest,hr,he,h=>by
  letI:=T
  simp only[Bc]at h;simp only[tH]at he;split at he
  ·next l hl=>
   cases he;split at h
   ·next m r' hm hr'=>
    cases h;obtain⟨h1,h2⟩:=Pv hps hI n (j+1) al (r:=r) (λk=>by have:=hr (k+1);rw[uw]at this;rw[this];congr 1;omega) hl hr'
    refine⟨by simp[h1],λi m' hi=>?_⟩;cases i with
    |zero=>simp at hi;subst hi;obtain⟨g,k1,k2⟩:=gB hm;have YV:valsOf aH.val ps=some gs:=hps;have hI':aH.I key gs=some out:=hI;simp only[Nd.den,YV,hI']at k2;have k1':T.val m=some g:=k1;have:=hr 0;simp only[jS,nC]at this;rw[k1',jS,this];exact k2.symm
    |succ i=>simpa using h2 i m' (by simpa using hi)
   ·cases h
  ·cases he
 |n+1,j,[],ns,r,rest,hr,he,h=>by
  letI:=T
  simp only[Bc]at h;simp only[tH,aW]at he;subst he;split at h
  ·next m r' hm hr'=>
   cases h;obtain⟨h1,h2⟩:=Pv hps hI n (j+1) [] (r:=r.tail) (λk=>by have:=hr (k+1);rw[List.getElem?_tail,this];congr 1;omega) rfl hr'
   refine⟨by simp[h1],λi m' hi=>?_⟩;cases i with
   |zero=>simp at hi;subst hi;obtain⟨g,k1,k2⟩:=gB hm;have YV:valsOf aH.val ps=some gs:=hps;have hI':aH.I key gs=some out:=hI;simp only[Nd.den,YV,hI']at k2;have k1':T.val m=some g:=k1;have:=hr 0;rw[nC]at this;rw[k1',this];exact k2.symm
   |succ i=>have:=h2 i m' (by simpa using hi);rw[this,List.getElem?_tail]
  ·cases h
theorem Zm{T:aH}{tabs:Qt}(tV:T.tabs=tabs)(hlow:uH tabs P.globals.size){sp:aJ}(hok:sp.pre.ok=true){b:Code}(hC:∀gs out,T.I sp.key gs=some out->uz P tabs b sp.pre sp.posts gs out)
 {a a':bg} {J J':aA} {e:dZ} (h:@Zl T.togG P tabs sp a J=some (e,a',J')) {Q:dZ->bg->aA->Prop} (hq:Q e a' J'):@BD T P b a J Q:=by
 letI:=T
 unfold Zl at h;split at h
 ·next ps hps=>
  split at h
  ·next hfit=>
   split at h
   ·next tag htag=>
    split at h
    ·next e' s hpick=>
     split at h;rotate_left
     ·cases h
     next Y0=>
     have Y0:=bD Y0;split at h
     ·next ns hns=>
      cases h;obtain⟨gt,t1,t2⟩:=gB htag;simp only[Nd.den]at t2;split at t2
      ·next gs hgs=>
       split at t2
       ·next out hI=>
        obtain⟨t,r,rest,e2,s2,rfl,hp2,hex,hrl,hrun⟩:=hC gs out hI;simp only[jS,aW]at t2;subst t2;have hpe:=Z8 t1 sp.posts 0 hpick (ql _) (e2,s2) (by simpa using hp2);cases hpe;obtain⟨n1,n2⟩:=Pv hgs hI _ 1 s.al (r:=r) (λk=>by rw[JM,uw]) hex hns;intro w0 dK F w A K hF hl ht hK;unfold fits at hfit;rw[aK]at hfit;have hst:=ZA tV hlow hok hF hl ht hfit.2 hgs;refine hrun w0 dK A w K hst λA' w' hs'=>?_;obtain⟨F',hF',ht'⟩:=aa6 (T:=T) (f:=λj=>ns.getD j 0) tV Y0.symm (λj g hj=>by
         have hjl:j<ns.length:=by have:=(eU.1 hj).1;omega
         have hm:ns[j]? =some (ns.getD j 0):=by rw[xR,bK hjl];rfl
         rw[n2 j _ hm];exact hj) hs'
        exact hK e _ _ F' A' w' hq hF' rfl ht'
       ·cases t2
      ·cases t2
     ·cases h
    ·cases h
   ·cases h
  ·cases h
 ·cases h
theorem abE{val:W6}:∀{l:Q2}{gs:Q1},valsOf val l=some gs->gs.length=l.length
 |[],gs,h=>by simp only[valsOf,aW]at h;subst h;rfl
 |x::l,gs,h=>by
  simp only[valsOf]at h;split at h
  ·next h5 h6=>cases h;simp[abE h6]
  ·cases h
def dZ.eq:dZ->dZ->Bool
 |.normal,.normal=>true
 |.ret,.ret=>true
 |.exit a,.exit b=>Nat.beq a b
 |_,_=>false
theorem dZ.eq_of{a b:dZ}(h:a.eq b=true):a=b:=by
 cases a<;>cases b<;>first|rfl|(cases h;done)|skip
 rw[bD h]
abbrev kV:=gG->List (FuncId×dX)
def xW(P:Program)(tabs:Qt)(I:iC)(pl:kV):Prop:=∀T:aH,T.tabs=tabs->T.I=I->∀p∈pl T.togG,@dN T P p.1 p.2
def Jb(P:Program)(N:gG)(pl:kV)(fuel:Nat):Code->bg->aA->Option (dZ×bg×aA):=@Ef N P (Xe P) (aaH (pl N)) fuel
def DY(P:Program)(tabs:Qt)(N:gG)(specs:Wo):WU:=λk a J=>match cZ k specs with
 |some sp=>@Zl N P tabs sp a J
 |none=>none
def Ut(P:Program)(tabs:Qt)(pl:kV)(specs:Wo)(fuel:Nat)(sp:aJ)(ac:AC)(ns:List Nd)(ds:Wd)(lf:Leaf):Bool:=
 match @vO ⟨ns,ds,sp.pre.ka⟩ (DY P tabs ⟨ns,ds,sp.pre.ka⟩ specs) (Jb P ⟨ns,ds,sp.pre.ka⟩ pl fuel) ac (sp.pre.Q8 λj=>j) (sp.pre.DX tabs λj=>j)with
 |some (e,a',J')=>match lf with
  |.ret (tn::l)=>match ns[tn]? with
   |some (.ci .i64 t)=>match sp.posts[t.toNat]? with
    |some (e',s)=>decide (0<=t)&&!(e.eq .normal)&&e.eq e'&&s.ok&&(match CO sp.pre.np s.al l with|some l2=>@fits ⟨ns,ds,sp.pre.ka⟩ P s a' J' l2|none=>false)
    |none=>false
   |_=>false
  |.tail f l=>Nat.beq f sp.key&&e.eq .normal&&(Q9 sp.pre.np l sp.posts&&@fits ⟨ns,ds,sp.pre.ka⟩ P sp.pre a' J' l)
  |_=>false
 |none=>false
@[reducible] def Tw(tabs:Qt)(I:iC)(ka:Nat){ns:List Nd}{ds:Wd}{env:Q1}(h:BQ I ns ds env):aH:={nodes:=ns,dec:=ds,ka:=ka,tabs:=tabs,I:=I,val:=λn=>env[n]?,qE:=h.node,Ak:=h.dec}
theorem BQ.start(I:iC)(gs:Q1)(n:Nat)(h:gs.length=n):BQ I (List.replicate n .arg) [] gs:=
 ⟨by simp[h],λk nd hk hn=>absurd (acr.1 (rC hk)).2 hn,λk b hb=>by simp at hb⟩
theorem aaY{T:aH}(hm:P.follows .mixedOrders=true)(hn:vI P){pl:kV}(hp:∀p∈pl T.togG,@dN T P p.1 p.2)(fuel:Nat):@NG T P (Jb P T.togG pl fuel):=
 (@adR T P _ _ (aej hm) (ahR hp) hn fuel).1
theorem uz.Pm{tabs:Qt}(hlow:uH tabs P.globals.size)(hm:P.follows .mixedOrders=true)(hn:vI P){pl:kV}{I:iC}(hpl:xW P tabs I pl){specs:Wo}{fuel:Nat}{sp:aJ}(hok:sp.pre.ok=true){ps:Q2}{b:Code}{t:Tree}
 (H8:∀k sp',cZ k specs=some sp'->sp'.pre.ok=true/\∀c,(mW ps b).oz k c->∀gs out,I sp'.key gs=some out->uz P tabs c sp'.pre sp'.posts gs out)
 (hself:∀gs out,I sp.key gs=some out->uz P tabs b sp.pre sp.posts gs out)
 (zk:t.chk (Ut P tabs pl specs fuel sp (mW ps b)) (List.replicate sp.pre.np .arg) []=true) {gs out:Q1} (hlen:gs.length=sp.pre.np) (hd:t.den I gs=some out):uz P tabs b sp.pre sp.posts gs out:=by
 obtain⟨ns,ds,env,lf,h1,h2,⟨more,h3⟩,h4⟩:=Tree.Ku t zk (BQ.start I gs _ hlen) hd;let T:aH:=Tw tabs I sp.pre.ka h2
 unfold Ut at h1;split at h1
 ·next e a' J' hrun=>
  have KQ:∀Q:dZ->bg->aA->Prop,Q e a' J'->@AT T P b (sp.pre.Q8 λj=>j) (sp.pre.DX tabs λj=>j) Q:=by
   intro Q hq;have:=@Xi P T (DY P tabs ⟨ns,ds,sp.pre.ka⟩ specs) (Jb P ⟨ns,ds,sp.pre.ka⟩ pl fuel) (aaY (T:=T) hm hn (hpl T rfl rfl) fuel) (mW ps b) (x9 ps b 0).2 (λk c hk a J e1 a1 J1 hs Q' hq'=>by
    unfold DY at hs;split at hs
    ·next sp' hsp=>
     obtain⟨k1,k2⟩:=H8 k sp' hsp;exact Zm (T:=T) rfl hlow k1 (λgs out hI=>k2 c hk gs out hI) hs hq'
    ·cases hs) _ _ _ _ _ hrun Q hq
   rwa [show(mW ps b).erase=b from(x9 ps b 0).1]at this
  have henv:∀j g,gs[j]? =some g->T.val ((λj=>j) j)=some g:=by
   intro j g hj;show env[j]? =some g
   rw[h3];have:=(eU.1 hj).1;rw[mP this];exact hj
  split at h1
  ·next tn l=>
   split at h1
   ·next tt htn=>
    split at h1
    ·next e' s hpost=>
     simp only[aK,decide_eq_true_iff]at h1;obtain⟨⟨⟨⟨t0,t1⟩,t2⟩,t3⟩,t4⟩:=h1;split at t4;rotate_left
     ·cases t4
     next l2 hl2=>
     have e1:=dZ.eq_of t2;subst e1;simp only[valsOf]at h4;split at h4
     ·next g r hg hr0=>
      cases h4;obtain⟨g',k1,k2⟩:=h2.node tn _ htn (by simp);have hg':env[tn]? =some g:=hg;rw[hg']at k1;cases k1;simp only[Nd.den,aW]at k2;subst k2;obtain⟨rest,hrest,hex⟩:=SL h3 hlen hl2 hr0;have hfl:rest.length=s.np:=by unfold fits at t4;rw[aK]at t4;rw[<-bD t4.1];exact abE hrest
      refine⟨tt.toNat,r,rest,e,s,by rw[F6 t0],hpost,hex,hfl,λw0 dK A w K hS hK=>zL.step ?_⟩;obtain⟨F,hF,ht⟩:=aa6 (T:=T) (f:=λj=>j) rfl rfl henv hS;refine KQ (λe2 a2 J2=>e2=e/\a2=a'/\J2=J') ⟨rfl,rfl,rfl⟩ w0 dK F w A _ hF rfl ht ?_;rintro e2 a2 J2 F' A' w' ⟨rfl,rfl,rfl⟩ hF' hl' ht'
      unfold fits at t4;rw[aK]at t4;have hst:=ZA (T:=T) rfl hlow t3 hF' hl' ht' t4.2 hrest;have:=hK A' w' hst;cases e2 with
      |normal=>simp[dZ.eq]at t1
      |exit id=>exact this
      |ret=>exact this
     ·cases h4
    ·cases h1
   ·cases h1
  ·next f l=>
   simp only[aK]at h1;obtain⟨⟨t1,t2⟩,t5,t3⟩:=h1;have e1:=dZ.eq_of t2;subst e1;have e2:=bD t1;subst e2;obtain⟨gs',hgs',hI⟩:=h4;obtain⟨tn,r,rest,e2,s,r1,r2,r5,r3,r4⟩:=hself gs' out hI;refine⟨tn,r,rest,e2,s,r1,r2,by rw[<-Yi h3 hlen hgs' (acQ t5 _ (rC r2)) r];exact r5,r3,λw0 dK A w K hS hK=>zL.step ?_⟩;obtain⟨F,hF,ht⟩:=aa6 (T:=T) (f:=λj=>j) rfl rfl henv hS;refine KQ (λe2 a2 J2=>e2=.normal/\a2=a'/\J2=J') ⟨rfl,rfl,rfl⟩ w0 dK F w A _ hF rfl ht ?_;rintro e3 a2 J2 F' A' w' ⟨rfl,rfl,rfl⟩ hF' hl' ht'
   unfold fits at t3;rw[aK]at t3;have hst:=ZA (T:=T) rfl hlow hok hF' hl' ht' t3.2 hgs';exact r4 w0 dK A' w' K hst hK
  ·cases h1
 ·cases h1
structure nP(P:Program)(tabs:Qt)(f:FuncId)(st:W4)(sh:WK)(gs out:Q1):Prop where
 call:aj1 P tabs f st gs out
 fits:oW sh out=true
section
variable[gG]
def RI(P:Program)(J:aA)(fz:Q2)(a:AV):QR:=
 match LJ P J a with
 |some (m,none)=>some m
 |some (m,some _)=>if Tn P J fz a m then some m else none
 |none=>none
def Oe(P:Program)(J:aA)(fz:Q2):Q3->Option Q2
 |[]=>some []
 |a::l=>match RI P J fz a,Oe P J fz l with
  |some m,some r=>some (m::r)
  |_,_=>none
def Wh(P:Program)(J:aA)(fz:Q2):AV->Option Nat
 |.agg l=>match Oe P J fz l with
  |some ns=>fF (.mk ns)
  |none=>none
 |a=>RI P J fz a
def valsN(P:Program)(J:aA)(fz:Q2):Q3->Option Q2
 |[]=>some []
 |a::l=>match Wh P J fz a,valsN P J fz l with
  |some m,some r=>some (m::r)
  |_,_=>none
def ae7(P:Program)(J:aA)(a:AV):Q2:=match LJ P J a with
 |some (_,some id)=>[id]
 |_=>[]
def CU(P:Program)(J:aA):Q3->List Nat
 |[]=>[]
 |.agg l::r=>l.flatMap (ae7 P J)++CU P J r
 |a::r=>ae7 P J a++CU P J r
def UW(k:Nat)(ns:Q2)(j:Nat):oG->Option AV
 |.sc=>jV (.call k ns j)
 |.ag n=>match fF (.call k ns j)with
  |some m=>(GX m 0 n).map .agg
  |none=>none
def IW(k:Nat)(ns:Q2):Nat->List oG->Option Q3
 |_,[]=>some []
 |j,s::l=>match UW k ns j s,IW k ns (j+1) l with
  |some a,some r=>some (a::r)
  |_,_=>none
def UZ(P:Program)(k:Nat)(st:W4)(sh:WK):dX:=λNM J=>match Bq st NM with
 |none=>none
 |some args=>
 let fz:=CU P J args
 if fz.all (Nat.ble J.lock ·)then
  match valsN P J fz args with
  |some ns=>match IW k ns 0 sh with
   |some (a::l)=>some (Jl (a::l),kills J fz)
   |_=>none
  |none=>none
 else none
end
theorem Yw{T:aH}{F:Env}{J:aA}{w:World}(h:@SR T P F J w):∀fz:Q2,(∀id∈fz,J.lock<=id)->∃bW,(∀b o,F.ro b=some o->bW b=some o)/\@St T P F J w ⟨F.pl,bW,F.gh⟩ (kills J fz) w/\
 (∀id∈fz,∀o q,J.get id=some o->o.own=true->F id=some q->bW q.bl=w.heap[q.bl]?)
 |[],_=>⟨F.ro,λ_ _ h=>h,@St.refl T _ _ _ _ h,by simp⟩
 |id::fz,hlk=>by
  letI:=T
  obtain⟨bW,h1,h2,h3⟩:=Yw h fz (λk hk=>hlk k (wY _ hk));by_cases hx:∃o q,(kills J fz).get id=some o/\o.own=true/\F id=some q
  ·obtain⟨o,q,ho,hown,hq⟩:=hx;have hst:=St.freeze h2.rel ho hown (by rw[Lc];exact hlk id (by simp)) (show(⟨F.pl,bW,F.gh⟩:Env) id=some q from hq);refine⟨FH bW w q.bl,λb o hb=>Vb h2.rel.iT q.bl b o (h1 b o hb),h2.trans hst,?_⟩;intro id' jy o' q' ho' hown' hq';show(if q'.bl=q.bl then w.heap[q.bl]? else bW q'.bl)=_
   split
   ·next e=>rw[e]
   ·next e=>
    rcases bG.1 jy with rfl|jy
    ·rw[hq]at hq';cases hq';exact absurd rfl e
    ·exact h3 id' jy o' q' ho' hown' hq'
  ·refine⟨bW,h1,h2.Uk id,?_⟩;intro id' jy o' q' ho' hown' hq';rcases bG.1 jy with rfl|jy
   ·by_cases hm:id'∈fz
    ·exact h3 id' hm o' q' ho' hown' hq'
    ·exact absurd ⟨o',q',by rw[Dh,ah hm];exact ho',hown',hq'⟩ hx
   ·exact h3 id' jy o' q' ho' hown' hq'
section
variable{T:aH}{tabs:Qt}{G next:Nat}{F:Env}{J:aA}{w:World}{fz:Q2}{r:W5}{ps:Q2}{gs:Q1}{bW:Qf}
theorem auO{a:AV}{m:Nat}(h:@LJ T.togG P J a=some (m,none)):@iQ T.togG a=some m:=by
 letI:=T
 unfold LJ at h;split at h
 ·next m' hm=>cases h;exact hm
 ·split at h
  ·split at h<;>cases h
  ·split at h
   ·obtain⟨m',_,e⟩:=aZ.1 h;cases e
   ·cases h
  ·cases h
theorem adz(C:vH T P tabs G next F J w fz r ps gs bW){a:AV}{m:Nat}{v:Value}(h:@RI T.togG P J fz a=some m)(hv:@VR T F a v):∃g,T.val m=some g/\g.scalar=true/\GR bW g v:=by
 letI:=T
 unfold RI at h;split at h
 ·next m' hc=>
  cases h;obtain⟨g,k1,k2,k3⟩:=lF (auO hc) hv;exact⟨g,k1,k2,GR.mono C.uj _ _ k3⟩
 ·next m' id hc=>
  split at h
  ·next hf=>
   cases h;have hval:∃g,T.val m=some g:=by
    unfold LJ at hc;split at hc
    ·cases hc
    ·split at hc
     ·next id' n=>
      split at hc
      ·next m2 et f hg=>
       cases hc;rcases C.rel.live _ _ hg with⟨q,hq,hor⟩|⟨_,n2,Yg,f2,e2,hv0⟩
       ·obtain⟨xs,x1,_⟩:=hor.Lr;exact⟨_,x1⟩
       ·cases e2;exact⟨_,hv0⟩
      ·cases hc
     ·split at hc
      ·next c et um opn hg=>
       obtain⟨m2,hl,e⟩:=aZ.1 hc;cases e;unfold listOf at hl;simp only[hg]at hl;split at hl
       ·split at hl
        ·split at hl
         ·split at hl
          ·obtain⟨g,g1,_⟩:=gB hl;exact⟨g,g1⟩
          ·cases hl
         ·cases hl
        ·cases hl
       ·cases hl
      ·cases hc
     ·cases hc
   obtain⟨g,hg⟩:=hval;obtain⟨k1,k2⟩:=ae3 C hf hv hg;exact⟨g,hg,k1,k2⟩
  ·cases h
 ·cases h
theorem adE(C:vH T P tabs G next F J w fz r ps gs bW):∀{l:Q3}{ns:Q2}{vs:Q6},@Oe T.togG P J fz l=some ns->@aC T F l vs->∃gl,valsOf T.val ns=some gl/\gl.all GV.scalar=true/\aO bW gl vs
 |[],ns,vs,h,hv=>by simp only[Oe,aW]at h;subst h;simp only[aC]at hv;subst hv;exact⟨[],rfl,rfl,by simp[aO]⟩
 |a::l,ns,vs,h,hv=>by
  letI:=T
  simp only[Oe]at h;split at h
  ·next m r' hm hr=>
   cases h;simp only[aC]at hv;obtain⟨x,xs,rfl,h1,h2⟩:=hv;obtain⟨g,g1,g2,g3⟩:=adz C hm h1;obtain⟨gl,k1,k2,k3⟩:=adE C hr h2;exact⟨g::gl,by simp only[valsOf,g1,k1],by simp[g2,k2],by simp only[aO];exact⟨x,xs,rfl,g3,k3⟩⟩
  ·cases h
theorem aAN(C:vH T P tabs G next F J w fz r ps gs bW){a:AV}{m:Nat}{v:Value}(h:@Wh T.togG P J fz a=some m)(hv:@VR T F a v):∃g,T.val m=some g/\GR bW g v/\(match a with|.agg l=>∃gl,g=.g gl/\gl.length=l.length|_=>g.scalar=true):=by
 letI:=T
 cases a;case agg l=>
  simp only[Wh]at h;split at h
  ·next ns hns=>
   simp only[VR]at hv;obtain⟨vs,rfl,hvs⟩:=hv;obtain⟨gl,k1,k2,k3⟩:=adE C hns hvs;obtain⟨g,g1,g2⟩:=gB h;have k1':valsOf aH.val ns=some gl:=k1;simp only[Nd.den,k1',k2,if_true,aW]at g2;subst g2;exact⟨_,g1,by simp only[GR];exact⟨vs,rfl,k3⟩,gl,rfl,by rw[k3.length,hvs.length]⟩
  ·cases h
 all_goals
  simp only[Wh]at h;obtain⟨g,g1,g2,g3⟩:=adz C h hv;exact⟨g,g1,g3,g2⟩
theorem abD(C:vH T P tabs G next F J w fz r ps gs bW):∀{l:Q3}{ns:Q2}{vs:Q6},@valsN T.togG P J fz l=some ns->@aC T F l vs->∃gl,valsOf T.val ns=some gl/\aO bW gl vs
 |[],ns,vs,h,hv=>by simp only[valsN,aW]at h;subst h;simp only[aC]at hv;subst hv;exact⟨[],rfl,by simp[aO]⟩
 |a::l,ns,vs,h,hv=>by
  letI:=T
  simp only[valsN]at h;split at h
  ·next m r' hm hr=>
   cases h;simp only[aC]at hv;obtain⟨x,xs,rfl,h1,h2⟩:=hv;obtain⟨g,g1,g2,_⟩:=aAN C hm h1;obtain⟨gl,k1,k2⟩:=abD C hr h2;exact⟨g::gl,by simp only[valsOf,g1,k1],by simp only[aO];exact⟨x,xs,rfl,g2,k2⟩⟩
  ·cases h
theorem ZR{k:Nat}{ns:Q2}{gl out:Q1}(hns:valsOf T.val ns=some gl)(hI:T.I k gl=some out){F':Env}:∀{sh:WK}{j:Nat}{l:Q3}{us:Q6}{rest:Q1},@IW T.togG k ns j sh=some l->oW sh rest=true->(∀i,rest[i]? =out[j+i]?)->aO F'.ro rest us->@aC T F' l us
 |[],j,l,us,rest,h,hf,hr,hg=>by
  cases rest with
  |cons a b=>simp[oW]at hf
  |nil=>simp only[IW,aW]at h;subst h;simp only[aO]at hg;subst hg;simp[aC]
 |s::sh,j,l,us,rest,h,hf,hr,hg=>by
  letI:=T
  cases rest with
  |nil=>cases s<;>simp[oW]at hf
  |cons g rest=>
   simp only[IW]at h;split at h
   ·next a r' ha hr'=>
    cases h;simp only[aO]at hg;obtain⟨u,us',rfl,g1,g2⟩:=hg;have h0:=hr 0;simp only[jS,nC]at h0;have hden:(Nd.call k ns j).den aH.I aH.val=some g:=by have arR:valsOf aH.val ns=some gl:=hns;have hI':aH.I k gl=some out:=hI;simp only[Nd.den,arR,hI'];exact h0.symm
    have hrest:∀i,rest[i]? =out[j+1+i]?:=λi=>by have:=hr (i+1);rw[uw]at this;rw[this];congr 1;omega
    cases s with
    |sc=>simp only[oW,aK]at hf;refine⟨u,us',rfl,?_,ZR hns hI hr' hf.2 hrest g2⟩;obtain⟨_,g',_,k2,k3⟩:=mF (F:=F') ha;rw[hden]at k2;cases k2;exact k3 u hf.1 g1
    |ag n=>
     simp only[oW,aK]at hf;refine⟨u,us',rfl,?_,ZR hns hI hr' hf.2 hrest g2⟩;simp only[UW]at ha;split at ha
     ·next m hm=>
      obtain⟨l',hl',rfl⟩:=aZ.1 ha;obtain⟨g',k1,k2⟩:=gB hm;rw[hden]at k2;cases k2;obtain⟨r'',h5,h6⟩:=RN (F:=F') k1 n 0 hl';cases g with
      |g cs=>have hlen:=bD hf.1.2;simp only[GR]at g1;obtain⟨vs,rfl,hvs⟩:=g1;simp only[VR];refine⟨vs,rfl,h6 vs ?_⟩;obtain⟨e1,e2,_⟩:=qV h5;have hlen':cs.length=n:=hlen;rw[e1,dD,jZ (by rw[lS];show cs.length<=n;omega)];exact(ou _ _).1 hvs
      |_=>simp[GV.scalar]at hf
     ·cases ha
   ·cases h
theorem ajk{T:aH}{F:Env}{l:Q3}{us:Q6}(h:@aC T F l us):@VR T F (Jl l) (Bv us):=by
 letI:=T
 have hl:=h.length;match l,us,h,hl with
 |[a],[u],h,_=>simp only[aC]at h;obtain⟨x,xs,e,h1,h2⟩:=h;cases e;exact h1
 |[],[],h,_=>show VR F (.dP []) (.tuple ⟨[]⟩);simp only[VR];exact⟨_,rfl,h⟩
 |a::b::l,u::u'::us,h,_=>show VR F (.dP _) (.tuple ⟨_⟩);simp only[VR];exact⟨_,rfl,h⟩
 |[],_::_,_,hl=>simp at hl
 |[_],[],_,hl=>simp at hl
 |[_],_::_::_,_,hl=>simp at hl
 |_::_::_,[],_,hl=>simp at hl
 |_::_::_,[_],_,hl=>simp at hl
theorem ahh{f:FuncId}{k:Nat}{st:W4}{sh:WK}(hC:∀gs out,T.I k gs=some out->nP P T.tabs f st sh gs out):@dN T P f (@UZ T.togG P k st sh):=by
 letI:=T
 intro NM J rr J' hs F w vs0 hS hv0;unfold UZ at hs;split at hs
 ·cases hs
 next args htk=>
 obtain⟨vs,rfl,hv⟩:=V3 htk hv0;simp only at hs;split at hs
 ·next hlk=>
  have CZ:∀id∈CU P J args,J.lock<=id:=λid hid=>sO (List.all_eq_true.1 hlk id hid);split at hs
  ·next ns hns=>
   split at hs
   ·next a0 l hl=>
    cases hs;obtain⟨bW,f1,f2,f3⟩:=Yw hS (CU P J args) CZ;have C:vH T P T.tabs P.globals.size (P.globals.size+1) F J w (CU P J args) [] [] [] bW:=⟨hS,rfl,f1,f3,rfl,BM _⟩
    obtain⟨gl,k1,k2⟩:=abD C hns hv;have hI:∃out,T.I k gl=some out:=by
     have hden:∀{m g},fF (.call k ns 0)=some m->aH.val m=some g->∃out,T.I k gl=some out:=by
      intro m g hm hg;obtain⟨g',_,d2⟩:=gB hm;have k1':valsOf aH.val ns=some gl:=k1;simp only[Nd.den,k1']at d2;split at d2
      ·next r hr=>exact⟨r,hr⟩
      ·cases d2
     cases sh with
     |nil=>simp[IW]at hl
     |cons s sh=>
      simp only[IW]at hl;split at hl
      ·next a1 r1 ha1 _=>
       cases s with
       |sc=>
        simp only[UW,jV]at ha1;split at ha1
        ·next m hm=>obtain⟨g,g1,_⟩:=gB hm;exact hden hm g1
        ·cases ha1
       |ag n=>
        simp only[UW]at ha1;split at ha1
        ·next m hm=>obtain⟨g,g1,_⟩:=gB hm;exact hden hm g1
        ·cases ha1
      ·cases hl
    obtain⟨out,hI⟩:=hI;obtain⟨hcall,hfit⟩:=hC gl out hI;refine kQ.mono (hcall bW w vs f2.rel.Ve k2) ?_;rintro v w' ⟨ro',hro,us,rfl,hus⟩
    have hst:=St.auz (ro':=ro') f2.rel hro;refine⟨_,f2.trans hst,ajk (ZR k1 hI (F':=⟨F.pl,ro',F.gh⟩) hl hfit (λi=>by simp) hus)⟩
   ·cases hs
  ·cases hs
 ·cases hs
def aaV:WK->List AV->Bool
 |[],[]=>true
 |.sc::l,a::m=>(match a with|.agg _=>false|_=>true)&&aaV l m
 |.ag n::l,a::m=>(match a with|.agg c=>Nat.beq c.length n|_=>false)&&aaV l m
 |_,_=>false
section
variable[gG]
def Gt:Nat->List oG->Option Q3
 |_,[]=>some []
 |j,.sc::l=>match Gt (j+1) l with
  |some r=>some (.nd j::r)
  |none=>none
 |j,.ag n::l=>match GX j 0 n,Gt (j+1) l with
  |some c,some r=>some (.agg c::r)
  |_,_=>none
end
theorem Xp{F:Env}:∀{sh:WK}{j:Nat}{l:Q3}{vs:Q6}{rest:Q1},@Gt T.togG j sh=some l->oW sh rest=true->(∀i g,rest[i]? =some g->T.val (j+i)=some g)->aO F.ro rest vs->@aC T F l vs
 |[],j,l,vs,rest,h,hf,hr,hg=>by
  cases rest with
  |cons a b=>simp[oW]at hf
  |nil=>simp only[Gt,aW]at h;subst h;simp only[aO]at hg;subst hg;simp[aC]
 |s::sh,j,l,vs,rest,h,hf,hr,hg=>by
  letI:=T
  cases rest with
  |nil=>cases s<;>simp[oW]at hf
  |cons g rest=>
   simp only[aO]at hg;obtain⟨u,us,rfl,g1,g2⟩:=hg;have h0:=hr 0 g (by simp);have hrest:∀i g,rest[i]? =some g->T.val (j+1+i)=some g:=λi g hi=>by have:=hr (i+1) g (by simpa using hi);rw[<-this];congr 1;omega
   cases s with
   |sc=>
    simp only[Gt]at h;split at h
    ·next r' hr'=>
     cases h;simp only[oW,aK]at hf;exact⟨u,us,rfl,by simp only[VR];exact⟨g,h0,hf.1,g1⟩,Xp hr' hf.2 hrest g2⟩
    ·cases h
   |ag n=>
    simp only[Gt]at h;split at h
    ·next c r' hc hr'=>
     cases h;simp only[oW,aK]at hf;refine⟨u,us,rfl,?_,Xp hr' hf.2 hrest g2⟩;obtain⟨r'',h5,h6⟩:=RN (F:=F) h0 n 0 hc;cases g with
     |g cs=>have hlen:=bD hf.1.2;simp only[GR]at g1;obtain⟨vs,rfl,hvs⟩:=g1;simp only[VR];refine⟨vs,rfl,h6 vs ?_⟩;obtain⟨e1,e2,_⟩:=qV h5;have hlen':cs.length=n:=hlen;rw[e1,dD,jZ (by rw[lS];show cs.length<=n;omega)];exact(ou _ _).1 hvs
     |_=>simp[GV.scalar]at hf
    ·cases h
def Zq(P:Program)(tabs:Qt)(pl:kV)(specs:Wo)(fuel:Nat)(st:W4)(wK yD:WK)(ntmps:Nat)(res:List ResultVar)(ac:AC)(ns:List Nd)(ds:Wd)(lf:Leaf):Bool:=
 match lf with
 |.ret l=>match @Gt ⟨ns,ds,0⟩ 0 wK with
  |some args=>match @vO ⟨ns,ds,0⟩ (DY P tabs ⟨ns,ds,0⟩ specs) (Jb P ⟨ns,ds,0⟩ pl fuel) ac {t:=yU (wE st args) 0 .nil,n:=max (wE st args).length ntmps,gn:=P.globals.size} ⟨oV (vk tabs),P.globals.size+1,0⟩with
   |some (e,a',J')=>(match e with|.exit _=>false|_=>true)&&match zW P J' a' res with
    |some rs=>aaV yD rs&&match @valsN ⟨ns,ds,0⟩ P J' (@CU ⟨ns,ds,0⟩ P J' rs) rs with
     |some l'=>xF l l'
     |none=>false
    |none=>false
   |none=>false
  |none=>false
 |_=>false
theorem VX(hlow:uH tabs P.globals.size)(tV:T.tabs=tabs):@yR T ⟨oV (vk tabs),P.globals.size+1,0⟩ P.globals.size:=by refine⟨Nat.lt_succ_self _,λid o ho=>?_⟩;have hm:=Pj (show(oV (vk tabs)).get id=some o from ho);obtain⟨p,hp,e⟩:=qj.1 hm;cases e;exact⟨p.2,rfl,by rw[tV];exact hp,hlow.low p hp⟩
theorem nP.Pm{tabs:Qt}(hlow:uH tabs P.globals.size)(hm:P.follows .mixedOrders=true)(hn:vI P){pl:kV}{I:iC}(hpl:xW P tabs I pl){specs:Wo}{fuel:Nat}{f:FuncId}{fn:Func}{c:Code}{pe:Q2}{st:W4}{wK yD:WK}{t:Tree}
 (hf:P.funcs[f]? =some fn) (hc:fn.body=some c)
 (H8:∀k sp',cZ k specs=some sp'->sp'.pre.ok=true/\∀b,(mW pe c).oz k b->∀gs out,I sp'.key gs=some out->uz P tabs b sp'.pre sp'.posts gs out)
 (zk:t.chk (Zq P tabs pl specs fuel st wK yD fn.ntmps fn.results.toList (mW pe c)) (List.replicate wK.length .arg) []=true) {gs out:Q1} (hd:(aF.fn wK yD t).den I gs=some out):nP P tabs f st yD gs out:=by
 simp only[aF.den]at hd;split at hd;rotate_left
 ·cases hd
 next hfit=>
 split at hd;rotate_left
 ·cases hd
 next aDv hd0=>
 split at hd;rotate_left
 ·cases hd
 next hfo=>
 cases hd;have hd:=hd0;have hlen:gs.length=wK.length:=by
  clear hd hd0 zk;induction wK generalizing gs with
  |nil=>cases gs with|nil=>rfl|cons _ _=>simp[oW]at hfit
  |cons s sh ih=>cases gs with
   |nil=>cases s<;>simp[oW]at hfit
   |cons g gs=>cases s<;>simp only[oW,aK]at hfit<;>simp[ih hfit.2]
 obtain⟨ns,ds,env,lf,h1,h2,⟨more,h3⟩,h4⟩:=Tree.Ku t zk (BQ.start I gs _ hlen) hd;let T:aH:=Tw tabs I 0 h2
 unfold Zq at h1;split at h1
 ·next l=>
  split at h1
  ·next args hargs=>
   split at h1
   ·next e a' J' hrun=>
    rw[aK]at h1;obtain⟨he,h1⟩:=h1;split at h1
    ·next rs hrs=>
     rw[aK]at h1;obtain⟨hrf,h1⟩:=h1;split at h1
     ·next l' hl'=>
      have hll:=ZG h1;subst hll;have KQ:∀Q:dZ->bg->aA->Prop,Q e a' J'->@AT T P c {t:=yU (wE st args) 0 .nil,n:=max (wE st args).length fn.ntmps,gn:=P.globals.size} ⟨oV (vk tabs),P.globals.size+1,0⟩ Q:=by
       intro Q hq;have:=@Xi P T (DY P tabs ⟨ns,ds,0⟩ specs) (Jb P ⟨ns,ds,0⟩ pl fuel) (aaY (T:=T) hm hn (hpl T rfl rfl) fuel) (mW pe c) (x9 pe c 0).2 (λk b hk a J e1 a1 J1 hs Q' hq'=>by
        unfold DY at hs;split at hs
        ·next sp' hsp=>
         obtain⟨k1,k2⟩:=H8 k sp' hsp;exact Zm (T:=T) rfl hlow k1 (λgs out hI=>k2 b hk gs out hI) hs hq'
        ·cases hs) _ _ _ _ _ hrun Q hq
       rwa [show(mW pe c).erase=c from(x9 pe c 0).1]at this
      have henv:∀i g,gs[i]? =some g->T.val (0+i)=some g:=by
       intro j g hj;show env[0+j]? =some g
       rw[h3,kH];have:=(eU.1 hj).1;rw[mP this];exact hj
      have key:∀ro w vs,xk tabs ro w->aO ro gs vs->Calls P f ⟨wG st vs⟩ w λen w'=>∃v,en=.returned v/\∃ro',Gl ro ro' w w'/\∃us,v=Bv us/\aO ro' out us:=by
       intro ro w vs hro hvs;letI:=T
       have hst:yR (⟨oV (vk tabs),P.globals.size+1,0⟩:aA) P.globals.size:=VX (T:=T) hlow rfl
       have hS0:SR P (uO P.globals.size ⟨oV (vk tabs),P.globals.size+1,0⟩ ro) ⟨oV (vk tabs),P.globals.size+1,0⟩ w:=
        JW hst.1 (λid o ho=>by obtain⟨c,rfl,hmem,hle⟩:=hst.2 id o ho;obtain⟨cs,elem,fr,k1,k2,k3⟩:=hro.tab _ hmem;exact⟨hle,c,rfl,⟨cs,elem,fr,hro.at' _ _ k1,k2,k3⟩⟩) hro.at' (λp hp=>hro.tab p hp)
       have hv0:aC (uO P.globals.size ⟨oV (vk tabs),P.globals.size+1,0⟩ ro) (wE st args) (wG st vs):=U7 (Xp (T:=T) hargs hfit henv hvs);refine calls_of_wp hf hc ?_;refine KQ (λe2 a2 J2=>e2=e/\a2=a'/\J2=J') ⟨rfl,rfl,rfl⟩ (.shut w) ro (uO P.globals.size ⟨oV (vk tabs),P.globals.size+1,0⟩ ro) w _ _ (jK.start hS0 hst.own) rfl (Ye hv0) ?_;rintro e2 a2 J2 F1 A' w' ⟨rfl,rfl,rfl⟩ hF hl0 ht
       obtain⟨us,r1,r2⟩:=PS hF.rel ht (fun|.tmp t=>pure (A'.tmps.getD t undef)|.cell a t=>do loadVar t (<-asAddr (A'.tmps.getD a undef))) (λ_=>rfl) (λ_ _=>rfl) _ _ hrs;obtain⟨bW,f1,f2,f3⟩:=Tj hF hl0 (@CU ⟨ns,ds,0⟩ P J2 rs);have C:vH T P tabs P.globals.size (P.globals.size+1) F1 J2 w' (@CU ⟨ns,ds,0⟩ P J2 rs) [] [] [] bW:=⟨hF.rel,rfl,f1,f3,rfl,BM _⟩
       obtain⟨gl,k1,k2⟩:=abD C hl' r2;have hgl:gl=out:=by have h4':valsOf (λn=>env[n]?) l=some out:=h4;have k1':valsOf (λn=>env[n]?) l=some gl:=k1;rw[k1']at h4';cases h4';rfl
       subst hgl;have hres':(results fn A'.tmps).run P w'=.ok (if h:(⟨us⟩:QQ).size=1 then(⟨us⟩:QQ)[0]else .tuple ⟨us⟩) w':=by unfold results;rw[Wx];simp only[aS,WY];exact uK (λr:Result Q6=>(r.andThen λa w'=>Result.ok a.toArray w').andThen λa w'=>Sem.run P (pure (if h:a.size=1 then a[0]else Value.tuple a)) w') r1
       have Y2:(if h:(⟨us⟩:QQ).size=1 then(⟨us⟩:QQ)[0]else .tuple ⟨us⟩)=Bv us:=by
        match us with
        |[]=>rfl
        |[u]=>rfl
        |u::u'::us=>rfl
       rw[Y2]at hres'
       have hpost:A'.defers=[]/\∃v,(results fn A'.tmps).run P w'=.ok v w'/\∃v',Ending.returned v=.returned v'/\(∃ro',Gl ro ro' w w'/\∃us,v'=Bv us/\aO ro' gl us):=
        ⟨ht.none,_,hres',_,rfl,⟨bW,⟨hF.kept.shut,f2.uj,f2.aic,f2.rel.iT⟩,us,rfl,k2⟩⟩
       cases e2 with
       |normal=>exact hpost
       |ret=>exact hpost
       |exit id=>simp at he
      refine⟨λro w vs hro hvs=>?_,?_⟩
      ·right;refine⟨?_,Calls.mono' (key ro w vs hro hvs) ?_⟩
       ·have hname:=hn f fn c hf hc;simp only[callFunc,aS,program,Sem.run,aQ,hf];simp only[hname,iO,if_false,hc,JU,bF]
       ·rintro en w' ⟨v,rfl,h5⟩
        exact⟨v,rfl,h5⟩
      ·exact hfo
     ·cases h1
    ·cases h1
   ·cases h1
  ·cases h1
 ·cases h1
end
end
open Go.RowKit
noncomputable section
variable{P:Program}
section
variable[gG]
end
theorem aO.plain{ro ro2:Qf}:∀{l:Q1}{vs:Q6},(∀g∈l,(∃x,g=.s x)\/∃k n,g=.i k n)->aO ro l vs->aO ro2 l vs
 |[],vs,_,h=>h
 |g::l,vs,hl,h=>by simp only[aO]at h⊢;obtain⟨x,xs,rfl,h1,h2⟩:=h;refine⟨x,xs,rfl,?_,aO.plain (λg hg=>hl g (by simp[hg])) h2⟩;rcases hl g (by simp)with⟨y,rfl⟩|⟨k,n,rfl⟩<;>exact h1
end
noncomputable section
variable{P:Program}
def gU.args(s:gU):Q3:=s.slots.map (·.2)
def Nh(P:Program)(tabs:Qt)(s:gU)(gs:Q1)(w0:Base)(dK:Qf)(vs:Q6)(w:World):Prop:=
 ∃F,@jK (Tg tabs gs s.ka) P w0 dK F (s.st tabs) w/\@aC (Tg tabs gs s.ka) F s.args vs
def Nq(P:Program)(tabs:Qt)(f:FuncId)(st:W4)(pre:gU)(posts:XN)(gs out:Q1):Prop:=
 ∃(t:Nat)(r rest:Q1)(e:dZ)(s:gU),out=GV.i .i64 t::r/\posts[t]? =some (e,s)/\tH s.al gs r=some rest/\rest.length=s.np/\
  ∀w0 dK w vs,Nh P tabs pre gs w0 dK vs w->kQ P f ⟨wG st vs⟩ w λv w'=>∃us,v=Bv us/\Nh P tabs s rest w0 dK us w'
mutual
def AV.ren(U f:Nat->Nat):AV->AV
 |.nd j=>.nd (f j)
 |.rx j off=>.rx (f j) off
 |.sv id j=>.sv (U id) (f j)
 |.p id off=>.p (U id) off
 |.mp id=>.mp (U id)
 |.sl id off len cap=>.sl (U id) off len cap
 |.fn g fi cs=>.fn g (AV.wH U f fi) (AV.wH U f cs)
 |.iW t a=>.iW t (a.ren U f)
 |.agg l=>.agg (AV.wH U f l)
 |.dP l=>.dP (AV.wH U f l)
 |a=>a
def AV.wH(U f:Nat->Nat):Q3->List AV
 |[]=>[]
 |a::l=>a.ren U f::AV.wH U f l
end
mutual
def AV.okS(G:Nat):AV->Bool
 |.sv id _=>Nat.blt G id
 |.sl id _ _ _=>Nat.blt G id
 |.fn _ fi cs=>AV.zF G fi&&AV.zF G cs
 |.iW _ a=>a.okS G
 |.agg l=>AV.zF G l
 |.dP l=>AV.zF G l
 |.nd _|.rx _ _|.p _ _|.mp _|.b _|.i _ _|.s _|.jr|.fV|.yw|.rW|.oU=>true
 |_=>false
def AV.zF(G:Nat):Q3->Bool
 |[]=>true
 |a::l=>a.okS G&&AV.zF G l
end
def bn.ren(U f:Nat->Nat):bn->bn
 |.cells c et rw opn=>.cells (AV.wH U f c) et rw opn
 |.vec j et b=>.vec (f j) et b
 |.smap j kk sz=>.smap (f j) kk sz
 |o=>o
def bn.okS(G:Nat):bn->Bool
 |.cells c _ rw _=>AV.zF G c&&rw
 |.vec _ _ _=>true
 |.smap _ _ _=>true
 |_=>false
theorem aaS(U f:Nat->Nat):∀l:Q3,AV.wH U f l=l.map (AV.ren U f)
 |[]=>rfl
 |a::l=>by simp[AV.wH,aaS U f l]
structure ND(S T:aH)(G:Nat)(U f:Nat->Nat)(F F':Env):Prop where
 val:∀j g,S.val j=some g->T.val (f j)=some g
 pl:∀i q,G<i->F i=some q->F' (U i)=some q
 gl:∀i q,i<=G->F i=some q->∃q',F' (U i)=some q'/\q'.bl=q.bl/\q'.ba=q.ba
 gh:∀i,G<i->F.gh i=true->F'.gh (U i)=true
 ro:∀b o,F.ro b=some o->F'.ro b=some o
section
variable{S T:aH}{G:Nat}{U f:Nat->Nat}{F F':Env}
mutual
theorem VR.ren(h:ND S T G U f F F'):∀(a:AV)(v:Value),a.okS G=true->@VR S F a v->@VR T F' (a.ren U f) v
 |.b _,_,_,hv=>by simpa only[VR,AV.ren]using hv
 |.i _ _,_,_,hv=>by simpa only[VR,AV.ren]using hv
 |.s _,_,_,hv=>by simpa only[VR,AV.ren]using hv
 |.jr,_,_,hv=>by simpa only[VR,AV.ren]using hv
 |.p i off,v,_,hv=>by
  simp only[VR,AV.ren]at hv⊢;obtain⟨q,hq,rfl⟩:=hv;by_cases hi:i<=G
  ·obtain⟨q',h1,h2,h3⟩:=h.gl i q hi hq;exact⟨q',h1,by rw[h2,h3]⟩
  ·exact⟨q,h.pl i q (by omega) hq,rfl⟩
 |.fV,_,_,hv=>by simpa only[VR,AV.ren]using hv
 |.sl i off len cap,v,ho,hv=>by simp only[AV.okS,jd]at ho;simp only[VR,AV.ren]at hv⊢;obtain⟨q,hq,h1,rfl⟩:=hv;exact⟨q,h.pl i q ho hq,h1,rfl⟩
 |.oU,_,_,hv=>by simpa only[VR,AV.ren]using hv
 |.mp i,v,_,hv=>by
  simp only[VR,AV.ren]at hv⊢;obtain⟨q,hq,rfl⟩:=hv;by_cases hi:i<=G
  ·obtain⟨q',h1,h2,h3⟩:=h.gl i q hi hq;exact⟨q',h1,by rw[h2]⟩
  ·exact⟨q,h.pl i q (by omega) hq,rfl⟩
 |.yw,_,_,hv=>by simpa only[VR,AV.ren]using hv
 |.fn _ fi cs,_,ho,hv=>by simp only[AV.okS,aK]at ho;simp only[VR,AV.ren]at hv⊢;obtain⟨us,vs,e,h1,h2⟩:=hv;exact⟨us,vs,e,aC.ren h fi us ho.1 h1,aC.ren h cs vs ho.2 h2⟩
 |.rW,_,_,hv=>by simpa only[VR,AV.ren]using hv
 |.iW _ a,_,ho,hv=>by simp only[AV.okS]at ho;simp only[VR,AV.ren]at hv⊢;obtain⟨x,e,h1⟩:=hv;exact⟨x,e,VR.ren h a x ho h1⟩
 |.agg l,_,ho,hv=>by simp only[AV.okS]at ho;simp only[VR,AV.ren]at hv⊢;obtain⟨x,e,h1⟩:=hv;exact⟨x,e,aC.ren h l x ho h1⟩
 |.dP l,_,ho,hv=>by simp only[AV.okS]at ho;simp only[VR,AV.ren]at hv⊢;obtain⟨x,e,h1⟩:=hv;exact⟨x,e,aC.ren h l x ho h1⟩
 |.z _ _ _,_,ho,_=>by simp[AV.okS]at ho
 |.ro _,_,ho,_=>by simp[AV.okS]at ho
 |.rp _ _,_,ho,_=>by simp[AV.okS]at ho
 |.nd _,_,_,hv=>by simp only[VR,AV.ren]at hv⊢;obtain⟨g,h1,h2,h3⟩:=hv;exact⟨g,h.val _ _ h1,h2,GR.mono h.ro _ _ h3⟩
 |.rx _ _,_,_,hv=>by simp only[VR,AV.ren]at hv⊢;obtain⟨g,bl,base,cs,elem,fr,x,h1,h2,h3,h4⟩:=hv;exact⟨g,bl,base,cs,elem,fr,x,h.val _ _ h1,h.ro _ _ h2,GR.mono h.ro _ _ h3,h4⟩
 |.sv i j,_,ho,hv=>by
  simp only[AV.okS,jd]at ho;simp only[VR,AV.ren]at hv⊢;obtain⟨xs,h1,⟨q,hq,h2⟩|⟨hg,h2⟩⟩:=hv
  ·exact⟨xs,h.val _ _ h1,.inl ⟨q,h.pl i q ho hq,h2⟩⟩
  ·exact⟨xs,h.val _ _ h1,.inr ⟨h.gh i ho hg,h2⟩⟩
 |.pv _ _ _,_,ho,_=>by simp[AV.okS]at ho
 |.pd _ _,_,ho,_=>by simp[AV.okS]at ho
theorem aC.ren(h:ND S T G U f F F'):∀(l:Q3)(vs:Q6),AV.zF G l=true->@aC S F l vs->@aC T F' (AV.wH U f l) vs
 |[],_,_,hv=>by simpa only[aC,AV.wH]using hv
 |a::l,_,ho,hv=>by simp only[AV.zF,aK]at ho;simp only[aC,AV.wH]at hv⊢;obtain⟨x,xs,e,h1,h2⟩:=hv;exact⟨x,xs,e,VR.ren h a x ho.1 h1,aC.ren h l xs ho.2 h2⟩
end
theorem OR.ren(h:ND S T G U f F F'){q:Place}{w:World}{o:bn}(ho:o.okS G=true)(r:@OR S P F q w o):@OR T P F' q w (o.ren U f):=by
 cases o with
 |cells c et um opn=>
  simp only[bn.okS,aK]at ho;obtain⟨cs,elem,fr,h1,⟨r1,r2,r3,r4,r5,r6,r7⟩⟩:=r;have hl:(AV.wH U f c).length=c.length:=by rw[aaS];simp
  have hok:∀a∈c,a.okS G=true:=by
   have:∀l:Q3,AV.zF G l=true->∀a∈l,a.okS G=true:=by
    intro l;induction l with
    |nil=>intro _ a ha;simp at ha
    |cons b l ih=>
     intro h a ha;simp only[AV.zF,aK]at h;rcases bG.1 ha with rfl|ha
     ·exact h.1
     ·exact ih h.2 a ha
   exact this c ho.1
  refine⟨cs,elem,fr,h1,@qY.mk T P F' q _ et um opn cs elem fr r1 (by rw[hl];exact r2) (λe=>by rw[hl];exact r3 e) (λk a hk=>?_) r5 r6 r7⟩;rw[aaS,iP]at hk;obtain⟨a0,h2,rfl⟩:=aZ.1 hk;obtain⟨x,hx,hv⟩:=r4 k a0 h2;exact⟨x,hx,VR.ren h a0 x (hok a0 (rC h2)) hv⟩
 |iter s pos=>simp[bn.okS]at ho
 |map es=>simp[bn.okS]at ho
 |pmap es=>simp[bn.okS]at ho
 |iterM m=>simp[bn.okS]at ho
 |smap j kk sz=>obtain⟨xs,ms,clock,k1,k2,k3⟩:=r;exact⟨xs,ms,clock,h.val _ _ k1,k2,k3.mono h.ro⟩
 |vec j et b=>obtain⟨xs,cs,elem,fr,ys,k1,k2,k3,k4,k5,k6,⟨r1,r2,r3,r4,r5,r6,r7⟩,k8⟩:=r;exact⟨xs,cs,elem,fr,ys,h.val _ _ k1,k2,aO.mono h.ro _ _ k3,k4,k5,k6,@qY.mk T P F' q [] et true true cs elem fr r1 r2 r3 (λk a hk=>by simp at hk) r5 r6 r7,k8⟩
theorem Live.ren(h:ND S T G U f F F'){w:World}{i:Nat}{o:bn}(hi:G<i)(ho:o.okS G=true)(r:@Live S P F w i o):@Live T P F' w (U i) (o.ren U f):=by
 rcases r with⟨q,hq,hr⟩|⟨hg,n,et,b,rfl,hv⟩
 ·exact .inl ⟨q,h.pl i q hi hq,OR.ren h ho hr⟩
 ·exact .inr ⟨h.gh i hi hg,f n,et,b,rfl,h.val _ _ hv⟩
end
theorem bn.ZN{G:Nat}{o:bn}(h:o.okS G=true):o.own=true:=by
 cases o<;>simp only[bn.okS,aK,iO]at h<;>simp[bn.own]
 exact h.2
def rhoC(G ka next:Nat)(r:W5)(i:Nat):Nat:=if i<=G then i else if i<=G+ka then(match cZ i r with|some (some id)=>id|_=>0)else next+(i-(G+ka+1))
def LZ(U f:Nat->Nat):WP->Tr bn->Tr bn
 |[],h=>h
 |p::l,h=>(LZ U f l h).set (U p.1) (some (p.2.ren U f))
def oO:W5->List Nat
 |[]=>[]
 |p::l=>match p.2 with
  |some id=>id::oO l
  |none=>oO l
def SB{α:Type}:List (Nat×α)->Bool
 |[]=>true
 |p::l=>(match cZ p.1 l with|none=>true|some _=>false)&&SB l
def BU(r:W5)(J:aA):Nat->Nat->Bool
 |_,0=>true
 |i,n+1=>(match cZ (i+1) r with
  |some (some id)=>(match J.get id with|some (.cells _ _ _ _)=>true|_=>false)
  |_=>false)&&BU r J (i+1) n
def aaF(s:gU):Bool:=Nat.blt (s.gn+s.ka) s.next&&AV.zF s.gn s.args&&SB s.objs&&s.objs.all λp=>Nat.blt s.gn p.1&&Nat.blt p.1 s.next&&p.2.okS s.gn
section
variable[gG]
def aqh(P:Program)(s:gU)(l:Q3)(J:aA):US:=V6 P s.gn J s.objs (FT P s.gn J s.args l ⟨[],[],[]⟩)
def aqi(P:Program)(s:gU)(l:Q3)(J:aA):US:=V6 P s.gn J s.objs (FT P s.gn J s.args l ⟨Xj s.gn s.ka,[],[]⟩)
def UC(P:Program)(s:gU)(l:Q3)(J:aA)(fz:Q2)(r:W5)(ps:Q2):Bool:=
 Nat.beq s.gn P.globals.size&&Nat.blt (s.gn+s.ka) s.next&&I9 r&&AU P s.gn J fz r ps s.args l&&Ll P s.gn s.next J fz r ps s.objs
def ZV(P:Program)(st:W4)(sp:aJ):dX:=λNM J=>match Bq st NM with
 |none=>none
 |some args=>match aqh P sp.pre args J with
  |⟨r,p,fz⟩=>match aaI p 0 sp.pre.np with
   |none=>none
   |some ps=>
    if UC P sp.pre args J fz r ps&&(fz.all (Nat.ble J.lock ·)&&((oO r).all (λid=>Nat.ble J.lock id&&!(fz.contains id))&&BU r J sp.pre.gn sp.pre.ka))then
     match fF (.call sp.key ps 0)with
     |some tag=>match I5 tag sp.posts 0 with
      |some (_,s)=>if aaF s&&(Nat.beq s.ka sp.pre.ka&&Nat.beq s.gn sp.pre.gn)then match Bc sp.key ps s.al 1 s.np with
       |some ns=>some (Jl (AV.wH (rhoC s.gn s.ka J.next r) (λj=>ns.getD j 0) s.args),⟨LZ (rhoC s.gn s.ka J.next r) (λj=>ns.getD j 0) s.objs (kills (kills J fz) (oO r)).h,J.next+(s.next-(s.gn+s.ka+1)),J.lock⟩)
       |none=>none
       else none
      |none=>none
     |none=>none
    else none
end
theorem aep{α:Type}:∀{l:List (Nat×α)},SB l=true->∀{k:Nat}{v:α},(k,v)∈l->cZ k l=some v
 |[],_,k,v,h=>by simp at h
 |p::l,hd,k,v,h=>by
  simp only[SB,aK]at hd;rcases bG.1 h with e|h
  ·subst e;simp[cZ]
  ·have h1:=aep hd.2 h;simp only[cZ];cases hb:Nat.beq k p.1 with
   |true=>have e:=bD hb;have h2:=hd.1;rw[<-e,h1]at h2;cases h2
   |false=>exact h1
theorem ae9{α:Type}:∀{l m:List (Nat×α)}{k:Nat}{v:α},cZ k l=some v->cZ k (l++m)=some v
 |[],m,k,v,h=>by simp[cZ]at h
 |p::l,m,k,v,h=>by
  simp only[bC,cZ]at h⊢;cases hb:Nat.beq k p.1 with
  |true=>rw[hb]at h;exact h
  |false=>rw[hb]at h;exact ae9 h
theorem ahX{U f:Nat->Nat}:∀{l:WP}{h:Tr bn}{k:Nat}{o:bn},(LZ U f l h).get k=some o->(∃i o0,(i,o0)∈l/\U i=k/\o=o0.ren U f)\/(h.get k=some o/\∀p∈l,U p.1≠k)
 |[],h,k,o,hg=>.inr ⟨hg,λp hp=>by simp at hp⟩
 |q::l,h,k,o,hg=>by
  simp only[LZ,Tr.vY]at hg;split at hg
  ·next e=>cases hg;exact .inl ⟨q.1,q.2,by simp,e.symm,rfl⟩
  ·next e=>
   rcases ahX hg with⟨i,o0,h1,h2,h3⟩|⟨h1,h2⟩
   ·exact .inl ⟨i,o0,wY _ h1,h2,h3⟩
   ·refine .inr ⟨h1,λp hp=>?_⟩;rcases bG.1 hp with rfl|hp
    ·exact λe'=>e e'.symm
    ·exact h2 p hp
theorem afJ{r:W5}:∀{i id:Nat},cZ i r=some (some id)->id∈oO r:=by
 induction r with
 |nil=>intro i id h;simp[cZ]at h
 |cons p l ih=>
  intro i id h;simp only[cZ]at h;cases hb:Nat.beq i p.1 with
  |true=>rw[hb]at h;simp only[cond_true,aW]at h;simp only[oO,h];simp
  |false=>
   rw[hb]at h;have:=ih h;simp only[oO];split
   ·exact wY _ this
   ·exact this
theorem Xk{r:W5}{J:aA}:∀{n i:Nat},BU r J i n=true->∀j,i<j->j<=i+n->∃id c et rw opn,cZ j r=some (some id)/\J.get id=some (.cells c et rw opn)
 |0,i,_,j,h1,h2=>by omega
 |n+1,i,h,j,h1,h2=>by
  simp only[BU,aK]at h;by_cases e:j=i+1
  ·subst e;have h3:=h.1;split at h3
   ·next id hid=>
    split at h3
    ·next c et rw opn hg=>exact⟨id,c,et,rw,opn,hid,hg⟩
    ·cases h3
   ·cases h3
  ·exact Xk h.2 j (by omega) (by omega)
theorem St.auB{T:aH}{tabs:Qt}(tV:T.tabs=tabs){G ka:Nat}(hG:G=P.globals.size){F F2:Env}{J:aA}{w w':World}(h:@SR T P F J w){r:W5}(hinj:I9 r=true)(hlk:∀id∈oO r,J.lock<=id)(YI:BU r J G ka=true)
 {s:gU} (hs:aaF s=true) (hsk:s.ka=ka) (hsg:s.gn=G) {gs:Q1} {f:Nat->Nat} (hf:∀j g,gs[j]? =some g->T.val (f j)=some g)
 (hF:@jK (Tg tabs gs s.ka) P ⟨w,λb=>∃id o q,id∈oO r/\J.get id=some o/\o.own=true/\F id=some q/\q.bl=b,λi=>if G<i/\i<=G+ka then(match cZ i r with|some (some id)=>F id|_=>none)else none⟩ F.ro F2 (s.st tabs) w')
 {vs:Q6} (hv:@aC (Tg tabs gs s.ka) F2 s.args vs):
 ∃F',@St T P F J w F' ⟨LZ (rhoC s.gn s.ka J.next r) f s.objs (kills J (oO r)).h,J.next+(s.next-(s.gn+s.ka+1)),J.lock⟩ w'/\@aC T F' (AV.wH (rhoC s.gn s.ka J.next r) f s.args) vs:=by
 obtain⟨⟨ay6,aiw,azg,aa3,azv,azs,azu,azM⟩,ML,azo,azt,aiT,ayY⟩:=hF;letI:=T
 subst hsk;subst hsg;unfold aaF at hs;simp only[aK,jd]at hs;obtain⟨⟨⟨p1,p2⟩,p3⟩,p4⟩:=hs;have IY:∀i o,(i,o)∈s.objs->s.gn<i/\i<s.next/\o.okS s.gn=true:=by intro i o hm;have:=List.all_eq_true.1 p4 _ hm;simp only[aK,jd]at this;exact⟨this.1.1,this.1.2,this.2⟩
 have P9:∀i o,(i,o)∈s.objs->(s.st tabs).get i=some o:=by
  intro i o hm;show(oV (s.objs++vk tabs)).get i=some o
  rw[IU];exact ae9 (aep p3 hm)
 let B:Nat:=s.gn+s.ka+1
 let F':Env:=⟨λid=>if id<J.next then F id else F2 (id-J.next+B),F2.ro,λid=>if id<J.next then F.gh id else F2.gh (id-J.next+B)⟩
 have YW:∀b o,F.ro b=some o->F2.ro b=some o:=azt;have hext:F.le F':=by
  refine⟨λid q hq=>?_,YW,λid hg=>?_⟩
  ·show(if id<J.next then F id else _)=some q
   rw[aj (h.dom id q hq)];exact hq
  ·show(if id<J.next then F.gh id else _)=true
   rw[aj (h.jH id hg).2];exact hg
 have qO:∀i,s.gn<i->i<=s.gn+s.ka->∃id q,cZ i r=some (some id)/\F id=some q/\F2 i=some q/\id<J.next/\(∃o,J.get id=some o):=by intro i h1 h2;obtain⟨id,c,et,um,opn,g1,g2⟩:=Xk YI i h1 h2;obtain⟨q,hq,_⟩:=h.obj _ _ g2 rfl;have:=(ayY i q (by show(if s.gn<i/\i<=s.gn+s.ka then _ else _)=_;rw[aj ⟨h1,h2⟩,g1];exact hq)).1;exact⟨id,q,g1,hq,this,h.dom id q hq,_,g2⟩
 have Md:∀i id,s.gn<i->i<=s.gn+s.ka->cZ i r=some (some id)->rhoC s.gn s.ka J.next r i=id:=by intro i id h1 h2 h3;unfold rhoC;rw[ah (by omega),aj h2,h3]
 have Ja:∀i,s.gn+s.ka<i->rhoC s.gn s.ka J.next r i=J.next+(i-B):=by intro i h1;unfold rhoC;rw[ah (by omega),ah (by omega)]
 have I7:∀i,s.gn+s.ka<i->F' (J.next+(i-B))=F2 i/\F'.gh (J.next+(i-B))=F2.gh i:=by
  intro i h1;have e:J.next+(i-B)-J.next+B=i:=by show J.next+(i-(s.gn+s.ka+1))-J.next+(s.gn+s.ka+1)=i;omega
  constructor
  ·show(if J.next+(i-B)<J.next then _ else F2 (J.next+(i-B)-J.next+B))=_
   rw[ah (by omega),e]
  ·show(if J.next+(i-B)<J.next then _ else F2.gh (J.next+(i-B)-J.next+B))=_
   rw[ah (by omega),e]
 have afH:ND (Tg tabs gs s.ka) T s.gn (rhoC s.gn s.ka J.next r) f F2 F':=by
  refine⟨hf,λi q hi hq=>?_,λi q hi hq=>?_,λi hi hg=>?_,λ_ _ h=>h⟩
  ·by_cases hk:i<=s.gn+s.ka
   ·obtain⟨id,q',g1,g2,g3,g4,_⟩:=qO i hi hk;rw[Md i id hi hk g1];rw[hq]at g3;cases g3;exact hext.pl _ _ g2
   ·rw[Ja i (by omega),(I7 i (by omega)).1];exact hq
  ·obtain⟨sz,es,e1⟩:=ay6 i (by omega);rw[hq]at e1;cases e1;obtain⟨sz',es',e2⟩:=h.mg i (by omega);refine⟨⟨i,0,sz',es'⟩,?_,rfl,rfl⟩;show F' (rhoC s.gn s.ka J.next r i)=_
   unfold rhoC;rw[aj hi];exact hext.pl _ _ e2
  ·by_cases hk:i<=s.gn+s.ka
   ·obtain⟨id,q',g1,g2,g3,_⟩:=qO i hi hk;rw[(aa3 i hg).1]at g3;cases g3
   ·rw[Ja i (by omega),(I7 i (by omega)).2];exact hg
 have old:∀id o,(kills J (oO r)).get id=some o->id∉oO r/\J.get id=some o:=by
  intro id o hg;rw[Dh]at hg;split at hg
  ·cases hg
  ·next hm=>exact⟨hm,hg⟩
 have UO:∀id o q,id∉oO r->J.get id=some o->F id=some q->∀dJ o0 q0,dJ∈oO r->J.get dJ=some o0->o0.own=true->F dJ=some q0->q0.bl≠q.bl:=by intro id o q hm hg hq dJ o0 q0 hm0 hg0 ho0 hq0;exact h.sep dJ o0 id o q0 q hg0 ho0 hg (λe=>hm (e▸hm0)) hq0 hq
 have asD:∀id o q,id∉oO r->J.get id=some o->F id=some q->q.bl<w.heap.size->w'.heap[q.bl]? =w.heap[q.bl]?:=by
  intro id o q hm hg hq hlt;refine ML.keep q.bl hlt ?_;rintro⟨dJ,o0,q0,a1,a2,a3,a4,a5⟩
  exact UO id o q hm hg hq dJ o0 q0 a1 a2 a3 a4 a5
 have obj:∀k o,(LZ (rhoC s.gn s.ka J.next r) f s.objs (kills J (oO r)).h).get k=some o->(∃i o0,(i,o0)∈s.objs/\rhoC s.gn s.ka J.next r i=k/\o=o0.ren (rhoC s.gn s.ka J.next r) f)\/(k∉oO r/\J.get k=some o/\∀p∈s.objs,rhoC s.gn s.ka J.next r p.1≠k):=by
  intro k o hk;rcases ahX hk with h1|⟨h1,h2⟩
  ·exact .inl h1
  ·obtain⟨h3,h4⟩:=old k o h1;exact .inr ⟨h3,h4,h2⟩
 have LU:∀k o q,J.get k=some o->F' k=some q->F k=some q:=by intro k o q hg hq;have hlt:k<J.next:=h.hasLt (h.OI hg);have hq':(if k<J.next then F k else _)=some q:=hq;rw[aj hlt]at hq';exact hq'
 have plNew:∀i o q,(i,o)∈s.objs->F' (rhoC s.gn s.ka J.next r i)=some q->F2 i=some q:=by
  intro i o q hm hq;obtain⟨g1,g2,g3⟩:=IY i o hm;by_cases hk:i<=s.gn+s.ka
  ·obtain⟨id,q',a1,a2,a3,a4,_⟩:=qO i g1 hk;rw[Md i id g1 hk a1]at hq;have:=hext.pl _ _ a2;rw[hq]at this;cases this;exact a3
  ·rw[Ja i (by omega),(I7 i (by omega)).1]at hq;exact hq
 have aDA:∀i j oi oj,(i,oi)∈s.objs->(j,oj)∈s.objs->rhoC s.gn s.ka J.next r i=rhoC s.gn s.ka J.next r j->i=j:=by
  intro i j oi oj hi hj e;obtain⟨g1,g2,_⟩:=IY i oi hi;obtain⟨k1,k2,_⟩:=IY j oj hj;by_cases c1:i<=s.gn+s.ka<;>by_cases c2:j<=s.gn+s.ka
  ·obtain⟨id,_,a1,_,_,_,_⟩:=qO i g1 c1;obtain⟨id',_,b1,_,_,_,_⟩:=qO j k1 c2;rw[Md i id g1 c1 a1,Md j id' k1 c2 b1]at e;subst e;exact aaP hinj i j id a1 b1
  ·obtain⟨id,_,a1,_,_,a4,_⟩:=qO i g1 c1;rw[Md i id g1 c1 a1,Ja j (by omega)]at e;omega
  ·obtain⟨id,_,a1,_,_,a4,_⟩:=qO j k1 c2;rw[Md j id k1 c2 a1,Ja i (by omega)]at e;omega
  ·rw[Ja i (by omega),Ja j (by omega)]at e;have hB:B=s.gn+s.ka+1:=rfl;omega
 have ZT:∀i o q,(i,o)∈s.objs->F2 i=some q->w.heap.size<=q.bl\/∃id o0 q0,id∈oO r/\J.get id=some o0/\o0.own=true/\F id=some q0/\q0.bl=q.bl:=by intro i o q hm hq;exact azo i o q (P9 i o hm) (bn.ZN (IY i o hm).2.2) hq
 have hlt:∀k o q,J.get k=some o->F k=some q->q.bl<w.heap.size:=λk o q hg hq=>(h.at hg hq).lt;refine⟨F',⟨hext,⟨?_,?_,?_,?_,?_,azs,?_,?_⟩,ML.size,?_,?_,ML.os,ML.tape,ML.output,rfl,Nat.le_add_right _ _,?_,?_⟩,aC.ren afH _ _ p2 hv⟩
 ·intro g hg;obtain⟨sz,es,e⟩:=h.mg g hg;exact⟨sz,es,hext.pl _ _ e⟩
 ·intro id q hq;show id<J.next+(s.next-(s.gn+s.ka+1))
  by_cases hl:id<J.next
  ·omega
  ·have hq':(if id<J.next then F id else F2 (id-J.next+B))=some q:=hq;rw[ah hl]at hq';have:=aiw _ _ hq';have:id-J.next+(s.gn+s.ka+1)<s.next:=this;omega
 ·intro k o hk;rcases obj k o hk with⟨i,o0,h1,rfl,rfl⟩|⟨h1,h2,_⟩
  ·obtain⟨g1,g2,g3⟩:=IY i o0 h1;exact Live.ren afH g1 g3 (azg i o0 (P9 i o0 h1))
  ·refine((h.live k o h2).heap λq hq hor=>?_).mono hext
   exact asD k o q h1 h2 hq hor.lt
 ·intro id hg;have hg':(if id<J.next then F.gh id else F2.gh (id-J.next+B))=true:=hg;show(if id<J.next then F id else F2 (id-J.next+B))=none/\id<J.next+(s.next-(s.gn+s.ka+1))
  by_cases hl:id<J.next
  ·rw[aj hl]at hg'⊢;exact⟨(h.jH id hg').1,by omega⟩
  ·rw[ah hl]at hg'⊢;obtain⟨a1,a2⟩:=aa3 _ hg';have a2':id-J.next+(s.gn+s.ka+1)<s.next:=a2;exact⟨a1,by omega⟩
 ·intro k o k' o' q q' a1 a2 a3 a4 a5 a6;rcases obj k o a1 with⟨i,o0,h1,rfl,rfl⟩|⟨h1,h2,_⟩<;>rcases obj k' o' a3 with⟨j,Ph,k1,rfl,rfl⟩|⟨k1,k2,_⟩
  ·have b1:=plNew i o0 q h1 a5;have b2:=plNew j Ph q' k1 a6;exact azv i o0 j Ph q q' (P9 i o0 h1) (bn.ZN (IY i o0 h1).2.2) (P9 j Ph k1) (λe=>a4 (by rw[e])) b1 b2
  ·have b1:=plNew i o0 q h1 a5;have b2:=LU k' o' q' k2 a6;rcases ZT i o0 q h1 b1 with c1|⟨id,o1,q1,c1,c2,c3,c4,c5⟩
   ·have:=hlt k' o' q' k2 b2;omega
   ·rw[<-c5];exact UO k' o' q' k1 k2 b2 id o1 q1 c1 c2 c3 c4
  ·have b1:=LU k o q h2 a5;have b2:=plNew j Ph q' k1 a6;rcases ZT j Ph q' k1 b2 with c1|⟨id,o1,q1,c1,c2,c3,c4,c5⟩
   ·have:=hlt k o q h2 b1;omega
   ·rw[<-c5];exact λe=>UO k o q h1 h2 b1 id o1 q1 c1 c2 c3 c4 e.symm
  ·exact h.sep k o k' o' q q' h2 a2 k2 a4 (LU k o q h2 a5) (LU k' o' q' k2 a6)
 ·intro k o q a1 a2 a3;rcases obj k o a1 with⟨i,o0,h1,rfl,rfl⟩|⟨h1,h2,_⟩
  ·exact azu i o0 q (P9 i o0 h1) (bn.ZN (IY i o0 h1).2.2) (plNew i o0 q h1 a3)
  ·have b1:=LU k o q h2 a3;show F2.ro q.bl=none
   cases hro:F2.ro q.bl with
   |none=>rfl
   |some x=>
    rcases aiT q.bl (by rw[hro];simp)with c1|c1|⟨id,o1,q1,c1,c2,c3,c4,c5⟩
    ·exact absurd (h.kN k o q h2 a2 b1) c1
    ·have:=hlt k o q h2 b1;have c1':w.heap.size<=q.bl:=c1;omega
    ·exact absurd c5 (UO k o q h1 h2 b1 id o1 q1 c1 c2 c3 c4)
 ·intro p hp;have hp':p∈tabs:=by rw[<-tV];exact hp
  obtain⟨cs,elem,fr,e1,e2⟩:=azM p hp';exact⟨cs,elem,fr,e1,e2⟩
 ·intro bl hbl hno;refine ML.keep bl hbl ?_;rintro⟨id,o,q,a1,a2,a3,a4,a5⟩
  exact hno id o q a2 a3 (hlk id a1) a4 a5
 ·intro k o q a1 a2 a3 a4;rcases obj k o a1 with⟨i,o0,h1,rfl,rfl⟩|⟨h1,h2,_⟩
  ·rcases ZT i o0 q h1 (plNew i o0 q h1 a4)with c1|⟨id,o1,q1,c1,c2,c3,c4,c5⟩
   ·exact .inl c1
   ·exact .inr ⟨id,o1,q1,c2,c3,hlk id c1,c4,c5⟩
  ·exact .inr ⟨k,o,q,h2,a2,a3,LU k o q h2 a4,rfl⟩
 ·intro id hh;by_cases hl:id<J.next
  ·left;rcases hh with⟨q,hq⟩|hg
   ·have hq':(if id<J.next then F id else _)=some q:=hq;rw[aj hl]at hq';exact .inl ⟨q,hq'⟩
   ·have hg':(if id<J.next then F.gh id else _)=true:=hg;rw[aj hl]at hg';exact .inr hg'
  ·right;refine⟨by omega,?_⟩;show id<J.next+(s.next-(s.gn+s.ka+1))
   rcases hh with⟨q,hq⟩|hg
   ·have hq':(if id<J.next then F id else F2 (id-J.next+B))=some q:=hq;rw[ah hl]at hq';have:id-J.next+(s.gn+s.ka+1)<s.next:=aiw _ _ hq';omega
   ·have hg':(if id<J.next then F.gh id else F2.gh (id-J.next+B))=true:=hg;rw[ah hl]at hg';have:id-J.next+(s.gn+s.ka+1)<s.next:=(aa3 _ hg').2;omega
 ·intro b hb;rcases aiT b hb with c1|c1|⟨id,o1,q1,c1,c2,c3,c4,c5⟩
  ·exact .inl c1
  ·exact .inr (.inl c1)
  ·exact .inr (.inr ⟨id,o1,q1,c2,c3,hlk id c1,c4,c5⟩)
theorem auS{T:aH}(hlow:uH T.tabs P.globals.size){f:FuncId}{st:W4}{sp:aJ}(hok:sp.pre.ok=true)(hC:∀gs out,T.I sp.key gs=some out->Nq P T.tabs f st sp.pre sp.posts gs out):@dN T P f (@ZV T.togG P st sp):=by
 letI:=T
 intro NM J rr J' hs F w vs0 hS hv0;unfold ZV at hs;split at hs
 ·cases hs
 next args htk=>
 obtain⟨vs,rfl,hv⟩:=V3 htk hv0;split at hs;next r p fz hfit=>
 split at hs
 ·cases hs
 next ps hps=>
 split at hs;rotate_left
 ·cases hs
 next hm=>
 split at hs;rotate_left
 ·cases hs
 next tag htag=>
 split at hs;rotate_left
 ·cases hs
 next e s hpick=>
 split at hs;rotate_left
 ·cases hs
 next hpost=>
 split at hs;rotate_left
 ·cases hs
 next ns hns=>
 cases hs;rw[aK,aK,aK]at hm;obtain⟨hm,hm1,hm2,hm3⟩:=hm;unfold UC at hm;simp only[aK,jd]at hm;obtain⟨⟨⟨⟨m1,m2⟩,m3⟩,m4⟩,m5⟩:=hm;have m1:=bD m1;rw[aK,aK]at hpost;obtain⟨q1,q2,q3⟩:=hpost;have q2:=bD q2;have q3:=bD q3;unfold gU.ok at hok;rw[aK,aK]at hok;obtain⟨⟨_,hbs⟩,H6⟩:=hok;have hbs:AV.oZ sp.pre.next sp.pre.args=true:=by
  have:∀l:Wf,Es sp.pre.next l=true->AV.oZ sp.pre.next (l.map (·.2))=true:=by
   intro l;induction l with
   |nil=>intro _;rfl
   |cons a l ih=>intro h;simp only[Es,aK]at h;simp only[iD,AV.oZ,aK];exact⟨h.1,ih h.2⟩
  exact this _ hbs
 have arO:∀id∈fz,J.lock<=id:=λid hid=>sO (List.all_eq_true.1 hm1 id hid);have hlk2:∀id∈oO r,J.lock<=id:=λid hid=>by have:=List.all_eq_true.1 hm2 id hid;rw[aK]at this;exact sO this.1
 have arP:∀id∈oO r,id∉fz:=λid hid hm=>by have:=List.all_eq_true.1 hm2 id hid;rw[aK,acd.2 hm]at this;simp at this
 obtain⟨bW,f1,f2,f3⟩:=Yw hS fz arO;obtain⟨gt,t1,t2⟩:=gB htag;simp only[Nd.den]at t2;split at t2;rotate_left
 ·cases t2
 next gs hgs=>
 split at t2;rotate_left
 ·cases t2
 next out hI=>
 obtain⟨t,r0,rest,e2,s2,rfl,hp2,hex,hrl,hrun⟩:=hC gs out hI;simp only[jS,aW]at t2;subst t2;have hpe:=Z8 t1 sp.posts 0 hpick (ql _) (e2,s2) (by simpa using hp2);cases hpe;obtain⟨n1,n2⟩:=Pv hgs hI _ 1 s.al (r:=r0) (λk=>by rw[JM,uw]) hex hns;have hval:∀j g,rest[j]? =some g->T.val (ns.getD j 0)=some g:=by
  intro j g hj;have hjl:j<ns.length:=by have:=(eU.1 hj).1;omega
  have hm:ns[j]? =some (ns.getD j 0):=by rw[xR,bK hjl];rfl
  rw[n2 j _ hm];exact hj
 have C:vH T P T.tabs sp.pre.gn sp.pre.next F J w fz r ps gs bW:=⟨hS,hgs,f1,f3,m1,by omega⟩
 obtain⟨hR,hown⟩:=ZB (ka:=sp.pre.ka) rfl hlow H6 (by omega) m1 C f2.rel.iT (λid o q b2 b3 b4 b5=>f2.rel.kN id o q (by rw[Dh,ah b2];exact b3) b4 b5) m3 m5;let J1:aA:=kills J fz
 let F1:Env:=⟨F.pl,bW,F.gh⟩
 let w0:Base:=⟨w,λb=>∃id o q,id∈oO r/\J1.get id=some o/\o.own=true/\F1 id=some q/\q.bl=b,λi=>if sp.pre.gn<i/\i<=sp.pre.gn+sp.pre.ka then(match cZ i r with|some (some id)=>F1 id|_=>none)else none⟩
 have hF:@jK (Tg T.tabs gs sp.pre.ka) P w0 bW (rU T.tabs sp.pre.gn sp.pre.next r F bW) (sp.pre.st T.tabs) w:=by
  refine @jK.mk (Tg T.tabs gs sp.pre.ka) P w0 bW _ _ w hR ⟨rfl,rfl,rfl,bV _,λ_ _ _=>rfl⟩ ?_ (λ_ _ h=>h) (λ_ h=>.inl h) ?_
  ·intro i o q a1 a2 a3;obtain⟨id,o',b1,b2,b3,b4,b5⟩:=hown i o q a1 a2 a3;exact .inr ⟨id,o',q,afJ b1,by show(kills J fz).get id=_;rw[Dh,ah b2];exact b3,b4,b5,rfl⟩
  ·intro i q hi;have hi':(if sp.pre.gn<i/\i<=sp.pre.gn+sp.pre.ka then(match cZ i r with|some (some id)=>F1 id|_=>none)else none)=some q:=hi;split at hi'
   ·next hr=>
    split at hi'
    ·next id hid=>
     refine⟨?_,by omega,by show i<=P.globals.size+sp.pre.ka;omega⟩;rw[E9 hr.1 (by omega) hid];exact hi'
    ·cases hi'
   ·cases hi'
 have hvs:=Fb (ka:=sp.pre.ka) C _ _ _ hbs m4 hv;refine kQ.mono (hrun w0 bW w vs ⟨_,hF,hvs⟩) ?_;rintro v w' ⟨us,rfl,F2,hF2,hv2⟩
 have aro:BU r J1 sp.pre.gn sp.pre.ka=true:=by
  have:∀n i,(∀j,i<j->j<=i+n->∃id,cZ j r=some (some id)/\id∉fz)->BU r J i n=true->BU r J1 i n=true:=by
   intro n;induction n with
   |zero=>intro i _ _;rfl
   |succ n ih=>
    intro i hnf h;simp only[BU,aK]at h⊢;obtain⟨id,h1,h2⟩:=hnf (i+1) (by omega) (by omega);refine⟨?_,ih (i+1) (λj a b=>hnf j (by omega) (by omega)) h.2⟩;have h3:=h.1;rw[h1]at h3⊢;simp only at h3⊢;show(match(kills J fz).get id with|some (.cells _ _ _ _)=>true|_=>false)=true
    rw[Dh,ah h2];exact h3
  refine this _ _ (λj a b=>?_) hm3;obtain⟨id,c,et,um,opn,g1,g2⟩:=Xk hm3 j a b;exact⟨id,g1,arP id (afJ g1)⟩
 obtain⟨F',hst,hvr⟩:=St.auB (T:=T) (tabs:=T.tabs) (G:=sp.pre.gn) (ka:=sp.pre.ka) rfl m1 f2.rel m3 (by rw[Lc];exact hlk2) aro q1 q2 q3 hval hF2 hv2;have hst':=f2.trans hst;rw[Zh,Lc]at hst';rw[Zh]at hvr;exact⟨F',hst',ajk hvr⟩
def Zr(P:Program)(tabs:Qt)(pl:kV)(specs:Wo)(fuel:Nat)(st:W4)(sp:aJ)(ntmps:Nat)(res:List ResultVar)(ac:AC)(ns:List Nd)(ds:Wd)(lf:Leaf):Bool:=
 match lf with
 |.ret (tn::l)=>match @vO ⟨ns,ds,sp.pre.ka⟩ (DY P tabs ⟨ns,ds,sp.pre.ka⟩ specs) (Jb P ⟨ns,ds,sp.pre.ka⟩ pl fuel) ac {t:=yU (wE st (AV.pU (λj=>j) sp.pre.args)) 0 .nil,n:=max (wE st (AV.pU (λj=>j) sp.pre.args)).length ntmps,gn:=P.globals.size} (sp.pre.DX tabs λj=>j)with
  |some (e,a',J')=>(match e with|.exit _=>false|_=>true)&&match zW P J' a' res with
   |some rs=>match ns[tn]? with
    |some (.ci .i64 t)=>match sp.posts[t.toNat]? with
     |some (_,s)=>decide (0<=t)&&(s.ok&&(Nat.beq s.ka sp.pre.ka&&(match CO sp.pre.np s.al l with
      |some l2=>Nat.beq l2.length s.np&&(match @aqi ⟨ns,ds,sp.pre.ka⟩ P s rs J' with
       |⟨r,_,fz⟩=>NK r s.gn s.ka&&@UC ⟨ns,ds,sp.pre.ka⟩ P s rs J' fz r l2)
      |none=>false)))
     |none=>false
    |_=>false
   |none=>false
  |none=>false
 |_=>false
theorem Nq.Pm{tabs:Qt}(hlow:uH tabs P.globals.size)(hm:P.follows .mixedOrders=true)(hn:vI P){pl:kV}{I:iC}(hpl:xW P tabs I pl){specs:Wo}{fuel:Nat}{f:FuncId}{fn:Func}{c:Code}{pe:Q2}{st:W4}{sp:aJ}{n:Nat}(hnp:n=sp.pre.np){t:Tree}
 (hf:P.funcs[f]? =some fn) (hc:fn.body=some c)
 (H8:∀k sp',cZ k specs=some sp'->sp'.pre.ok=true/\∀b,(mW pe c).oz k b->∀gs out,I sp'.key gs=some out->uz P tabs b sp'.pre sp'.posts gs out)
 (zk:t.chk (Zr P tabs pl specs fuel st sp fn.ntmps fn.results.toList (mW pe c)) (List.replicate sp.pre.np .arg) []=true) {gs out:Q1} (hd:(aF.tree n t).den I gs=some out):Nq P tabs f st sp.pre sp.posts gs out:=by
 simp only[aF.den]at hd;split at hd;rotate_left
 ·cases hd
 next hlen=>
 subst hnp;obtain⟨ns,ds,env,lf,h1,h2,⟨more,h3⟩,h4⟩:=Tree.Ku t zk (BQ.start I gs _ hlen) hd;let T:aH:=Tw tabs I sp.pre.ka h2
 unfold Zr at h1;split at h1;rotate_left
 ·cases h1
 next tn l=>
 split at h1;rotate_left
 ·cases h1
 next e a' J' hrun=>
 rw[aK]at h1;obtain⟨he,h1⟩:=h1;split at h1;rotate_left
 ·cases h1
 next rs hrs=>
 split at h1;rotate_left
 ·cases h1
 next tt htn=>
 split at h1;rotate_left
 ·cases h1
 next e' s hpost=>
 rw[aK,aK,aK,decide_eq_true_iff]at h1;obtain⟨c1,c2,c3,h1⟩:=h1;split at h1;rotate_left
 ·cases h1
 next l2 hl2=>
 rw[aK]at h1;obtain⟨c4,h1⟩:=h1;have c3:=bD c3;have c4:=bD c4;split at h1;next r pp fz hfit=>
 rw[aK]at h1;obtain⟨c5,c6⟩:=h1;unfold UC at c6;simp only[aK,jd]at c6;obtain⟨⟨⟨⟨m1,m2⟩,m3⟩,m4⟩,m5⟩:=c6;have m1:=bD m1;have h4':valsOf (λn=>env[n]?) (tn::l)=some out:=h4;simp only[valsOf]at h4';split at h4';rotate_left
 ·cases h4'
 next g r0 hg hr0=>
 cases h4';obtain⟨rest,hrest,hex⟩:=SL h3 hlen hl2 hr0;obtain⟨g',k1,k2⟩:=h2.node tn _ htn (by simp);have hg':env[tn]? =some g:=hg;rw[hg']at k1;cases k1;simp only[Nd.den,aW]at k2;subst k2;unfold gU.ok at c2;rw[aK,aK]at c2;obtain⟨⟨_,hbs⟩,H6⟩:=c2;have hbs:AV.oZ s.next s.args=true:=by
  have:∀l:Wf,Es s.next l=true->AV.oZ s.next (l.map (·.2))=true:=by
   intro l;induction l with
   |nil=>intro _;rfl
   |cons a l ih=>intro h;simp only[Es,aK]at h;simp only[iD,AV.oZ,aK];exact⟨h.1,ih h.2⟩
  exact this _ hbs
 refine⟨tt.toNat,r0,rest,e',s,by rw[F6 c1],hpost,hex,by rw[<-c4];exact abE hrest,λw0 dK w vs hA=>?_⟩;have KQ:∀Q:dZ->bg->aA->Prop,Q e a' J'->@AT T P c {t:=yU (wE st (AV.pU (λj=>j) sp.pre.args)) 0 .nil,n:=max (wE st (AV.pU (λj=>j) sp.pre.args)).length fn.ntmps,gn:=P.globals.size} (sp.pre.DX tabs λj=>j) Q:=by
  intro Q hq;have:=@Xi P T (DY P tabs ⟨ns,ds,sp.pre.ka⟩ specs) (Jb P ⟨ns,ds,sp.pre.ka⟩ pl fuel) (aaY (T:=T) hm hn (hpl T rfl rfl) fuel) (mW pe c) (x9 pe c 0).2 (λk b hk a J e1 a1 J1 hs Q' hq'=>by
   unfold DY at hs;split at hs
   ·next sp' hsp=>
    obtain⟨k1,k2⟩:=H8 k sp' hsp;exact Zm (T:=T) rfl hlow k1 (λgs out hI=>k2 b hk gs out hI) hs hq'
   ·cases hs) _ _ _ _ _ hrun Q hq
  rwa [show(mW pe c).erase=c from(x9 pe c 0).1]at this
 have henv:∀j g,gs[j]? =some g->T.val ((λj=>j) j)=some g:=by
  intro j g hj;show env[j]? =some g
  rw[h3];have:=(eU.1 hj).1;rw[mP this];exact hj
 obtain⟨F,hF0,hv0⟩:=hA;have hF1:=ae1 (T:=T) (f:=λj=>j) rfl rfl henv hF0;have hv1:@aC T F (AV.pU (λj=>j) sp.pre.args) vs:=aC.dV (S:=Tg tabs gs sp.pre.ka) (T:=T) henv _ _ hv0;have key:Calls P f ⟨wG st vs⟩ w λen w'=>∃v,en=.returned v/\∃us,v=Bv us/\Nh P tabs s rest w0 dK us w':=by
  letI:=T
  have hv2:aC F (wE st (AV.pU (λj=>j) sp.pre.args)) (wG st vs):=U7 hv1;refine calls_of_wp hf hc ?_;refine KQ (λe2 a2 J2=>e2=e/\a2=a'/\J2=J') ⟨rfl,rfl,rfl⟩ w0 dK F w _ _ hF1 rfl (Ye hv2) ?_;rintro e2 a2 J2 F1 A' w' ⟨rfl,rfl,rfl⟩ hF hl0 ht
  obtain⟨us,r1,r2⟩:=PS hF.rel ht (fun|.tmp t=>pure (A'.tmps.getD t undef)|.cell a t=>do loadVar t (<-asAddr (A'.tmps.getD a undef))) (λ_=>rfl) (λ_ _=>rfl) _ _ hrs;obtain⟨bW,f1,f2,f3⟩:=Tj hF hl0 fz;have C:vH T P tabs s.gn s.next F1 J2 w' fz r l2 rest bW:=⟨hF.rel,hrest,f1,f3,m1,by omega⟩
  obtain⟨hR,hown⟩:=ZB (ka:=s.ka) (T:=T) rfl hlow H6 (by omega) m1 C f2.rel.iT (λid o q b2 b3 b4 b5=>f2.rel.kN id o q (by rw[Dh,ah b2];exact b3) b4 b5) m3 m5;have hvs:=Fb (ka:=s.ka) C _ _ _ hbs m4 r2;have hA':Nh P tabs s rest w0 dK us w':=by
   refine⟨_,@jK.mk (Tg tabs rest s.ka) P w0 dK _ _ w' hR hF.kept ?_ f2.uj f2.qg ?_,hvs⟩
   ·intro i o q a1 a2 a3;obtain⟨id,u,b1,b2,b3,b4,b5⟩:=hown i o q a1 a2 a3;exact hF.own id u q b3 b4 b5
   ·intro i q hi;obtain⟨a1,a2,a3⟩:=hF.qO i q hi;have a3':i<=P.globals.size+s.ka:=by rw[c3];exact a3
    refine⟨?_,a2,a3'⟩;rw[E9 (by omega) (by omega) (Xl c5 i (by omega) (by omega))];exact a1
  have hres':(results fn A'.tmps).run P w'=.ok (if h:(⟨us⟩:QQ).size=1 then(⟨us⟩:QQ)[0]else .tuple ⟨us⟩) w':=by unfold results;rw[Wx];simp only[aS,WY];exact uK (λr:Result Q6=>(r.andThen λa w'=>Result.ok a.toArray w').andThen λa w'=>Sem.run P (pure (if h:a.size=1 then a[0]else Value.tuple a)) w') r1
  have Y2:(if h:(⟨us⟩:QQ).size=1 then(⟨us⟩:QQ)[0]else .tuple ⟨us⟩)=Bv us:=by
   match us with
   |[]=>rfl
   |[u]=>rfl
   |u::u'::us=>rfl
  rw[Y2]at hres'
  have hpost:A'.defers=[]/\∃v,(results fn A'.tmps).run P w'=.ok v w'/\∃v',Ending.returned v=.returned v'/\∃us,v'=Bv us/\Nh P tabs s rest w0 dK us w':=
   ⟨ht.none,_,hres',_,rfl,us,rfl,hA'⟩
  cases e2 with
  |normal=>exact hpost
  |ret=>exact hpost
  |exit id=>simp at he
 right;refine⟨?_,Calls.mono' key ?_⟩
 ·have hname:=hn f fn c hf hc;simp only[callFunc,aS,program,Sem.run,aQ,hf];simp only[hname,iO,if_false,hc,JU,bF]
 ·rintro en w' ⟨v,rfl,h5⟩
  exact⟨v,rfl,h5⟩
end
noncomputable section
variable{P:Program}{H:Type}{enc:TypeId×Value->H}
inductive bP where
 |bool
 |int (k:IntKind)
 |str
 |list (agg:Bool) (e:List bP)
abbrev WD:=List bP
def fieldTys(P:Program)(r:TypeId->Option WD):Nat->List Field->Option WD
 |_,[]=>some []
 |off,f::fs=>match r f.type with
  |some l=>if Nat.beq f.offset off&&Nat.beq (P.cellsOf f.type) l.length then match fieldTys P r (off+l.length) fs with
   |some m=>some (l++m)
   |none=>none
   else none
  |none=>none
def yc(P:Program):Nat->TypeId->Option WD
 |0,_=>none
 |n+1,t=>match P.underlying t with
  |some .bool=>some [.bool]
  |some (.int k)=>some [.int k]
  |some .string=>some [.str]
  |some (.slice e)=>match yc P n e,nI P e with
   |some l,some b=>if Nat.beq (P.cellsOf e) l.length&&Nat.ble 1 l.length&&Nat.ble 1 (P.bytesOf e)&&(b ||Nat.beq l.length 1)then some [.list b l]else none
   |_,_=>none
  |some (.struct fs)=>match fieldTys P (yc P n) 0 fs.toList with
   |some l=>if Nat.beq (P.cellsOf t) l.length then some l else none
   |none=>none
  |_=>none
mutual
def bP.has:bP->GV->Prop
 |.bool,g=>∃b,g=.b b
 |.int k,g=>∃n,g=.i k n/\k.min<=n/\n<=k.max
 |.str,g=>∃s,g=.s s/\s.length<=reachBytes
 |.list agg e,g=>∃xs,g=.l xs/\xs.length<=reachBytes/\∀x∈xs,bP.iU e x.cells/\x.scalar = !agg
def bP.iU:WD->List GV->Prop
 |[],gs=>gs=[]
 |t::ts,gs=>∃g r,gs=g::r/\bP.has t g/\bP.iU ts r
end
theorem bP.has.scalar{t:bP}{g:GV}(h:t.has g):g.scalar=true:=by
 cases t<;>simp only[bP.has]at h
 ·obtain⟨b,rfl⟩:=h;rfl
 ·obtain⟨b,rfl,_⟩:=h;rfl
 ·obtain⟨b,rfl,_⟩:=h;rfl
 ·obtain⟨b,rfl,_⟩:=h;rfl
theorem bP.iU.scalars:∀{l:WD}{gs:Q1},bP.iU l gs->gs.all GV.scalar=true/\gs.length=l.length
 |[],gs,h=>by simp only[bP.iU]at h;subst h;exact⟨rfl,rfl⟩
 |t::l,gs,h=>by simp only[bP.iU]at h;obtain⟨g,r,rfl,h1,h2⟩:=h;have:=bP.iU.scalars h2;simp[h1.scalar,this.1,this.2]
theorem bP.iU.append:∀{l m:WD}{gs hs:Q1},bP.iU l gs->bP.iU m hs->bP.iU (l++m) (gs++hs)
 |[],m,gs,hs,h,h'=>by simp only[bP.iU]at h;subst h;simpa using h'
 |t::l,m,gs,hs,h,h'=>by simp only[bP.iU]at h;obtain⟨g,r,rfl,h1,h2⟩:=h;simp only[bC,bP.iU];exact⟨g,r++hs,rfl,h1,bP.iU.append h2 h'⟩
theorem aO.append{ro:Qf}:∀{l m:Q1}{vs us:Q6},aO ro l vs->aO ro m us->aO ro (l++m) (vs++us)
 |[],m,vs,us,h,h'=>by simp only[aO]at h;subst h;simpa using h'
 |a::l,m,vs,us,h,h'=>by simp only[aO]at h;obtain⟨x,xs,rfl,h1,h2⟩:=h;simp only[bC,aO];exact⟨x,xs++us,rfl,h1,aO.append h2 h'⟩
theorem ajH:∀{e:TypeId}{ds:List (DataW H)}{d:DataW H},d∈ds->∀z∈d.weights P e,z∈DataW.weightsAll P e ds
 |e,[],d,h,z,_=>by simp at h
 |e,d0::ds,d,h,z,hz=>by
  simp only[DataW.weightsAll,kG];rcases bG.1 h with rfl|h
  ·exact .inl hz
  ·exact .inr (ajH h z hz)
def yt(w:World):Nat->Option Obj:=λb=>w.heap[b]?
theorem cell?_at {w:World} {a:Addr} {v:Value} (h:w.cell? a=some v):a.spot=none/\∃c elem fr,w.heap[a.block]? =some (.cells c elem fr)/\c[a.off]? =some v:=by
 unfold World.cell? at h;split at h
 ·next c elem fr hb=>
  split at h
  ·cases h
  ·next hs=>exact⟨by simpa using hs,c,elem,fr,hb,h⟩
 ·cases h
theorem aeR{w:World}{r:TypeId->Option WD}{fuel:Nat}{cs:Q6}
 (ih:∀t l ch (x:DataW H×List MemPlace),r t=some l->DataW.trod enc P w 0 (λ_=>true) true fuel t ch=some x->(∀z∈x.1.weights P t,z<=reachBytes)->∃gs,aO (yt w) gs ch/\bP.iU l gs):
 ∀(fs:List Field)(xs:List (DataW H×List MemPlace))(off:Nat)(l:WD),fieldTys P r off fs=some l->xs.length=fs.length->
  (∀(i:Nat)(f:Field),fs[i]? =some f->DataW.trod enc P w 0 (λ_=>true) true fuel f.type ((cs.drop f.offset).take (P.cellsOf f.type))=xs[i]?)->
  (∀z∈DataW.weightsEach P (fs.map (·.type)) (xs.map (·.1)),z<=reachBytes)->
  ∃gs,aO (yt w) gs ((cs.drop off).take l.length)/\bP.iU l gs
 |[],xs,off,l,h,_,_,_=>by simp only[fieldTys,aW]at h;subst h;exact⟨[],by simp[aO],by simp[bP.iU]⟩
 |f::fs,[],off,l,_,hl,_,_=>by simp at hl
 |f::fs,x::xs,off,l,h,hl,hx,hw=>by
  simp only[fieldTys]at h;split at h
  ·next l1 h1=>
   split at h
   ·next hc=>
    rw[aK]at hc;have e1:=bD hc.1;have e2:=bD hc.2;split at h
    ·next m hm=>
     cases h;have h0:=hx 0 f rfl;simp only[jS]at h0;obtain⟨gs,g1,g2⟩:=ih f.type l1 _ x h1 h0 (λz hz=>hw z (by simp only[iD,DataW.weightsEach,kG];exact .inl hz))
     obtain⟨hs,k1,k2⟩:=aeR ih fs xs (off+l1.length) m hm (by simpa using hl) (λi f' hf=>by have:=hx (i+1) f' (by simpa using hf);simpa using this)
      (λz hz=>hw z (by simp only[iD,DataW.weightsEach,kG];exact .inr hz))
     refine⟨gs++hs,?_,g2.append k2⟩;rw[e1,e2]at g1;have:(cs.drop off).take (l1++m).length=(cs.drop off).take l1.length++(cs.drop (off+l1.length)).take m.length:=by rw[fU,BK,sK]
     rw[this];exact aO.append g1 k1
    ·cases h
   ·cases h
  ·cases h
theorem aes{c:Nat}{ch:Nat->List Value}{arr:QQ}{off:Nat}:∀(n:Nat)(_:∀i,i<n->(ch i).length=c/\∀j,j<c->arr[off+i*c+j]? =(ch i)[j]?),
 ((List.range n).flatMap ch).length=n*c/\∀(k:Nat) x,((List.range n).flatMap ch)[k]? =some x->arr[off+k]? =some x
 |0,_=>by simp
 |n+1,h=>by
  obtain⟨h1,h2⟩:=aes n λi hi=>h i (by omega);obtain⟨e1,e2⟩:=h n (by omega);rw[List.range_succ,acg];simp only[jC,List.flatMap_nil,qL];refine⟨by rw[fU,h1,e1,qM,Gh],λk x hk=>?_⟩;by_cases hlt:k<n*c
  ·rw[mP (by omega)]at hk;exact h2 k x hk
  ·rw[vF (by omega),h1]at hk;have hj:=(eU.1 hk).1;have:=e2 (k-n*c) (by omega);rw[hk]at this;rw[<-this];congr 1;omega
theorem aO.ofFn{ro:Qf}{G:Nat->GV}{Y:Nat->Value}:∀(l:Q2),(∀i∈l,GR ro (G i) (Y i))->aO ro (l.map G) (l.map Y)
 |[],_=>by simp[aO]
 |i::l,h=>by simp only[iD,aO];exact⟨_,_,rfl,h i (by simp),aO.ofFn l λj hj=>h j (by simp[hj])⟩
theorem abw{w:World}:∀(n m:Nat)(t:TypeId)(cs:Q6)(x:DataW H×List MemPlace)(l:WD),yc P n t=some l->DataW.trod enc P w 0 (λ_=>true) true m t cs=some x->
 (∀z∈x.1.weights P t,z<=reachBytes)->∃gs,aO (yt w) gs cs/\bP.iU l gs
 |0,m,t,cs,x,l,hc,h,hw=>by simp[yc]at hc
 |n+1,m,t,cs,x,l,hc,h,hw=>by
  simp only[yc]at hc;split at hc
  ·next hu=>
   cases hc;obtain⟨b,rfl,rfl⟩:=DataW.trod_bool hu h;exact⟨[.b b],by simp[aO,GR],by simp only[bP.iU];exact⟨_,_,rfl,by simp[bP.has],rfl⟩⟩
  ·next k hu=>
   cases hc;obtain⟨b,rfl,rfl,hwf⟩:=DataW.trod_int hu h;have hwf':k.min<=b/\b<=k.max:=by simpa[Lit.wf]using hwf
   exact⟨[.i k b],by simp[aO,GR],by simp only[bP.iU];exact⟨_,_,rfl,by simp only[bP.has];exact⟨b,rfl,hwf'⟩,rfl⟩⟩
  ·next hu=>
   cases hc;obtain⟨s,rfl,rfl,hs⟩:=DataW.trod_string hu h;refine⟨[.s s.data.toList],by simp only[aO,GR];exact⟨_,_,rfl,by cases s with|mk a=>cases a;rfl,rfl⟩,by simp only[bP.iU];exact⟨_,_,rfl,by simp only[bP.has];exact⟨_,rfl,hw _ (by simp[DataW.weights])⟩,rfl⟩⟩
  ·next e hu=>
   split at hc
   ·next le agg he hag=>
    split at hc
    ·next hcond=>
     cases hc;simp only[aK,nO]at hcond;obtain⟨⟨⟨c1,c2⟩,c3⟩,c4⟩:=hcond;have c1:=bD c1;have c2:=sO c2;have c3:=sO c3;rcases Deep.open_slice hu h with⟨rfl,rfl⟩|⟨a,len,cap0,cap,n',D,Pl,rfl,hb,hl,hm,rfl,rfl,hi⟩
     ·exact⟨[.l []],by simp[aO,GR],by simp only[bP.iU];exact⟨_,_,rfl,by simp only[bP.has];exact⟨[],rfl,by simp,by simp⟩,rfl⟩⟩
     have arN:cap*P.bytesOf e<=reachBytes:=by have:=hw (cap*P.bytesOf e) (by simp only[DataW.weights,hu,bG,fE,List.length_range];left;rw[QC hl]);exact this
     have hcapR:cap<=reachBytes:=jD (acw _ c3) arN;have one:∀i,i<len->∃ch gs,(ch.length=P.cellsOf e/\∀j,j<P.cellsOf e->w.cell? (((a.add (i*P.cellsOf e))).add j)=ch[j]?)/\aO (yt w) gs ch/\bP.iU le gs:=by
      intro i hil;obtain⟨ch,h1,h2⟩:=hi i (by omega);obtain⟨_,h3,h4⟩:=World.cells?_some h1;obtain⟨gs,g1,g2⟩:=abw n n' e ch _ le he h2 (λz hz=>hw z (by simp only[DataW.weights,hu,bG,kG];right;left;exact ajH (by simp only[qj,yN];exact⟨i,hil,rfl⟩) z hz))
      exact⟨ch,gs,⟨h3,h4⟩,g1,g2⟩
     by_cases hz:cap=0
     ·have hlz:len=0:=by omega
      subst hz;subst hlz;refine⟨[.l []],by simp only[aO,GR];exact⟨_,_,rfl,.inl ⟨trivial,_,rfl⟩,rfl⟩,by simp only[bP.iU];exact⟨_,_,rfl,by simp only[bP.has];exact⟨[],rfl,by simp,by simp⟩,rfl⟩⟩
     have ha:a.spot=none/\∃arr elem fr,w.heap[a.block]? =some (.cells arr elem fr):=by obtain⟨ch,h1,h2⟩:=hi 0 (by omega);obtain⟨_,h3,h4⟩:=World.cells?_some h1;have h5:=h4 0 (by omega);have hch:ch[0]? =some ch[0]:=bK (by omega);rw[hch]at h5;have h6:=cell?_at h5;simp only[Nat.zero_mul,Addr.add,if_true]at h6;exact⟨h6.1,h6.2.choose,h6.2.choose_spec.choose,h6.2.choose_spec.choose_spec.choose,h6.2.choose_spec.choose_spec.choose_spec.1⟩
     obtain⟨hsp,arr,elem,fr,hblk⟩:=ha;obtain⟨bl,off,sp⟩:=a;simp only at hsp hblk;subst hsp;have addr:∀i j:Nat,((Addr.mk bl off none).add i).add j=⟨bl,off+i+j,none⟩:=by intro i j;unfold Addr.add;split<;>split<;>simp_all
     have hex:∃(ch:Nat->List Value)(G:Nat->List GV),∀i,i<len->(ch i).length=P.cellsOf e/\(∀j,j<P.cellsOf e->arr[off+i*P.cellsOf e+j]? =(ch i)[j]?)/\aO (yt w) (G i) (ch i)/\bP.iU le (G i):=by refine⟨λi=>if hil:i<len then(one i hil).choose else[],λi=>if hil:i<len then(one i hil).choose_spec.choose else[],λi hil=>?_⟩;simp only[dif_pos hil];obtain⟨⟨h1,h2⟩,h3,h4⟩:=(one i hil).choose_spec.choose_spec;refine⟨h1,λj hj=>?_,h3,h4⟩;have:=h2 j hj;rw[addr]at this;rw[<-this];have hch:=bK (l:=(one i hil).choose) (i:=j) (by omega);rw[hch]at this;have h6:=cell?_at this;simp only at h6;obtain⟨_,c',e',f',h7,h8⟩:=h6;rw[hblk]at h7;cases h7;rw[this,h8]
     obtain⟨ch,G,hG⟩:=hex;obtain⟨q1,q2⟩:=aes (c:=P.cellsOf e) (ch:=ch) (arr:=arr) (off:=off) len λi hil=>⟨(hG i hil).1,λj hj=>(hG i hil).2.1 j hj⟩
     have hgl:∀i,i<len->(G i).length=le.length:=λi hil=>(hG i hil).2.2.2.scalars.2;let X:Nat->GV:=λi=>if agg then .g (G i)else(G i).headD (.l [])
     let Y:Nat->Value:=λi=>if agg then .agg ⟨ch i⟩else(ch i).headD undef
     have hX:∀i,i<len->(X i).cells=G i/\(X i).scalar = !agg/\GR (yt w) (X i) (Y i)/\(Y i).cells.toList=ch i:=by
      intro i hil;obtain⟨p1,p2,p3,p4⟩:=hG i hil;cases agg with
      |true=>simp only[X,Y,if_true];exact⟨rfl,rfl,by simp only[GR];exact⟨_,rfl,p3⟩,rfl⟩
      |false=>
       have hle1:le.length=1:=by simpa using c4
       obtain⟨g,hg⟩:∃g,G i=[g]:=WI.1 (by rw[hgl i hil,hle1]);obtain⟨y,hy⟩:∃y,ch i=[y]:=WI.1 (by rw[p1,c1,hle1]);have hsc:g.scalar=true:=by have:=p4.scalars.1;rw[hg]at this;simpa using this
       have KY:GR (yt w) g y:=by rw[hg,hy]at p3;simp only[aO]at p3;obtain⟨u,us,e1,e2,_⟩:=p3;cases e1;exact e2
       simp only[X,Y,hg,hy,List.headD_cons,iO,if_false,Bool.not_false];refine⟨by cases g<;>first|rfl|(simp[GV.scalar]at hsc),hsc,KY,?_⟩;cases g<;>simp only[GR]at KY
       ·subst KY;rfl
       ·subst KY;rfl
       ·subst KY;rfl
       ·rcases KY with⟨_,_,rfl⟩|⟨_,_,_,_,_,rfl,_⟩<;>rfl
       ·simp[GV.scalar]at hsc
     refine⟨[.l ((List.range len).map X)],?_,?_⟩
     ·simp only[aO];refine⟨_,_,rfl,?_,rfl⟩;simp only[GR];right;have afC:bY ((List.range len).map Y)=(List.range len).flatMap ch:=by unfold bY;rw[List.flatMap_map];rw[List.flatMap_def,List.flatMap_def,List.map_congr_left λi hir=>(hX i (yN.1 hir)).2.2.2]
      refine⟨bl,off,cap,(List.range len).map Y,P.cellsOf e,by simp,by simpa using hl,aO.ofFn _ λi hir=>(hX i (yN.1 hir)).2.2.1,?_,λhne=>⟨arr,elem,fr,hblk,?_,?_⟩⟩
      ·intro y hy;obtain⟨i,hir,rfl⟩:=qj.1 hy;have:=(hX i (yN.1 hir)).2.2.2;rw[<-Jy,this];exact(hG i (yN.1 hir)).1
      ·rw[afC,q1];have hlp:0<len:=by
        rcases QD len with h0|h0
        ·subst h0;simp at hne
        ·exact h0
       have hcp:0<P.cellsOf e:=by omega
       have hk:len*P.cellsOf e-1<((List.range len).flatMap ch).length:=by rw[q1];have:0<len*P.cellsOf e:=Nw hlp hcp;omega
       have:=q2 _ _ (bK hk);have:=(qh.1 this).1;have:0<len*P.cellsOf e:=Nw hlp hcp;omega
      ·rw[afC];exact q2
     ·simp only[bP.iU];refine⟨_,_,rfl,?_,rfl⟩;simp only[bP.has];refine⟨_,rfl,by simp;omega,λy hy=>?_⟩;obtain⟨i,hir,rfl⟩:=qj.1 hy;obtain⟨k1,k2,_⟩:=hX i (yN.1 hir);rw[k1];exact⟨(hG i (yN.1 hir)).2.2.2,k2⟩
    ·cases hc
   ·cases hc
  ·next fs hu=>
   split at hc
   ·next l' hf=>
    split at hc
    ·next hcl=>
     cases hc;have hcl:=bD hcl;obtain⟨xs,n',rfl,rfl,hlen,hxl,hx⟩:=DataW.trod_struct hu h
     obtain⟨gs,g1,g2⟩:=aeR (enc:=enc) (P:=P) (w:=w) (fuel:=n') (cs:=cs) (r:=yc P n) (λt l ch x h1 h2 h3=>abw n n' t ch x l h1 h2 h3) fs.toList xs 0 l hf (by simpa using hxl)
      (λi f hi=>hx i f (by simpa using hi)) (λz hz=>hw z (by simp only[DataW.weights,hu];simpa using hz))
     refine⟨gs,?_,g2⟩;rw[dD,jZ (by omega)]at g1;exact g1
    ·cases hc
   ·cases hc
  ·cases hc
def argTys(P:Program)(n:Nat):List TypeId->Option (List (Bool×WD))
 |[]=>some []
 |t::ts=>match yc P n t,nI P t,argTys P n ts with
  |some l,some b,some r=>if b ||Nat.beq l.length 1 then some ((b,l)::r)else none
  |_,_,_=>none
def hasArgs:List (Bool×WD)->List GV->Prop
 |[],gs=>gs=[]
 |(b,l)::r,gs=>∃g gs',gs=g::gs'/\bP.iU l g.cells/\g.scalar = !b/\hasArgs r gs'
theorem auE{w:World}{r:Reach}{b0:Nat}{t:TypeId}{v:Value}(h:Value.okWide P w r b0 t v):(nI P t=some true->∃cs,v=.agg cs)/\
 (nI P t=some false->v.cells =#[v]\/∀n,yc P n t=none):=by
 unfold Value.okWide at h;unfold nI;constructor
 ·intro ha;split at ha
  ·next hu=>rw[hu]at h;simp only at h;obtain⟨cs,rfl,_⟩:=h;exact⟨cs,rfl⟩
  ·next hu=>rw[hu]at h;simp only at h;obtain⟨cs,rfl,_⟩:=h;exact⟨cs,rfl⟩
  ·cases ha
  ·cases ha
 ·intro ha;split at ha
  ·cases ha
  ·cases ha
  ·next u h1 h2 hu=>
   rw[hu]at h
   cases u<;>first
    |(exact absurd rfl (h1 _))
    |(exact absurd rfl (h2 _ _))
    |(right;intro n;cases n<;>simp[yc,hu];done)
    |(left;simp only[Cell.okWide,hu,Cell.ok]at h;cases v<;>first|rfl|(simp only at h;done)|(cases h;done))
  ·cases ha
theorem Kept.below{W W':World}(h:Kept W W'):Go.RowKit.Below W.heap.size W W':=⟨h.os,h.tape,h.output,h.size,h.keep⟩
theorem ajj{W W':World}(hl:laidOutB P=true)(hk:Kept W W'){sp:Nat->Bool}:∀{ts:List TypeId}{vs:Q6}{ds:List (DataW H)}{ps:List MemPlace},DataW.TrodAll enc P W 0 (λ_=>true) true ts vs ds ps->
 (∀t∈ts,P.readableRec t=true/\t<P.types.size)->(∀x∈ps,x.block<W.heap.size)->(∀x∈ps,sp x.block=true)->DataW.TrodAll enc P W' 0 sp true ts vs ds ps
 |[],[],[],ps,h,_,_,_=>h
 |t::ts,v::vs,d::ds,ps,h,hr,hlt,hsp=>by
  obtain⟨p,q,h1,h2,rfl⟩:=h;obtain⟨r1,r2⟩:=hr t (by simp)
  exact⟨p,q,WideElems.Trod_stays hl r1 r2 h1 (λx hx=>hk.below.same (hlt x (WO _ hx))) (λx hx=>hsp x (WO _ hx)),
   ajj hl hk h2 (λt' ht=>hr t' (by simp[ht])) (λx hx=>hlt x (acn _ hx)) (λx hx=>hsp x (acn _ hx)),rfl⟩
 |[],_::_,_,_,h,_,_,_=>by simp[DataW.TrodAll]at h
 |[],[],_::_,_,h,_,_,_=>by simp[DataW.TrodAll]at h
 |_::_,[],_,_,h,_,_,_=>by simp[DataW.TrodAll]at h
 |_::_,_::_,[],_,h,_,_,_=>by simp[DataW.TrodAll]at h
end
open Go.ChangeShapes Go.WideShapes Go.ChangeAt Go.RowKit
noncomputable section
variable{P:Program}
theorem alz{T0:aH}{call:Caller}{f:FuncId}{J0 J':aA}(hcall:@qH T0 P call)(h0:@yR T0 J0 P.globals.size)(hrun:call f [] J0=some (.b true,J')){ro:Qf}{w:World}(hro:xk T0.tabs ro w):
 kQ P f ⟨[]⟩ w λv w'=>v=.bool true/\Kept w w':=by
 letI:=T0
 have hS:SR P (uO P.globals.size J0 ro) J0 w:=JW h0.1 (λid o ho=>by obtain⟨c,rfl,hm,hle⟩:=h0.2 id o ho;obtain⟨cs,elem,fr,h1,h2,h3⟩:=hro.tab _ hm;exact⟨hle,c,rfl,⟨cs,elem,fr,hro.at' _ _ h1,h2,h3⟩⟩) hro.at' (λp hp=>hro.tab p hp)
 refine kQ.mono (hcall f [] J0 _ _ hrun _ w [] hS rfl) ?_;rintro v w' ⟨F',hst,hr⟩
 simp only[VR]at hr;exact⟨hr,hst.kept h0.own⟩
theorem auT{T:aH}{f:FuncId}(h:∀ro w,xk T.tabs ro w->kQ P f ⟨[]⟩ w λv w'=>v=.bool true/\Kept w w'):@dN T P f IZ:=by
 letI:=T
 intro args J r J1 hs F w vs hS hv;unfold IZ at hs;split at hs
 ·cases hs;simp only[aC]at hv;subst hv;refine kQ.mono (h F.ro w hS.Ve) ?_;rintro v w' ⟨rfl,hk⟩
  exact⟨F,St.UR hS hk,by simp only[VR]⟩
 ·cases hs
def AC.oQ:AC->Nat->Option Code
 |.plain _,_=>none
 |.seq x y,k=>match x.oQ k with
  |some b=>some b
  |none=>y.oQ k
 |.cond _ y z,k=>match y.oQ k with
  |some b=>some b
  |none=>z.oQ k
 |.block _ x,k=>x.oQ k
 |.loop k' b,k=>if Nat.beq k' k then some b else none
 |.peel x k' b,k=>if Nat.beq k' k then some b else x.oQ k
theorem AC.E8{k:Nat}{b:Code}:∀{x:AC},x.oQ k=some b->x.oz k b
 |.plain _,h=>by simp[AC.oQ]at h
 |.seq x y,h=>by
  simp only[AC.oQ]at h;split at h
  ·next hx=>cases h;exact .inl (AC.E8 hx)
  ·exact .inr (AC.E8 h)
 |.cond _ x y,h=>by
  simp only[AC.oQ]at h;split at h
  ·next hx=>cases h;exact .inl (AC.E8 hx)
  ·exact .inr (AC.E8 h)
 |.block _ x,h=>AC.E8 (x:=x) h
 |.loop k' b',h=>by
  simp only[AC.oQ]at h;split at h
  ·next e=>cases h;exact⟨Nat.eq_of_beq_eq_true e,rfl⟩
  ·cases h
 |.peel x k' b',h=>by
  simp only[AC.oQ]at h;split at h
  ·next e=>cases h;exact .inl ⟨Nat.eq_of_beq_eq_true e,rfl⟩
  ·exact .inr (AC.E8 h)
theorem Gq(ps:Q2):∀(c:Code)(n:Nat),n<=(kX ps c n).2/\∀k b,(kX ps c n).1.oz k b->(n<=k/\k<(kX ps c n).2)/\(kX ps c n).1.oQ k=some b
 |.seq x y,n=>by
  obtain⟨h1,h2⟩:=Gq ps x n;obtain⟨h3,h4⟩:=Gq ps y (kX ps x n).2;simp only[kX,AC.oz,AC.oQ];refine⟨by omega,λk b h=>?_⟩;rcases h with h|h
  ·obtain⟨r,e⟩:=h2 k b h;exact⟨by omega,by rw[e]⟩
  ·obtain⟨r,e⟩:=h4 k b h;refine⟨by omega,?_⟩;cases hx:(kX ps x n).1.oQ k with
   |none=>exact e
   |some b'=>have:=(h2 k b' (AC.E8 hx)).1;omega
 |.cond _ x y,n=>by
  obtain⟨h1,h2⟩:=Gq ps x n;obtain⟨h3,h4⟩:=Gq ps y (kX ps x n).2;simp only[kX,AC.oz,AC.oQ];refine⟨by omega,λk b h=>?_⟩;rcases h with h|h
  ·obtain⟨r,e⟩:=h2 k b h;exact⟨by omega,by rw[e]⟩
  ·obtain⟨r,e⟩:=h4 k b h;refine⟨by omega,?_⟩;cases hx:(kX ps x n).1.oQ k with
   |none=>exact e
   |some b'=>have:=(h2 k b' (AC.E8 hx)).1;omega
 |.block id x,n=>Gq ps x n
 |.loop x,n=>by
  obtain⟨h1,h2⟩:=Gq ps x (n+1);simp only[kX];split
  ·exact⟨by simp,λk b h=>by simp[AC.oz]at h⟩
  ·split
   ·simp only[AC.oz,AC.oQ];refine⟨by omega,λk b h=>?_⟩;rcases h with⟨rfl,rfl⟩|h
    ·exact⟨by omega,by simp⟩
    ·obtain⟨r,e⟩:=h2 k b h;refine⟨by omega,?_⟩;have:Nat.beq n k=false:=by cases hb:Nat.beq n k with|false=>rfl|true=>have:=bD hb;omega
     rw[this];exact e
   ·simp only[AC.oz,AC.oQ];refine⟨by omega,λk b h=>?_⟩;obtain⟨rfl,rfl⟩:=h;exact⟨by omega,by simp⟩
 |.skip,n|.region _ _ _,n|.rangeFunc _ _ _ _,n|.exit _,n|.scope _,n|.label _,n|.goto _,n|.ret,n|.refuse _,n=>⟨Nat.le_refl _,λk b h=>by simp[kX,AC.oz]at h⟩
theorem atc{ps:Q2}{c:Code}{k:Nat}{b:Code}(h:(mW ps c).oz k b):(mW ps c).oQ k=some b:=((Gq ps c 0).2 k b h).2
def vP:Code->List (Q2×Nat)->Code
 |c,[]=>c
 |c,(ps,k)::r=>vP (((mW ps c).oQ k).getD .skip) r
theorem akK{ps:Q2}{c:Code}{k:Nat}{b:Code}(h:(mW ps c).oz k b):vP c [(ps,k)]=b:=by simp only[vP,atc h,qN]
theorem ac8{ps:Q2}{k:Nat}:∀(r:Ys)(c:Code),vP c (r++[(ps,k)])=vP (vP c r) [(ps,k)]
 |[],_=>rfl
 |(_,_)::r,_=>ac8 r _
abbrev F5:=Q1->List GV->Prop
def Np(Cs:List F5)(k:Nat)(gs out:Q1):Prop:=match Cs[k]? with
 |some c=>c gs out
 |none=>False
def xX(Ds:W7):iI:=λk=>Ds[k]?
def JC(C:Nat->List GV->List GV->Prop)(d:aF)(c:F5):Prop:=∀I:iC,(∀k gs out,I k gs=some out->C k gs out)->∀gs out,d.den I gs=some out->c gs out
def Jv(C:Nat->List GV->List GV->Prop):W7->List F5->Prop
 |[],[]=>True
 |d::ds,c::cs=>JC C d c/\Jv C ds cs
 |_,_=>False
theorem Jv.at{C:Nat->List GV->List GV->Prop}:∀{ds:W7}{cs:List F5},Jv C ds cs->∀{k:Nat}{d:aF},ds[k]? =some d->∃c,cs[k]? =some c/\JC C d c
 |[],[],_,k,d,hd=>by simp at hd
 |d0::ds,c0::cs,h,k,d,hd=>by
  cases k with
  |zero=>simp at hd;subst hd;exact⟨c0,rfl,h.1⟩
  |succ k=>obtain⟨c,h1,h2⟩:=Jv.at h.2 (k:=k) (by simpa using hd);exact⟨c,by simpa using h1,h2⟩
 |[],_::_,h,_,_,_=>h.elim
 |_::_,[],h,_,_,_=>h.elim
theorem as4{Ds:W7}{Cs:List F5}(h:Jv (Np Cs) Ds Cs):∀k gs out,(xX Ds).lim k gs=some out->Np Cs k gs out:=by refine iI.as5 λk d hk I hI gs out hd=>?_;obtain⟨c,h1,h2⟩:=h.at hk;unfold Np;rw[h1];exact h2 I hI gs out hd
def BO(P:Program)(tabs:Qt)(I:iC)(ac:AC)(specs:Wo):Prop:=
 ∀k sp',cZ k specs=some sp'->sp'.pre.ok=true/\∀b,ac.oz k b->∀gs out,I sp'.key gs=some out->uz P tabs b sp'.pre sp'.posts gs out
theorem BO.nil{tabs:Qt}{I:iC}{ac:AC}:BO P tabs I ac []:=λk sp' h=>by simp[cZ]at h
theorem BO.cons{tabs:Qt}{I:iC}{ps:Q2}{c:Code}{k:Nat}{sp:aJ}{specs:Wo}(hok:sp.pre.ok=true)(hb:∀gs out,I sp.key gs=some out->uz P tabs (vP c [(ps,k)]) sp.pre sp.posts gs out)
 (r:BO P tabs I (mW ps c) specs):BO P tabs I (mW ps c) ((k,sp)::specs):=by
 intro k' sp' h;simp only[cZ]at h;cases e:Nat.beq k' k with
 |true=>rw[e]at h;cases h;have e:=bD e;subst e;exact⟨hok,λb hb' gs out hI=>by rw[<-akK hb'];exact hb gs out hI⟩
 |false=>rw[e]at h;exact r k' sp' h
theorem uz.auD{tabs:Qt}(hlow:uH tabs P.globals.size)(hm:P.follows .mixedOrders=true)(hn:vI P){pl:kV}{I:iC}(hpl:xW P tabs I pl){specs:Wo}{fuel:Nat}{sp:aJ}(hok:sp.pre.ok=true){n:Nat}(hnp:n=sp.pre.np)
 {ps:Q2} {b:Code} {t:Tree} (H8:BO P tabs I (mW ps b) specs) (hself:∀gs out,I sp.key gs=some out->uz P tabs b sp.pre sp.posts gs out)
 (zk:t.chk (Ut P tabs pl specs fuel sp (mW ps b)) (List.replicate sp.pre.np .arg) []=true) {gs out:Q1} (hd:(aF.tree n t).den I gs=some out):uz P tabs b sp.pre sp.posts gs out:=by
 simp only[aF.den]at hd;split at hd
 ·next hlen=>exact uz.Pm hlow hm hn hpl hok H8 hself zk (by rw[hlen,hnp]) hd
 ·cases hd
def PL.nil:kV:=λ_=>[]
def PL.cons(f:FuncId)(p:gG->dX)(l:kV):kV:=λN=>(f,p N)::l N
theorem PL.auF{tabs:Qt}{I:iC}:xW P tabs I PL.nil:=λT _ _ p hp=>by simp[PL.nil]at hp
theorem PL.Ls{tabs:Qt}{I:iC}{f:FuncId}{p:gG->dX}{l:kV}(h:∀T:aH,T.tabs=tabs->T.I=I->@dN T P f (p T.togG))(hl:xW P tabs I l):xW P tabs I (PL.cons f p l):=by
 intro T hT hI q hq;rcases bG.1 hq with rfl|hq
 ·exact h T hT hI
 ·exact hl T hT hI q hq
def ZP(p q:dX):dX:=λargs J=>match p args J with
 |some r=>some r
 |none=>q args J
theorem auM{T:aH}{f:FuncId}{p q:dX}(hp:@dN T P f p)(hq:@dN T P f q):@dN T P f (ZP p q):=by
 letI:=T
 intro args J r J' hs;unfold ZP at hs;split at hs
 ·next r0 h0=>cases hs;exact hp args J r J' h0
 ·exact hq args J r J' hs
