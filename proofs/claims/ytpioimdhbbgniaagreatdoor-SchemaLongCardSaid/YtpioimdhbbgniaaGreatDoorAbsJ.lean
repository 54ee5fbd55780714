/- Loops by contract: the step that the evaluator takes at a loop, and how a loop's contract is proved. -/
import Derived.Test.YtpioimdhbbgniaaGreatDoorAbsI
import Derived.ChangeArms
import Derived.Deep.Slices
import Derived.Carry
import Derived.Test.YtpioimdhbbgniaaGreatDoorAbsH
import Derived.ProofKit
import Derived.OpenShut
import Derived.Deep.DeepHandedRow
namespace Go.aJ
set_option linter.unusedSimpArgs false
noncomputable section
set_option linter.unusedSectionVars false
set_option linter.unusedVariables false
variable {P:Program}
structure US where
 r:List (Nat×Option Nat)
 p:List (Nat×Nat)
 fz:List Nat
def US.CS (u:US) (j m:Nat):US:=match bM j u.p with
 | some _=>u
 | none=>{ u with p:=(j,m)::u.p }
def US.L8 (u:US) (i:Nat) (x:Option Nat):US:=match bM i u.r with
 | some _=>u
 | none=>{ u with r:=(i,x)::u.r }
section
variable [fB]
def Gx (P:Program) (σ:aj) (a:AV):Option (Nat×Option Nat):=
 match gB a with
 | some m=>some (m,none)
 | none=>match a with
   | .sv id _=>match σ.get id with
     | some (.vec m _ _)=>some (m,some id)
     | _=>none
   | .sl id off len cap=>match σ.get id with
     | some (.cells _ et _ _)=>(listOf P σ et (.sl id off len cap)).map λm=>(m,some id)
     | _=>none
   | _=>none
mutual
def uV (P:Program) (G:Nat) (σ:aj):AV->AV->US->US
 | .nd j,a,u=>match Gx P σ a with
   | some (m,some id)=>{ u.CS j m with fz:=id::u.fz }
   | some (m,none)=>u.CS j m
   | none=>u
 | .sv i _,a,u=>match a with
   | .sv id _=>u.L8 i (some id)
   | .dA=>u.L8 i none
   | _=>u
 | .p i _,a,u=>match a with
   | .p id _=>if i<=G then u else u.L8 i (some id)
   | _=>u
 | .mp i,a,u=>match a with
   | .mp id=>u.L8 i (some id)
   | _=>u
 | .rx j _,a,u=>match a with
   | .rx m _=>u.CS j m
   | _=>u
 | .fn _ fi cs,a,u=>match a with
   | .fn _ fi' cs'=>BP P G σ cs cs' (BP P G σ fi fi' u)
   | _=>u
 | .agg l,a,u=>match a with
   | .agg l'=>BP P G σ l l' u
   | _=>u
 | .cO l,a,u=>match a with
   | .cO l'=>BP P G σ l l' u
   | _=>u
 | .dO _ x,a,u=>match a with
   | .dO _ x'=>uV P G σ x x' u
   | _=>u
 | _,_,u=>u
def BP (P:Program) (G:Nat) (σ:aj):List AV->List AV->US->US
 | [],_,u=>u
 | a::l,m,u=>match m with
   | b::m'=>BP P G σ l m' (uV P G σ a b u)
   | []=>u
end
def ac5 (P:Program) (G:Nat) (σ:aj) (t:Tr AV):List (Nat×AV)->US->US
 | [],u=>u
 | p::l,u=>ac5 P G σ t l (match t.get p.1 with | some v=>uV P G σ p.2 v u | none=>u)
def P7 (P:Program) (G:Nat) (σ:aj):List (Nat×aZ)->US->US
 | [],u=>u
 | p::l,u=>P7 P G σ l (match bM p.1 u.r with
   | some (some id)=>match p.2,σ.get id with
     | .cells c _ _ _,some (.cells c' _ _ _)=>BP P G σ c c' u
     | .vec j _ _,some (.vec m _ _)=>u.CS j m
     | .smap j _ _,some (.smap m _ _)=>u.CS j m
     | .smap j _ _,some (.map [])=>match dP (.ml []) with
       | some m=>u.CS j m
       | none=>u
     | _,_=>u
   | some none=>match p.2 with
     | .vec j _ _=>match dP (.ml []) with
       | some m=>u.CS j m
       | none=>u
     | _=>u
   | none=>u)
def Vk (p:List (Nat×Nat)):Nat->Nat->Option (List Nat)
 | _,0=>some []
 | j,n+1=>match bM j p,Vk p (j+1) n with
   | some m,some r=>some (m::r)
   | _,_=>none
def QN:Nat->Nat->List (Nat×Option Nat)
 | _,0=>[]
 | i,n+1=>(i+1,some (i+1))::QN (i+1) n
def fit (P:Program) (s:eU) (a:aW) (σ:aj):US:=P7 P s.gn σ s.objs (ac5 P s.gn σ a.t s.slots ⟨QN s.gn s.ka,[],[]⟩)
def fits (P:Program) (s:eU) (a:aW) (σ:aj) (ps:List Nat):Bool:=Nat.beq ps.length s.np&&match fit P s a σ with
 | ⟨r,_,fz⟩=>Uc P s a σ fz r ps
structure bD where
 key:Nat
 pre:eU
 posts:List (dK×eU)
def D6 (tag:Nat):List (dK×eU)->Nat->Option (dK×eU)
 | [],_=>none
 | [p],_=>some p
 | p::q::l,t=>match dP (.ci .i64 t) with
   | some c=>match dP (.bin .eql tag c) with
     | some b=>match Ro b with
       | some true=>some p
       | some false=>D6 tag (q::l) (t+1)
       | none=>none
     | none=>none
   | none=>none
def yB (key:Nat) (ps:List Nat):List (Option Nat)->Nat->Nat->Option (List Nat)
 | _,_,0=>some []
 | some i::al,j,n+1=>match ps[i]?,yB key ps al j n with
   | some m,some r=>some (m::r)
   | _,_=>none
 | none::al,j,n+1=>match dP (.call key ps j),yB key ps al (j+1) n with
   | some m,some r=>some (m::r)
   | _,_=>none
 | [],j,n+1=>match dP (.call key ps j),yB key ps [] (j+1) n with
   | some m,some r=>some (m::r)
   | _,_=>none
def TL (P:Program) (tabs:List (Nat×List AV)) (sp:bD) (a:aW) (σ:aj):Option (dK×aW×aj):=
 match Vk (fit P sp.pre a σ).p 0 sp.pre.np with
 | some ps=>if fits P sp.pre a σ ps then
    match dP (.call sp.key ps 0) with
    | some tag=>match D6 tag sp.posts 0 with
      | some (e,s)=>if Nat.beq s.ka fB.ka then match yB sp.key ps s.al 1 s.np with
        | some ns=>some (e,s.LU (λj=>ns.getD j 0),s.zX tabs (λj=>ns.getD j 0))
        | none=>none
        else none
      | none=>none
    | none=>none
   else none
 | none=>none
end
def qM:List (Option Nat)->List GV->List GV->Option (List GV)
 | [],_,r=>some r
 | some i::al,gs,r=>match gs[i]?,qM al gs r with
   | some g,some l=>some (g::l)
   | _,_=>none
 | none::al,gs,x::r=>match qM al gs r with
   | some l=>some (x::l)
   | none=>none
 | none::_,_,[]=>none
def zo (np:Nat):List (Option Nat)->List Nat->Option (List Nat)
 | [],r=>some r
 | some i::al,r=>bif Nat.blt i np then (match zo np al r with
   | some l=>some (i::l)
   | none=>none) else none
 | none::al,x::r=>match zo np al r with
   | some l=>some (x::l)
   | none=>none
 | none::_,[]=>none
def CJ (np:Nat) (l:List Nat):List (Option Nat)->Bool
 | []=>true
 | none::al=>CJ np l al
 | some i::al=>Nat.blt i np&&((match l[i]? with | some m=>Nat.beq m i | none=>false)&&CJ np l al)
def LV (np:Nat) (l:List Nat):List (dK×eU)->Bool
 | []=>true
 | p::ps=>CJ np l p.2.al&&LV np l ps
theorem Wy {val:Nat->Option GV}:∀ {l:List Nat} {gs:List GV},valsOf val l=some gs->∀ (i m:Nat),l[i]? = some m->gs[i]? = val m
 | [],gs,h,i,m,hm=>by simp at hm
 | x::l,gs,h,i,m,hm=>by
   simp only [valsOf] at h;split at h
   ·next g r h5 h6=>
    cases h;cases i with
    | zero=>simp at hm;subst hm;simp [h5]
    | succ i=>simpa using Wy h6 i m (by simpa using hm)
   ·cases h
theorem Np {np:Nat} {gs env more:List GV} (henv:env=gs++more) (hn:gs.length=np):∀ {al:List (Option Nat)} {l l2:List Nat} {r:List GV},zo np al l=some l2->valsOf (λn=>env[n]?) l=some r->∃rest,valsOf (λn=>env[n]?) l2=some rest/\qM al gs r=some rest
 | [],l,l2,r,h,hv=>by simp only [zo,aT] at h;subst h;exact ⟨r,hv,rfl⟩
 | some i::al,l,l2,r,h,hv=>by
   simp only [zo] at h;cases hb:Nat.blt i np with
   | false=>rw [hb] at h;cases h
   | true=>
     rw [hb] at h;simp only [cond_true] at h;rw [iC] at hb;split at h
     ·next l3 h3=>
      cases h;obtain ⟨rest,h4,h5⟩:=Np henv hn h3 hv;have hi:env[i]? = some (gs[i]'(by omega)):=by rw [henv,kT (by omega),bK (by omega)]
      refine ⟨gs[i]'(by omega)::rest, ?_, ?_⟩
      ·simp only [valsOf,hi,h4]
      ·simp only [qM,h5,bK (show i < gs.length by omega)]
     ·cases h
 | none::al,[],l2,r,h,hv=>by simp [zo] at h
 | none::al,x::l,l2,r,h,hv=>by
   simp only [zo] at h;split at h
   ·next l3 h3=>
    cases h;simp only [valsOf] at hv;split at hv
    ·next g r' h6 h7=>
     cases hv;obtain ⟨rest,h4,h5⟩:=Np henv hn h3 h7;exact ⟨g::rest,by simp only [valsOf,h6,h4],by simp only [qM,h5]⟩
    ·cases hv
   ·cases h
theorem RH {np:Nat} {gs env more gs':List GV} (henv:env=gs++more) (hn:gs.length=np) {l:List Nat} (hv:valsOf (λn=>env[n]?) l=some gs'):∀ {al:List (Option Nat)},CJ np l al=true->∀r,qM al gs' r=qM al gs r
 | [],_,r=>rfl
 | none::al,h,[]=>rfl
 | none::al,h,x::r=>by
   simp only [CJ] at h;simp only [qM,RH henv hn hv h r]
 | some i::al,h,r=>by
   simp only [CJ,aG,iC] at h;obtain ⟨h1,h2,h3⟩:=h;split at h2
   ·next m hm=>
    have:=bn h2;subst this;have h4:gs'[m]? = gs[m]?:=by
     rw [Wy hv m m hm];show env[m]? = gs[m]?
     rw [henv,kT (by omega)]
    simp only [qM,RH henv hn hv h3 r,h4]
   ·cases h2
theorem XI {np:Nat} {l:List Nat}:∀ {posts:List (dK×eU)},LV np l posts=true->∀p∈posts,CJ np l p.2.al=true
 | q::posts,h,p,hp=>by
   simp only [LV,aG] at h;rcases dn.1 hp with rfl | hp
   ·exact h.1
   ·exact XI h.2 p hp
def ru (P:Program) (tabs:List (Nat×List AV)) (b:Code) (pre:eU) (posts:List (dK×eU)) (gs out:List GV):Prop:=
 ∃ (t:Nat) (r rest:List GV) (e:dK) (s:eU),out=GV.i .i64 t::r/\posts[t]? = some (e,s)/\qM s.al gs r=some rest/\rest.length=s.np/\∀w0 bW A w K,Ll P tabs pre gs w0 bW A w->(∀A' w',Ll P tabs s rest w0 bW A' w'->K e.toExit A' w')->xF P b K A w
theorem UO {T:aC} {tag:Nat} {t0:Nat} (htag:T.val tag=some (.i .i64 (t0:Nat))):∀ (l:List (dK×eU)) (t:Nat) {p:dK×eU},@D6 T.tofB tag l t=some p->t<=t0->∀q,l[t0 - t]? = some q->p=q
 | [],t,p,h,_,q,hq=>by simp [D6] at h
 | [x],t,p,h,hle,q,hq=>by
   simp only [D6,aT] at h;cases hd:t0 - t with
   | zero=>rw [hd] at hq;simp at hq;rw [<- h,hq]
   | succ n=>rw [hd] at hq;simp at hq
 | x::y::l,t,p,h,hle,q,hq=>by
   letI:=T
   simp only [D6] at h;split at h
   ·next c hc=>
    split at h
    ·next b hb=>
     obtain ⟨g1,k1,k2⟩:=dZ hc;simp only [Nd.den,aT] at k2;subst k2;obtain ⟨g2,m1,m2⟩:=dZ hb;have ahm:aC.val tag=some (.i .i64 (t0:Nat)):=htag;simp only [Nd.den,ahm,k1,fE,if_true,eH,aT] at m2;split at h
     ·next hd=>
      cases h;have:=T.x9 b true (Jl hd);have Ub:T.val b=some g2:=m1;rw [Ub] at this;cases this;simp at m2;have:t0 - t=0:=by omega
      rw [this] at hq;simpa using hq
     ·next hd=>
      have:=T.x9 b false (Jl hd);have Ub:T.val b=some g2:=m1;rw [Ub] at this;cases this;simp at m2;have e:t0 - t=(t0 - (t+1))+1:=by omega
      rw [e,pW] at hq;exact UO htag (y::l) (t+1) h (by omega) q hq
     ·cases h
    ·cases h
   ·cases h
theorem JZ {T:aC} {key:Nat} {ps:List Nat} {gs out:List GV} (hps:valsOf T.val ps=some gs) (hI:T.I key gs=some out):∀ (n j:Nat) (al:List (Option Nat)) {ns:List Nat} {r rest:List GV},(∀k:Nat,r[k]? = out[j+k]?)->qM al gs r=some rest->@yB T.tofB key ps al j n=some ns->ns.length=n/\∀ (i m:Nat),ns[i]? = some m->T.val m=rest[i]?
 | 0,j,al,ns,r,rest,_,_,h=>by
   letI:=T
   have:ns=[]:=by unfold yB at h;simpa using h.symm
   subst this;simp
 | n+1,j,some i0::al,ns,r,rest,hr,he,h=>by
   letI:=T
   simp only [yB] at h;simp only [qM] at he;split at he
   ·next g l hg hl=>
    cases he;split at h
    ·next m r' hm hr'=>
     cases h;obtain ⟨h1,h2⟩:=JZ hps hI n j al hr hl hr';refine ⟨by simp [h1],λi m' hi=>?_⟩;cases i with
     | zero=>
       simp at hi;subst hi;have:=Wy hps i0 m hm;rw [gW,<- hg];exact this.symm
     | succ i=>simpa using h2 i m' (by simpa using hi)
    ·cases h
   ·cases he
 | n+1,j,none::al,ns,[],rest,hr,he,h=>by simp [qM] at he
 | n+1,j,none::al,ns,x::r,rest,hr,he,h=>by
   letI:=T
   simp only [yB] at h;simp only [qM] at he;split at he
   ·next l hl=>
    cases he;split at h
    ·next m r' hm hr'=>
     cases h;obtain ⟨h1,h2⟩:=JZ hps hI n (j+1) al (r:=r) (λk=>by
      have:=hr (k+1);rw [pW] at this;rw [this];congr 1;omega) hl hr'
     refine ⟨by simp [h1],λi m' hi=>?_⟩;cases i with
     | zero=>
       simp at hi;subst hi;obtain ⟨g,k1,k2⟩:=dZ hm;have SS:valsOf aC.val ps=some gs:=hps;have hI':aC.I key gs=some out:=hI;simp only [Nd.den,SS,hI'] at k2;have k1':T.val m=some g:=k1;have:=hr 0;simp only [gW,jU] at this;rw [k1',gW,this];exact k2.symm
     | succ i=>simpa using h2 i m' (by simpa using hi)
    ·cases h
   ·cases he
 | n+1,j,[],ns,r,rest,hr,he,h=>by
   letI:=T
   simp only [yB] at h;simp only [qM,aT] at he;subst he;split at h
   ·next m r' hm hr'=>
    cases h;obtain ⟨h1,h2⟩:=JZ hps hI n (j+1) [] (r:=r.tail) (λk=>by
     have:=hr (k+1);rw [List.getElem?_tail,this];congr 1;omega) rfl hr'
    refine ⟨by simp [h1],λi m' hi=>?_⟩;cases i with
    | zero=>
      simp at hi;subst hi;obtain ⟨g,k1,k2⟩:=dZ hm;have SS:valsOf aC.val ps=some gs:=hps;have hI':aC.I key gs=some out:=hI;simp only [Nd.den,SS,hI'] at k2;have k1':T.val m=some g:=k1;have:=hr 0;rw [jU] at this;rw [k1',this];exact k2.symm
    | succ i=>
      have:=h2 i m' (by simpa using hi);rw [this,List.getElem?_tail]
   ·cases h
theorem TM {T:aC} {tabs:List (Nat×List AV)} (qO:T.tabs=tabs) (hlow:rF tabs P.globals.size) {sp:bD} (hok:sp.pre.ok=true) {b:Code} (hC:∀gs out,T.I sp.key gs=some out->ru P tabs b sp.pre sp.posts gs out)
 {a a':aW} {σ σ':aj} {e:dK} (h:@TL T.tofB P tabs sp a σ=some (e,a',σ')) {Q:dK->aW->aj->Prop} (hq:Q e a' σ'):@yM T P b a σ Q:=by
 letI:=T
 unfold TL at h;split at h
 ·next ps hps=>
  split at h
  ·next hfit=>
   split at h
   ·next tag htag=>
    split at h
    ·next e' s hpick=>
     split at h;rotate_left
     ·cases h
     next SY=>
     have SY:=bn SY;split at h
     ·next ns hns=>
      cases h;obtain ⟨gt,t1,t2⟩:=dZ htag;simp only [Nd.den] at t2;split at t2
      ·next gs hgs=>
       split at t2
       ·next out hI=>
        obtain ⟨t,r,rest,e2,s2,rfl,hp2,hex,hrl,hrun⟩:=hC gs out hI;simp only [gW,aT] at t2;subst t2;have hpe:=UO t1 sp.posts 0 hpick (uF _) (e2,s2) (by simpa using hp2);cases hpe;obtain ⟨n1,n2⟩:=JZ hgs hI _ 1 s.al (r:=r) (λk=>by rw [IC,pW]) hex hns;intro w0 bW η w A K hF hl ht hK;unfold fits at hfit;rw [aG] at hfit;have hst:=Uf qO hlow hok hF hl ht hfit.2 hgs;refine hrun w0 bW A w K hst λA' w' hs'=>?_;obtain ⟨η',hF',ht'⟩:=VN (T:=T) (f:=λj=>ns.getD j 0) qO SY.symm (λj g hj=>by
         have hjl:j < ns.length:=by have:=(dL.1 hj).1;omega
         have hm:ns[j]? = some (ns.getD j 0):=by rw [xG,bK hjl];rfl
         rw [n2 j _ hm];exact hj) hs'
        exact hK e _ _ η' A' w' hq hF' rfl ht'
       ·cases t2
      ·cases t2
     ·cases h
    ·cases h
   ·cases h
  ·cases h
 ·cases h
theorem Wx {val:Nat->Option GV}:∀ {l:List Nat} {gs:List GV},valsOf val l=some gs->gs.length=l.length
 | [],gs,h=>by simp only [valsOf,aT] at h;subst h;rfl
 | x::l,gs,h=>by
   simp only [valsOf] at h;split at h
   ·next h5 h6=>cases h;simp [Wx h6]
   ·cases h
def dK.eq:dK->dK->Bool
 | .normal,.normal=>true
 | .ret,.ret=>true
 | .exit a,.exit b=>Nat.beq a b
 | _,_=>false
theorem dK.eq_of {a b:dK} (h:a.eq b=true):a=b:=by
 cases a<;>cases b<;>first | rfl | (cases h;done) | skip
 rw [bn h]
abbrev jl:=fB->List (FuncId×dM)
def vJ (P:Program) (tabs:List (Nat×List AV)) (I:fG) (pl:jl):Prop:=∀T:aC,T.tabs=tabs->T.I=I->∀p∈pl T.tofB,@dN T P p.1 p.2
def Ee (P:Program) (N:fB) (pl:jl) (fuel:Nat):Code->aW->aj->Option (dK×aW×aj):=@Ap N P (Lp P) (Vj (pl N)) fuel
def zY (P:Program) (tabs:List (Nat×List AV)) (N:fB) (specs:List (Nat×bD)):QD:=λk a σ=>match bM k specs with
 | some sp=>@TL N P tabs sp a σ
 | none=>none
def Ol (P:Program) (tabs:List (Nat×List AV)) (pl:jl) (specs:List (Nat×bD)) (fuel:Nat) (sp:bD) (ac:AC) (ns:List Nd) (ds:List (Nat×Bool)) (lf:Leaf):Bool:=
 match @sV ⟨ns,ds,sp.pre.ka⟩ (zY P tabs ⟨ns,ds,sp.pre.ka⟩ specs) (Ee P ⟨ns,ds,sp.pre.ka⟩ pl fuel) ac (sp.pre.LU λj=>j) (sp.pre.zX tabs λj=>j) with
 | some (e,a',σ')=>match lf with
   | .ret (tn::l)=>match ns[tn]? with
     | some (.ci .i64 t)=>match sp.posts[t.toNat]? with
       | some (e',s)=>decide (0<=t)&&!(e.eq .normal)&&e.eq e'&&s.ok&&(match zo sp.pre.np s.al l with | some l2=>@fits ⟨ns,ds,sp.pre.ka⟩ P s a' σ' l2 | none=>false)
       | none=>false
     | _=>false
   | .tail f l=>Nat.beq f sp.key&&e.eq .normal&&(LV sp.pre.np l sp.posts&&@fits ⟨ns,ds,sp.pre.ka⟩ P sp.pre a' σ' l)
   | _=>false
 | none=>false
@[reducible] def Tw (tabs:List (Nat×List AV)) (I:fG) (ka:Nat) {ns:List Nd} {ds:List (Nat×Bool)} {env:List GV} (h:yZ I ns ds env):aC:={ nodes:=ns,dec:=ds,ka:=ka,tabs:=tabs,I:=I,val:=λn=>env[n]?,oK:=h.node,x9:=h.dec }
theorem yZ.start (I:fG) (gs:List GV) (n:Nat) (h:gs.length=n):yZ I (List.replicate n .arg) [] gs:=
 ⟨by simp [h],λk nd hk hn=>absurd (Xl.1 (qF hk)).2 hn,λk b hb=>by simp at hb⟩
theorem VE {T:aC} (hm:P.follows .mixedOrders=true) (hn:sK P) {pl:jl} (hp:∀p∈pl T.tofB,@dN T P p.1 p.2) (fuel:Nat):@IU T P (Ee P T.tofB pl fuel):=
 (@Yz T P _ _ (Y0 hm) (abW hp) hn fuel).1
theorem ru.JW {tabs:List (Nat×List AV)} (hlow:rF tabs P.globals.size) (hm:P.follows .mixedOrders=true) (hn:sK P) {pl:jl} {I:fG} (hpl:vJ P tabs I pl) {specs:List (Nat×bD)} {fuel:Nat} {sp:bD} (hok:sp.pre.ok=true) {ps:List Nat} {b:Code} {t:Tree}
 (Dz:∀k sp',bM k specs=some sp'->sp'.pre.ok=true/\∀c,(jY ps b).mJ k c->∀gs out,I sp'.key gs=some out->ru P tabs c sp'.pre sp'.posts gs out)
 (hself:∀gs out,I sp.key gs=some out->ru P tabs b sp.pre sp.posts gs out)
 (tN:t.chk (Ol P tabs pl specs fuel sp (jY ps b)) (List.replicate sp.pre.np .arg) []=true) {gs out:List GV} (hlen:gs.length=sp.pre.np) (hd:t.den I gs=some out):ru P tabs b sp.pre sp.posts gs out:=by
 obtain ⟨ns,ds,env,lf,h1,h2,⟨more,h3⟩,h4⟩:=Tree.Fg t tN (yZ.start I gs _ hlen) hd;let T:aC:=Tw tabs I sp.pre.ka h2
 unfold Ol at h1;split at h1
 ·next e a' σ' hrun=>
  have F5:∀Q:dK->aW->aj->Prop,Q e a' σ'->@AT T P b (sp.pre.LU λj=>j) (sp.pre.zX tabs λj=>j) Q:=by
   intro Q hq;have:=@QM P T (zY P tabs ⟨ns,ds,sp.pre.ka⟩ specs) (Ee P ⟨ns,ds,sp.pre.ka⟩ pl fuel) (VE (T:=T) hm hn (hpl T rfl rfl) fuel) (jY ps b) (vO ps b 0).2 (λk c hk a σ e1 a1 σ1 hs Q' hq'=>by
    unfold zY at hs;split at hs
    ·next sp' hsp=>
     obtain ⟨k1,k2⟩:=Dz k sp' hsp;exact TM (T:=T) rfl hlow k1 (λgs out hI=>k2 c hk gs out hI) hs hq'
    ·cases hs) _ _ _ _ _ hrun Q hq
   rwa [show (jY ps b).erase=b from (vO ps b 0).1] at this
  have henv:∀j g,gs[j]? = some g->T.val ((λj=>j) j)=some g:=by
   intro j g hj;show env[j]? = some g
   rw [h3];have:=(dL.1 hj).1;rw [kT this];exact hj
  split at h1
  ·next tn l=>
   split at h1
   ·next tt htn=>
    split at h1
    ·next e' s hpost=>
     simp only [aG,decide_eq_true_iff] at h1;obtain ⟨⟨⟨⟨t0,t1⟩,t2⟩,t3⟩,t4⟩:=h1;split at t4;rotate_left
     ·cases t4
     next l2 hl2=>
     have e1:=dK.eq_of t2;subst e1;simp only [valsOf] at h4;split at h4
     ·next g r hg hr0=>
      cases h4;obtain ⟨g',k1,k2⟩:=h2.node tn _ htn (by simp);have hg':env[tn]? = some g:=hg;rw [hg'] at k1;cases k1;simp only [Nd.den,aT] at k2;subst k2;obtain ⟨rest,hrest,hex⟩:=Np h3 hlen hl2 hr0;have hfl:rest.length=s.np:=by
       unfold fits at t4;rw [aG] at t4;rw [<- bn t4.1];exact Wx hrest
      refine ⟨tt.toNat,r,rest,e,s,by rw [Int.toNat_of_nonneg t0],hpost,hex,hfl,λw0 bW A w K hS hK=>xF.step ?_⟩;obtain ⟨η,hF,ht⟩:=VN (T:=T) (f:=λj=>j) rfl rfl henv hS;refine F5 (λe2 a2 σ2=>e2=e/\a2=a'/\σ2=σ') ⟨rfl,rfl,rfl⟩ w0 bW η w A _ hF rfl ht ?_;rintro e2 a2 σ2 η' A' w' ⟨rfl,rfl,rfl⟩ hF' hl' ht'
      unfold fits at t4;rw [aG] at t4;have hst:=Uf (T:=T) rfl hlow t3 hF' hl' ht' t4.2 hrest;have:=hK A' w' hst;cases e2 with
      | normal=>simp [dK.eq] at t1
      | exit id=>exact this
      | ret=>exact this
     ·cases h4
    ·cases h1
   ·cases h1
  ·next f l=>
   simp only [aG] at h1;obtain ⟨⟨t1,t2⟩,t5,t3⟩:=h1;have e1:=dK.eq_of t2;subst e1;have e2:=bn t1;subst e2;obtain ⟨gs',hgs',hI⟩:=h4;obtain ⟨tn,r,rest,e2,s,r1,r2,r5,r3,r4⟩:=hself gs' out hI;refine ⟨tn,r,rest,e2,s,r1,r2,by rw [<- RH h3 hlen hgs' (XI t5 _ (qF r2)) r];exact r5,r3,λw0 bW A w K hS hK=>xF.step ?_⟩;obtain ⟨η,hF,ht⟩:=VN (T:=T) (f:=λj=>j) rfl rfl henv hS;refine F5 (λe2 a2 σ2=>e2=.normal/\a2=a'/\σ2=σ') ⟨rfl,rfl,rfl⟩ w0 bW η w A _ hF rfl ht ?_;rintro e3 a2 σ2 η' A' w' ⟨rfl,rfl,rfl⟩ hF' hl' ht'
   unfold fits at t3;rw [aG] at t3;have hst:=Uf (T:=T) rfl hlow hok hF' hl' ht' t3.2 hgs';exact r4 w0 bW A' w' K hst hK
  ·cases h1
 ·cases h1
end
end Go.aJ
namespace Go.aJ
set_option linter.unusedSimpArgs false
noncomputable section
set_option linter.unusedSectionVars false
set_option linter.unusedVariables false
variable {P:Program}
structure oP (P:Program) (tabs:List (Nat×List AV)) (f:FuncId) (st:List (Option FuncId)) (sh:List mQ) (gs out:List GV):Prop where
 call:adH P tabs f st gs out
 fits:kD sh out=true
section
variable [fB]
def MB (P:Program) (σ:aj) (fz:List Nat) (a:AV):Option Nat:=
 match Gx P σ a with
 | some (m,none)=>some m
 | some (m,some _)=>if NJ P σ fz a m then some m else none
 | none=>none
def Di (P:Program) (σ:aj) (fz:List Nat):List AV->Option (List Nat)
 | []=>some []
 | a::l=>match MB P σ fz a,Di P σ fz l with
   | some m,some r=>some (m::r)
   | _,_=>none
def Qa (P:Program) (σ:aj) (fz:List Nat):AV->Option Nat
 | .agg l=>match Di P σ fz l with
   | some ns=>dP (.mk ns)
   | none=>none
 | a=>MB P σ fz a
def valsN (P:Program) (σ:aj) (fz:List Nat):List AV->Option (List Nat)
 | []=>some []
 | a::l=>match Qa P σ fz a,valsN P σ fz l with
   | some m,some r=>some (m::r)
   | _,_=>none
def ZX (P:Program) (σ:aj) (a:AV):List Nat:=match Gx P σ a with
 | some (_,some id)=>[id]
 | _=>[]
def kJ (P:Program) (σ:aj):List AV->List Nat
 | []=>[]
 | .agg l::r=>l.flatMap (ZX P σ)++kJ P σ r
 | a::r=>ZX P σ a++kJ P σ r
def OQ (k:Nat) (ns:List Nat) (j:Nat):mQ->Option AV
 | .sc=>iR (.call k ns j)
 | .ag n=>match dP (.call k ns j) with
   | some m=>(Dc m 0 n).map .agg
   | none=>none
def zI (k:Nat) (ns:List Nat):Nat->List mQ->Option (List AV)
 | _,[]=>some []
 | j,s::l=>match OQ k ns j s,zI k ns (j+1) l with
   | some a,some r=>some (a::r)
   | _,_=>none
def OV (P:Program) (k:Nat) (st:List (Option FuncId)) (sh:List mQ):dM:=λIY σ=>match yH st IY with
 | none=>none
 | some args=>
 let fz:=kJ P σ args
 if fz.all (Nat.ble σ.lock ·) then
  match valsN P σ fz args with
  | some ns=>match zI k ns 0 sh with
    | some (a::l)=>some (BN (a::l),kills σ fz)
    | _=>none
  | none=>none
 else none
end
theorem FW {T:aC} {η:Env} {σ:aj} {w:World} (h:@SR T P η σ w):∀fz:List Nat,(∀id∈fz,σ.lock<=id)->∃bG,(∀b o,η.ro b=some o->bG b=some o)/\@St T P η σ w ⟨η.pl,bG,η.gh⟩ (kills σ fz) w/\
 (∀id∈fz,∀o q,σ.get id=some o->o.own=true->η id=some q->bG q.bl=w.heap[q.bl]?)
 | [],_=>⟨η.ro,λ_ _ h=>h,@St.refl T _ _ _ _ h,by simp⟩
 | id::fz,hlk=>by
   letI:=T
   obtain ⟨bG,h1,h2,h3⟩:=FW h fz (λk hk=>hlk k (yT _ hk));by_cases hx:∃o q,(kills σ fz).get id=some o/\o.own=true/\η id=some q
   ·obtain ⟨o,q,ho,hown,hq⟩:=hx
    have hst:=St.freeze h2.rel ho hown (by rw [Gh];exact hlk id (by simp)) (show (⟨η.pl,bG,η.gh⟩:Env) id=some q from hq);refine ⟨BI bG w q.bl,λb o hb=>O6 h2.rel.gV q.bl b o (h1 b o hb),h2.trans hst, ?_⟩;intro id' iE o' q' ho' hown' hq';show (if q'.bl=q.bl then w.heap[q.bl]? else bG q'.bl)=_
    split
    ·next e=>rw [e]
    ·next e=>
     rcases dn.1 iE with rfl | iE
     ·rw [hq] at hq';cases hq';exact absurd rfl e
     ·exact h3 id' iE o' q' ho' hown' hq'
   ·refine ⟨bG,h1,h2.Oc id, ?_⟩
    intro id' iE o' q' ho' hown' hq';rcases dn.1 iE with rfl | iE
    ·by_cases hm:id'∈fz
     ·exact h3 id' hm o' q' ho' hown' hq'
     ·exact absurd ⟨o',q',by rw [zB,ah hm];exact ho',hown',hq'⟩ hx
    ·exact h3 id' iE o' q' ho' hown' hq'
section
variable {T:aC} {tabs:List (Nat×List AV)} {G next:Nat} {η:Env} {σ:aj} {w:World} {fz:List Nat} {r:List (Nat×Option Nat)} {ps:List Nat} {gs:List GV} {bG:Nat->Option Obj}
theorem ajl {a:AV} {m:Nat} (h:@Gx T.tofB P σ a=some (m,none)):@gB T.tofB a=some m:=by
 letI:=T
 unfold Gx at h;split at h
 ·next m' hm=>cases h;exact hm
 ·split at h
  ·split at h<;>cases h
  ·split at h
   ·obtain ⟨m',_,e⟩:=aX.1 h;cases e
   ·cases h
  ·cases h
theorem Yh (C:pY T P tabs G next η σ w fz r ps gs bG) {a:AV} {m:Nat} {v:Value} (h:@MB T.tofB P σ fz a=some m) (hv:@VR T η a v):∃g,T.val m=some g/\g.scalar=true/\GR bG g v:=by
 letI:=T
 unfold MB at h;split at h
 ·next m' hc=>
  cases h;obtain ⟨g,k1,k2,k3⟩:=jJ (ajl hc) hv;exact ⟨g,k1,k2,GR.mono C.qU _ _ k3⟩
 ·next m' id hc=>
  split at h
  ·next hf=>
   cases h;have hval:∃g,T.val m=some g:=by
    unfold Gx at hc;split at hc
    ·cases hc
    ·split at hc
     ·next id' n=>
      split at hc
      ·next m2 et f hg=>
       cases hc;rcases C.rel.live _ _ hg with ⟨q,hq,hor⟩ | ⟨_,n2,RF,f2,e2,hv0⟩
       ·obtain ⟨xs,x1,_⟩:=hor.Gs;exact ⟨_,x1⟩
       ·cases e2;exact ⟨_,hv0⟩
      ·cases hc
     ·split at hc
      ·next c et qV opn hg=>
       obtain ⟨m2,hl,e⟩:=aX.1 hc;cases e;unfold listOf at hl;simp only [hg] at hl;split at hl
       ·split at hl
        ·split at hl
         ·split at hl
          ·obtain ⟨g,g1,_⟩:=dZ hl;exact ⟨g,g1⟩
          ·cases hl
         ·cases hl
        ·cases hl
       ·cases hl
      ·cases hc
     ·cases hc
   obtain ⟨g,hg⟩:=hval;obtain ⟨k1,k2⟩:=ZV C hf hv hg;exact ⟨g,hg,k1,k2⟩
  ·cases h
 ·cases h
theorem MF (C:pY T P tabs G next η σ w fz r ps gs bG):∀ {l:List AV} {ns:List Nat} {vs:List Value},@Di T.tofB P σ fz l=some ns->@ay T η l vs->∃gl,valsOf T.val ns=some gl/\gl.all GV.scalar=true/\aK bG gl vs
 | [],ns,vs,h,hv=>by simp only [Di,aT] at h;subst h;simp only [ay] at hv;subst hv;exact ⟨[],rfl,rfl,by simp [aK]⟩
 | a::l,ns,vs,h,hv=>by
   letI:=T
   simp only [Di] at h;split at h
   ·next m r' hm hr=>
    cases h;simp only [ay] at hv;obtain ⟨x,xs,rfl,h1,h2⟩:=hv;obtain ⟨g,g1,g2,g3⟩:=Yh C hm h1;obtain ⟨gl,k1,k2,k3⟩:=MF C hr h2;exact ⟨g::gl,by simp only [valsOf,g1,k1],by simp [g2,k2],by simp only [aK];exact ⟨x,xs,rfl,g3,k3⟩⟩
   ·cases h
theorem aor (C:pY T P tabs G next η σ w fz r ps gs bG) {a:AV} {m:Nat} {v:Value} (h:@Qa T.tofB P σ fz a=some m) (hv:@VR T η a v):∃g,T.val m=some g/\GR bG g v/\(match a with | .agg l=>∃gl,g=.g gl/\gl.length=l.length | _=>g.scalar=true):=by
 letI:=T
 cases a;case agg l=>
  simp only [Qa] at h;split at h
  ·next ns hns=>
   simp only [VR] at hv;obtain ⟨vs,rfl,hvs⟩:=hv;obtain ⟨gl,k1,k2,k3⟩:=MF C hns hvs;obtain ⟨g,g1,g2⟩:=dZ h;have k1':valsOf aC.val ns=some gl:=k1;simp only [Nd.den,k1',k2,if_true,aT] at g2;subst g2;exact ⟨_,g1,by simp only [GR];exact ⟨vs,rfl,k3⟩,gl,rfl,by rw [k3.length,hvs.length]⟩
  ·cases h
 all_goals
  simp only [Qa] at h;obtain ⟨g,g1,g2,g3⟩:=Yh C h hv;exact ⟨g,g1,g3,g2⟩
theorem Qb (C:pY T P tabs G next η σ w fz r ps gs bG):∀ {l:List AV} {ns:List Nat} {vs:List Value},@valsN T.tofB P σ fz l=some ns->@ay T η l vs->∃gl,valsOf T.val ns=some gl/\aK bG gl vs
 | [],ns,vs,h,hv=>by simp only [valsN,aT] at h;subst h;simp only [ay] at hv;subst hv;exact ⟨[],rfl,by simp [aK]⟩
 | a::l,ns,vs,h,hv=>by
   letI:=T
   simp only [valsN] at h;split at h
   ·next m r' hm hr=>
    cases h;simp only [ay] at hv;obtain ⟨x,xs,rfl,h1,h2⟩:=hv;obtain ⟨g,g1,g2,_⟩:=aor C hm h1;obtain ⟨gl,k1,k2⟩:=Qb C hr h2;exact ⟨g::gl,by simp only [valsOf,g1,k1],by simp only [aK];exact ⟨x,xs,rfl,g2,k2⟩⟩
   ·cases h
theorem OT {k:Nat} {ns:List Nat} {gl out:List GV} (hns:valsOf T.val ns=some gl) (hI:T.I k gl=some out) {η':Env}:∀ {sh:List mQ} {j:Nat} {l:List AV} {us:List Value} {rest:List GV},@zI T.tofB k ns j sh=some l->kD sh rest=true->(∀i,rest[i]? = out[j+i]?)->aK η'.ro rest us->@ay T η' l us
 | [],j,l,us,rest,h,hf,hr,hg=>by
   cases rest with
   | cons a b=>simp [kD] at hf
   | nil=>simp only [zI,aT] at h;subst h;simp only [aK] at hg;subst hg;simp [ay]
 | s::sh,j,l,us,rest,h,hf,hr,hg=>by
   letI:=T
   cases rest with
   | nil=>cases s<;>simp [kD] at hf
   | cons g rest=>
     simp only [zI] at h;split at h
     ·next a r' ha hr'=>
      cases h;simp only [aK] at hg;obtain ⟨u,us',rfl,g1,g2⟩:=hg;have h0:=hr 0;simp only [gW,jU] at h0;have hden:(Nd.call k ns j).den aC.I aC.val=some g:=by
       have SN:valsOf aC.val ns=some gl:=hns;have hI':aC.I k gl=some out:=hI;simp only [Nd.den,SN,hI'];exact h0.symm
      have hrest:∀i,rest[i]? = out[j+1+i]?:=λi=>by
       have:=hr (i+1);rw [pW] at this;rw [this];congr 1;omega
      cases s with
      | sc=>
        simp only [kD,aG] at hf;refine ⟨u,us',rfl, ?_,OT hns hI hr' hf.2 hrest g2⟩;obtain ⟨_,g',_,k2,k3⟩:=jQ (η:=η') ha;rw [hden] at k2;cases k2;exact k3 u hf.1 g1
      | ag n=>
        simp only [kD,aG] at hf;refine ⟨u,us',rfl, ?_,OT hns hI hr' hf.2 hrest g2⟩;simp only [OQ] at ha;split at ha
        ·next m hm=>
         obtain ⟨l',hl',rfl⟩:=aX.1 ha;obtain ⟨g',k1,k2⟩:=dZ hm;rw [hden] at k2;cases k2;obtain ⟨r'',h5,h6⟩:=MC (η:=η') k1 n 0 hl';cases g with
         | g cs=>
           have hlen:=bn hf.1.2;simp only [GR] at g1;obtain ⟨vs,rfl,hvs⟩:=g1;simp only [VR];refine ⟨vs,rfl,h6 vs ?_⟩;obtain ⟨e1,e2,_⟩:=pK h5;have hlen':cs.length=n:=hlen;rw [e1,fH,mP (by rw [jI];show cs.length<=n;omega)];exact (mG _ _).1 hvs
         | _=>simp [GV.scalar] at hf
        ·cases ha
     ·cases h
theorem Wn {T:aC} {η:Env} {l:List AV} {us:List Value} (h:@ay T η l us):@VR T η (BN l) (yI us):=by
 letI:=T
 have hl:=h.length;match l,us,h,hl with
 | [a],[u],h,_=>simp only [ay] at h;obtain ⟨x,xs,e,h1,h2⟩:=h;cases e;exact h1
 | [],[],h,_=>show VR η (.cO []) (.tuple ⟨[]⟩);simp only [VR];exact ⟨_,rfl,h⟩
 | a::b::l,u::u'::us,h,_=>show VR η (.cO _) (.tuple ⟨_⟩);simp only [VR];exact ⟨_,rfl,h⟩
 | [],_::_,_,hl=>simp at hl
 | [_],[],_,hl=>simp at hl
 | [_],_::_::_,_,hl=>simp at hl
 | _::_::_,[],_,hl=>simp at hl
 | _::_::_,[_],_,hl=>simp at hl
theorem abJ {f:FuncId} {k:Nat} {st:List (Option FuncId)} {sh:List mQ} (hC:∀gs out,T.I k gs=some out->oP P T.tabs f st sh gs out):@dN T P f (@OV T.tofB P k st sh):=by
 letI:=T
 intro IY σ rr σ' hs η w vs0 hS hv0;unfold OV at hs;split at hs
 ·cases hs
 next args htk=>
 obtain ⟨vs,rfl,hv⟩:=P5 htk hv0;simp only at hs;split at hs
 ·next hlk=>
  have rM:∀id∈kJ P σ args,σ.lock<=id:=λid hid=>nM (List.all_eq_true.1 hlk id hid);split at hs
  ·next ns hns=>
   split at hs
   ·next a0 l hl=>
    cases hs;obtain ⟨bG,f1,f2,f3⟩:=FW hS (kJ P σ args) rM;have C:pY T P T.tabs P.globals.size (P.globals.size+1) η σ w (kJ P σ args) [] [] [] bG:=⟨hS,rfl,f1,f3,rfl,Aj _⟩
    obtain ⟨gl,k1,k2⟩:=Qb C hns hv;have hI:∃out,T.I k gl=some out:=by
     have hden:∀ {m g},dP (.call k ns 0)=some m->aC.val m=some g->∃out,T.I k gl=some out:=by
      intro m g hm hg;obtain ⟨g',_,d2⟩:=dZ hm;have k1':valsOf aC.val ns=some gl:=k1;simp only [Nd.den,k1'] at d2;split at d2
      ·next r hr=>exact ⟨r,hr⟩
      ·cases d2
     cases sh with
     | nil=>simp [zI] at hl
     | cons s sh=>
       simp only [zI] at hl;split at hl
       ·next a1 r1 ha1 _=>
        cases s with
        | sc=>
          simp only [OQ,iR] at ha1;split at ha1
          ·next m hm=>obtain ⟨g,g1,_⟩:=dZ hm;exact hden hm g1
          ·cases ha1
        | ag n=>
          simp only [OQ] at ha1;split at ha1
          ·next m hm=>obtain ⟨g,g1,_⟩:=dZ hm;exact hden hm g1
          ·cases ha1
       ·cases hl
    obtain ⟨out,hI⟩:=hI;obtain ⟨hcall,hfit⟩:=hC gl out hI;refine iU.mono (hcall bG w vs f2.rel.Kq k2) ?_;rintro v w' ⟨ro',hro,us,rfl,hus⟩
    have hst:=St.abx (ro':=ro') f2.rel hro;refine ⟨_,f2.trans hst,Wn (OT k1 hI (η':=⟨η.pl,ro',η.gh⟩) hl hfit (λi=>by simp) hus)⟩
   ·cases hs
  ·cases hs
 ·cases hs
def VA:List mQ->List AV->Bool
 | [],[]=>true
 | .sc::l,a::m=>(match a with | .agg _=>false | _=>true)&&VA l m
 | .ag n::l,a::m=>(match a with | .agg c=>Nat.beq c.length n | _=>false)&&VA l m
 | _,_=>false
section
variable [fB]
def CP:Nat->List mQ->Option (List AV)
 | _,[]=>some []
 | j,.sc::l=>match CP (j+1) l with
   | some r=>some (.nd j::r)
   | none=>none
 | j,.ag n::l=>match Dc j 0 n,CP (j+1) l with
   | some c,some r=>some (.agg c::r)
   | _,_=>none
end
theorem QU {η:Env}:∀ {sh:List mQ} {j:Nat} {l:List AV} {vs:List Value} {rest:List GV},@CP T.tofB j sh=some l->kD sh rest=true->(∀i g,rest[i]? = some g->T.val (j+i)=some g)->aK η.ro rest vs->@ay T η l vs
 | [],j,l,vs,rest,h,hf,hr,hg=>by
   cases rest with
   | cons a b=>simp [kD] at hf
   | nil=>simp only [CP,aT] at h;subst h;simp only [aK] at hg;subst hg;simp [ay]
 | s::sh,j,l,vs,rest,h,hf,hr,hg=>by
   letI:=T
   cases rest with
   | nil=>cases s<;>simp [kD] at hf
   | cons g rest=>
     simp only [aK] at hg;obtain ⟨u,us,rfl,g1,g2⟩:=hg;have h0:=hr 0 g (by simp);have hrest:∀i g,rest[i]? = some g->T.val (j+1+i)=some g:=λi g hi=>by
      have:=hr (i+1) g (by simpa using hi);rw [<- this];congr 1;omega
     cases s with
     | sc=>
       simp only [CP] at h;split at h
       ·next r' hr'=>
        cases h;simp only [kD,aG] at hf;exact ⟨u,us,rfl,by simp only [VR];exact ⟨g,h0,hf.1,g1⟩,QU hr' hf.2 hrest g2⟩
       ·cases h
     | ag n=>
       simp only [CP] at h;split at h
       ·next c r' hc hr'=>
        cases h;simp only [kD,aG] at hf;refine ⟨u,us,rfl, ?_,QU hr' hf.2 hrest g2⟩;obtain ⟨r'',h5,h6⟩:=MC (η:=η) h0 n 0 hc;cases g with
        | g cs=>
          have hlen:=bn hf.1.2;simp only [GR] at g1;obtain ⟨vs,rfl,hvs⟩:=g1;simp only [VR];refine ⟨vs,rfl,h6 vs ?_⟩;obtain ⟨e1,e2,_⟩:=pK h5;have hlen':cs.length=n:=hlen;rw [e1,fH,mP (by rw [jI];show cs.length<=n;omega)];exact (mG _ _).1 hvs
        | _=>simp [GV.scalar] at hf
       ·cases h
def TQ (P:Program) (tabs:List (Nat×List AV)) (pl:jl) (specs:List (Nat×bD)) (fuel:Nat) (st:List (Option FuncId)) (um vZ:List mQ) (ntmps:Nat) (res:List ResultVar) (ac:AC) (ns:List Nd) (ds:List (Nat×Bool)) (lf:Leaf):Bool:=
 match lf with
 | .ret l=>match @CP ⟨ns,ds,0⟩ 0 um with
   | some args=>match @sV ⟨ns,ds,0⟩ (zY P tabs ⟨ns,ds,0⟩ specs) (Ee P ⟨ns,ds,0⟩ pl fuel) ac { t:=wM (tY st args) 0 .nil,n:=max (tY st args).length ntmps,gn:=P.globals.size } ⟨nG (sD tabs),P.globals.size+1,0⟩ with
     | some (e,a',σ')=>(match e with | .exit _=>false | _=>true)&&match xR P σ' a' res with
       | some rs=>VA vZ rs&&match @valsN ⟨ns,ds,0⟩ P σ' (@kJ ⟨ns,ds,0⟩ P σ' rs) rs with
         | some l'=>uU l l'
         | none=>false
       | none=>false
     | none=>false
   | none=>false
 | _=>false
theorem PX (hlow:rF tabs P.globals.size) (qO:T.tabs=tabs):@xM T ⟨nG (sD tabs),P.globals.size+1,0⟩ P.globals.size:=by
 refine ⟨Nat.lt_succ_self _,λid o ho=>?_⟩;have hm:=JV (show (nG (sD tabs)).get id=some o from ho);obtain ⟨p,hp,e⟩:=oC.1 hm;cases e;exact ⟨p.2,rfl,by rw [qO];exact hp,hlow.low p hp⟩
theorem oP.JW {tabs:List (Nat×List AV)} (hlow:rF tabs P.globals.size) (hm:P.follows .mixedOrders=true) (hn:sK P) {pl:jl} {I:fG} (hpl:vJ P tabs I pl) {specs:List (Nat×bD)} {fuel:Nat} {f:FuncId} {fn:Func} {c:Code} {pe:List Nat} {st:List (Option FuncId)} {um vZ:List mQ} {t:Tree}
 (hf:P.funcs[f]? = some fn) (hc:fn.body=some c)
 (Dz:∀k sp',bM k specs=some sp'->sp'.pre.ok=true/\∀b,(jY pe c).mJ k b->∀gs out,I sp'.key gs=some out->ru P tabs b sp'.pre sp'.posts gs out)
 (tN:t.chk (TQ P tabs pl specs fuel st um vZ fn.ntmps fn.results.toList (jY pe c)) (List.replicate um.length .arg) []=true) {gs out:List GV} (hd:(aI.fn um vZ t).den I gs=some out):oP P tabs f st vZ gs out:=by
 simp only [aI.den] at hd;split at hd;rotate_left
 ·cases hd
 next hfit=>
 split at hd;rotate_left
 ·cases hd
 next arC hd0=>
 split at hd;rotate_left
 ·cases hd
 next hfo=>
 cases hd;have hd:=hd0;have hlen:gs.length=um.length:=by
  clear hd hd0 tN;induction um generalizing gs with
  | nil=>cases gs with | nil=>rfl | cons _ _=>simp [kD] at hfit
  | cons s sh ih=>cases gs with
    | nil=>cases s<;>simp [kD] at hfit
    | cons g gs=>cases s<;>simp only [kD,aG] at hfit<;>simp [ih hfit.2]
 obtain ⟨ns,ds,env,lf,h1,h2,⟨more,h3⟩,h4⟩:=Tree.Fg t tN (yZ.start I gs _ hlen) hd;let T:aC:=Tw tabs I 0 h2
 unfold TQ at h1;split at h1
 ·next l=>
  split at h1
  ·next args hargs=>
   split at h1
   ·next e a' σ' hrun=>
    rw [aG] at h1;obtain ⟨he,h1⟩:=h1;split at h1
    ·next rs hrs=>
     rw [aG] at h1;obtain ⟨hrf,h1⟩:=h1;split at h1
     ·next l' hl'=>
      have hll:=Ul h1;subst hll;have F5:∀Q:dK->aW->aj->Prop,Q e a' σ'->@AT T P c { t:=wM (tY st args) 0 .nil,n:=max (tY st args).length fn.ntmps,gn:=P.globals.size } ⟨nG (sD tabs),P.globals.size+1,0⟩ Q:=by
       intro Q hq;have:=@QM P T (zY P tabs ⟨ns,ds,0⟩ specs) (Ee P ⟨ns,ds,0⟩ pl fuel) (VE (T:=T) hm hn (hpl T rfl rfl) fuel) (jY pe c) (vO pe c 0).2 (λk b hk a σ e1 a1 σ1 hs Q' hq'=>by
        unfold zY at hs;split at hs
        ·next sp' hsp=>
         obtain ⟨k1,k2⟩:=Dz k sp' hsp;exact TM (T:=T) rfl hlow k1 (λgs out hI=>k2 b hk gs out hI) hs hq'
        ·cases hs) _ _ _ _ _ hrun Q hq
       rwa [show (jY pe c).erase=c from (vO pe c 0).1] at this
      have henv:∀i g,gs[i]? = some g->T.val (0+i)=some g:=by
       intro j g hj;show env[0+j]? = some g
       rw [h3,iH];have:=(dL.1 hj).1;rw [kT this];exact hj
      have key:∀ro w vs,vK tabs ro w->aK ro gs vs->Calls P f ⟨tZ st vs⟩ w λen w'=>∃v,en=.returned v/\∃ro',Cj ro ro' w w'/\∃us,v=yI us/\aK ro' out us:=by
       intro ro w vs hro hvs;letI:=T
       have hst:xM (⟨nG (sD tabs),P.globals.size+1,0⟩:aj) P.globals.size:=PX (T:=T) hlow rfl
       have hS0:SR P (uP P.globals.size ⟨nG (sD tabs),P.globals.size+1,0⟩ ro) ⟨nG (sD tabs),P.globals.size+1,0⟩ w:=
        IV hst.1 (λid o ho=>by
         obtain ⟨c,rfl,hmem,hle⟩:=hst.2 id o ho;obtain ⟨cs,elem,fr,k1,k2,k3⟩:=hro.tab _ hmem;exact ⟨hle,c,rfl,⟨cs,elem,fr,hro.at' _ _ k1,k2,k3⟩⟩) hro.at' (λp hp=>hro.tab p hp)
       have hv0:ay (uP P.globals.size ⟨nG (sD tabs),P.globals.size+1,0⟩ ro) (tY st args) (tZ st vs):=O1 (QU (T:=T) hargs hfit henv hvs);refine calls_of_wp hf hc ?_;refine F5 (λe2 a2 σ2=>e2=e/\a2=a'/\σ2=σ') ⟨rfl,rfl,rfl⟩ (.shut w) ro (uP P.globals.size ⟨nG (sD tabs),P.globals.size+1,0⟩ ro) w _ _ (iJ.start hS0 hst.own) rfl (Rw hv0) ?_;rintro e2 a2 σ2 η1 A' w' ⟨rfl,rfl,rfl⟩ hF hl0 ht
       obtain ⟨us,r1,r2⟩:=J9 hF.rel ht (fun | .tmp t=>pure (A'.tmps.getD t undef) | .cell a t=>do loadVar t (<- asAddr (A'.tmps.getD a undef))) (λ_=>rfl) (λ_ _=>rfl) _ _ hrs;obtain ⟨bG,f1,f2,f3⟩:=NI hF hl0 (@kJ ⟨ns,ds,0⟩ P σ2 rs);have C:pY T P tabs P.globals.size (P.globals.size+1) η1 σ2 w' (@kJ ⟨ns,ds,0⟩ P σ2 rs) [] [] [] bG:=⟨hF.rel,rfl,f1,f3,rfl,Aj _⟩
       obtain ⟨gl,k1,k2⟩:=Qb C hl' r2;have hgl:gl=out:=by
        have h4':valsOf (λn=>env[n]?) l=some out:=h4;have k1':valsOf (λn=>env[n]?) l=some gl:=k1;rw [k1'] at h4';cases h4';rfl
       subst hgl;have hres':(results fn A'.tmps).run P w'=.ok (if h:(⟨us⟩:Array Value).size=1 then (⟨us⟩:Array Value)[0] else .tuple ⟨us⟩) w':=by
        unfold results;rw [Qm];simp only [aS,QG];exact tq (λr:Result (List Value)=>(r.andThen λa w'=>Result.ok a.toArray w').andThen λa w'=>Sem.run P (pure (if h:a.size=1 then a[0] else Value.tuple a)) w') r1
       have Tc:(if h:(⟨us⟩:Array Value).size=1 then (⟨us⟩:Array Value)[0] else .tuple ⟨us⟩)=yI us:=by
        match us with
        | []=>rfl
        | [u]=>rfl
        | u::u'::us=>rfl
       rw [Tc] at hres'
       have hpost:A'.defers=[]/\∃v,(results fn A'.tmps).run P w'=.ok v w'/\∃v',Ending.returned v=.returned v'/\(∃ro',Cj ro ro' w w'/\∃us,v'=yI us/\aK ro' gl us):=
        ⟨ht.none,_,hres',_,rfl,⟨bG,⟨hF.kept.shut,f2.qU,f2.ach,f2.rel.gV⟩,us,rfl,k2⟩⟩
       cases e2 with
       | normal=>exact hpost
       | ret=>exact hpost
       | exit id=>simp at he
      refine ⟨λro w vs hro hvs=>?_, ?_⟩
      ·right
       refine ⟨?_,Calls.mono' (key ro w vs hro hvs) ?_⟩
       ·have hname:=hn f fn c hf hc
        simp only [callFunc,aS,program,Sem.run,aQ,hf];simp only [hname,fM,if_false,hc,ER,bf]
       ·rintro en w' ⟨v,rfl,h5⟩
        exact ⟨v,rfl,h5⟩
      ·exact hfo
     ·cases h1
    ·cases h1
   ·cases h1
  ·cases h1
 ·cases h1
end
end
end Go.aJ
namespace Go.aJ
set_option linter.unusedSimpArgs false
open Go.RowKit
noncomputable section
set_option linter.unusedSectionVars false
set_option linter.unusedVariables false
variable {P:Program}
section
variable [fB]
def JK (k:Nat) (ns:List Nat):Nat->List Bool->Bool
 | _,[]=>true
 | j,b::l=>(match dP (.call k ns j) with
   | some c=>(match b with
     | true=>(match dP (.zU c) with | some _=>true | none=>false)
     | false=>(match dP (.conv .i64 c) with | some _=>true | none=>false))
   | none=>false)&&JK k ns (j+1) l
def UH (P:Program) (k:Nat) (ks:List Bool):dM:=λargs σ=>
 let fz:=kJ P σ args
 if fz.all (Nat.ble σ.lock ·) then
  match valsN P σ fz args with
  | some ns=>if JK k ns 0 ks then match zI k ns 0 (ks.map λ_=>.sc) with
    | some (a::l)=>some (BN (a::l),σ)
    | _=>none
    else none
  | none=>none
 else none
def UF (P:Program) (p:dM):dM:=λargs σ=>match p args σ with
 | some (.cO l,σ1)=>(match args.getLast? with
   | some (.nd _)=>
     if (kJ P σ1 l).all (Nat.ble σ1.lock ·) then
      match Di P σ1 (kJ P σ1 l) l with
      | some ns=>some (.cO (ns.map .nd),kills σ1 (kJ P σ1 l))
      | none=>none
     else none
   | _=>some (.cO l,σ1))
 | r=>r
def UE (P:Program) (p:dM):dM:=λargs σ=>
 let fz:=kJ P σ args
 if fz.all (Nat.ble σ.lock ·) then
  match Di P σ fz args with
  | some ns=>p (ns.map .nd) (kills σ fz)
  | none=>none
 else none
end
theorem Um {T:aC} {η:Env}:∀ {ns:List Nat} {gl:List GV} {vs:List Value},valsOf T.val ns=some gl->gl.all GV.scalar=true->aK η.ro gl vs->@ay T η (ns.map .nd) vs
 | [],gl,vs,h,_,hg=>by
   simp only [valsOf,aT] at h;subst h;simp only [aK] at hg;subst hg;simp [ay]
 | n::ns,gl,vs,h,hs,hg=>by
   letI:=T
   simp only [valsOf] at h;split at h
   ·next g r h1 h2=>
    cases h;simp only [aK] at hg;obtain ⟨x,xs,rfl,g1,g2⟩:=hg;rw [uw,aG] at hs;simp only [iy,ay];refine ⟨x,xs,rfl, ?_,Um h2 hs.2 g2⟩;simp only [VR];exact ⟨g,h1,hs.1,g1⟩
   ·cases h
theorem ajr {T:aC} {f:FuncId} {p:dM} (hp:@dN T P f p):@dN T P f (@UE T.tofB P p):=by
 letI:=T
 intro args σ rr σ' hs η w vs hS hv;unfold UE at hs;simp only at hs;split at hs
 ·next hlk=>
  have rM:∀id∈kJ P σ args,σ.lock<=id:=λid hid=>nM (List.all_eq_true.1 hlk id hid);split at hs
  ·next ns hns=>
   obtain ⟨bG,f1,f2,f3⟩:=FW hS (kJ P σ args) rM;have C:pY T P T.tabs P.globals.size (P.globals.size+1) η σ w (kJ P σ args) [] [] [] bG:=⟨hS,rfl,f1,f3,rfl,Aj _⟩
   obtain ⟨gl,k1,k3,k2⟩:=MF C hns hv;have hv2:ay ⟨η.pl,bG,η.gh⟩ (ns.map .nd) vs:=Um (T:=T) k1 k3 k2;refine iU.mono (hp _ _ _ _ hs _ w vs f2.rel hv2) ?_;rintro v w' ⟨η',hst,hr⟩
   exact ⟨η',f2.trans hst,hr⟩
  ·cases hs
 ·cases hs
theorem ajq {T:aC} {f:FuncId} {p:dM} (hp:@dN T P f p):@dN T P f (@UF T.tofB P p):=by
 letI:=T
 intro args σ rr σ' hs η w vs hS hv;unfold UF at hs;split at hs
 ·next l σ1 hc=>
  split at hs
  ·split at hs
   ·next hlk=>
    have rM:∀id∈kJ P σ1 l,σ1.lock<=id:=λid hid=>nM (List.all_eq_true.1 hlk id hid);split at hs
    ·next ns hns=>
     cases hs;refine iU.mono (hp _ _ _ _ hc _ w vs hS hv) ?_;rintro v w' ⟨η',hst,hr⟩
     obtain ⟨bG,f1,f2,f3⟩:=FW hst.rel (kJ P σ1 l) rM;have C:pY T P T.tabs P.globals.size (P.globals.size+1) η' σ1 w' (kJ P σ1 l) [] [] [] bG:=⟨hst.rel,rfl,f1,f3,rfl,Aj _⟩
     simp only [VR] at hr;obtain ⟨us,rfl,hr⟩:=hr;obtain ⟨gl,k1,k3,k2⟩:=MF C hns hr;refine ⟨⟨η'.pl,bG,η'.gh⟩,hst.trans f2, ?_⟩;simp only [VR];exact ⟨us,rfl,Um (T:=T) k1 k3 k2⟩
    ·cases hs
   ·cases hs
  ·cases hs
   exact hp _ _ _ _ hc _ w vs hS hv
 ·exact hp _ _ _ _ hs _ w vs hS hv
theorem aK.plain {ro ro2:Nat->Option Obj}:∀ {l:List GV} {vs:List Value},(∀g∈l,(∃x,g=.s x)\/∃k n,g=.i k n)->aK ro l vs->aK ro2 l vs
 | [],vs,_,h=>h
 | g::l,vs,hl,h=>by
   simp only [aK] at h ⊢;obtain ⟨x,xs,rfl,h1,h2⟩:=h;refine ⟨x,xs,rfl, ?_,aK.plain (λg hg=>hl g (by simp [hg])) h2⟩;rcases hl g (by simp) with ⟨y,rfl⟩ | ⟨k,n,rfl⟩<;>exact h1
theorem aaO {T:aC} {k:Nat} {ns:List Nat} {gl out:List GV} (hns:valsOf T.val ns=some gl) (hI:T.I k gl=some out):∀ {ks:List Bool} {j:Nat},@JK T.tofB k ns j ks=true->∀i,i < ks.length->(∃x,out[j+i]? = some (.s x))\/∃kk n,out[j+i]? = some (.i kk n)
 | [],j,h,i,hi=>by simp at hi
 | b::l,j,h,i,hi=>by
   letI:=T
   unfold JK at h;rw [aG] at h;obtain ⟨h1,h2⟩:=h;cases i with
   | succ i=>
     have:=aaO hns hI (ks:=l) h2 i (by simpa using hi);rwa [Nat.add_right_comm,gX] at this
   | zero=>
     split at h1
     ·next c hc=>
      obtain ⟨g,g1,g2⟩:=dZ hc;have SN:valsOf aC.val ns=some gl:=hns;have hI':aC.I k gl=some out:=hI;simp only [Nd.den,SN,hI'] at g2;rw [jU,g2];cases b with
      | true=>
        simp only at h1;split at h1
        ·next m hm=>
         obtain ⟨g',p1,p2⟩:=dZ hm;simp only [Nd.den,g1] at p2;split at p2
         ·next x e=>cases e;exact .inl ⟨x,rfl⟩
         ·cases p2
        ·cases h1
      | false=>
        simp only at h1;split at h1
        ·next m hm=>
         obtain ⟨g',p1,p2⟩:=dZ hm;simp only [Nd.den,g1] at p2;split at p2
         ·next kk n e=>cases e;exact .inr ⟨kk,n,rfl⟩
         ·cases p2
        ·cases h1
     ·cases h1
theorem ajt {T:aC} {f:FuncId} {k:Nat} {ks:List Bool} (hC:∀gs out,T.I k gs=some out->oP P T.tabs f [] (ks.map λ_=>.sc) gs out):@dN T P f (@UH T.tofB P k ks):=by
 letI:=T
 intro args σ rr σ' hs η w vs hS hv;unfold UH at hs;simp only at hs;split at hs
 ·next hlk=>
  have rM:∀id∈kJ P σ args,σ.lock<=id:=λid hid=>nM (List.all_eq_true.1 hlk id hid);split at hs
  ·next ns hns=>
   split at hs
   ·next hld=>
    split at hs
    ·next a0 l hl=>
     cases hs;obtain ⟨bG,f1,f2,f3⟩:=FW hS (kJ P σ args) rM;have C:pY T P T.tabs P.globals.size (P.globals.size+1) η σ w (kJ P σ args) [] [] [] bG:=⟨hS,rfl,f1,f3,rfl,Aj _⟩
     obtain ⟨gl,k1,k2⟩:=Qb C hns hv;have hI:∃out,T.I k gl=some out:=by
      cases ks with
      | nil=>simp [zI] at hl
      | cons b l=>
        unfold JK at hld;rw [aG] at hld;have h1:=hld.1;split at h1
        ·next c hc=>
         obtain ⟨g',_,d2⟩:=dZ hc;have k1':valsOf aC.val ns=some gl:=k1;simp only [Nd.den,k1'] at d2;split at d2
         ·next r hr=>exact ⟨r,hr⟩
         ·cases d2
        ·cases h1
     obtain ⟨out,hI⟩:=hI;obtain ⟨hcall,hfit⟩:=hC gl out hI;refine iU.mono (hcall bG w vs f2.rel.Kq k2) ?_;rintro v w' ⟨ro',hro,us,rfl,hus⟩
     have ahf:Cj η.ro η.ro w w':=⟨hro.kept,λ_ _ h=>h,λ_ h=>.inl h,λb o h=>hro.at' b o (hro.le b o (f1 b o h))⟩
     have hst:=St.abx (ro':=η.ro) hS ahf;have hlen:out.length=ks.length:=by
      have:∀ (ks:List Bool) (out:List GV),kD (ks.map λ_=>mQ.sc) out=true->out.length=ks.length:=by
       intro ks;induction ks with
       | nil=>intro out h;cases out with
         | nil=>rfl
         | cons a b=>simp [kD] at h
       | cons b ks ih=>intro out h;cases out with
         | nil=>simp [kD] at h
         | cons g out=>simp only [iy,kD,aG] at h;simp [ih out h.2]
      exact this ks out hfit
     have hpl:∀g∈out,(∃x,g=.s x)\/∃k n,g=.i k n:=λg hg=>by
      obtain ⟨i,hi⟩:=EL hg;have hil:i < ks.length:=by rw [<- hlen];exact (dL.1 hi).1
      have:=aaO k1 hI hld i hil;rw [iH,hi] at this;rcases this with ⟨x,e⟩ | ⟨kk,n,e⟩<;>cases e
      ·exact .inl ⟨x,rfl⟩
      ·exact .inr ⟨kk,n,rfl⟩
     exact ⟨_,hst,Wn (OT k1 hI (η':=⟨η.pl,η.ro,η.gh⟩) hl hfit (λi=>by simp) (aK.plain hpl hus))⟩
    ·cases hs
   ·cases hs
  ·cases hs
 ·cases hs
end
end Go.aJ
namespace Go.aJ
set_option linter.unusedSimpArgs false
noncomputable section
set_option linter.unusedSectionVars false
set_option linter.unusedVariables false
variable {P:Program}
def eU.args (s:eU):List AV:=s.slots.map (·.2)
def Ip (P:Program) (tabs:List (Nat×List AV)) (s:eU) (gs:List GV) (w0:Base) (bW:Nat->Option Obj) (vs:List Value) (w:World):Prop:=
 ∃η,@iJ (Tg tabs gs s.ka) P w0 bW η (s.st tabs) w/\@ay (Tg tabs gs s.ka) η s.args vs
def Iw (P:Program) (tabs:List (Nat×List AV)) (f:FuncId) (st:List (Option FuncId)) (pre:eU) (posts:List (dK×eU)) (gs out:List GV):Prop:=
 ∃ (t:Nat) (r rest:List GV) (e:dK) (s:eU),out=GV.i .i64 t::r/\posts[t]? = some (e,s)/\qM s.al gs r=some rest/\rest.length=s.np/\
   ∀w0 bW w vs,Ip P tabs pre gs w0 bW vs w->iU P f ⟨tZ st vs⟩ w λv w'=>∃us,v=yI us/\Ip P tabs s rest w0 bW us w'
mutual
def AV.ren (ρ f:Nat->Nat):AV->AV
 | .nd j=>.nd (f j)
 | .rx j off=>.rx (f j) off
 | .sv id j=>.sv (ρ id) (f j)
 | .p id off=>.p (ρ id) off
 | .mp id=>.mp (ρ id)
 | .fn g fi cs=>.fn g (AV.uf ρ f fi) (AV.uf ρ f cs)
 | .dO t a=>.dO t (a.ren ρ f)
 | .agg l=>.agg (AV.uf ρ f l)
 | .cO l=>.cO (AV.uf ρ f l)
 | a=>a
def AV.uf (ρ f:Nat->Nat):List AV->List AV
 | []=>[]
 | a::l=>a.ren ρ f::AV.uf ρ f l
end
mutual
def AV.okS (G:Nat):AV->Bool
 | .sv id _=>Nat.blt G id
 | .fn _ fi cs=>AV.xw G fi&&AV.xw G cs
 | .dO _ a=>a.okS G
 | .agg l=>AV.xw G l
 | .cO l=>AV.xw G l
 | .nd _ | .rx _ _ | .p _ _ | .mp _ | .b _ | .i _ _ | .s _ | .iO | .dA | .xu | .qy | .nY=>true
 | _=>false
def AV.xw (G:Nat):List AV->Bool
 | []=>true
 | a::l=>a.okS G&&AV.xw G l
end
def aZ.ren (ρ f:Nat->Nat):aZ->aZ
 | .cells c et rw opn=>.cells (AV.uf ρ f c) et rw opn
 | .vec j et b=>.vec (f j) et b
 | .smap j kk sz=>.smap (f j) kk sz
 | o=>o
def aZ.okS (G:Nat):aZ->Bool
 | .cells c _ rw _=>AV.xw G c&&rw
 | .vec _ _ _=>true
 | .smap _ _ _=>true
 | _=>false
theorem Vu (ρ f:Nat->Nat):∀l:List AV,AV.uf ρ f l=l.map (AV.ren ρ f)
 | []=>rfl
 | a::l=>by simp [AV.uf,Vu ρ f l]
structure IQ (S T:aC) (G:Nat) (ρ f:Nat->Nat) (η η':Env):Prop where
 val:∀j g,S.val j=some g->T.val (f j)=some g
 pl:∀i q,G < i->η i=some q->η' (ρ i)=some q
 gl:∀i q,i<=G->η i=some q->∃q',η' (ρ i)=some q'/\q'.bl=q.bl/\q'.ba=q.ba
 gh:∀i,G < i->η.gh i=true->η'.gh (ρ i)=true
 ro:∀b o,η.ro b=some o->η'.ro b=some o
section
variable {S T:aC} {G:Nat} {ρ f:Nat->Nat} {η η':Env}
mutual
theorem VR.ren (h:IQ S T G ρ f η η'):∀ (a:AV) (v:Value),a.okS G=true->@VR S η a v->@VR T η' (a.ren ρ f) v
 | .b _,_,_,hv=>by simpa only [VR,AV.ren] using hv
 | .i _ _,_,_,hv=>by simpa only [VR,AV.ren] using hv
 | .s _,_,_,hv=>by simpa only [VR,AV.ren] using hv
 | .iO,_,_,hv=>by simpa only [VR,AV.ren] using hv
 | .p i off,v,_,hv=>by
   simp only [VR,AV.ren] at hv ⊢;obtain ⟨q,hq,rfl⟩:=hv;by_cases hi:i<=G
   ·obtain ⟨q',h1,h2,h3⟩:=h.gl i q hi hq
    exact ⟨q',h1,by rw [h2,h3]⟩
   ·exact ⟨q,h.pl i q (by omega) hq,rfl⟩
 | .dA,_,_,hv=>by simpa only [VR,AV.ren] using hv
 | .sl _ _ _ _,_,ho,_=>by simp [AV.okS] at ho
 | .nY,_,_,hv=>by simpa only [VR,AV.ren] using hv
 | .mp i,v,_,hv=>by
   simp only [VR,AV.ren] at hv ⊢;obtain ⟨q,hq,rfl⟩:=hv;by_cases hi:i<=G
   ·obtain ⟨q',h1,h2,h3⟩:=h.gl i q hi hq
    exact ⟨q',h1,by rw [h2]⟩
   ·exact ⟨q,h.pl i q (by omega) hq,rfl⟩
 | .xu,_,_,hv=>by simpa only [VR,AV.ren] using hv
 | .fn _ fi cs,_,ho,hv=>by
   simp only [AV.okS,aG] at ho;simp only [VR,AV.ren] at hv ⊢;obtain ⟨us,vs,e,h1,h2⟩:=hv;exact ⟨us,vs,e,ay.ren h fi us ho.1 h1,ay.ren h cs vs ho.2 h2⟩
 | .qy,_,_,hv=>by simpa only [VR,AV.ren] using hv
 | .dO _ a,_,ho,hv=>by simp only [AV.okS] at ho;simp only [VR,AV.ren] at hv ⊢;obtain ⟨x,e,h1⟩:=hv;exact ⟨x,e,VR.ren h a x ho h1⟩
 | .agg l,_,ho,hv=>by simp only [AV.okS] at ho;simp only [VR,AV.ren] at hv ⊢;obtain ⟨x,e,h1⟩:=hv;exact ⟨x,e,ay.ren h l x ho h1⟩
 | .cO l,_,ho,hv=>by simp only [AV.okS] at ho;simp only [VR,AV.ren] at hv ⊢;obtain ⟨x,e,h1⟩:=hv;exact ⟨x,e,ay.ren h l x ho h1⟩
 | .z _ _ _,_,ho,_=>by simp [AV.okS] at ho
 | .ro _,_,ho,_=>by simp [AV.okS] at ho
 | .rp _ _,_,ho,_=>by simp [AV.okS] at ho
 | .nd _,_,_,hv=>by simp only [VR,AV.ren] at hv ⊢;obtain ⟨g,h1,h2,h3⟩:=hv;exact ⟨g,h.val _ _ h1,h2,GR.mono h.ro _ _ h3⟩
 | .rx _ _,_,_,hv=>by
   simp only [VR,AV.ren] at hv ⊢;obtain ⟨g,bl,base,cs,elem,fr,x,h1,h2,h3,h4⟩:=hv;exact ⟨g,bl,base,cs,elem,fr,x,h.val _ _ h1,h.ro _ _ h2,GR.mono h.ro _ _ h3,h4⟩
 | .sv i j,_,ho,hv=>by
   simp only [AV.okS,iC] at ho;simp only [VR,AV.ren] at hv ⊢;obtain ⟨xs,h1,⟨q,hq,h2⟩ | ⟨hg,h2⟩⟩:=hv
   ·exact ⟨xs,h.val _ _ h1,.inl ⟨q,h.pl i q ho hq,h2⟩⟩
   ·exact ⟨xs,h.val _ _ h1,.inr ⟨h.gh i ho hg,h2⟩⟩
 | .pv _ _ _,_,ho,_=>by simp [AV.okS] at ho
 | .pd _ _,_,ho,_=>by simp [AV.okS] at ho
theorem ay.ren (h:IQ S T G ρ f η η'):∀ (l:List AV) (vs:List Value),AV.xw G l=true->@ay S η l vs->@ay T η' (AV.uf ρ f l) vs
 | [],_,_,hv=>by simpa only [ay,AV.uf] using hv
 | a::l,_,ho,hv=>by
   simp only [AV.xw,aG] at ho;simp only [ay,AV.uf] at hv ⊢;obtain ⟨x,xs,e,h1,h2⟩:=hv;exact ⟨x,xs,e,VR.ren h a x ho.1 h1,ay.ren h l xs ho.2 h2⟩
end
theorem OR.ren (h:IQ S T G ρ f η η') {q:Place} {w:World} {o:aZ} (ho:o.okS G=true) (r:@OR S P η q w o):@OR T P η' q w (o.ren ρ f):=by
 cases o with
 | cells c et qV opn=>
   simp only [aZ.okS,aG] at ho;obtain ⟨cs,elem,fr,h1,⟨r1,r2,r3,r4,r5,r6,r7⟩⟩:=r;have hl:(AV.uf ρ f c).length=c.length:=by rw [Vu];simp
   have hok:∀a∈c,a.okS G=true:=by
    have:∀l:List AV,AV.xw G l=true->∀a∈l,a.okS G=true:=by
     intro l;induction l with
     | nil=>intro _ a ha;simp at ha
     | cons b l ih=>
       intro h a ha;simp only [AV.xw,aG] at h;rcases dn.1 ha with rfl | ha
       ·exact h.1
       ·exact ih h.2 a ha
    exact this c ho.1
   refine ⟨cs,elem,fr,h1,@pV.mk T P η' q _ et qV opn cs elem fr r1 (by rw [hl];exact r2) (λe=>by rw [hl];exact r3 e) (λk a hk=>?_) r5 r6 r7⟩;rw [Vu,iQ] at hk;obtain ⟨a0,h2,rfl⟩:=aX.1 hk;obtain ⟨x,hx,hv⟩:=r4 k a0 h2;exact ⟨x,hx,VR.ren h a0 x (hok a0 (qF h2)) hv⟩
 | iter s pos=>simp [aZ.okS] at ho
 | map es=>simp [aZ.okS] at ho
 | pmap es=>simp [aZ.okS] at ho
 | iterM m=>simp [aZ.okS] at ho
 | smap j kk sz=>
   obtain ⟨xs,ms,clock,k1,k2,k3⟩:=r;exact ⟨xs,ms,clock,h.val _ _ k1,k2,k3.mono h.ro⟩
 | vec j et b=>
   obtain ⟨xs,cs,elem,fr,ys,k1,k2,k3,k4,k5,k6,⟨r1,r2,r3,r4,r5,r6,r7⟩,k8⟩:=r;exact ⟨xs,cs,elem,fr,ys,h.val _ _ k1,k2,aK.mono h.ro _ _ k3,k4,k5,k6,@pV.mk T P η' q [] et true true cs elem fr r1 r2 r3 (λk a hk=>by simp at hk) r5 r6 r7,k8⟩
theorem Live.ren (h:IQ S T G ρ f η η') {w:World} {i:Nat} {o:aZ} (hi:G < i) (ho:o.okS G=true) (r:@Live S P η w i o):@Live T P η' w (ρ i) (o.ren ρ f):=by
 rcases r with ⟨q,hq,hr⟩ | ⟨hg,n,et,b,rfl,hv⟩
 ·exact .inl ⟨q,h.pl i q hi hq,OR.ren h ho hr⟩
 ·exact .inr ⟨h.gh i hi hg,f n,et,b,rfl,h.val _ _ hv⟩
end
theorem aZ.Ux {G:Nat} {o:aZ} (h:o.okS G=true):o.own=true:=by
 cases o<;>simp only [aZ.okS,aG,fM] at h<;>simp [aZ.own]
 exact h.2
def rhoC (G ka next:Nat) (r:List (Nat×Option Nat)) (i:Nat):Nat:=if i<=G then i else if i<=G+ka then (match bM i r with | some (some id)=>id | _=>0) else next+(i - (G+ka+1))
def H6 (ρ f:Nat->Nat):List (Nat×aZ)->Tr aZ->Tr aZ
 | [],h=>h
 | p::l,h=>(H6 ρ f l h).set (ρ p.1) (some (p.2.ren ρ f))
def mZ:List (Nat×Option Nat)->List Nat
 | []=>[]
 | p::l=>match p.2 with
   | some id=>id::mZ l
   | none=>mZ l
def MX {α:Type}:List (Nat×α)->Bool
 | []=>true
 | p::l=>(match bM p.1 l with | none=>true | some _=>false)&&MX l
def y7 (r:List (Nat×Option Nat)) (σ:aj):Nat->Nat->Bool
 | _,0=>true
 | i,n+1=>(match bM (i+1) r with
   | some (some id)=>(match σ.get id with | some (.cells _ _ _ _)=>true | _=>false)
   | _=>false)&&y7 r σ (i+1) n
def Vg (s:eU):Bool:=Nat.blt (s.gn+s.ka) s.next&&AV.xw s.gn s.args&&MX s.objs&&s.objs.all λp=>Nat.blt s.gn p.1&&Nat.blt p.1 s.next&&p.2.okS s.gn
section
variable [fB]
def af0 (P:Program) (s:eU) (l:List AV) (σ:aj):US:=P7 P s.gn σ s.objs (BP P s.gn σ s.args l ⟨[],[],[]⟩)
def af2 (P:Program) (s:eU) (l:List AV) (σ:aj):US:=P7 P s.gn σ s.objs (BP P s.gn σ s.args l ⟨QN s.gn s.ka,[],[]⟩)
def OA (P:Program) (s:eU) (l:List AV) (σ:aj) (fz:List Nat) (r:List (Nat×Option Nat)) (ps:List Nat):Bool:=
 Nat.beq s.gn P.globals.size&&Nat.blt (s.gn+s.ka) s.next&&Ea r&&yw P s.gn σ fz r ps s.args l&&Gm P s.gn s.next σ fz r ps s.objs
def OW (P:Program) (st:List (Option FuncId)) (sp:bD):dM:=λIY σ=>match yH st IY with
 | none=>none
 | some args=>match af0 P sp.pre args σ with
   | ⟨r,p,fz⟩=>match Vk p 0 sp.pre.np with
     | none=>none
     | some ps=>
       if OA P sp.pre args σ fz r ps&&(fz.all (Nat.ble σ.lock ·)&&((mZ r).all (λid=>Nat.ble σ.lock id&&!(fz.contains id))&&y7 r σ sp.pre.gn sp.pre.ka)) then
        match dP (.call sp.key ps 0) with
        | some tag=>match D6 tag sp.posts 0 with
          | some (_,s)=>if Vg s&&(Nat.beq s.ka sp.pre.ka&&Nat.beq s.gn sp.pre.gn) then match yB sp.key ps s.al 1 s.np with
            | some ns=>
              some (BN (AV.uf (rhoC s.gn s.ka σ.next r) (λj=>ns.getD j 0) s.args),⟨H6 (rhoC s.gn s.ka σ.next r) (λj=>ns.getD j 0) s.objs (kills (kills σ fz) (mZ r)).h,σ.next+(s.next - (s.gn+s.ka+1)),σ.lock⟩)
            | none=>none
            else none
          | none=>none
        | none=>none
       else none
end
theorem Y1 {α:Type}:∀ {l:List (Nat×α)},MX l=true->∀ {k:Nat} {v:α},(k,v)∈l->bM k l=some v
 | [],_,k,v,h=>by simp at h
 | p::l,hd,k,v,h=>by
   simp only [MX,aG] at hd;rcases dn.1 h with e | h
   ·subst e;simp [bM]
   ·have h1:=Y1 hd.2 h
    simp only [bM];cases hb:Nat.beq k p.1 with
    | true=>
      have e:=bn hb;have h2:=hd.1;rw [<- e,h1] at h2;cases h2
    | false=>exact h1
theorem Z4 {α:Type}:∀ {l m:List (Nat×α)} {k:Nat} {v:α},bM k l=some v->bM k (l++m)=some v
 | [],m,k,v,h=>by simp [bM] at h
 | p::l,m,k,v,h=>by
   simp only [jM,bM] at h ⊢;cases hb:Nat.beq k p.1 with
   | true=>rw [hb] at h;exact h
   | false=>rw [hb] at h;exact Z4 h
theorem abY {ρ f:Nat->Nat}:∀ {l:List (Nat×aZ)} {h:Tr aZ} {k:Nat} {o:aZ},(H6 ρ f l h).get k=some o->(∃i o0,(i,o0)∈l/\ρ i=k/\o=o0.ren ρ f)\/(h.get k=some o/\∀p∈l,ρ p.1≠k)
 | [],h,k,o,hg=>.inr ⟨hg,λp hp=>by simp at hp⟩
 | q::l,h,k,o,hg=>by
   simp only [H6,Tr.tJ] at hg;split at hg
   ·next e=>cases hg;exact .inl ⟨q.1,q.2,by simp,e.symm,rfl⟩
   ·next e=>
    rcases abY hg with ⟨i,o0,h1,h2,h3⟩ | ⟨h1,h2⟩
    ·exact .inl ⟨i,o0,yT _ h1,h2,h3⟩
    ·refine .inr ⟨h1,λp hp=>?_⟩
     rcases dn.1 hp with rfl | hp
     ·exact λe'=>e e'.symm
     ·exact h2 p hp
theorem aaq {r:List (Nat×Option Nat)}:∀ {i id:Nat},bM i r=some (some id)->id∈mZ r:=by
 induction r with
 | nil=>intro i id h;simp [bM] at h
 | cons p l ih=>
   intro i id h;simp only [bM] at h;cases hb:Nat.beq i p.1 with
   | true=>
     rw [hb] at h;simp only [cond_true,aT] at h;simp only [mZ,h];simp
   | false=>
     rw [hb] at h;have:=ih h;simp only [mZ];split
     ·exact yT _ this
     ·exact this
theorem QO {r:List (Nat×Option Nat)} {σ:aj}:∀ {n i:Nat},y7 r σ i n=true->∀j,i < j->j<=i+n->∃id c et rw opn,bM j r=some (some id)/\σ.get id=some (.cells c et rw opn)
 | 0,i,_,j,h1,h2=>by omega
 | n+1,i,h,j,h1,h2=>by
   simp only [y7,aG] at h;by_cases e:j=i+1
   ·subst e
    have h3:=h.1;split at h3
    ·next id hid=>
     split at h3
     ·next c et rw opn hg=>exact ⟨id,c,et,rw,opn,hid,hg⟩
     ·cases h3
    ·cases h3
   ·exact QO h.2 j (by omega) (by omega)
theorem St.aja {T:aC} {tabs:List (Nat×List AV)} (qO:T.tabs=tabs) {G ka:Nat} (hG:G=P.globals.size) {η η2:Env} {σ:aj} {w w':World} (h:@SR T P η σ w) {r:List (Nat×Option Nat)} (hinj:Ea r=true) (hlk:∀id∈mZ r,σ.lock<=id) (SA:y7 r σ G ka=true)
 {s:eU} (hs:Vg s=true) (hsk:s.ka=ka) (hsg:s.gn=G) {gs:List GV} {f:Nat->Nat} (hf:∀j g,gs[j]? = some g->T.val (f j)=some g)
 (hF:@iJ (Tg tabs gs s.ka) P ⟨w,λb=>∃id o q,id∈mZ r/\σ.get id=some o/\o.own=true/\η id=some q/\q.bl=b,λi=>if G < i/\i<=G+ka then (match bM i r with | some (some id)=>η id | _=>none) else none⟩ η.ro η2 (s.st tabs) w')
 {vs:List Value} (hv:@ay (Tg tabs gs s.ka) η2 s.args vs) :
 ∃η',@St T P η σ w η' ⟨H6 (rhoC s.gn s.ka σ.next r) f s.objs (kills σ (mZ r)).h,σ.next+(s.next - (s.gn+s.ka+1)),σ.lock⟩ w'/\@ay T η' (AV.uf (rhoC s.gn s.ka σ.next r) f s.args) vs:=by
 obtain ⟨⟨ame,acs,amh,VK,amS,amP,amR,anG⟩,Ib,amL,amQ,acG,alK⟩:=hF;letI:=T
 subst hsk;subst hsg;unfold Vg at hs;simp only [aG,iC] at hs;obtain ⟨⟨⟨p1,p2⟩,p3⟩,p4⟩:=hs;have DY:∀i o,(i,o)∈s.objs->s.gn < i/\i < s.next/\o.okS s.gn=true:=by
  intro i o hm;have:=List.all_eq_true.1 p4 _ hm;simp only [aG,iC] at this;exact ⟨this.1.1,this.1.2,this.2⟩
 have Kz:∀i o,(i,o)∈s.objs->(s.st tabs).get i=some o:=by
  intro i o hm;show (nG (s.objs++sD tabs)).get i=some o
  rw [DV];exact Z4 (Y1 p3 hm)
 let B:Nat:=s.gn+s.ka+1
 let η':Env:=⟨λid=>if id < σ.next then η id else η2 (id - σ.next+B),η2.ro,λid=>if id < σ.next then η.gh id else η2.gh (id - σ.next+B)⟩
 have SV:∀b o,η.ro b=some o->η2.ro b=some o:=amQ;have hext:η.le η':=by
  refine ⟨λid q hq=>?_,SV,λid hg=>?_⟩
  ·show (if id < σ.next then η id else _)=some q
   rw [ak (h.dom id q hq)];exact hq
  ·show (if id < σ.next then η.gh id else _)=true
   rw [ak (h.iI id hg).2];exact hg
 have nO:∀i,s.gn < i->i<=s.gn+s.ka->∃id q,bM i r=some (some id)/\η id=some q/\η2 i=some q/\id < σ.next/\(∃o,σ.get id=some o):=by
  intro i h1 h2;obtain ⟨id,c,et,qV,opn,g1,g2⟩:=QO SA i h1 h2;obtain ⟨q,hq,_⟩:=h.obj _ _ g2 rfl;have:=(alK i q (by show (if s.gn < i/\i<=s.gn+s.ka then _ else _)=_;rw [ak ⟨h1,h2⟩,g1];exact hq)).1;exact ⟨id,q,g1,hq,this,h.dom id q hq,_,g2⟩
 have H8:∀i id,s.gn < i->i<=s.gn+s.ka->bM i r=some (some id)->rhoC s.gn s.ka σ.next r i=id:=by
  intro i id h1 h2 h3;unfold rhoC;rw [ah (by omega),ak h2,h3]
 have Ed:∀i,s.gn+s.ka < i->rhoC s.gn s.ka σ.next r i=σ.next+(i - B):=by
  intro i h1;unfold rhoC;rw [ah (by omega),ah (by omega)]
 have D7:∀i,s.gn+s.ka < i->η' (σ.next+(i - B))=η2 i/\η'.gh (σ.next+(i - B))=η2.gh i:=by
  intro i h1;have e:σ.next+(i - B) - σ.next+B=i:=by show σ.next+(i - (s.gn+s.ka+1)) - σ.next+(s.gn+s.ka+1)=i;omega
  constructor
  ·show (if σ.next+(i - B) < σ.next then _ else η2 (σ.next+(i - B) - σ.next+B))=_
   rw [ah (by omega),e]
  ·show (if σ.next+(i - B) < σ.next then _ else η2.gh (σ.next+(i - B) - σ.next+B))=_
   rw [ah (by omega),e]
 have aan:IQ (Tg tabs gs s.ka) T s.gn (rhoC s.gn s.ka σ.next r) f η2 η':=by
  refine ⟨hf,λi q hi hq=>?_,λi q hi hq=>?_,λi hi hg=>?_,λ_ _ h=>h⟩
  ·by_cases hk:i<=s.gn+s.ka
   ·obtain ⟨id,q',g1,g2,g3,g4,_⟩:=nO i hi hk
    rw [H8 i id hi hk g1];rw [hq] at g3;cases g3;exact hext.pl _ _ g2
   ·rw [Ed i (by omega),(D7 i (by omega)).1];exact hq
  ·obtain ⟨sz,es,e1⟩:=ame i (by omega)
   rw [hq] at e1;cases e1;obtain ⟨sz',es',e2⟩:=h.ku i (by omega);refine ⟨⟨i,0,sz',es'⟩, ?_,rfl,rfl⟩;show η' (rhoC s.gn s.ka σ.next r i)=_
   unfold rhoC;rw [ak hi];exact hext.pl _ _ e2
  ·by_cases hk:i<=s.gn+s.ka
   ·obtain ⟨id,q',g1,g2,g3,_⟩:=nO i hi hk
    rw [(VK i hg).1] at g3;cases g3
   ·rw [Ed i (by omega),(D7 i (by omega)).2];exact hg
 have old:∀id o,(kills σ (mZ r)).get id=some o->id∉mZ r/\σ.get id=some o:=by
  intro id o hg;rw [zB] at hg;split at hg
  ·cases hg
  ·next hm=>exact ⟨hm,hg⟩
 have OM:∀id o q,id∉mZ r->σ.get id=some o->η id=some q->∀bZ o0 q0,bZ∈mZ r->σ.get bZ=some o0->o0.own=true->η bZ=some q0->q0.bl≠q.bl:=by
  intro id o q hm hg hq bZ o0 q0 hm0 hg0 ho0 hq0;exact h.sep bZ o0 id o q0 q hg0 ho0 hg (λe=>hm (e ▸ hm0)) hq0 hq
 have ahM:∀id o q,id∉mZ r->σ.get id=some o->η id=some q->q.bl < w.heap.size->w'.heap[q.bl]? = w.heap[q.bl]?:=by
  intro id o q hm hg hq hlt;refine Ib.keep q.bl hlt ?_;rintro ⟨bZ,o0,q0,a1,a2,a3,a4,a5⟩
  exact OM id o q hm hg hq bZ o0 q0 a1 a2 a3 a4 a5
 have obj:∀k o,(H6 (rhoC s.gn s.ka σ.next r) f s.objs (kills σ (mZ r)).h).get k=some o->(∃i o0,(i,o0)∈s.objs/\rhoC s.gn s.ka σ.next r i=k/\o=o0.ren (rhoC s.gn s.ka σ.next r) f)\/(k∉mZ r/\σ.get k=some o/\∀p∈s.objs,rhoC s.gn s.ka σ.next r p.1≠k):=by
  intro k o hk;rcases abY hk with h1 | ⟨h1,h2⟩
  ·exact .inl h1
  ·obtain ⟨h3,h4⟩:=old k o h1
   exact .inr ⟨h3,h4,h2⟩
 have GH:∀k o q,σ.get k=some o->η' k=some q->η k=some q:=by
  intro k o q hg hq;have hlt:k < σ.next:=h.hasLt (h.Jy hg);have hq':(if k < σ.next then η k else _)=some q:=hq;rw [ak hlt] at hq';exact hq'
 have plNew:∀i o q,(i,o)∈s.objs->η' (rhoC s.gn s.ka σ.next r i)=some q->η2 i=some q:=by
  intro i o q hm hq;obtain ⟨g1,g2,g3⟩:=DY i o hm;by_cases hk:i<=s.gn+s.ka
  ·obtain ⟨id,q',a1,a2,a3,a4,_⟩:=nO i g1 hk
   rw [H8 i id g1 hk a1] at hq;have:=hext.pl _ _ a2;rw [hq] at this;cases this;exact a3
  ·rw [Ed i (by omega),(D7 i (by omega)).1] at hq;exact hq
 have arG:∀i j oi oj,(i,oi)∈s.objs->(j,oj)∈s.objs->rhoC s.gn s.ka σ.next r i=rhoC s.gn s.ka σ.next r j->i=j:=by
  intro i j oi oj hi hj e;obtain ⟨g1,g2,_⟩:=DY i oi hi;obtain ⟨k1,k2,_⟩:=DY j oj hj;by_cases c1:i<=s.gn+s.ka<;>by_cases c2:j<=s.gn+s.ka
  ·obtain ⟨id,_,a1,_,_,_,_⟩:=nO i g1 c1
   obtain ⟨id',_,b1,_,_,_,_⟩:=nO j k1 c2;rw [H8 i id g1 c1 a1,H8 j id' k1 c2 b1] at e;subst e;exact Vo hinj i j id a1 b1
  ·obtain ⟨id,_,a1,_,_,a4,_⟩:=nO i g1 c1
   rw [H8 i id g1 c1 a1,Ed j (by omega)] at e;omega
  ·obtain ⟨id,_,a1,_,_,a4,_⟩:=nO j k1 c2
   rw [H8 j id k1 c2 a1,Ed i (by omega)] at e;omega
  ·rw [Ed i (by omega),Ed j (by omega)] at e
   have hB:B=s.gn+s.ka+1:=rfl;omega
 have UC:∀i o q,(i,o)∈s.objs->η2 i=some q->w.heap.size<=q.bl\/∃id o0 q0,id∈mZ r/\σ.get id=some o0/\o0.own=true/\η id=some q0/\q0.bl=q.bl:=by
  intro i o q hm hq;exact amL i o q (Kz i o hm) (aZ.Ux (DY i o hm).2.2) hq
 have hlt:∀k o q,σ.get k=some o->η k=some q->q.bl < w.heap.size:=λk o q hg hq=>(h.at hg hq).lt;refine ⟨η',⟨hext,⟨?_, ?_, ?_, ?_, ?_,amP, ?_, ?_⟩,Ib.size, ?_, ?_,Ib.os,Ib.tape,Ib.output,rfl,Nat.le_add_right _ _, ?_, ?_⟩,ay.ren aan _ _ p2 hv⟩
 ·intro g hg
  obtain ⟨sz,es,e⟩:=h.ku g hg;exact ⟨sz,es,hext.pl _ _ e⟩
 ·intro id q hq
  show id < σ.next+(s.next - (s.gn+s.ka+1))
  by_cases hl:id < σ.next
  ·omega
  ·have hq':(if id < σ.next then η id else η2 (id - σ.next+B))=some q:=hq
   rw [ah hl] at hq';have:=acs _ _ hq';have:id - σ.next+(s.gn+s.ka+1) < s.next:=this;omega
 ·intro k o hk
  rcases obj k o hk with ⟨i,o0,h1,rfl,rfl⟩ | ⟨h1,h2,_⟩
  ·obtain ⟨g1,g2,g3⟩:=DY i o0 h1
   exact Live.ren aan g1 g3 (amh i o0 (Kz i o0 h1))
  ·refine ((h.live k o h2).heap λq hq hor=>?_).mono hext
   exact ahM k o q h1 h2 hq hor.lt
 ·intro id hg
  have hg':(if id < σ.next then η.gh id else η2.gh (id - σ.next+B))=true:=hg;show (if id < σ.next then η id else η2 (id - σ.next+B))=none/\id < σ.next+(s.next - (s.gn+s.ka+1))
  by_cases hl:id < σ.next
  ·rw [ak hl] at hg' ⊢
   exact ⟨(h.iI id hg').1,by omega⟩
  ·rw [ah hl] at hg' ⊢
   obtain ⟨a1,a2⟩:=VK _ hg';have a2':id - σ.next+(s.gn+s.ka+1) < s.next:=a2;exact ⟨a1,by omega⟩
 ·intro k o k' o' q q' a1 a2 a3 a4 a5 a6
  rcases obj k o a1 with ⟨i,o0,h1,rfl,rfl⟩ | ⟨h1,h2,_⟩<;>rcases obj k' o' a3 with ⟨j,JU,k1,rfl,rfl⟩ | ⟨k1,k2,_⟩
  ·have b1:=plNew i o0 q h1 a5
   have b2:=plNew j JU q' k1 a6;exact amS i o0 j JU q q' (Kz i o0 h1) (aZ.Ux (DY i o0 h1).2.2) (Kz j JU k1) (λe=>a4 (by rw [e])) b1 b2
  ·have b1:=plNew i o0 q h1 a5
   have b2:=GH k' o' q' k2 a6;rcases UC i o0 q h1 b1 with c1 | ⟨id,o1,q1,c1,c2,c3,c4,c5⟩
   ·have:=hlt k' o' q' k2 b2
    omega
   ·rw [<- c5]
    exact OM k' o' q' k1 k2 b2 id o1 q1 c1 c2 c3 c4
  ·have b1:=GH k o q h2 a5
   have b2:=plNew j JU q' k1 a6;rcases UC j JU q' k1 b2 with c1 | ⟨id,o1,q1,c1,c2,c3,c4,c5⟩
   ·have:=hlt k o q h2 b1
    omega
   ·rw [<- c5]
    exact λe=>OM k o q h1 h2 b1 id o1 q1 c1 c2 c3 c4 e.symm
  ·exact h.sep k o k' o' q q' h2 a2 k2 a4 (GH k o q h2 a5) (GH k' o' q' k2 a6)
 ·intro k o q a1 a2 a3
  rcases obj k o a1 with ⟨i,o0,h1,rfl,rfl⟩ | ⟨h1,h2,_⟩
  ·exact amR i o0 q (Kz i o0 h1) (aZ.Ux (DY i o0 h1).2.2) (plNew i o0 q h1 a3)
  ·have b1:=GH k o q h2 a3
   show η2.ro q.bl=none
   cases hro:η2.ro q.bl with
   | none=>rfl
   | some x=>
     rcases acG q.bl (by rw [hro];simp) with c1 | c1 | ⟨id,o1,q1,c1,c2,c3,c4,c5⟩
     ·exact absurd (h.jy k o q h2 a2 b1) c1
     ·have:=hlt k o q h2 b1
      have c1':w.heap.size<=q.bl:=c1;omega
     ·exact absurd c5 (OM k o q h1 h2 b1 id o1 q1 c1 c2 c3 c4)
 ·intro p hp
  have hp':p∈tabs:=by rw [<- qO];exact hp
  obtain ⟨cs,elem,fr,e1,e2⟩:=anG p hp';exact ⟨cs,elem,fr,e1,e2⟩
 ·intro bl hbl hno
  refine Ib.keep bl hbl ?_;rintro ⟨id,o,q,a1,a2,a3,a4,a5⟩
  exact hno id o q a2 a3 (hlk id a1) a4 a5
 ·intro k o q a1 a2 a3 a4
  rcases obj k o a1 with ⟨i,o0,h1,rfl,rfl⟩ | ⟨h1,h2,_⟩
  ·rcases UC i o0 q h1 (plNew i o0 q h1 a4) with c1 | ⟨id,o1,q1,c1,c2,c3,c4,c5⟩
   ·exact .inl c1
   ·exact .inr ⟨id,o1,q1,c2,c3,hlk id c1,c4,c5⟩
  ·exact .inr ⟨k,o,q,h2,a2,a3,GH k o q h2 a4,rfl⟩
 ·intro id hh
  by_cases hl:id < σ.next
  ·left
   rcases hh with ⟨q,hq⟩ | hg
   ·have hq':(if id < σ.next then η id else _)=some q:=hq
    rw [ak hl] at hq';exact .inl ⟨q,hq'⟩
   ·have hg':(if id < σ.next then η.gh id else _)=true:=hg
    rw [ak hl] at hg';exact .inr hg'
  ·right
   refine ⟨by omega, ?_⟩;show id < σ.next+(s.next - (s.gn+s.ka+1))
   rcases hh with ⟨q,hq⟩ | hg
   ·have hq':(if id < σ.next then η id else η2 (id - σ.next+B))=some q:=hq
    rw [ah hl] at hq';have:id - σ.next+(s.gn+s.ka+1) < s.next:=acs _ _ hq';omega
   ·have hg':(if id < σ.next then η.gh id else η2.gh (id - σ.next+B))=true:=hg
    rw [ah hl] at hg';have:id - σ.next+(s.gn+s.ka+1) < s.next:=(VK _ hg').2;omega
 ·intro b hb
  rcases acG b hb with c1 | c1 | ⟨id,o1,q1,c1,c2,c3,c4,c5⟩
  ·exact .inl c1
  ·exact .inr (.inl c1)
  ·exact .inr (.inr ⟨id,o1,q1,c2,c3,hlk id c1,c4,c5⟩)
theorem abI {T:aC} (hlow:rF T.tabs P.globals.size) {f:FuncId} {st:List (Option FuncId)} {sp:bD} (hok:sp.pre.ok=true) (hC:∀gs out,T.I sp.key gs=some out->Iw P T.tabs f st sp.pre sp.posts gs out):@dN T P f (@OW T.tofB P st sp):=by
 letI:=T
 intro IY σ rr σ' hs η w vs0 hS hv0;unfold OW at hs;split at hs
 ·cases hs
 next args htk=>
 obtain ⟨vs,rfl,hv⟩:=P5 htk hv0;split at hs;next r p fz hfit=>
 split at hs
 ·cases hs
 next ps hps=>
 split at hs;rotate_left
 ·cases hs
 next hm=>
 split at hs;rotate_left
 ·cases hs
 next tag htag=>
 split at hs;rotate_left
 ·cases hs
 next e s hpick=>
 split at hs;rotate_left
 ·cases hs
 next hpost=>
 split at hs;rotate_left
 ·cases hs
 next ns hns=>
 cases hs;rw [aG,aG,aG] at hm;obtain ⟨hm,hm1,hm2,hm3⟩:=hm;unfold OA at hm;simp only [aG,iC] at hm;obtain ⟨⟨⟨⟨m1,m2⟩,m3⟩,m4⟩,m5⟩:=hm;have m1:=bn m1;rw [aG,aG] at hpost;obtain ⟨q1,q2,q3⟩:=hpost;have q2:=bn q2;have q3:=bn q3;unfold eU.ok at hok;rw [aG,aG] at hok;obtain ⟨⟨_,hbs⟩,Dx⟩:=hok;have hbs:AV.nJ sp.pre.next sp.pre.args=true:=by
  have:∀l:List (Nat×AV),Aw sp.pre.next l=true->AV.nJ sp.pre.next (l.map (·.2))=true:=by
   intro l;induction l with
   | nil=>intro _;rfl
   | cons a l ih=>intro h;simp only [Aw,aG] at h;simp only [iy,AV.nJ,aG];exact ⟨h.1,ih h.2⟩
  exact this _ hbs
 have ag7:∀id∈fz,σ.lock<=id:=λid hid=>nM (List.all_eq_true.1 hm1 id hid);have hlk2:∀id∈mZ r,σ.lock<=id:=λid hid=>by
  have:=List.all_eq_true.1 hm2 id hid;rw [aG] at this;exact nM this.1
 have ag9:∀id∈mZ r,id∉fz:=λid hid hm=>by
  have:=List.all_eq_true.1 hm2 id hid;rw [aG,Xb.2 hm] at this;simp at this
 obtain ⟨bG,f1,f2,f3⟩:=FW hS fz ag7;obtain ⟨gt,t1,t2⟩:=dZ htag;simp only [Nd.den] at t2;split at t2;rotate_left
 ·cases t2
 next gs hgs=>
 split at t2;rotate_left
 ·cases t2
 next out hI=>
 obtain ⟨t,r0,rest,e2,s2,rfl,hp2,hex,hrl,hrun⟩:=hC gs out hI;simp only [gW,aT] at t2;subst t2;have hpe:=UO t1 sp.posts 0 hpick (uF _) (e2,s2) (by simpa using hp2);cases hpe;obtain ⟨n1,n2⟩:=JZ hgs hI _ 1 s.al (r:=r0) (λk=>by rw [IC,pW]) hex hns;have hval:∀j g,rest[j]? = some g->T.val (ns.getD j 0)=some g:=by
  intro j g hj;have hjl:j < ns.length:=by have:=(dL.1 hj).1;omega
  have hm:ns[j]? = some (ns.getD j 0):=by rw [xG,bK hjl];rfl
  rw [n2 j _ hm];exact hj
 have C:pY T P T.tabs sp.pre.gn sp.pre.next η σ w fz r ps gs bG:=⟨hS,hgs,f1,f3,m1,by omega⟩
 obtain ⟨hR,hown⟩:=Ug (ka:=sp.pre.ka) rfl hlow Dx (by omega) m1 C f2.rel.gV (λid o q b2 b3 b4 b5=>f2.rel.jy id o q (by rw [zB,ah b2];exact b3) b4 b5) m3 m5;let σ1:aj:=kills σ fz
 let η1:Env:=⟨η.pl,bG,η.gh⟩
 let w0:Base:=⟨w,λb=>∃id o q,id∈mZ r/\σ1.get id=some o/\o.own=true/\η1 id=some q/\q.bl=b,λi=>if sp.pre.gn < i/\i<=sp.pre.gn+sp.pre.ka then (match bM i r with | some (some id)=>η1 id | _=>none) else none⟩
 have hF:@iJ (Tg T.tabs gs sp.pre.ka) P w0 bG (qp T.tabs sp.pre.gn sp.pre.next r η bG) (sp.pre.st T.tabs) w:=by
  refine @iJ.mk (Tg T.tabs gs sp.pre.ka) P w0 bG _ _ w hR ⟨rfl,rfl,rfl,cZ _,λ_ _ _=>rfl⟩ ?_ (λ_ _ h=>h) (λ_ h=>.inl h) ?_
  ·intro i o q a1 a2 a3
   obtain ⟨id,o',b1,b2,b3,b4,b5⟩:=hown i o q a1 a2 a3;exact .inr ⟨id,o',q,aaq b1,by show (kills σ fz).get id=_;rw [zB,ah b2];exact b3,b4,b5,rfl⟩
  ·intro i q hi
   have hi':(if sp.pre.gn < i/\i<=sp.pre.gn+sp.pre.ka then (match bM i r with | some (some id)=>η1 id | _=>none) else none)=some q:=hi;split at hi'
   ·next hr=>
    split at hi'
    ·next id hid=>
     refine ⟨?_,by omega,by show i<=P.globals.size+sp.pre.ka;omega⟩;rw [DR hr.1 (by omega) hid];exact hi'
    ·cases hi'
   ·cases hi'
 have hvs:=Bz (ka:=sp.pre.ka) C _ _ _ hbs m4 hv;refine iU.mono (hrun w0 bG w vs ⟨_,hF,hvs⟩) ?_;rintro v w' ⟨us,rfl,η2,hF2,hv2⟩
 have agO:y7 r σ1 sp.pre.gn sp.pre.ka=true:=by
  have:∀n i,(∀j,i < j->j<=i+n->∃id,bM j r=some (some id)/\id∉fz)->y7 r σ i n=true->y7 r σ1 i n=true:=by
   intro n;induction n with
   | zero=>intro i _ _;rfl
   | succ n ih=>
     intro i hnf h;simp only [y7,aG] at h ⊢;obtain ⟨id,h1,h2⟩:=hnf (i+1) (by omega) (by omega);refine ⟨?_,ih (i+1) (λj a b=>hnf j (by omega) (by omega)) h.2⟩;have h3:=h.1;rw [h1] at h3 ⊢;simp only at h3 ⊢;show (match (kills σ fz).get id with | some (.cells _ _ _ _)=>true | _=>false)=true
     rw [zB,ah h2];exact h3
  refine this _ _ (λj a b=>?_) hm3;obtain ⟨id,c,et,qV,opn,g1,g2⟩:=QO hm3 j a b;exact ⟨id,g1,ag9 id (aaq g1)⟩
 obtain ⟨η',hst,hvr⟩:=St.aja (T:=T) (tabs:=T.tabs) (G:=sp.pre.gn) (ka:=sp.pre.ka) rfl m1 f2.rel m3 (by rw [Gh];exact hlk2) agO q1 q2 q3 hval hF2 hv2;have hst':=f2.trans hst;rw [TI,Gh] at hst';rw [TI] at hvr;exact ⟨η',hst',Wn hvr⟩
def TS (P:Program) (tabs:List (Nat×List AV)) (pl:jl) (specs:List (Nat×bD)) (fuel:Nat) (st:List (Option FuncId)) (sp:bD) (ntmps:Nat) (res:List ResultVar) (ac:AC) (ns:List Nd) (ds:List (Nat×Bool)) (lf:Leaf):Bool:=
 match lf with
 | .ret (tn::l)=>match @sV ⟨ns,ds,sp.pre.ka⟩ (zY P tabs ⟨ns,ds,sp.pre.ka⟩ specs) (Ee P ⟨ns,ds,sp.pre.ka⟩ pl fuel) ac { t:=wM (tY st (AV.nX (λj=>j) sp.pre.args)) 0 .nil,n:=max (tY st (AV.nX (λj=>j) sp.pre.args)).length ntmps,gn:=P.globals.size } (sp.pre.zX tabs λj=>j) with
   | some (e,a',σ')=>(match e with | .exit _=>false | _=>true)&&match xR P σ' a' res with
     | some rs=>match ns[tn]? with
       | some (.ci .i64 t)=>match sp.posts[t.toNat]? with
         | some (_,s)=>decide (0<=t)&&(s.ok&&(Nat.beq s.ka sp.pre.ka&&(match zo sp.pre.np s.al l with
           | some l2=>Nat.beq l2.length s.np&&(match @af2 ⟨ns,ds,sp.pre.ka⟩ P s rs σ' with
             | ⟨r,_,fz⟩=>IX r s.gn s.ka&&@OA ⟨ns,ds,sp.pre.ka⟩ P s rs σ' fz r l2)
           | none=>false)))
         | none=>false
       | _=>false
     | none=>false
   | none=>false
 | _=>false
theorem Iw.JW {tabs:List (Nat×List AV)} (hlow:rF tabs P.globals.size) (hm:P.follows .mixedOrders=true) (hn:sK P) {pl:jl} {I:fG} (hpl:vJ P tabs I pl) {specs:List (Nat×bD)} {fuel:Nat} {f:FuncId} {fn:Func} {c:Code} {pe:List Nat} {st:List (Option FuncId)} {sp:bD} {n:Nat} (hnp:n=sp.pre.np) {t:Tree}
 (hf:P.funcs[f]? = some fn) (hc:fn.body=some c)
 (Dz:∀k sp',bM k specs=some sp'->sp'.pre.ok=true/\∀b,(jY pe c).mJ k b->∀gs out,I sp'.key gs=some out->ru P tabs b sp'.pre sp'.posts gs out)
 (tN:t.chk (TS P tabs pl specs fuel st sp fn.ntmps fn.results.toList (jY pe c)) (List.replicate sp.pre.np .arg) []=true) {gs out:List GV} (hd:(aI.tree n t).den I gs=some out):Iw P tabs f st sp.pre sp.posts gs out:=by
 simp only [aI.den] at hd;split at hd;rotate_left
 ·cases hd
 next hlen=>
 subst hnp;obtain ⟨ns,ds,env,lf,h1,h2,⟨more,h3⟩,h4⟩:=Tree.Fg t tN (yZ.start I gs _ hlen) hd;let T:aC:=Tw tabs I sp.pre.ka h2
 unfold TS at h1;split at h1;rotate_left
 ·cases h1
 next tn l=>
 split at h1;rotate_left
 ·cases h1
 next e a' σ' hrun=>
 rw [aG] at h1;obtain ⟨he,h1⟩:=h1;split at h1;rotate_left
 ·cases h1
 next rs hrs=>
 split at h1;rotate_left
 ·cases h1
 next tt htn=>
 split at h1;rotate_left
 ·cases h1
 next e' s hpost=>
 rw [aG,aG,aG,decide_eq_true_iff] at h1;obtain ⟨c1,c2,c3,h1⟩:=h1;split at h1;rotate_left
 ·cases h1
 next l2 hl2=>
 rw [aG] at h1;obtain ⟨c4,h1⟩:=h1;have c3:=bn c3;have c4:=bn c4;split at h1;next r pp fz hfit=>
 rw [aG] at h1;obtain ⟨c5,c6⟩:=h1;unfold OA at c6;simp only [aG,iC] at c6;obtain ⟨⟨⟨⟨m1,m2⟩,m3⟩,m4⟩,m5⟩:=c6;have m1:=bn m1;have h4':valsOf (λn=>env[n]?) (tn::l)=some out:=h4;simp only [valsOf] at h4';split at h4';rotate_left
 ·cases h4'
 next g r0 hg hr0=>
 cases h4';obtain ⟨rest,hrest,hex⟩:=Np h3 hlen hl2 hr0;obtain ⟨g',k1,k2⟩:=h2.node tn _ htn (by simp);have hg':env[tn]? = some g:=hg;rw [hg'] at k1;cases k1;simp only [Nd.den,aT] at k2;subst k2;unfold eU.ok at c2;rw [aG,aG] at c2;obtain ⟨⟨_,hbs⟩,Dx⟩:=c2;have hbs:AV.nJ s.next s.args=true:=by
  have:∀l:List (Nat×AV),Aw s.next l=true->AV.nJ s.next (l.map (·.2))=true:=by
   intro l;induction l with
   | nil=>intro _;rfl
   | cons a l ih=>intro h;simp only [Aw,aG] at h;simp only [iy,AV.nJ,aG];exact ⟨h.1,ih h.2⟩
  exact this _ hbs
 refine ⟨tt.toNat,r0,rest,e',s,by rw [Int.toNat_of_nonneg c1],hpost,hex,by rw [<- c4];exact Wx hrest,λw0 bW w vs hA=>?_⟩;have F5:∀Q:dK->aW->aj->Prop,Q e a' σ'->@AT T P c { t:=wM (tY st (AV.nX (λj=>j) sp.pre.args)) 0 .nil,n:=max (tY st (AV.nX (λj=>j) sp.pre.args)).length fn.ntmps,gn:=P.globals.size } (sp.pre.zX tabs λj=>j) Q:=by
  intro Q hq;have:=@QM P T (zY P tabs ⟨ns,ds,sp.pre.ka⟩ specs) (Ee P ⟨ns,ds,sp.pre.ka⟩ pl fuel) (VE (T:=T) hm hn (hpl T rfl rfl) fuel) (jY pe c) (vO pe c 0).2 (λk b hk a σ e1 a1 σ1 hs Q' hq'=>by
   unfold zY at hs;split at hs
   ·next sp' hsp=>
    obtain ⟨k1,k2⟩:=Dz k sp' hsp;exact TM (T:=T) rfl hlow k1 (λgs out hI=>k2 b hk gs out hI) hs hq'
   ·cases hs) _ _ _ _ _ hrun Q hq
  rwa [show (jY pe c).erase=c from (vO pe c 0).1] at this
 have henv:∀j g,gs[j]? = some g->T.val ((λj=>j) j)=some g:=by
  intro j g hj;show env[j]? = some g
  rw [h3];have:=(dL.1 hj).1;rw [kT this];exact hj
 obtain ⟨η,hF0,hv0⟩:=hA;have hF1:=ZT (T:=T) (f:=λj=>j) rfl rfl henv hF0;have hv1:@ay T η (AV.nX (λj=>j) sp.pre.args) vs:=ay.dw (S:=Tg tabs gs sp.pre.ka) (T:=T) henv _ _ hv0;have key:Calls P f ⟨tZ st vs⟩ w λen w'=>∃v,en=.returned v/\∃us,v=yI us/\Ip P tabs s rest w0 bW us w':=by
  letI:=T
  have hv2:ay η (tY st (AV.nX (λj=>j) sp.pre.args)) (tZ st vs):=O1 hv1;refine calls_of_wp hf hc ?_;refine F5 (λe2 a2 σ2=>e2=e/\a2=a'/\σ2=σ') ⟨rfl,rfl,rfl⟩ w0 bW η w _ _ hF1 rfl (Rw hv2) ?_;rintro e2 a2 σ2 η1 A' w' ⟨rfl,rfl,rfl⟩ hF hl0 ht
  obtain ⟨us,r1,r2⟩:=J9 hF.rel ht (fun | .tmp t=>pure (A'.tmps.getD t undef) | .cell a t=>do loadVar t (<- asAddr (A'.tmps.getD a undef))) (λ_=>rfl) (λ_ _=>rfl) _ _ hrs;obtain ⟨bG,f1,f2,f3⟩:=NI hF hl0 fz;have C:pY T P tabs s.gn s.next η1 σ2 w' fz r l2 rest bG:=⟨hF.rel,hrest,f1,f3,m1,by omega⟩
  obtain ⟨hR,hown⟩:=Ug (ka:=s.ka) (T:=T) rfl hlow Dx (by omega) m1 C f2.rel.gV (λid o q b2 b3 b4 b5=>f2.rel.jy id o q (by rw [zB,ah b2];exact b3) b4 b5) m3 m5;have hvs:=Bz (ka:=s.ka) C _ _ _ hbs m4 r2;have hA':Ip P tabs s rest w0 bW us w':=by
   refine ⟨_,@iJ.mk (Tg tabs rest s.ka) P w0 bW _ _ w' hR hF.kept ?_ f2.qU f2.oM ?_,hvs⟩
   ·intro i o q a1 a2 a3
    obtain ⟨id,u,b1,b2,b3,b4,b5⟩:=hown i o q a1 a2 a3;exact hF.own id u q b3 b4 b5
   ·intro i q hi
    obtain ⟨a1,a2,a3⟩:=hF.nO i q hi;have a3':i<=P.globals.size+s.ka:=by rw [c3];exact a3
    refine ⟨?_,a2,a3'⟩;rw [DR (by omega) (by omega) (QS c5 i (by omega) (by omega))];exact a1
  have hres':(results fn A'.tmps).run P w'=.ok (if h:(⟨us⟩:Array Value).size=1 then (⟨us⟩:Array Value)[0] else .tuple ⟨us⟩) w':=by
   unfold results;rw [Qm];simp only [aS,QG];exact tq (λr:Result (List Value)=>(r.andThen λa w'=>Result.ok a.toArray w').andThen λa w'=>Sem.run P (pure (if h:a.size=1 then a[0] else Value.tuple a)) w') r1
  have Tc:(if h:(⟨us⟩:Array Value).size=1 then (⟨us⟩:Array Value)[0] else .tuple ⟨us⟩)=yI us:=by
   match us with
   | []=>rfl
   | [u]=>rfl
   | u::u'::us=>rfl
  rw [Tc] at hres'
  have hpost:A'.defers=[]/\∃v,(results fn A'.tmps).run P w'=.ok v w'/\∃v',Ending.returned v=.returned v'/\∃us,v'=yI us/\Ip P tabs s rest w0 bW us w':=
   ⟨ht.none,_,hres',_,rfl,us,rfl,hA'⟩
  cases e2 with
  | normal=>exact hpost
  | ret=>exact hpost
  | exit id=>simp at he
 right;refine ⟨?_,Calls.mono' key ?_⟩
 ·have hname:=hn f fn c hf hc
  simp only [callFunc,aS,program,Sem.run,aQ,hf];simp only [hname,fM,if_false,hc,ER,bf]
 ·rintro en w' ⟨v,rfl,h5⟩
  exact ⟨v,rfl,h5⟩
end
end Go.aJ
namespace Go.aJ
set_option linter.unusedSimpArgs false
noncomputable section
set_option linter.unusedSectionVars false
set_option linter.unusedVariables false
variable {P:Program} {H:Type} {enc:TypeId×Value->H}
inductive dR where
 | bool
 | int (k:IntKind)
 | str
 | list (agg:Bool) (e:List dR)
def fieldTys (P:Program) (r:TypeId->Option (List dR)):Nat->List Field->Option (List dR)
 | _,[]=>some []
 | off,f::fs=>match r f.type with
   | some l=>if Nat.beq f.offset off&&Nat.beq (P.cellsOf f.type) l.length then match fieldTys P r (off+l.length) fs with
     | some m=>some (l++m)
     | none=>none
     else none
   | none=>none
def zh (P:Program):Nat->TypeId->Option (List dR)
 | 0,_=>none
 | n+1,t=>match P.underlying t with
   | some .bool=>some [.bool]
   | some (.int k)=>some [.int k]
   | some .string=>some [.str]
   | some (.slice e)=>match zh P n e,ng P e with
     | some l,some b=>if Nat.beq (P.cellsOf e) l.length&&Nat.ble 1 l.length&&Nat.ble 1 (P.bytesOf e)&&(b || Nat.beq l.length 1) then some [.list b l] else none
     | _,_=>none
   | some (.struct fs)=>match fieldTys P (zh P n) 0 fs.toList with
     | some l=>if Nat.beq (P.cellsOf t) l.length then some l else none
     | none=>none
   | _=>none
mutual
def dR.has:dR->GV->Prop
 | .bool,g=>∃b,g=.b b
 | .int k,g=>∃n,g=.i k n/\k.min<=n/\n<=k.max
 | .str,g=>∃s,g=.s s/\s.length<=reachBytes
 | .list agg e,g=>∃xs,g=.l xs/\xs.length<=reachBytes/\∀x∈xs,dR.jc e x.cells/\x.scalar = !agg
def dR.jc:List dR->List GV->Prop
 | [],gs=>gs=[]
 | t::ts,gs=>∃g r,gs=g::r/\dR.has t g/\dR.jc ts r
end
theorem dR.has.scalar {t:dR} {g:GV} (h:t.has g):g.scalar=true:=by
 cases t<;>simp only [dR.has] at h
 ·obtain ⟨b,rfl⟩:=h;rfl
 ·obtain ⟨b,rfl,_⟩:=h;rfl
 ·obtain ⟨b,rfl,_⟩:=h;rfl
 ·obtain ⟨b,rfl,_⟩:=h;rfl
theorem dR.jc.scalars:∀ {l:List dR} {gs:List GV},dR.jc l gs->gs.all GV.scalar=true/\gs.length=l.length
 | [],gs,h=>by simp only [dR.jc] at h;subst h;exact ⟨rfl,rfl⟩
 | t::l,gs,h=>by
   simp only [dR.jc] at h;obtain ⟨g,r,rfl,h1,h2⟩:=h;have:=dR.jc.scalars h2;simp [h1.scalar,this.1,this.2]
theorem dR.jc.append:∀ {l m:List dR} {gs hs:List GV},dR.jc l gs->dR.jc m hs->dR.jc (l++m) (gs++hs)
 | [],m,gs,hs,h,h'=>by simp only [dR.jc] at h;subst h;simpa using h'
 | t::l,m,gs,hs,h,h'=>by
   simp only [dR.jc] at h;obtain ⟨g,r,rfl,h1,h2⟩:=h;simp only [jM,dR.jc];exact ⟨g,r++hs,rfl,h1,dR.jc.append h2 h'⟩
theorem aK.append {ro:Nat->Option Obj}:∀ {l m:List GV} {vs us:List Value},aK ro l vs->aK ro m us->aK ro (l++m) (vs++us)
 | [],m,vs,us,h,h'=>by simp only [aK] at h;subst h;simpa using h'
 | a::l,m,vs,us,h,h'=>by
   simp only [aK] at h;obtain ⟨x,xs,rfl,h1,h2⟩:=h;simp only [jM,aK];exact ⟨x,xs++us,rfl,h1,aK.append h2 h'⟩
theorem adq:∀ {e:TypeId} {ds:List (DataW H)} {d:DataW H},d∈ds->∀z∈d.weights P e,z∈DataW.weightsAll P e ds
 | e,[],d,h,z,_=>by simp at h
 | e,d0::ds,d,h,z,hz=>by
   simp only [DataW.weightsAll,oz];rcases dn.1 h with rfl | h
   ·exact .inl hz
   ·exact .inr (adq h z hz)
def wX (w:World):Nat->Option Obj:=λb=>w.heap[b]?
theorem cell?_at {w:World} {a:Addr} {v:Value} (h:w.cell? a=some v):a.spot=none/\∃c elem fr,w.heap[a.block]? = some (.cells c elem fr)/\c[a.off]? = some v:=by
 unfold World.cell? at h;split at h
 ·next c elem fr hb=>
  split at h
  ·cases h
  ·next hs=>exact ⟨by simpa using hs,c,elem,fr,hb,h⟩
 ·cases h
theorem ZJ {w:World} {r:TypeId->Option (List dR)} {fuel:Nat} {cs:List Value}
 (ih:∀t l ch (x:DataW H×List MemPlace),r t=some l->DataW.trod enc P w 0 (λ_=>true) true fuel t ch=some x->(∀z∈x.1.weights P t,z<=reachBytes)->∃gs,aK (wX w) gs ch/\dR.jc l gs) :
 ∀ (fs:List Field) (xs:List (DataW H×List MemPlace)) (off:Nat) (l:List dR),fieldTys P r off fs=some l->xs.length=fs.length->
   (∀ (i:Nat) (f:Field),fs[i]? = some f->DataW.trod enc P w 0 (λ_=>true) true fuel f.type ((cs.drop f.offset).take (P.cellsOf f.type))=xs[i]?)->
   (∀z∈DataW.weightsEach P (fs.map (·.type)) (xs.map (·.1)),z<=reachBytes)->
   ∃gs,aK (wX w) gs ((cs.drop off).take l.length)/\dR.jc l gs
 | [],xs,off,l,h,_,_,_=>by
   simp only [fieldTys,aT] at h;subst h;exact ⟨[],by simp [aK],by simp [dR.jc]⟩
 | f::fs,[],off,l,_,hl,_,_=>by simp at hl
 | f::fs,x::xs,off,l,h,hl,hx,hw=>by
   simp only [fieldTys] at h;split at h
   ·next l1 h1=>
    split at h
    ·next hc=>
     rw [aG] at hc;have e1:=bn hc.1;have e2:=bn hc.2;split at h
     ·next m hm=>
      cases h;have h0:=hx 0 f rfl;simp only [gW] at h0;obtain ⟨gs,g1,g2⟩:=ih f.type l1 _ x h1 h0 (λz hz=>hw z (by simp only [iy,DataW.weightsEach,oz];exact .inl hz))
      obtain ⟨hs,k1,k2⟩:=ZJ ih fs xs (off+l1.length) m hm (by simpa using hl) (λi f' hf=>by have:=hx (i+1) f' (by simpa using hf);simpa using this)
       (λz hz=>hw z (by simp only [iy,DataW.weightsEach,oz];exact .inr hz))
      refine ⟨gs++hs, ?_,g2.append k2⟩;rw [e1,e2] at g1;have:(cs.drop off).take (l1++m).length=(cs.drop off).take l1.length++(cs.drop (off+l1.length)).take m.length:=by
       rw [bY,yU,oQ]
      rw [this];exact aK.append g1 k1
     ·cases h
    ·cases h
   ·cases h
theorem Zp {c:Nat} {ch:Nat->List Value} {arr:Array Value} {off:Nat}:∀ (n:Nat) (_:∀i,i < n->(ch i).length=c/\∀j,j < c->arr[off+i * c+j]? = (ch i)[j]?),
 ((List.range n).flatMap ch).length=n * c/\∀ (k:Nat) x,((List.range n).flatMap ch)[k]? = some x->arr[off+k]? = some x
 | 0,_=>by simp
 | n+1,h=>by
   obtain ⟨h1,h2⟩:=Zp n λi hi=>h i (by omega);obtain ⟨e1,e2⟩:=h n (by omega);rw [List.range_succ,Xe];simp only [iK,List.flatMap_nil,mM];refine ⟨by rw [bY,h1,e1,qh,Cc],λk x hk=>?_⟩;by_cases hlt:k < n * c
   ·rw [kT (by omega)] at hk
    exact h2 k x hk
   ·rw [sH (by omega),h1] at hk
    have hj:=(dL.1 hk).1;have:=e2 (k - n * c) (by omega);rw [hk] at this;rw [<- this];congr 1;omega
theorem aK.ofFn {ro:Nat->Option Obj} {G:Nat->GV} {Y:Nat->Value}:∀ (l:List Nat),(∀i∈l,GR ro (G i) (Y i))->aK ro (l.map G) (l.map Y)
 | [],_=>by simp [aK]
 | i::l,h=>by simp only [iy,aK];exact ⟨_,_,rfl,h i (by simp),aK.ofFn l λj hj=>h j (by simp [hj])⟩
theorem Wl {w:World}:∀ (n m:Nat) (t:TypeId) (cs:List Value) (x:DataW H×List MemPlace) (l:List dR),zh P n t=some l->DataW.trod enc P w 0 (λ_=>true) true m t cs=some x->
 (∀z∈x.1.weights P t,z<=reachBytes)->∃gs,aK (wX w) gs cs/\dR.jc l gs
 | 0,m,t,cs,x,l,hc,h,hw=>by simp [zh] at hc
 | n+1,m,t,cs,x,l,hc,h,hw=>by
   simp only [zh] at hc;split at hc
   ·next hu=>
    cases hc;obtain ⟨b,rfl,rfl⟩:=DataW.trod_bool hu h;exact ⟨[.b b],by simp [aK,GR],by simp only [dR.jc];exact ⟨_,_,rfl,by simp [dR.has],rfl⟩⟩
   ·next k hu=>
    cases hc;obtain ⟨b,rfl,rfl,hwf⟩:=DataW.trod_int hu h;have hwf':k.min<=b/\b<=k.max:=by simpa [Lit.wf] using hwf
    exact ⟨[.i k b],by simp [aK,GR],by simp only [dR.jc];exact ⟨_,_,rfl,by simp only [dR.has];exact ⟨b,rfl,hwf'⟩,rfl⟩⟩
   ·next hu=>
    cases hc;obtain ⟨s,rfl,rfl,hs⟩:=DataW.trod_string hu h;refine ⟨[.s s.data.toList],by simp only [aK,GR];exact ⟨_,_,rfl,by cases s with | mk a=>cases a;rfl,rfl⟩,by simp only [dR.jc];exact ⟨_,_,rfl,by simp only [dR.has];exact ⟨_,rfl,hw _ (by simp [DataW.weights])⟩,rfl⟩⟩
   ·next e hu=>
    split at hc
    ·next le agg he hag=>
     split at hc
     ·next hcond=>
      cases hc;simp only [aG,kR] at hcond;obtain ⟨⟨⟨c1,c2⟩,c3⟩,c4⟩:=hcond;have c1:=bn c1;have c2:=nM c2;have c3:=nM c3;rcases Deep.open_slice hu h with ⟨rfl,rfl⟩ | ⟨a,len,cap0,cap,n',D,Pl,rfl,hb,hl,hm,rfl,rfl,hi⟩
      ·exact ⟨[.l []],by simp [aK,GR],by simp only [dR.jc];exact ⟨_,_,rfl,by simp only [dR.has];exact ⟨[],rfl,by simp,by simp⟩,rfl⟩⟩
      have ag6:cap * P.bytesOf e<=reachBytes:=by
       have:=hw (cap * P.bytesOf e) (by simp only [DataW.weights,hu,dn,BX,List.length_range];left;rw [La hl]);exact this
      have hcapR:cap<=reachBytes:=jF (adE _ c3) ag6;have one:∀i,i < len->∃ch gs,(ch.length=P.cellsOf e/\∀j,j < P.cellsOf e->w.cell? (((a.add (i * P.cellsOf e))).add j)=ch[j]?)/\aK (wX w) gs ch/\dR.jc le gs:=by
       intro i hil;obtain ⟨ch,h1,h2⟩:=hi i (by omega);obtain ⟨_,h3,h4⟩:=World.cells?_some h1;obtain ⟨gs,g1,g2⟩:=Wl n n' e ch _ le he h2 (λz hz=>hw z (by
        simp only [DataW.weights,hu,dn,oz];right;left;exact adq (by simp only [oC,wH];exact ⟨i,hil,rfl⟩) z hz))
       exact ⟨ch,gs,⟨h3,h4⟩,g1,g2⟩
      by_cases hz:cap=0
      ·have hlz:len=0:=by omega
       subst hz;subst hlz;refine ⟨[.l []],by simp only [aK,GR];exact ⟨_,_,rfl,.inl ⟨trivial,_,rfl⟩,rfl⟩,by simp only [dR.jc];exact ⟨_,_,rfl,by simp only [dR.has];exact ⟨[],rfl,by simp,by simp⟩,rfl⟩⟩
      have ha:a.spot=none/\∃arr elem fr,w.heap[a.block]? = some (.cells arr elem fr):=by
       obtain ⟨ch,h1,h2⟩:=hi 0 (by omega);obtain ⟨_,h3,h4⟩:=World.cells?_some h1;have h5:=h4 0 (by omega);have hch:ch[0]? = some ch[0]:=bK (by omega);rw [hch] at h5;have h6:=cell?_at h5;simp only [Nat.zero_mul,Addr.add,if_true] at h6;exact ⟨h6.1,h6.2.choose,h6.2.choose_spec.choose,h6.2.choose_spec.choose_spec.choose,h6.2.choose_spec.choose_spec.choose_spec.1⟩
      obtain ⟨hsp,arr,elem,fr,hblk⟩:=ha;obtain ⟨bl,off,sp⟩:=a;simp only at hsp hblk;subst hsp;have addr:∀i j:Nat,((Addr.mk bl off none).add i).add j=⟨bl,off+i+j,none⟩:=by
       intro i j;unfold Addr.add;split<;>split<;>simp_all
      have hex:∃ (ch:Nat->List Value) (G:Nat->List GV),∀i,i < len->(ch i).length=P.cellsOf e/\(∀j,j < P.cellsOf e->arr[off+i * P.cellsOf e+j]? = (ch i)[j]?)/\aK (wX w) (G i) (ch i)/\dR.jc le (G i):=by
       refine ⟨λi=>if hil:i < len then (one i hil).choose else [],λi=>if hil:i < len then (one i hil).choose_spec.choose else [],λi hil=>?_⟩;simp only [dif_pos hil];obtain ⟨⟨h1,h2⟩,h3,h4⟩:=(one i hil).choose_spec.choose_spec;refine ⟨h1,λj hj=>?_,h3,h4⟩;have:=h2 j hj;rw [addr] at this;rw [<- this];have hch:=bK (l:=(one i hil).choose) (i:=j) (by omega);rw [hch] at this;have h6:=cell?_at this;simp only at h6;obtain ⟨_,c',e',f',h7,h8⟩:=h6;rw [hblk] at h7;cases h7;rw [this,h8]
      obtain ⟨ch,G,hG⟩:=hex;obtain ⟨q1,q2⟩:=Zp (c:=P.cellsOf e) (ch:=ch) (arr:=arr) (off:=off) len λi hil=>⟨(hG i hil).1,λj hj=>(hG i hil).2.1 j hj⟩
      have hgl:∀i,i < len->(G i).length=le.length:=λi hil=>(hG i hil).2.2.2.scalars.2;let X:Nat->GV:=λi=>if agg then .g (G i) else (G i).headD (.l [])
      let Y:Nat->Value:=λi=>if agg then .agg ⟨ch i⟩ else (ch i).headD undef
      have hX:∀i,i < len->(X i).cells=G i/\(X i).scalar = !agg/\GR (wX w) (X i) (Y i)/\(Y i).cells.toList=ch i:=by
       intro i hil;obtain ⟨p1,p2,p3,p4⟩:=hG i hil;cases agg with
       | true=>simp only [X,Y,if_true];exact ⟨rfl,rfl,by simp only [GR];exact ⟨_,rfl,p3⟩,rfl⟩
       | false=>
         have hle1:le.length=1:=by simpa using c4
         obtain ⟨g,hg⟩:∃g,G i=[g]:=Qw.1 (by rw [hgl i hil,hle1]);obtain ⟨y,hy⟩:∃y,ch i=[y]:=Qw.1 (by rw [p1,c1,hle1]);have hsc:g.scalar=true:=by have:=p4.scalars.1;rw [hg] at this;simpa using this
         have F8:GR (wX w) g y:=by rw [hg,hy] at p3;simp only [aK] at p3;obtain ⟨u,us,e1,e2,_⟩:=p3;cases e1;exact e2
         simp only [X,Y,hg,hy,List.headD_cons,fM,if_false,Bool.not_false];refine ⟨by cases g<;>first | rfl | (simp [GV.scalar] at hsc),hsc,F8, ?_⟩;cases g<;>simp only [GR] at F8
         ·subst F8;rfl
         ·subst F8;rfl
         ·subst F8;rfl
         ·rcases F8 with ⟨_,_,rfl⟩ | ⟨_,_,_,_,_,rfl,_⟩<;>rfl
         ·simp [GV.scalar] at hsc
      refine ⟨[.l ((List.range len).map X)], ?_, ?_⟩
      ·simp only [aK]
       refine ⟨_,_,rfl, ?_,rfl⟩;simp only [GR];right;have aaj:bU ((List.range len).map Y)=(List.range len).flatMap ch:=by
        unfold bU;rw [List.flatMap_map];rw [List.flatMap_def,List.flatMap_def,List.map_congr_left λi hir=>(hX i (wH.1 hir)).2.2.2]
       refine ⟨bl,off,cap,(List.range len).map Y,P.cellsOf e,by simp,by simpa using hl,aK.ofFn _ λi hir=>(hX i (wH.1 hir)).2.2.1, ?_,λhne=>⟨arr,elem,fr,hblk, ?_, ?_⟩⟩
       ·intro y hy
        obtain ⟨i,hir,rfl⟩:=oC.1 hy;have:=(hX i (wH.1 hir)).2.2.2;rw [<- ED,this];exact (hG i (wH.1 hir)).1
       ·rw [aaj,q1]
        have hlp:0 < len:=by
         rcases Xt len with h0 | h0
         ·subst h0;simp at hne
         ·exact h0
        have hcp:0 < P.cellsOf e:=by omega
        have hk:len * P.cellsOf e - 1 < ((List.range len).flatMap ch).length:=by
         rw [q1];have:0 < len * P.cellsOf e:=IG hlp hcp;omega
        have:=q2 _ _ (bK hk);have:=(oh.1 this).1;have:0 < len * P.cellsOf e:=IG hlp hcp;omega
       ·rw [aaj];exact q2
      ·simp only [dR.jc]
       refine ⟨_,_,rfl, ?_,rfl⟩;simp only [dR.has];refine ⟨_,rfl,by simp;omega,λy hy=>?_⟩;obtain ⟨i,hir,rfl⟩:=oC.1 hy;obtain ⟨k1,k2,_⟩:=hX i (wH.1 hir);rw [k1];exact ⟨(hG i (wH.1 hir)).2.2.2,k2⟩
     ·cases hc
    ·cases hc
   ·next fs hu=>
    split at hc
    ·next l' hf=>
     split at hc
     ·next hcl=>
      cases hc;have hcl:=bn hcl;obtain ⟨xs,n',rfl,rfl,hlen,hxl,hx⟩:=DataW.trod_struct hu h
      obtain ⟨gs,g1,g2⟩:=ZJ (enc:=enc) (P:=P) (w:=w) (fuel:=n') (cs:=cs) (r:=zh P n) (λt l ch x h1 h2 h3=>Wl n n' t ch x l h1 h2 h3) fs.toList xs 0 l hf (by simpa using hxl)
       (λi f hi=>hx i f (by simpa using hi)) (λz hz=>hw z (by simp only [DataW.weights,hu];simpa using hz))
      refine ⟨gs, ?_,g2⟩;rw [fH,mP (by omega)] at g1;exact g1
     ·cases hc
    ·cases hc
   ·cases hc
def argTys (P:Program) (n:Nat):List TypeId->Option (List (Bool×List dR))
 | []=>some []
 | t::ts=>match zh P n t,ng P t,argTys P n ts with
   | some l,some b,some r=>if b || Nat.beq l.length 1 then some ((b,l)::r) else none
   | _,_,_=>none
def hasArgs:List (Bool×List dR)->List GV->Prop
 | [],gs=>gs=[]
 | (b,l)::r,gs=>∃g gs',gs=g::gs'/\dR.jc l g.cells/\g.scalar = !b/\hasArgs r gs'
theorem ajd {w:World} {r:Reach} {b0:Nat} {t:TypeId} {v:Value} (h:Value.okWide P w r b0 t v):(ng P t=some true->∃cs,v=.agg cs)/\
 (ng P t=some false->v.cells = #[v]\/∀n,zh P n t=none):=by
 unfold Value.okWide at h;unfold ng;constructor
 ·intro ha
  split at ha
  ·next hu=>rw [hu] at h;simp only at h;obtain ⟨cs,rfl,_⟩:=h;exact ⟨cs,rfl⟩
  ·next hu=>rw [hu] at h;simp only at h;obtain ⟨cs,rfl,_⟩:=h;exact ⟨cs,rfl⟩
  ·cases ha
  ·cases ha
 ·intro ha
  split at ha
  ·cases ha
  ·cases ha
  ·next u h1 h2 hu=>
   rw [hu] at h
   cases u<;>first
    | (exact absurd rfl (h1 _))
    | (exact absurd rfl (h2 _ _))
    | (right;intro n;cases n<;>simp [zh,hu];done)
    | (left;simp only [Cell.okWide,hu,Cell.ok] at h;cases v<;>first | rfl | (simp only at h;done) | (cases h;done))
  ·cases ha
theorem ac3 {w:World} {n:Nat}:∀ {ts:List TypeId} {vs:List Value} {ds:List (DataW H)} {ps:List MemPlace} {L:List (Bool×List dR)},argTys P n ts=some L->DataW.TrodAll enc P w 0 (λ_=>true) true ts vs ds ps->
 (∀z∈DataW.weightsEach P ts ds,z<=reachBytes)->(∀ (j:Nat) t v,ts[j]? = some t->vs[j]? = some v->∃b0,Value.okWide P w .any b0 t v)->∃gs,aK (wX w) gs vs/\hasArgs L gs
 | [],[],[],ps,L,hL,h,hw,hok=>by simp only [argTys,aT] at hL;subst hL;exact ⟨[],by simp [aK],by simp [hasArgs]⟩
 | t::ts,v::vs,d::ds,ps,L,hL,h,hw,hok=>by
   obtain ⟨p,q,⟨m,h1⟩,h2,rfl⟩:=h;simp only [argTys] at hL;split at hL
   ·next l b r hc hag hr=>
    split at hL
    ·next hb=>
     cases hL;obtain ⟨gs,g1,g2⟩:=Wl n m t _ _ l hc h1 (λz hz=>hw z (by simp only [DataW.weightsEach,oz];exact .inl hz));obtain ⟨hs,k1,k2⟩:=ac3 hr h2 (λz hz=>hw z (by simp only [DataW.weightsEach,oz];exact .inr hz)) (λj t' v' h1 h2=>hok (j+1) t' v' (by simpa using h1) (by simpa using h2));obtain ⟨b0,hv⟩:=hok 0 t v rfl rfl;obtain ⟨o1,o2⟩:=ajd hv;cases b with
     | true=>
       obtain ⟨cs,rfl⟩:=o1 hag;refine ⟨.g gs::hs,by simp only [aK];exact ⟨_,_,rfl,by simp only [GR];exact ⟨cs.toList,rfl,g1⟩,k1⟩, ?_⟩;simp only [hasArgs];exact ⟨_,_,rfl,g2,rfl,k2⟩
     | false=>
       have hl1:l.length=1:=by simpa using hb
       rcases o2 hag with o2 | o2
       rotate_left
       ·rw [o2 n] at hc;cases hc
       rw [o2] at g1;obtain ⟨g,rfl⟩:∃g,gs=[g]:=Qw.1 (by rw [g2.scalars.2,hl1]);have hsc:g.scalar=true:=by have:=g2.scalars.1;simpa using this
       simp only [aK] at g1;obtain ⟨u,us,e1,e2,_⟩:=g1;cases e1;refine ⟨g::hs,by simp only [aK];exact ⟨_,_,rfl,e2,k1⟩, ?_⟩;simp only [hasArgs];exact ⟨_,_,rfl,by cases g<;>first | exact g2 | (simp [GV.scalar] at hsc),hsc,k2⟩
    ·cases hL
   ·cases hL
 | [],_::_,_,_,_,_,h,_,_=>by simp [DataW.TrodAll] at h
 | [],[],_::_,_,_,_,h,_,_=>by simp [DataW.TrodAll] at h
 | _::_,[],_,_,_,_,h,_,_=>by simp [DataW.TrodAll] at h
 | _::_,_::_,[],_,_,_,h,_,_=>by simp [DataW.TrodAll] at h
theorem Kept.below {W W':World} (h:Kept W W'):Go.RowKit.Below W.heap.size W W':=⟨h.os,h.tape,h.output,h.size,h.keep⟩
theorem ac4 {W W':World} (hl:laidOutB P=true) (hk:Kept W W') {sp:Nat->Bool}:∀ {ts:List TypeId} {vs:List Value} {ds:List (DataW H)} {ps:List MemPlace},DataW.TrodAll enc P W 0 (λ_=>true) true ts vs ds ps->
 (∀t∈ts,P.readableRec t=true/\t < P.types.size)->(∀x∈ps,x.block < W.heap.size)->(∀x∈ps,sp x.block=true)->DataW.TrodAll enc P W' 0 sp true ts vs ds ps
 | [],[],[],ps,h,_,_,_=>h
 | t::ts,v::vs,d::ds,ps,h,hr,hlt,hsp=>by
   obtain ⟨p,q,h1,h2,rfl⟩:=h;obtain ⟨r1,r2⟩:=hr t (by simp)
   exact ⟨p,q,WideElems.Trod_stays hl r1 r2 h1 (λx hx=>hk.below.same (hlt x (List.mem_append_left _ hx))) (λx hx=>hsp x (List.mem_append_left _ hx)),
    ac4 hl hk h2 (λt' ht=>hr t' (by simp [ht])) (λx hx=>hlt x (adB _ hx)) (λx hx=>hsp x (adB _ hx)),rfl⟩
 | [],_::_,_,_,h,_,_,_=>by simp [DataW.TrodAll] at h
 | [],[],_::_,_,h,_,_,_=>by simp [DataW.TrodAll] at h
 | _::_,[],_,_,h,_,_,_=>by simp [DataW.TrodAll] at h
 | _::_,_::_,[],_,h,_,_,_=>by simp [DataW.TrodAll] at h
end
end Go.aJ
namespace Go.aJ
set_option linter.unusedSimpArgs false
open Go.ChangeShapes Go.WideShapes Go.ChangeAt Go.RowKit
noncomputable section
set_option linter.unusedSectionVars false
set_option linter.unusedVariables false
variable {P:Program}
theorem aeA {T0:aC} {call:Caller} {f:FuncId} {σ0 σ':aj} (hcall:@pU T0 P call) (h0:@xM T0 σ0 P.globals.size) (hrun:call f [] σ0=some (.b true,σ')) {ro:Nat->Option Obj} {w:World} (hro:vK T0.tabs ro w) :
 iU P f ⟨[]⟩ w λv w'=>v=.bool true/\Kept w w':=by
 letI:=T0
 have hS:SR P (uP P.globals.size σ0 ro) σ0 w:=IV h0.1 (λid o ho=>by
  obtain ⟨c,rfl,hm,hle⟩:=h0.2 id o ho;obtain ⟨cs,elem,fr,h1,h2,h3⟩:=hro.tab _ hm;exact ⟨hle,c,rfl,⟨cs,elem,fr,hro.at' _ _ h1,h2,h3⟩⟩) hro.at' (λp hp=>hro.tab p hp)
 refine iU.mono (hcall f [] σ0 _ _ hrun _ w [] hS rfl) ?_;rintro v w' ⟨η',hst,hr⟩
 simp only [VR] at hr;exact ⟨hr,hst.kept h0.own⟩
theorem ajn {T:aC} {f:FuncId} (h:∀ro w,vK T.tabs ro w->iU P f ⟨[]⟩ w λv w'=>v=.bool true/\Kept w w'):@dN T P f DZ:=by
 letI:=T
 intro args σ r σ1 hs η w vs hS hv;unfold DZ at hs;split at hs
 ·cases hs
  simp only [ay] at hv;subst hv;refine iU.mono (h η.ro w hS.Kq) ?_;rintro v w' ⟨rfl,hk⟩
  exact ⟨η,St.abz hS hk,by simp only [VR]⟩
 ·cases hs
theorem ahZ {H:Type} {enc:TypeId×Value->H} {tabs:List (Nat×List AV)} {f:FuncId} {fn:Func} {c:Code} {s:ChangeSpec} {n:Nat} {L:List (Bool×List dR)} {tb:TypeId} {again:Bool} (hn:sK P) (hf:P.funcs[f]? = some fn) (hc:fn.body=some c)
 (hL:argTys P n fn.params.toList=some L) (hlaid:laidOutB P=true) (hread:∀t∈fn.params.toList,P.readableRec t=true/\t < P.types.size) (hr:fn.resultTypes = #[tb]) (htb:P.underlying tb=some .bool)
 (hvars:s.vars=[]) (hs:∀ds:List (DataW H),ds.length=fn.params.size->s.fn H ds = { results:=[.lit (.bool true)],args:=ds })
 (ag5:∀gs,hasArgs L gs->oP P tabs f [] [.sc] gs [.b true]) {W:World} {base:Nat} {args:Array Value} {ds gs:List (DataW H)} {before:List MemPlace}
 (hval:∀ (j:Nat) t v,fn.params[j]? = some t->args[j]? = some v->Value.okWide P W .any base t v)
 (hW:DataW.Whole enc P fn.params.toList s.vars false W args.toList ds gs before) {vt:List TypeId} (hvt:vt=[]) (hsz0:(DataW.weightsEach P (fn.params.toList++vt) (ds++gs)).all (·<=reachBytes)=true) (hro:vK tabs (wX W) W) :
 Calls P f args W λe W'=>∃v,e=.returned v/\s.post enc P fn false true false again W args v W':=by
 letI:aC:=Tg [] [] 0
 have hW':=hW;have hlt:=λp hp=>hW.lt p hp;obtain ⟨p,q,hA,hV,rfl,hfz,hnd⟩:=hW;have hV':=hV;rw [hvars] at hV;obtain ⟨rfl,rfl⟩:=trodVars_none hV;have hsz:∀z∈DataW.weightsEach P fn.params.toList ds,z<=reachBytes:=by
  subst hvt;rw [mM,mM,List.all_eq_true] at hsz0;exact λz hz=>by simpa using hsz0 z hz
 obtain ⟨gl,g1,g2⟩:=ac3 hL hA hsz (λj t v h1 h2=>⟨base,hval j t v (by simpa using h1) (by simpa using h2)⟩);have hcall:=(ag5 gl g2).call (wX W) W args.toList hro g1;have aag:=iU.calls hn hf hc hcall;have hput:(⟨tZ [] args.toList⟩:Array Value)=args:=by simp [tZ]
 rw [hput] at aag;have hdl:ds.length=fn.params.size:=by
  have:∀ {ts:List TypeId} {vs:List Value} {ds:List (DataW H)} {ps:List MemPlace},DataW.TrodAll enc P W 0 (λ_=>true) true ts vs ds ps->ds.length=ts.length:=by
   intro ts;induction ts with
   | nil=>intro vs ds ps h;cases vs<;>cases ds<;>simp [DataW.TrodAll] at h ⊢
   | cons t ts ih=>intro vs ds ps h;cases vs<;>cases ds<;>simp [DataW.TrodAll] at h ⊢;obtain ⟨_,_,_,h2,_⟩:=h;exact ih h2
  simpa using this hA
 refine Calls.mono' aag ?_;rintro e W' ⟨v,rfl,ro',hstep,us,rfl,hus⟩
 simp only [aK] at hus;obtain ⟨u,us',rfl,hu,rfl⟩:=hus;simp only [GR] at hu;subst hu;have hfn:s.fn H (ds++[]) = { results:=[.lit (.bool true)],args:=ds }:=by rw [mM];exact hs ds hdl
 simp only [mM] at hW' hlt;refine ⟨_,rfl,aj3 (pa:=p) (pv:=[]) hW' (λ_ _ _=>?_) (λsp hsp=>?_) (λ_ _=>?_) (by simp) hstep.kept (ok_one (by rw [hr]) rfl (okWide_bool_mk htb _))⟩
 ·rw [hfn,hr];exact trodAll_cons_mk (shut_bool htb _) trodAll_mk0
 ·rw [hfn];exact ac4 hlaid hstep.kept hA hread hlt hsp
 ·rw [hfn,hvars];rfl
def AC.nC:AC->Nat->Option Code
 | .plain _,_=>none
 | .seq x y,k=>match x.nC k with
   | some b=>some b
   | none=>y.nC k
 | .cond _ y z,k=>match y.nC k with
   | some b=>some b
   | none=>z.nC k
 | .block _ x,k=>x.nC k
 | .loop k' b,k=>if Nat.beq k' k then some b else none
 | .peel x k' b,k=>if Nat.beq k' k then some b else x.nC k
theorem AC.Bv {k:Nat} {b:Code}:∀ {x:AC},x.nC k=some b->x.mJ k b
 | .plain _,h=>by simp [AC.nC] at h
 | .seq x y,h=>by
   simp only [AC.nC] at h;split at h
   ·next hx=>cases h;exact .inl (AC.Bv hx)
   ·exact .inr (AC.Bv h)
 | .cond _ x y,h=>by
   simp only [AC.nC] at h;split at h
   ·next hx=>cases h;exact .inl (AC.Bv hx)
   ·exact .inr (AC.Bv h)
 | .block _ x,h=>AC.Bv (x:=x) h
 | .loop k' b',h=>by
   simp only [AC.nC] at h;split at h
   ·next e=>cases h;exact ⟨Nat.eq_of_beq_eq_true e,rfl⟩
   ·cases h
 | .peel x k' b',h=>by
   simp only [AC.nC] at h;split at h
   ·next e=>cases h;exact .inl ⟨Nat.eq_of_beq_eq_true e,rfl⟩
   ·exact .inr (AC.Bv h)
theorem CO (ps:List Nat):∀ (c:Code) (n:Nat),n<=(jm ps c n).2/\∀k b,(jm ps c n).1.mJ k b->(n<=k/\k < (jm ps c n).2)/\(jm ps c n).1.nC k=some b
 | .seq x y,n=>by
   obtain ⟨h1,h2⟩:=CO ps x n;obtain ⟨h3,h4⟩:=CO ps y (jm ps x n).2;simp only [jm,AC.mJ,AC.nC];refine ⟨by omega,λk b h=>?_⟩;rcases h with h | h
   ·obtain ⟨r,e⟩:=h2 k b h;exact ⟨by omega,by rw [e]⟩
   ·obtain ⟨r,e⟩:=h4 k b h
    refine ⟨by omega, ?_⟩;cases hx:(jm ps x n).1.nC k with
    | none=>exact e
    | some b'=>have:=(h2 k b' (AC.Bv hx)).1;omega
 | .cond _ x y,n=>by
   obtain ⟨h1,h2⟩:=CO ps x n;obtain ⟨h3,h4⟩:=CO ps y (jm ps x n).2;simp only [jm,AC.mJ,AC.nC];refine ⟨by omega,λk b h=>?_⟩;rcases h with h | h
   ·obtain ⟨r,e⟩:=h2 k b h;exact ⟨by omega,by rw [e]⟩
   ·obtain ⟨r,e⟩:=h4 k b h
    refine ⟨by omega, ?_⟩;cases hx:(jm ps x n).1.nC k with
    | none=>exact e
    | some b'=>have:=(h2 k b' (AC.Bv hx)).1;omega
 | .block id x,n=>CO ps x n
 | .loop x,n=>by
   obtain ⟨h1,h2⟩:=CO ps x (n+1);simp only [jm];split
   ·exact ⟨by simp,λk b h=>by simp [AC.mJ] at h⟩
   ·split
    ·simp only [AC.mJ,AC.nC]
     refine ⟨by omega,λk b h=>?_⟩;rcases h with ⟨rfl,rfl⟩ | h
     ·exact ⟨by omega,by simp⟩
     ·obtain ⟨r,e⟩:=h2 k b h
      refine ⟨by omega, ?_⟩;have:Nat.beq n k=false:=by cases hb:Nat.beq n k with | false=>rfl | true=>have:=bn hb;omega
      rw [this];exact e
    ·simp only [AC.mJ,AC.nC]
     refine ⟨by omega,λk b h=>?_⟩;obtain ⟨rfl,rfl⟩:=h;exact ⟨by omega,by simp⟩
 | .skip,n | .region _ _ _,n | .rangeFunc _ _ _ _,n | .exit _,n | .scope _,n | .label _,n | .goto _,n | .ret,n | .refuse _,n=>⟨Nat.le_refl _,λk b h=>by simp [jm,AC.mJ] at h⟩
theorem aii {ps:List Nat} {c:Code} {k:Nat} {b:Code} (h:(jY ps c).mJ k b):(jY ps c).nC k=some b:=((CO ps c 0).2 k b h).2
def sW:Code->List (List Nat×Nat)->Code
 | c,[]=>c
 | c,(ps,k)::r=>sW (((jY ps c).nC k).getD .skip) r
theorem ad3 {ps:List Nat} {c:Code} {k:Nat} {b:Code} (h:(jY ps c).mJ k b):sW c [(ps,k)]=b:=by
 simp only [sW,aii h,oU]
theorem X5 {ps:List Nat} {k:Nat}:∀ (r:List (List Nat×Nat)) (c:Code),sW c (r++[(ps,k)])=sW (sW c r) [(ps,k)]
 | [],_=>rfl
 | (_,_)::r,_=>X5 r _
abbrev BU:=List GV->List GV->Prop
def Ir (Cs:List BU) (k:Nat) (gs out:List GV):Prop:=match Cs[k]? with
 | some c=>c gs out
 | none=>False
def vM (Ds:List aI):fO:=λk=>Ds[k]?
def EH (C:Nat->List GV->List GV->Prop) (d:aI) (c:BU):Prop:=∀I:fG,(∀k gs out,I k gs=some out->C k gs out)->∀gs out,d.den I gs=some out->c gs out
def Ey (C:Nat->List GV->List GV->Prop):List aI->List BU->Prop
 | [],[]=>True
 | d::ds,c::cs=>EH C d c/\Ey C ds cs
 | _,_=>False
theorem Ey.at {C:Nat->List GV->List GV->Prop}:∀ {ds:List aI} {cs:List BU},Ey C ds cs->∀ {k:Nat} {d:aI},ds[k]? = some d->∃c,cs[k]? = some c/\EH C d c
 | [],[],_,k,d,hd=>by simp at hd
 | d0::ds,c0::cs,h,k,d,hd=>by
   cases k with
   | zero=>simp at hd;subst hd;exact ⟨c0,rfl,h.1⟩
   | succ k=>obtain ⟨c,h1,h2⟩:=Ey.at h.2 (k:=k) (by simpa using hd);exact ⟨c,by simpa using h1,h2⟩
 | [],_::_,h,_,_,_=>h.elim
 | _::_,[],h,_,_,_=>h.elim
theorem ah3 {Ds:List aI} {Cs:List BU} (h:Ey (Ir Cs) Ds Cs):∀k gs out,(vM Ds).lim k gs=some out->Ir Cs k gs out:=by
 refine fO.ah4 λk d hk I hI gs out hd=>?_;obtain ⟨c,h1,h2⟩:=h.at hk;unfold Ir;rw [h1];exact h2 I hI gs out hd
def yY (P:Program) (tabs:List (Nat×List AV)) (I:fG) (ac:AC) (specs:List (Nat×bD)):Prop:=
 ∀k sp',bM k specs=some sp'->sp'.pre.ok=true/\∀b,ac.mJ k b->∀gs out,I sp'.key gs=some out->ru P tabs b sp'.pre sp'.posts gs out
theorem yY.nil {tabs:List (Nat×List AV)} {I:fG} {ac:AC}:yY P tabs I ac []:=λk sp' h=>by simp [bM] at h
theorem yY.cons {tabs:List (Nat×List AV)} {I:fG} {ps:List Nat} {c:Code} {k:Nat} {sp:bD} {specs:List (Nat×bD)} (hok:sp.pre.ok=true) (hb:∀gs out,I sp.key gs=some out->ru P tabs (sW c [(ps,k)]) sp.pre sp.posts gs out)
 (r:yY P tabs I (jY ps c) specs):yY P tabs I (jY ps c) ((k,sp)::specs):=by
 intro k' sp' h;simp only [bM] at h;cases e:Nat.beq k' k with
 | true=>
   rw [e] at h;cases h;have e:=bn e;subst e;exact ⟨hok,λb hb' gs out hI=>by rw [<- ad3 hb'];exact hb gs out hI⟩
 | false=>rw [e] at h;exact r k' sp' h
theorem ru.ajc {tabs:List (Nat×List AV)} (hlow:rF tabs P.globals.size) (hm:P.follows .mixedOrders=true) (hn:sK P) {pl:jl} {I:fG} (hpl:vJ P tabs I pl) {specs:List (Nat×bD)} {fuel:Nat} {sp:bD} (hok:sp.pre.ok=true) {n:Nat} (hnp:n=sp.pre.np)
 {ps:List Nat} {b:Code} {t:Tree} (Dz:yY P tabs I (jY ps b) specs) (hself:∀gs out,I sp.key gs=some out->ru P tabs b sp.pre sp.posts gs out)
 (tN:t.chk (Ol P tabs pl specs fuel sp (jY ps b)) (List.replicate sp.pre.np .arg) []=true) {gs out:List GV} (hd:(aI.tree n t).den I gs=some out):ru P tabs b sp.pre sp.posts gs out:=by
 simp only [aI.den] at hd;split at hd
 ·next hlen=>exact ru.JW hlow hm hn hpl hok Dz hself tN (by rw [hlen,hnp]) hd
 ·cases hd
def PL.nil:jl:=λ_=>[]
def PL.cons (f:FuncId) (p:fB->dM) (l:jl):jl:=λN=>(f,p N)::l N
theorem PL.aje {tabs:List (Nat×List AV)} {I:fG}:vJ P tabs I PL.nil:=λT _ _ p hp=>by simp [PL.nil] at hp
theorem PL.JX {tabs:List (Nat×List AV)} {I:fG} {f:FuncId} {p:fB->dM} {l:jl} (h:∀T:aC,T.tabs=tabs->T.I=I->@dN T P f (p T.tofB)) (hl:vJ P tabs I l):vJ P tabs I (PL.cons f p l):=by
 intro T hT hI q hq;rcases dn.1 hq with rfl | hq
 ·exact h T hT hI
 ·exact hl T hT hI q hq
def Uz (p q:dM):dM:=λargs σ=>match p args σ with
 | some r=>some r
 | none=>q args σ
theorem ajk {T:aC} {f:FuncId} {p q:dM} (hp:@dN T P f p) (hq:@dN T P f q):@dN T P f (Uz p q):=by
 letI:=T
 intro args σ r σ' hs;unfold Uz at hs;split at hs
 ·next r0 h0=>cases hs;exact hp args σ r σ' h0
 ·exact hq args σ r σ' hs
end
end Go.aJ
