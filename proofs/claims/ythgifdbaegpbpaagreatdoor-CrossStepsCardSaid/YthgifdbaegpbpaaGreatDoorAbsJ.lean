/- Loops by contract: the step that the evaluator takes at a loop, and how a loop's contract is proved. -/
import Derived.Test.YthgifdbaegpbpaaGreatDoorAbsI
import Derived.ChangeArms
import Derived.Deep.Slices
import Derived.Carry
import Derived.Test.YthgifdbaegpbpaaGreatDoorAbsH
import Derived.ProofKit
import Derived.OpenShut
import Derived.Deep.DeepHandedRow
namespace Go.aN
set_option linter.unusedSimpArgs false
noncomputable section
set_option linter.unusedSectionVars false
set_option linter.unusedVariables false
variable {P:Program}
structure US where
 r:List (Nat×Option Nat)
 p:List (Nat×Nat)
 fz:List Nat
def US.DL (u:US) (j m:Nat):US:=match bY j u.p with
 | some _=>u
 | none=>{ u with p:=(j,m)::u.p }
def US.Nv (u:US) (i:Nat) (x:Option Nat):US:=match bY i u.r with
 | some _=>u
 | none=>{ u with r:=(i,x)::u.r }
section
variable [fQ]
def Io (P:Program) (σ:ak) (a:AV):Option (Nat×Option Nat):=
 match iq a with
 | some m=>some (m,none)
 | none=>match a with
  | .sv id _=>match σ.get id with
   | some (.vec m _ _)=>some (m,some id)
   | _=>none
  | .sl id off len cap=>match σ.get id with
   | some (.cells _ et _ _)=>(listOf P σ et (.sl id off len cap)).map λm=>(m,some id)
   | _=>none
  | _=>none
mutual
def uV (P:Program) (G:Nat) (σ:ak):AV->AV->US->US
 | .nd j,a,u=>match Io P σ a with
  | some (m,some id)=>{ u.DL j m with fz:=id::u.fz }
  | some (m,none)=>u.DL j m
  | none=>u
 | .sv i _,a,u=>match a with
  | .sv id _=>u.Nv i (some id)
  | .bK=>u.Nv i none
  | _=>u
 | .p i _,a,u=>match a with
  | .p id _=>if i<=G then u else u.Nv i (some id)
  | _=>u
 | .mp i,a,u=>match a with
  | .mp id=>u.Nv i (some id)
  | _=>u
 | .rx j _,a,u=>match a with
  | .rx m _=>u.DL j m
  | _=>u
 | .fn _ fi cs,a,u=>match a with
  | .fn _ fi' cs'=>Dh P G σ cs cs' (Dh P G σ fi fi' u)
  | _=>u
 | .agg l,a,u=>match a with
  | .agg l'=>Dh P G σ l l' u
  | _=>u
 | .dM l,a,u=>match a with
  | .dM l'=>Dh P G σ l l' u
  | _=>u
 | .dU _ x,a,u=>match a with
  | .dU _ x'=>uV P G σ x x' u
  | _=>u
 | _,_,u=>u
def Dh (P:Program) (G:Nat) (σ:ak):List AV->List AV->US->US
 | [],_,u=>u
 | a::l,m,u=>match m with
  | b::m'=>Dh P G σ l m' (uV P G σ a b u)
  | []=>u
end
def aea (P:Program) (G:Nat) (σ:ak) (t:Tr AV):List (Nat×AV)->US->US
 | [],u=>u
 | p::l,u=>aea P G σ t l (match t.get p.1 with | some v=>uV P G σ p.2 v u | none=>u)
def QU (P:Program) (G:Nat) (σ:ak):List (Nat×bf)->US->US
 | [],u=>u
 | p::l,u=>QU P G σ l (match bY p.1 u.r with
  | some (some id)=>match p.2,σ.get id with
   | .cells c _ _ _,some (.cells c' _ _ _)=>Dh P G σ c c' u
   | .vec j _ _,some (.vec m _ _)=>u.DL j m
   | .smap j _ _,some (.smap m _ _)=>u.DL j m
   | .smap j _ _,some (.map [])=>match dX (.ml []) with
    | some m=>u.DL j m
    | none=>u
   | _,_=>u
  | some none=>match p.2 with
   | .vec j _ _=>match dX (.ml []) with
    | some m=>u.DL j m
    | none=>u
   | _=>u
  | none=>u)
def WC (p:List (Nat×Nat)):Nat->Nat->Option (List Nat)
 | _,0=>some []
 | j,n+1=>match bY j p,WC p (j+1) n with
  | some m,some r=>some (m::r)
  | _,_=>none
def RZ:Nat->Nat->List (Nat×Option Nat)
 | _,0=>[]
 | i,n+1=>(i+1,some (i+1))::RZ (i+1) n
def fit (P:Program) (s:fU) (a:aV) (σ:ak):US:=QU P s.gn σ s.objs (aea P s.gn σ a.t s.slots ⟨RZ s.gn s.ka,[],[]⟩)
def fits (P:Program) (s:fU) (a:aV) (σ:ak) (ps:List Nat):Bool:=Nat.beq ps.length s.np&&match fit P s a σ with
 | ⟨r,_,fz⟩=>Vg P s a σ fz r ps
structure bD where
 key:Nat
 pre:fU
 posts:List (dP×fU)
def EI (tag:Nat):List (dP×fU)->Nat->Option (dP×fU)
 | [],_=>none
 | [p],_=>some p
 | p::q::l,t=>match dX (.ci .i64 t) with
  | some c=>match dX (.bin .eql tag c) with
   | some b=>match SY b with
    | some true=>some p
    | some false=>EI tag (q::l) (t+1)
    | none=>none
   | none=>none
  | none=>none
def y8 (key:Nat) (ps:List Nat):List (Option Nat)->Nat->Nat->Option (List Nat)
 | _,_,0=>some []
 | some i::al,j,n+1=>match ps[i]?,y8 key ps al j n with
  | some m,some r=>some (m::r)
  | _,_=>none
 | none::al,j,n+1=>match dX (.call key ps j),y8 key ps al (j+1) n with
  | some m,some r=>some (m::r)
  | _,_=>none
 | [],j,n+1=>match dX (.call key ps j),y8 key ps [] (j+1) n with
  | some m,some r=>some (m::r)
  | _,_=>none
def U2 (P:Program) (tabs:List (Nat×List AV)) (sp:bD) (a:aV) (σ:ak):Option (dP×aV×ak):=
 match WC (fit P sp.pre a σ).p 0 sp.pre.np with
 | some ps=>if fits P sp.pre a σ ps then
   match dX (.call sp.key ps 0) with
   | some tag=>match EI tag sp.posts 0 with
    | some (e,s)=>if Nat.beq s.ka fQ.ka then match y8 sp.key ps s.al 1 s.np with
     | some ns=>some (e,s.Nk (λj=>ns.getD j 0),s.AQ tabs (λj=>ns.getD j 0))
     | none=>none
     else none
    | none=>none
   | none=>none
  else none
 | none=>none
end
def rO:List (Option Nat)->List GV->List GV->Option (List GV)
 | [],_,r=>some r
 | some i::al,gs,r=>match gs[i]?,rO al gs r with
  | some g,some l=>some (g::l)
  | _,_=>none
 | none::al,gs,x::r=>match rO al gs r with
  | some l=>some (x::l)
  | none=>none
 | none::_,_,[]=>none
def zW (np:Nat):List (Option Nat)->List Nat->Option (List Nat)
 | [],r=>some r
 | some i::al,r=>bif Nat.blt i np then (match zW np al r with
  | some l=>some (i::l)
  | none=>none) else none
 | none::al,x::r=>match zW np al r with
  | some l=>some (x::l)
  | none=>none
 | none::_,[]=>none
def DC (np:Nat) (l:List Nat):List (Option Nat)->Bool
 | []=>true
 | none::al=>DC np l al
 | some i::al=>Nat.blt i np&&((match l[i]? with | some m=>Nat.beq m i | none=>false)&&DC np l al)
def Nl (np:Nat) (l:List Nat):List (dP×fU)->Bool
 | []=>true
 | p::ps=>DC np l p.2.al&&Nl np l ps
theorem XG {val:Nat->Option GV}:∀ {l:List Nat} {gs:List GV},valsOf val l=some gs->∀ (i m:Nat),l[i]? = some m->gs[i]? = val m
 | [],gs,h,i,m,hm=>by simp at hm
 | x::l,gs,h,i,m,hm=>by
  simp only [valsOf] at h;split at h
  ·next g r h5 h6=>
   cases h;cases i with
   | zero=>simp at hm;subst hm;simp [h5]
   | succ i=>simpa using XG h6 i m (by simpa using hm)
  ·cases h
theorem Oc {np:Nat} {gs env more:List GV} (henv:env=gs++more) (hn:gs.length=np):∀ {al:List (Option Nat)} {l l2:List Nat} {r:List GV},zW np al l=some l2->valsOf (λn=>env[n]?) l=some r->∃rest,valsOf (λn=>env[n]?) l2=some rest/\rO al gs r=some rest
 | [],l,l2,r,h,hv=>by simp only [zW,aT] at h;subst h;exact ⟨r,hv,rfl⟩
 | some i::al,l,l2,r,h,hv=>by
  simp only [zW] at h;cases hb:Nat.blt i np with
  | false=>rw [hb] at h;cases h
  | true=>
   rw [hb] at h;simp only [cond_true] at h;rw [iW] at hb;split at h
   ·next l3 h3=>
    cases h;obtain ⟨rest,h4,h5⟩:=Oc henv hn h3 hv;have hi:env[i]? = some (gs[i]'(by omega)):=by rw [henv,kM (by omega),bU (by omega)]
    refine ⟨gs[i]'(by omega)::rest, ?_, ?_⟩
    ·simp only [valsOf,hi,h4]
    ·simp only [rO,h5,bU (show i < gs.length by omega)]
   ·cases h
 | none::al,[],l2,r,h,hv=>by simp [zW] at h
 | none::al,x::l,l2,r,h,hv=>by
  simp only [zW] at h;split at h
  ·next l3 h3=>
   cases h;simp only [valsOf] at hv;split at hv
   ·next g r' h6 h7=>
    cases hv;obtain ⟨rest,h4,h5⟩:=Oc henv hn h3 h7;exact ⟨g::rest,by simp only [valsOf,h6,h4],by simp only [rO,h5]⟩
   ·cases hv
  ·cases h
theorem TA {np:Nat} {gs env more gs':List GV} (henv:env=gs++more) (hn:gs.length=np) {l:List Nat} (hv:valsOf (λn=>env[n]?) l=some gs'):∀ {al:List (Option Nat)},DC np l al=true->∀r,rO al gs' r=rO al gs r
 | [],_,r=>rfl
 | none::al,h,[]=>rfl
 | none::al,h,x::r=>by
  simp only [DC] at h;simp only [rO,TA henv hn hv h r]
 | some i::al,h,r=>by
  simp only [DC,aI,iW] at h;obtain ⟨h1,h2,h3⟩:=h;split at h2
  ·next m hm=>
   have:=bC h2;subst this;have h4:gs'[m]? = gs[m]?:=by
    rw [XG hv m m hm];show env[m]? = gs[m]?
    rw [henv,kM (by omega)]
   simp only [rO,TA henv hn hv h3 r,h4]
  ·cases h2
theorem YF {np:Nat} {l:List Nat}:∀ {posts:List (dP×fU)},Nl np l posts=true->∀p∈posts,DC np l p.2.al=true
 | q::posts,h,p,hp=>by
  simp only [Nl,aI] at h;rcases bZ.1 hp with rfl | hp
  ·exact h.1
  ·exact YF h.2 p hp
def sH (P:Program) (tabs:List (Nat×List AV)) (b:Code) (pre:fU) (posts:List (dP×fU)) (gs out:List GV):Prop:=
 ∃ (t:Nat) (r rest:List GV) (e:dP) (s:fU),out=GV.i .i64 t::r/\posts[t]? = some (e,s)/\rO s.al gs r=some rest/\rest.length=s.np/\∀w0 dD A w K,MK P tabs pre gs w0 dD A w->(∀A' w',MK P tabs s rest w0 dD A' w'->K e.toExit A' w')->yt P b K A w
theorem VU {T:aG} {tag:Nat} {t0:Nat} (htag:T.val tag=some (.i .i64 (t0:Nat))):∀ (l:List (dP×fU)) (t:Nat) {p:dP×fU},@EI T.tofQ tag l t=some p->t<=t0->∀q,l[t0 - t]? = some q->p=q
 | [],t,p,h,_,q,hq=>by simp [EI] at h
 | [x],t,p,h,hle,q,hq=>by
  simp only [EI,aT] at h;cases hd:t0 - t with
  | zero=>rw [hd] at hq;simp at hq;rw [<- h,hq]
  | succ n=>rw [hd] at hq;simp at hq
 | x::y::l,t,p,h,hle,q,hq=>by
  letI:=T
  simp only [EI] at h;split at h
  ·next c hc=>
   split at h
   ·next b hb=>
    obtain ⟨g1,k1,k2⟩:=fD hc;simp only [Nd.den,aT] at k2;subst k2;obtain ⟨g2,m1,m2⟩:=fD hb;have ai8:aG.val tag=some (.i .i64 (t0:Nat)):=htag;simp only [Nd.den,ai8,k1,fZ,if_true,fE,aT] at m2;split at h
    ·next hd=>
     cases h;have:=T.yN b true (JR hd);have Vf:T.val b=some g2:=m1;rw [Vf] at this;cases this;simp at m2;have:t0 - t=0:=by omega
     rw [this] at hq;simpa using hq
    ·next hd=>
     have:=T.yN b false (JR hd);have Vf:T.val b=some g2:=m1;rw [Vf] at this;cases this;simp at m2;have e:t0 - t=(t0 - (t+1))+1:=by omega
     rw [e,qI] at hq;exact VU htag (y::l) (t+1) h (by omega) q hq
    ·cases h
   ·cases h
  ·cases h
theorem KR {T:aG} {key:Nat} {ps:List Nat} {gs out:List GV} (hps:valsOf T.val ps=some gs) (hI:T.I key gs=some out):∀ (n j:Nat) (al:List (Option Nat)) {ns:List Nat} {r rest:List GV},(∀k:Nat,r[k]? = out[j+k]?)->rO al gs r=some rest->@y8 T.tofQ key ps al j n=some ns->ns.length=n/\∀ (i m:Nat),ns[i]? = some m->T.val m=rest[i]?
 | 0,j,al,ns,r,rest,_,_,h=>by
  letI:=T
  have:ns=[]:=by unfold y8 at h;simpa using h.symm
  subst this;simp
 | n+1,j,some i0::al,ns,r,rest,hr,he,h=>by
  letI:=T
  simp only [y8] at h;simp only [rO] at he;split at he
  ·next g l hg hl=>
   cases he;split at h
   ·next m r' hm hr'=>
    cases h;obtain ⟨h1,h2⟩:=KR hps hI n j al hr hl hr';refine ⟨by simp [h1],λi m' hi=>?_⟩;cases i with
    | zero=>
     simp at hi;subst hi;have:=XG hps i0 m hm;rw [iI,<- hg];exact this.symm
    | succ i=>simpa using h2 i m' (by simpa using hi)
   ·cases h
  ·cases he
 | n+1,j,none::al,ns,[],rest,hr,he,h=>by simp [rO] at he
 | n+1,j,none::al,ns,x::r,rest,hr,he,h=>by
  letI:=T
  simp only [y8] at h;simp only [rO] at he;split at he
  ·next l hl=>
   cases he;split at h
   ·next m r' hm hr'=>
    cases h;obtain ⟨h1,h2⟩:=KR hps hI n (j+1) al (r:=r) (λk=>by
     have:=hr (k+1);rw [qI] at this;rw [this];congr 1;omega) hl hr'
    refine ⟨by simp [h1],λi m' hi=>?_⟩;cases i with
    | zero=>
     simp at hi;subst hi;obtain ⟨g,k1,k2⟩:=fD hm;have Uu:valsOf aG.val ps=some gs:=hps;have hI':aG.I key gs=some out:=hI;simp only [Nd.den,Uu,hI'] at k2;have k1':T.val m=some g:=k1;have:=hr 0;simp only [iI,lY] at this;rw [k1',iI,this];exact k2.symm
    | succ i=>simpa using h2 i m' (by simpa using hi)
   ·cases h
  ·cases he
 | n+1,j,[],ns,r,rest,hr,he,h=>by
  letI:=T
  simp only [y8] at h;simp only [rO,aT] at he;subst he;split at h
  ·next m r' hm hr'=>
   cases h;obtain ⟨h1,h2⟩:=KR hps hI n (j+1) [] (r:=r.tail) (λk=>by
    have:=hr (k+1);rw [List.getElem?_tail,this];congr 1;omega) rfl hr'
   refine ⟨by simp [h1],λi m' hi=>?_⟩;cases i with
   | zero=>
    simp at hi;subst hi;obtain ⟨g,k1,k2⟩:=fD hm;have Uu:valsOf aG.val ps=some gs:=hps;have hI':aG.I key gs=some out:=hI;simp only [Nd.den,Uu,hI'] at k2;have k1':T.val m=some g:=k1;have:=hr 0;rw [lY] at this;rw [k1',this];exact k2.symm
   | succ i=>
    have:=h2 i m' (by simpa using hi);rw [this,List.getElem?_tail]
  ·cases h
theorem U3 {T:aG} {tabs:List (Nat×List AV)} (rQ:T.tabs=tabs) (hlow:sO tabs P.globals.size) {sp:bD} (hok:sp.pre.ok=true) {b:Code} (hC:∀gs out,T.I sp.key gs=some out->sH P tabs b sp.pre sp.posts gs out)
 {a a':aV} {σ σ':ak} {e:dP} (h:@U2 T.tofQ P tabs sp a σ=some (e,a',σ')) {Q:dP->aV->ak->Prop} (hq:Q e a' σ'):@zy T P b a σ Q:=by
 letI:=T
 unfold U2 at h;split at h
 ·next ps hps=>
  split at h
  ·next hfit=>
   split at h
   ·next tag htag=>
    split at h
    ·next e' s hpick=>
     split at h;rotate_left
     ·cases h
     next Uy=>
     have Uy:=bC Uy;split at h
     ·next ns hns=>
      cases h;obtain ⟨gt,t1,t2⟩:=fD htag;simp only [Nd.den] at t2;split at t2
      ·next gs hgs=>
       split at t2
       ·next out hI=>
        obtain ⟨t,r,rest,e2,s2,rfl,hp2,hex,hrl,hrun⟩:=hC gs out hI;simp only [iI,aT] at t2;subst t2;have hpe:=VU t1 sp.posts 0 hpick (vC _) (e2,s2) (by simpa using hp2);cases hpe;obtain ⟨n1,n2⟩:=KR hgs hI _ 1 s.al (r:=r) (λk=>by rw [Jh,qI]) hex hns;intro w0 dD η w A K hF hl ht hK;unfold fits at hfit;rw [aI] at hfit;have hst:=Vk rQ hlow hok hF hl ht hfit.2 hgs;refine hrun w0 dD A w K hst λA' w' hs'=>?_;obtain ⟨η',hF',ht'⟩:=Xe (T:=T) (f:=λj=>ns.getD j 0) rQ Uy.symm (λj g hj=>by
         have hjl:j < ns.length:=by have:=(dS.1 hj).1;omega
         have hm:ns[j]? = some (ns.getD j 0):=by rw [wz,bU hjl];rfl
         rw [n2 j _ hm];exact hj) hs'
        exact hK e _ _ η' A' w' hq hF' rfl ht'
       ·cases t2
      ·cases t2
     ·cases h
    ·cases h
   ·cases h
  ·cases h
 ·cases h
theorem XF {val:Nat->Option GV}:∀ {l:List Nat} {gs:List GV},valsOf val l=some gs->gs.length=l.length
 | [],gs,h=>by simp only [valsOf,aT] at h;subst h;rfl
 | x::l,gs,h=>by
  simp only [valsOf] at h;split at h
  ·next h5 h6=>cases h;simp [XF h6]
  ·cases h
def dP.eq:dP->dP->Bool
 | .normal,.normal=>true
 | .ret,.ret=>true
 | .exit a,.exit b=>Nat.beq a b
 | _,_=>false
theorem dP.eq_of {a b:dP} (h:a.eq b=true):a=b:=by
 cases a<;>cases b<;>first | rfl | (cases h;done) | skip
 rw [bC h]
abbrev jJ:=fQ->List (FuncId×eU)
def wG (P:Program) (tabs:List (Nat×List AV)) (I:gu) (pl:jJ):Prop:=∀T:aG,T.tabs=tabs->T.I=I->∀p∈pl T.tofQ,@dY T P p.1 p.2
def Fq (P:Program) (N:fQ) (pl:jJ) (fuel:Nat):Code->aV->ak->Option (dP×aV×ak):=@Bq N P (MN P) (WB (pl N)) fuel
def AU (P:Program) (tabs:List (Nat×List AV)) (N:fQ) (specs:List (Nat×bD)):RH:=λk a σ=>match bY k specs with
 | some sp=>@U2 N P tabs sp a σ
 | none=>none
def Pe (P:Program) (tabs:List (Nat×List AV)) (pl:jJ) (specs:List (Nat×bD)) (fuel:Nat) (sp:bD) (ac:AC) (ns:List Nd) (ds:List (Nat×Bool)) (lf:Leaf):Bool:=
 match @uq ⟨ns,ds,sp.pre.ka⟩ (AU P tabs ⟨ns,ds,sp.pre.ka⟩ specs) (Fq P ⟨ns,ds,sp.pre.ka⟩ pl fuel) ac (sp.pre.Nk λj=>j) (sp.pre.AQ tabs λj=>j) with
 | some (e,a',σ')=>match lf with
  | .ret (tn::l)=>match ns[tn]? with
   | some (.ci .i64 t)=>match sp.posts[t.toNat]? with
    | some (e',s)=>decide (0<=t)&&!(e.eq .normal)&&e.eq e'&&s.ok&&(match zW sp.pre.np s.al l with | some l2=>@fits ⟨ns,ds,sp.pre.ka⟩ P s a' σ' l2 | none=>false)
    | none=>false
   | _=>false
  | .tail f l=>Nat.beq f sp.key&&e.eq .normal&&(Nl sp.pre.np l sp.posts&&@fits ⟨ns,ds,sp.pre.ka⟩ P sp.pre a' σ' l)
  | _=>false
 | none=>false
@[reducible] def Tw (tabs:List (Nat×List AV)) (I:gu) (ka:Nat) {ns:List Nd} {ds:List (Nat×Bool)} {env:List GV} (h:zK I ns ds env):aG:={ nodes:=ns,dec:=ds,ka:=ka,tabs:=tabs,I:=I,val:=λn=>env[n]?,pK:=h.node,yN:=h.dec }
theorem zK.start (I:gu) (gs:List GV) (n:Nat) (h:gs.length=n):zK I (List.replicate n .arg) [] gs:=
 ⟨by simp [h],λk nd hk hn=>absurd (Yj.1 (rE hk)).2 hn,λk b hb=>by simp at hb⟩
theorem WY {T:aG} (hm:P.follows .mixedOrders=true) (hn:uh P) {pl:jJ} (hp:∀p∈pl T.tofQ,@dY T P p.1 p.2) (fuel:Nat):@Jq T P (Fq P T.tofQ pl fuel):=
 (@Zt T P _ _ (ZP hm) (acX hp) hn fuel).1
theorem sH.KP {tabs:List (Nat×List AV)} (hlow:sO tabs P.globals.size) (hm:P.follows .mixedOrders=true) (hn:uh P) {pl:jJ} {I:gu} (hpl:wG P tabs I pl) {specs:List (Nat×bD)} {fuel:Nat} {sp:bD} (hok:sp.pre.ok=true) {ps:List Nat} {b:Code} {t:Tree}
 (Ei:∀k sp',bY k specs=some sp'->sp'.pre.ok=true/\∀c,(kR ps b).nJ k c->∀gs out,I sp'.key gs=some out->sH P tabs c sp'.pre sp'.posts gs out)
 (hself:∀gs out,I sp.key gs=some out->sH P tabs b sp.pre sp.posts gs out)
 (uJ:t.chk (Pe P tabs pl specs fuel sp (kR ps b)) (List.replicate sp.pre.np .arg) []=true) {gs out:List GV} (hlen:gs.length=sp.pre.np) (hd:t.den I gs=some out):sH P tabs b sp.pre sp.posts gs out:=by
 obtain ⟨ns,ds,env,lf,h1,h2,⟨more,h3⟩,h4⟩:=Tree.Gy t uJ (zK.start I gs _ hlen) hd;let T:aG:=Tw tabs I sp.pre.ka h2
 unfold Pe at h1;split at h1
 ·next e a' σ' hrun=>
  have Ht:∀Q:dP->aV->ak->Prop,Q e a' σ'->@AT T P b (sp.pre.Nk λj=>j) (sp.pre.AQ tabs λj=>j) Q:=by
   intro Q hq;have:=@RX P T (AU P tabs ⟨ns,ds,sp.pre.ka⟩ specs) (Fq P ⟨ns,ds,sp.pre.ka⟩ pl fuel) (WY (T:=T) hm hn (hpl T rfl rfl) fuel) (kR ps b) (wM ps b 0).2 (λk c hk a σ e1 a1 σ1 hs Q' hq'=>by
    unfold AU at hs;split at hs
    ·next sp' hsp=>
     obtain ⟨k1,k2⟩:=Ei k sp' hsp;exact U3 (T:=T) rfl hlow k1 (λgs out hI=>k2 c hk gs out hI) hs hq'
    ·cases hs) _ _ _ _ _ hrun Q hq
   rwa [show (kR ps b).erase=b from (wM ps b 0).1] at this
  have henv:∀j g,gs[j]? = some g->T.val ((λj=>j) j)=some g:=by
   intro j g hj;show env[j]? = some g
   rw [h3];have:=(dS.1 hj).1;rw [kM this];exact hj
  split at h1
  ·next tn l=>
   split at h1
   ·next tt htn=>
    split at h1
    ·next e' s hpost=>
     simp only [aI,decide_eq_true_iff] at h1;obtain ⟨⟨⟨⟨t0,t1⟩,t2⟩,t3⟩,t4⟩:=h1;split at t4;rotate_left
     ·cases t4
     next l2 hl2=>
     have e1:=dP.eq_of t2;subst e1;simp only [valsOf] at h4;split at h4
     ·next g r hg hr0=>
      cases h4;obtain ⟨g',k1,k2⟩:=h2.node tn _ htn (by simp);have hg':env[tn]? = some g:=hg;rw [hg'] at k1;cases k1;simp only [Nd.den,aT] at k2;subst k2;obtain ⟨rest,hrest,hex⟩:=Oc h3 hlen hl2 hr0;have hfl:rest.length=s.np:=by
       unfold fits at t4;rw [aI] at t4;rw [<- bC t4.1];exact XF hrest
      refine ⟨tt.toNat,r,rest,e,s,by rw [Int.toNat_of_nonneg t0],hpost,hex,hfl,λw0 dD A w K hS hK=>yt.step ?_⟩;obtain ⟨η,hF,ht⟩:=Xe (T:=T) (f:=λj=>j) rfl rfl henv hS;refine Ht (λe2 a2 σ2=>e2=e/\a2=a'/\σ2=σ') ⟨rfl,rfl,rfl⟩ w0 dD η w A _ hF rfl ht ?_;rintro e2 a2 σ2 η' A' w' ⟨rfl,rfl,rfl⟩ hF' hl' ht'
      unfold fits at t4;rw [aI] at t4;have hst:=Vk (T:=T) rfl hlow t3 hF' hl' ht' t4.2 hrest;have:=hK A' w' hst;cases e2 with
      | normal=>simp [dP.eq] at t1
      | exit id=>exact this
      | ret=>exact this
     ·cases h4
    ·cases h1
   ·cases h1
  ·next f l=>
   simp only [aI] at h1;obtain ⟨⟨t1,t2⟩,t5,t3⟩:=h1;have e1:=dP.eq_of t2;subst e1;have e2:=bC t1;subst e2;obtain ⟨gs',hgs',hI⟩:=h4;obtain ⟨tn,r,rest,e2,s,r1,r2,r5,r3,r4⟩:=hself gs' out hI;refine ⟨tn,r,rest,e2,s,r1,r2,by rw [<- TA h3 hlen hgs' (YF t5 _ (rE r2)) r];exact r5,r3,λw0 dD A w K hS hK=>yt.step ?_⟩;obtain ⟨η,hF,ht⟩:=Xe (T:=T) (f:=λj=>j) rfl rfl henv hS;refine Ht (λe2 a2 σ2=>e2=.normal/\a2=a'/\σ2=σ') ⟨rfl,rfl,rfl⟩ w0 dD η w A _ hF rfl ht ?_;rintro e3 a2 σ2 η' A' w' ⟨rfl,rfl,rfl⟩ hF' hl' ht'
   unfold fits at t3;rw [aI] at t3;have hst:=Vk (T:=T) rfl hlow hok hF' hl' ht' t3.2 hgs';exact r4 w0 dD A' w' K hst hK
  ·cases h1
 ·cases h1
end
end Go.aN
namespace Go.aN
set_option linter.unusedSimpArgs false
noncomputable section
set_option linter.unusedSectionVars false
set_option linter.unusedVariables false
variable {P:Program}
structure sD (P:Program) (tabs:List (Nat×List AV)) (f:FuncId) (st:List (Option FuncId)) (sh:List oZ) (gs out:List GV):Prop where
 call:aeR P tabs f st gs out
 fits:oO sh out=true
section
variable [fQ]
def ND (P:Program) (σ:ak) (fz:List Nat) (a:AV):Option Nat:=
 match Io P σ a with
 | some (m,none)=>some m
 | some (m,some _)=>if OA P σ fz a m then some m else none
 | none=>none
def JK (P:Program) (σ:ak) (fz:List Nat):List AV->Option (List Nat)
 | []=>some []
 | a::l=>match ND P σ fz a,JK P σ fz l with
  | some m,some r=>some (m::r)
  | _,_=>none
def QX (P:Program) (σ:ak) (fz:List Nat):AV->Option Nat
 | .agg l=>match JK P σ fz l with
  | some ns=>dX (.mk ns)
  | none=>none
 | a=>ND P σ fz a
def valsN (P:Program) (σ:ak) (fz:List Nat):List AV->Option (List Nat)
 | []=>some []
 | a::l=>match QX P σ fz a,valsN P σ fz l with
  | some m,some r=>some (m::r)
  | _,_=>none
def aaU (P:Program) (σ:ak) (a:AV):List Nat:=match Io P σ a with
 | some (_,some id)=>[id]
 | _=>[]
def zY (P:Program) (σ:ak):List AV->List Nat
 | []=>[]
 | .agg l::r=>l.flatMap (aaU P σ)++zY P σ r
 | a::r=>aaU P σ a++zY P σ r
def PZ (k:Nat) (ns:List Nat) (j:Nat):oZ->Option AV
 | .sc=>jy (.call k ns j)
 | .ag n=>match dX (.call k ns j) with
  | some m=>(DX m 0 n).map .agg
  | none=>none
def EC (k:Nat) (ns:List Nat):Nat->List oZ->Option (List AV)
 | _,[]=>some []
 | j,s::l=>match PZ k ns j s,EC k ns (j+1) l with
  | some a,some r=>some (a::r)
  | _,_=>none
def P6 (P:Program) (k:Nat) (st:List (Option FuncId)) (sh:List oZ):eU:=λJv σ=>match zo st Jv with
 | none=>none
 | some args=>
 let fz:=zY P σ args
 if fz.all (Nat.ble σ.lock ·) then
  match valsN P σ fz args with
  | some ns=>match EC k ns 0 sh with
   | some (a::l)=>some (FM (a::l),kills σ fz)
   | _=>none
  | none=>none
 else none
end
theorem TQ {T:aG} {η:Env} {σ:ak} {w:World} (h:@SR T P η σ w):∀fz:List Nat,(∀id∈fz,σ.lock<=id)->∃bT,(∀b o,η.ro b=some o->bT b=some o)/\@St T P η σ w ⟨η.pl,bT,η.gh⟩ (kills σ fz) w/\
 (∀id∈fz,∀o q,σ.get id=some o->o.own=true->η id=some q->bT q.bl=w.heap[q.bl]?)
 | [],_=>⟨η.ro,λ_ _ h=>h,@St.refl T _ _ _ _ h,by simp⟩
 | id::fz,hlk=>by
  letI:=T
  obtain ⟨bT,h1,h2,h3⟩:=TQ h fz (λk hk=>hlk k (yw _ hk));by_cases hx:∃o q,(kills σ fz).get id=some o/\o.own=true/\η id=some q
  ·obtain ⟨o,q,ho,hown,hq⟩:=hx
   have hst:=St.freeze h2.rel ho hown (by rw [H8];exact hlk id (by simp)) (show (⟨η.pl,bT,η.gh⟩:Env) id=some q from hq);refine ⟨CZ bT w q.bl,λb o hb=>Qh h2.rel.iH q.bl b o (h1 b o hb),h2.trans hst, ?_⟩;intro id' iY o' q' ho' hown' hq';show (if q'.bl=q.bl then w.heap[q.bl]? else bT q'.bl)=_
   split
   ·next e=>rw [e]
   ·next e=>
    rcases bZ.1 iY with rfl | iY
    ·rw [hq] at hq';cases hq';exact absurd rfl e
    ·exact h3 id' iY o' q' ho' hown' hq'
  ·refine ⟨bT,h1,h2.O4 id, ?_⟩
   intro id' iY o' q' ho' hown' hq';rcases bZ.1 iY with rfl | iY
   ·by_cases hm:id'∈fz
    ·exact h3 id' hm o' q' ho' hown' hq'
    ·exact absurd ⟨o',q',by rw [Af,ah hm];exact ho',hown',hq'⟩ hx
   ·exact h3 id' iY o' q' ho' hown' hq'
section
variable {T:aG} {tabs:List (Nat×List AV)} {G next:Nat} {η:Env} {σ:ak} {w:World} {fz:List Nat} {r:List (Nat×Option Nat)} {ps:List Nat} {gs:List GV} {bT:Nat->Option Obj}
theorem alG {a:AV} {m:Nat} (h:@Io T.tofQ P σ a=some (m,none)):@iq T.tofQ a=some m:=by
 letI:=T
 unfold Io at h;split at h
 ·next m' hm=>cases h;exact hm
 ·split at h
  ·split at h<;>cases h
  ·split at h
   ·obtain ⟨m',_,e⟩:=aX.1 h;cases e
   ·cases h
  ·cases h
theorem Y9 (C:uf T P tabs G next η σ w fz r ps gs bT) {a:AV} {m:Nat} {v:Value} (h:@ND T.tofQ P σ fz a=some m) (hv:@VR T η a v):∃g,T.val m=some g/\g.scalar=true/\GR bT g v:=by
 letI:=T
 unfold ND at h;split at h
 ·next m' hc=>
  cases h;obtain ⟨g,k1,k2,k3⟩:=jZ (alG hc) hv;exact ⟨g,k1,k2,GR.mono C.rW _ _ k3⟩
 ·next m' id hc=>
  split at h
  ·next hf=>
   cases h;have hval:∃g,T.val m=some g:=by
    unfold Io at hc;split at hc
    ·cases hc
    ·split at hc
     ·next id' n=>
      split at hc
      ·next m2 et f hg=>
       cases hc;rcases C.rel.live _ _ hg with ⟨q,hq,hor⟩ | ⟨_,n2,Tv,f2,e2,hv0⟩
       ·obtain ⟨xs,x1,_⟩:=hor.Ii;exact ⟨_,x1⟩
       ·cases e2;exact ⟨_,hv0⟩
      ·cases hc
     ·split at hc
      ·next c et rX opn hg=>
       obtain ⟨m2,hl,e⟩:=aX.1 hc;cases e;unfold listOf at hl;simp only [hg] at hl;split at hl
       ·split at hl
        ·split at hl
         ·split at hl
          ·obtain ⟨g,g1,_⟩:=fD hl;exact ⟨g,g1⟩
          ·cases hl
         ·cases hl
        ·cases hl
       ·cases hl
      ·cases hc
     ·cases hc
   obtain ⟨g,hg⟩:=hval;obtain ⟨k1,k2⟩:=aaR C hf hv hg;exact ⟨g,hg,k1,k2⟩
  ·cases h
 ·cases h
theorem Zf (C:uf T P tabs G next η σ w fz r ps gs bT):∀ {l:List AV} {ns:List Nat} {vs:List Value},@JK T.tofQ P σ fz l=some ns->@ay T η l vs->∃gl,valsOf T.val ns=some gl/\gl.all GV.scalar=true/\aO bT gl vs
 | [],ns,vs,h,hv=>by simp only [JK,aT] at h;subst h;simp only [ay] at hv;subst hv;exact ⟨[],rfl,rfl,by simp [aO]⟩
 | a::l,ns,vs,h,hv=>by
  letI:=T
  simp only [JK] at h;split at h
  ·next m r' hm hr=>
   cases h;simp only [ay] at hv;obtain ⟨x,xs,rfl,h1,h2⟩:=hv;obtain ⟨g,g1,g2,g3⟩:=Y9 C hm h1;obtain ⟨gl,k1,k2,k3⟩:=Zf C hr h2;exact ⟨g::gl,by simp only [valsOf,g1,k1],by simp [g2,k2],by simp only [aO];exact ⟨x,xs,rfl,g3,k3⟩⟩
  ·cases h
theorem aqX (C:uf T P tabs G next η σ w fz r ps gs bT) {a:AV} {m:Nat} {v:Value} (h:@QX T.tofQ P σ fz a=some m) (hv:@VR T η a v):∃g,T.val m=some g/\GR bT g v/\(match a with | .agg l=>∃gl,g=.g gl/\gl.length=l.length | _=>g.scalar=true):=by
 letI:=T
 cases a;case agg l=>
  simp only [QX] at h;split at h
  ·next ns hns=>
   simp only [VR] at hv;obtain ⟨vs,rfl,hvs⟩:=hv;obtain ⟨gl,k1,k2,k3⟩:=Zf C hns hvs;obtain ⟨g,g1,g2⟩:=fD h;have k1':valsOf aG.val ns=some gl:=k1;simp only [Nd.den,k1',k2,if_true,aT] at g2;subst g2;exact ⟨_,g1,by simp only [GR];exact ⟨vs,rfl,k3⟩,gl,rfl,by rw [k3.length,hvs.length]⟩
  ·cases h
 all_goals
  simp only [QX] at h;obtain ⟨g,g1,g2,g3⟩:=Y9 C h hv;exact ⟨g,g1,g3,g2⟩
theorem XE (C:uf T P tabs G next η σ w fz r ps gs bT):∀ {l:List AV} {ns:List Nat} {vs:List Value},@valsN T.tofQ P σ fz l=some ns->@ay T η l vs->∃gl,valsOf T.val ns=some gl/\aO bT gl vs
 | [],ns,vs,h,hv=>by simp only [valsN,aT] at h;subst h;simp only [ay] at hv;subst hv;exact ⟨[],rfl,by simp [aO]⟩
 | a::l,ns,vs,h,hv=>by
  letI:=T
  simp only [valsN] at h;split at h
  ·next m r' hm hr=>
   cases h;simp only [ay] at hv;obtain ⟨x,xs,rfl,h1,h2⟩:=hv;obtain ⟨g,g1,g2,_⟩:=aqX C hm h1;obtain ⟨gl,k1,k2⟩:=XE C hr h2;exact ⟨g::gl,by simp only [valsOf,g1,k1],by simp only [aO];exact ⟨x,xs,rfl,g2,k2⟩⟩
  ·cases h
theorem VI {k:Nat} {ns:List Nat} {gl out:List GV} (hns:valsOf T.val ns=some gl) (hI:T.I k gl=some out) {η':Env}:∀ {sh:List oZ} {j:Nat} {l:List AV} {us:List Value} {rest:List GV},@EC T.tofQ k ns j sh=some l->oO sh rest=true->(∀i,rest[i]? = out[j+i]?)->aO η'.ro rest us->@ay T η' l us
 | [],j,l,us,rest,h,hf,hr,hg=>by
  cases rest with
  | cons a b=>simp [oO] at hf
  | nil=>simp only [EC,aT] at h;subst h;simp only [aO] at hg;subst hg;simp [ay]
 | s::sh,j,l,us,rest,h,hf,hr,hg=>by
  letI:=T
  cases rest with
  | nil=>cases s<;>simp [oO] at hf
  | cons g rest=>
   simp only [EC] at h;split at h
   ·next a r' ha hr'=>
    cases h;simp only [aO] at hg;obtain ⟨u,us',rfl,g1,g2⟩:=hg;have h0:=hr 0;simp only [iI,lY] at h0;have hden:(Nd.call k ns j).den aG.I aG.val=some g:=by
     have aiY:valsOf aG.val ns=some gl:=hns;have hI':aG.I k gl=some out:=hI;simp only [Nd.den,aiY,hI'];exact h0.symm
    have hrest:∀i,rest[i]? = out[j+1+i]?:=λi=>by
     have:=hr (i+1);rw [qI] at this;rw [this];congr 1;omega
    cases s with
    | sc=>
     simp only [oO,aI] at hf;refine ⟨u,us',rfl, ?_,VI hns hI hr' hf.2 hrest g2⟩;obtain ⟨_,g',_,k2,k3⟩:=kF (η:=η') ha;rw [hden] at k2;cases k2;exact k3 u hf.1 g1
    | ag n=>
     simp only [oO,aI] at hf;refine ⟨u,us',rfl, ?_,VI hns hI hr' hf.2 hrest g2⟩;simp only [PZ] at ha;split at ha
     ·next m hm=>
      obtain ⟨l',hl',rfl⟩:=aX.1 ha;obtain ⟨g',k1,k2⟩:=fD hm;rw [hden] at k2;cases k2;obtain ⟨r'',h5,h6⟩:=NG (η:=η') k1 n 0 hl';cases g with
      | g cs=>
       have hlen:=bC hf.1.2;simp only [GR] at g1;obtain ⟨vs,rfl,hvs⟩:=g1;simp only [VR];refine ⟨vs,rfl,h6 vs ?_⟩;obtain ⟨e1,e2,_⟩:=qA h5;have hlen':cs.length=n:=hlen;rw [e1,eH,mQ (by rw [jY];show cs.length<=n;omega)];exact (nI _ _).1 hvs
      | _=>simp [GV.scalar] at hf
     ·cases ha
   ·cases h
theorem ad9 {T:aG} {η:Env} {l:List AV} {us:List Value} (h:@ay T η l us):@VR T η (FM l) (zq us):=by
 letI:=T
 have hl:=h.length;match l,us,h,hl with
 | [a],[u],h,_=>simp only [ay] at h;obtain ⟨x,xs,e,h1,h2⟩:=h;cases e;exact h1
 | [],[],h,_=>show VR η (.dM []) (.tuple ⟨[]⟩);simp only [VR];exact ⟨_,rfl,h⟩
 | a::b::l,u::u'::us,h,_=>show VR η (.dM _) (.tuple ⟨_⟩);simp only [VR];exact ⟨_,rfl,h⟩
 | [],_::_,_,hl=>simp at hl
 | [_],[],_,hl=>simp at hl
 | [_],_::_::_,_,hl=>simp at hl
 | _::_::_,[],_,hl=>simp at hl
 | _::_::_,[_],_,hl=>simp at hl
theorem acL {f:FuncId} {k:Nat} {st:List (Option FuncId)} {sh:List oZ} (hC:∀gs out,T.I k gs=some out->sD P T.tabs f st sh gs out):@dY T P f (@P6 T.tofQ P k st sh):=by
 letI:=T
 intro Jv σ rr σ' hs η w vs0 hS hv0;unfold P6 at hs;split at hs
 ·cases hs
 next args htk=>
 obtain ⟨vs,rfl,hv⟩:=QS htk hv0;simp only at hs;split at hs
 ·next hlk=>
  have Ad:∀id∈zY P σ args,σ.lock<=id:=λid hid=>qM (List.all_eq_true.1 hlk id hid);split at hs
  ·next ns hns=>
   split at hs
   ·next a0 l hl=>
    cases hs;obtain ⟨bT,f1,f2,f3⟩:=TQ hS (zY P σ args) Ad;have C:uf T P T.tabs P.globals.size (P.globals.size+1) η σ w (zY P σ args) [] [] [] bT:=⟨hS,rfl,f1,f3,rfl,Ji _⟩
    obtain ⟨gl,k1,k2⟩:=XE C hns hv;have hI:∃out,T.I k gl=some out:=by
     have hden:∀ {m g},dX (.call k ns 0)=some m->aG.val m=some g->∃out,T.I k gl=some out:=by
      intro m g hm hg;obtain ⟨g',_,d2⟩:=fD hm;have k1':valsOf aG.val ns=some gl:=k1;simp only [Nd.den,k1'] at d2;split at d2
      ·next r hr=>exact ⟨r,hr⟩
      ·cases d2
     cases sh with
     | nil=>simp [EC] at hl
     | cons s sh=>
      simp only [EC] at hl;split at hl
      ·next a1 r1 ha1 _=>
       cases s with
       | sc=>
        simp only [PZ,jy] at ha1;split at ha1
        ·next m hm=>obtain ⟨g,g1,_⟩:=fD hm;exact hden hm g1
        ·cases ha1
       | ag n=>
        simp only [PZ] at ha1;split at ha1
        ·next m hm=>obtain ⟨g,g1,_⟩:=fD hm;exact hden hm g1
        ·cases ha1
      ·cases hl
    obtain ⟨out,hI⟩:=hI;obtain ⟨hcall,hfit⟩:=hC gl out hI;refine jV.mono (hcall bT w vs f2.rel.Qj k2) ?_;rintro v w' ⟨ro',hro,us,rfl,hus⟩
    have hst:=St.alq (ro':=ro') f2.rel hro;refine ⟨_,f2.trans hst,ad9 (VI k1 hI (η':=⟨η.pl,ro',η.gh⟩) hl hfit (λi=>by simp) hus)⟩
   ·cases hs
  ·cases hs
 ·cases hs
def WV:List oZ->List AV->Bool
 | [],[]=>true
 | .sc::l,a::m=>(match a with | .agg _=>false | _=>true)&&WV l m
 | .ag n::l,a::m=>(match a with | .agg c=>Nat.beq c.length n | _=>false)&&WV l m
 | _,_=>false
section
variable [fQ]
def DJ:Nat->List oZ->Option (List AV)
 | _,[]=>some []
 | j,.sc::l=>match DJ (j+1) l with
  | some r=>some (.nd j::r)
  | none=>none
 | j,.ag n::l=>match DX j 0 n,DJ (j+1) l with
  | some c,some r=>some (.agg c::r)
  | _,_=>none
end
theorem Sm {η:Env}:∀ {sh:List oZ} {j:Nat} {l:List AV} {vs:List Value} {rest:List GV},@DJ T.tofQ j sh=some l->oO sh rest=true->(∀i g,rest[i]? = some g->T.val (j+i)=some g)->aO η.ro rest vs->@ay T η l vs
 | [],j,l,vs,rest,h,hf,hr,hg=>by
  cases rest with
  | cons a b=>simp [oO] at hf
  | nil=>simp only [DJ,aT] at h;subst h;simp only [aO] at hg;subst hg;simp [ay]
 | s::sh,j,l,vs,rest,h,hf,hr,hg=>by
  letI:=T
  cases rest with
  | nil=>cases s<;>simp [oO] at hf
  | cons g rest=>
   simp only [aO] at hg;obtain ⟨u,us,rfl,g1,g2⟩:=hg;have h0:=hr 0 g (by simp);have hrest:∀i g,rest[i]? = some g->T.val (j+1+i)=some g:=λi g hi=>by
    have:=hr (i+1) g (by simpa using hi);rw [<- this];congr 1;omega
   cases s with
   | sc=>
    simp only [DJ] at h;split at h
    ·next r' hr'=>
     cases h;simp only [oO,aI] at hf;exact ⟨u,us,rfl,by simp only [VR];exact ⟨g,h0,hf.1,g1⟩,Sm hr' hf.2 hrest g2⟩
    ·cases h
   | ag n=>
    simp only [DJ] at h;split at h
    ·next c r' hc hr'=>
     cases h;simp only [oO,aI] at hf;refine ⟨u,us,rfl, ?_,Sm hr' hf.2 hrest g2⟩;obtain ⟨r'',h5,h6⟩:=NG (η:=η) h0 n 0 hc;cases g with
     | g cs=>
      have hlen:=bC hf.1.2;simp only [GR] at g1;obtain ⟨vs,rfl,hvs⟩:=g1;simp only [VR];refine ⟨vs,rfl,h6 vs ?_⟩;obtain ⟨e1,e2,_⟩:=qA h5;have hlen':cs.length=n:=hlen;rw [e1,eH,mQ (by rw [jY];show cs.length<=n;omega)];exact (nI _ _).1 hvs
     | _=>simp [GV.scalar] at hf
    ·cases h
def U8 (P:Program) (tabs:List (Nat×List AV)) (pl:jJ) (specs:List (Nat×bD)) (fuel:Nat) (st:List (Option FuncId)) (uU wZ:List oZ) (ntmps:Nat) (res:List ResultVar) (ac:AC) (ns:List Nd) (ds:List (Nat×Bool)) (lf:Leaf):Bool:=
 match lf with
 | .ret l=>match @DJ ⟨ns,ds,0⟩ 0 uU with
  | some args=>match @uq ⟨ns,ds,0⟩ (AU P tabs ⟨ns,ds,0⟩ specs) (Fq P ⟨ns,ds,0⟩ pl fuel) ac { t:=xG (uO st args) 0 .nil,n:=max (uO st args).length ntmps,gn:=P.globals.size } ⟨nX (tV tabs),P.globals.size+1,0⟩ with
   | some (e,a',σ')=>(match e with | .exit _=>false | _=>true)&&match yG P σ' a' res with
    | some rs=>WV wZ rs&&match @valsN ⟨ns,ds,0⟩ P σ' (@zY ⟨ns,ds,0⟩ P σ' rs) rs with
     | some l'=>vT l l'
     | none=>false
    | none=>false
   | none=>false
  | none=>false
 | _=>false
theorem QM (hlow:sO tabs P.globals.size) (rQ:T.tabs=tabs):@yC T ⟨nX (tV tabs),P.globals.size+1,0⟩ P.globals.size:=by
 refine ⟨Nat.lt_succ_self _,λid o ho=>?_⟩;have hm:=KO (show (nX (tV tabs)).get id=some o from ho);obtain ⟨p,hp,e⟩:=nM.1 hm;cases e;exact ⟨p.2,rfl,by rw [rQ];exact hp,hlow.low p hp⟩
theorem sD.KP {tabs:List (Nat×List AV)} (hlow:sO tabs P.globals.size) (hm:P.follows .mixedOrders=true) (hn:uh P) {pl:jJ} {I:gu} (hpl:wG P tabs I pl) {specs:List (Nat×bD)} {fuel:Nat} {f:FuncId} {fn:Func} {c:Code} {pe:List Nat} {st:List (Option FuncId)} {uU wZ:List oZ} {t:Tree}
 (hf:P.funcs[f]? = some fn) (hc:fn.body=some c)
 (Ei:∀k sp',bY k specs=some sp'->sp'.pre.ok=true/\∀b,(kR pe c).nJ k b->∀gs out,I sp'.key gs=some out->sH P tabs b sp'.pre sp'.posts gs out)
 (uJ:t.chk (U8 P tabs pl specs fuel st uU wZ fn.ntmps fn.results.toList (kR pe c)) (List.replicate uU.length .arg) []=true) {gs out:List GV} (hd:(aJ.fn uU wZ t).den I gs=some out):sD P tabs f st wZ gs out:=by
 simp only [aJ.den] at hd;split at hd;rotate_left
 ·cases hd
 next hfit=>
 split at hd;rotate_left
 ·cases hd
 next aun hd0=>
 split at hd;rotate_left
 ·cases hd
 next hfo=>
 cases hd;have hd:=hd0;have hlen:gs.length=uU.length:=by
  clear hd hd0 uJ;induction uU generalizing gs with
  | nil=>cases gs with | nil=>rfl | cons _ _=>simp [oO] at hfit
  | cons s sh ih=>cases gs with
   | nil=>cases s<;>simp [oO] at hfit
   | cons g gs=>cases s<;>simp only [oO,aI] at hfit<;>simp [ih hfit.2]
 obtain ⟨ns,ds,env,lf,h1,h2,⟨more,h3⟩,h4⟩:=Tree.Gy t uJ (zK.start I gs _ hlen) hd;let T:aG:=Tw tabs I 0 h2
 unfold U8 at h1;split at h1
 ·next l=>
  split at h1
  ·next args hargs=>
   split at h1
   ·next e a' σ' hrun=>
    rw [aI] at h1;obtain ⟨he,h1⟩:=h1;split at h1
    ·next rs hrs=>
     rw [aI] at h1;obtain ⟨hrf,h1⟩:=h1;split at h1
     ·next l' hl'=>
      have hll:=Vs h1;subst hll;have Ht:∀Q:dP->aV->ak->Prop,Q e a' σ'->@AT T P c { t:=xG (uO st args) 0 .nil,n:=max (uO st args).length fn.ntmps,gn:=P.globals.size } ⟨nX (tV tabs),P.globals.size+1,0⟩ Q:=by
       intro Q hq;have:=@RX P T (AU P tabs ⟨ns,ds,0⟩ specs) (Fq P ⟨ns,ds,0⟩ pl fuel) (WY (T:=T) hm hn (hpl T rfl rfl) fuel) (kR pe c) (wM pe c 0).2 (λk b hk a σ e1 a1 σ1 hs Q' hq'=>by
        unfold AU at hs;split at hs
        ·next sp' hsp=>
         obtain ⟨k1,k2⟩:=Ei k sp' hsp;exact U3 (T:=T) rfl hlow k1 (λgs out hI=>k2 b hk gs out hI) hs hq'
        ·cases hs) _ _ _ _ _ hrun Q hq
       rwa [show (kR pe c).erase=c from (wM pe c 0).1] at this
      have henv:∀i g,gs[i]? = some g->T.val (0+i)=some g:=by
       intro j g hj;show env[0+j]? = some g
       rw [h3,jk];have:=(dS.1 hj).1;rw [kM this];exact hj
      have key:∀ro w vs,wH tabs ro w->aO ro gs vs->Calls P f ⟨uP st vs⟩ w λen w'=>∃v,en=.returned v/\∃ro',Gj ro ro' w w'/\∃us,v=zq us/\aO ro' out us:=by
       intro ro w vs hro hvs;letI:=T
       have hst:yC (⟨nX (tV tabs),P.globals.size+1,0⟩:ak) P.globals.size:=QM (T:=T) hlow rfl
       have hS0:SR P (vN P.globals.size ⟨nX (tV tabs),P.globals.size+1,0⟩ ro) ⟨nX (tV tabs),P.globals.size+1,0⟩ w:=
        Jr hst.1 (λid o ho=>by
         obtain ⟨c,rfl,hmem,hle⟩:=hst.2 id o ho;obtain ⟨cs,elem,fr,k1,k2,k3⟩:=hro.tab _ hmem;exact ⟨hle,c,rfl,⟨cs,elem,fr,hro.at' _ _ k1,k2,k3⟩⟩) hro.at' (λp hp=>hro.tab p hp)
       have hv0:ay (vN P.globals.size ⟨nX (tV tabs),P.globals.size+1,0⟩ ro) (uO st args) (uP st vs):=Qc (Sm (T:=T) hargs hfit henv hvs);refine calls_of_wp hf hc ?_;refine Ht (λe2 a2 σ2=>e2=e/\a2=a'/\σ2=σ') ⟨rfl,rfl,rfl⟩ (.shut w) ro (vN P.globals.size ⟨nX (tV tabs),P.globals.size+1,0⟩ ro) w _ _ (jd.start hS0 hst.own) rfl (Ti hv0) ?_;rintro e2 a2 σ2 η1 A' w' ⟨rfl,rfl,rfl⟩ hF hl0 ht
       obtain ⟨us,r1,r2⟩:=Lc hF.rel ht (fun | .tmp t=>pure (A'.tmps.getD t undef) | .cell a t=>do loadVar t (<- asAddr (A'.tmps.getD a undef))) (λ_=>rfl) (λ_ _=>rfl) _ _ hrs;obtain ⟨bT,f1,f2,f3⟩:=Ov hF hl0 (@zY ⟨ns,ds,0⟩ P σ2 rs);have C:uf T P tabs P.globals.size (P.globals.size+1) η1 σ2 w' (@zY ⟨ns,ds,0⟩ P σ2 rs) [] [] [] bT:=⟨hF.rel,rfl,f1,f3,rfl,Ji _⟩
       obtain ⟨gl,k1,k2⟩:=XE C hl' r2;have hgl:gl=out:=by
        have h4':valsOf (λn=>env[n]?) l=some out:=h4;have k1':valsOf (λn=>env[n]?) l=some gl:=k1;rw [k1'] at h4';cases h4';rfl
       subst hgl;have hres':(results fn A'.tmps).run P w'=.ok (if h:(⟨us⟩:Array Value).size=1 then (⟨us⟩:Array Value)[0] else .tuple ⟨us⟩) w':=by
        unfold results;rw [Rk];simp only [aQ,RN];exact sU (λr:Result (List Value)=>(r.andThen λa w'=>Result.ok a.toArray w').andThen λa w'=>Sem.run P (pure (if h:a.size=1 then a[0] else Value.tuple a)) w') r1
       have UA:(if h:(⟨us⟩:Array Value).size=1 then (⟨us⟩:Array Value)[0] else .tuple ⟨us⟩)=zq us:=by
        match us with
        | []=>rfl
        | [u]=>rfl
        | u::u'::us=>rfl
       rw [UA] at hres'
       have hpost:A'.defers=[]/\∃v,(results fn A'.tmps).run P w'=.ok v w'/\∃v',Ending.returned v=.returned v'/\(∃ro',Gj ro ro' w w'/\∃us,v'=zq us/\aO ro' gl us):=
        ⟨ht.none,_,hres',_,rfl,⟨bT,⟨hF.kept.shut,f2.rW,f2.ado,f2.rel.iH⟩,us,rfl,k2⟩⟩
       cases e2 with
       | normal=>exact hpost
       | ret=>exact hpost
       | exit id=>simp at he
      refine ⟨λro w vs hro hvs=>?_, ?_⟩
      ·right
       refine ⟨?_,Calls.mono' (key ro w vs hro hvs) ?_⟩
       ·have hname:=hn f fn c hf hc
        simp only [callFunc,aQ,program,Sem.run,aP,hf];simp only [hname,gQ,if_false,hc,Gh,bg]
       ·rintro en w' ⟨v,rfl,h5⟩
        exact ⟨v,rfl,h5⟩
      ·exact hfo
     ·cases h1
    ·cases h1
   ·cases h1
  ·cases h1
 ·cases h1
end
end
end Go.aN
namespace Go.aN
set_option linter.unusedSimpArgs false
noncomputable section
set_option linter.unusedSectionVars false
set_option linter.unusedVariables false
variable {P:Program}
def fU.args (s:fU):List AV:=s.slots.map (·.2)
def IZ (P:Program) (tabs:List (Nat×List AV)) (s:fU) (gs:List GV) (w0:Base) (dD:Nat->Option Obj) (vs:List Value) (w:World):Prop:=
 ∃η,@jd (Tg tabs gs s.ka) P w0 dD η (s.st tabs) w/\@ay (Tg tabs gs s.ka) η s.args vs
def I9 (P:Program) (tabs:List (Nat×List AV)) (f:FuncId) (st:List (Option FuncId)) (pre:fU) (posts:List (dP×fU)) (gs out:List GV):Prop:=
 ∃ (t:Nat) (r rest:List GV) (e:dP) (s:fU),out=GV.i .i64 t::r/\posts[t]? = some (e,s)/\rO s.al gs r=some rest/\rest.length=s.np/\
  ∀w0 dD w vs,IZ P tabs pre gs w0 dD vs w->jV P f ⟨uP st vs⟩ w λv w'=>∃us,v=zq us/\IZ P tabs s rest w0 dD us w'
mutual
def AV.ren (ρ f:Nat->Nat):AV->AV
 | .nd j=>.nd (f j)
 | .rx j off=>.rx (f j) off
 | .sv id j=>.sv (ρ id) (f j)
 | .p id off=>.p (ρ id) off
 | .mp id=>.mp (ρ id)
 | .fn g fi cs=>.fn g (AV.uQ ρ f fi) (AV.uQ ρ f cs)
 | .dU t a=>.dU t (a.ren ρ f)
 | .agg l=>.agg (AV.uQ ρ f l)
 | .dM l=>.dM (AV.uQ ρ f l)
 | a=>a
def AV.uQ (ρ f:Nat->Nat):List AV->List AV
 | []=>[]
 | a::l=>a.ren ρ f::AV.uQ ρ f l
end
mutual
def AV.okS (G:Nat):AV->Bool
 | .sv id _=>Nat.blt G id
 | .fn _ fi cs=>AV.yc G fi&&AV.yc G cs
 | .dU _ a=>a.okS G
 | .agg l=>AV.yc G l
 | .dM l=>AV.yc G l
 | .nd _ | .rx _ _ | .p _ _ | .mp _ | .b _ | .i _ _ | .s _ | .jq | .bK | .xZ | .qY | .oK=>true
 | _=>false
def AV.yc (G:Nat):List AV->Bool
 | []=>true
 | a::l=>a.okS G&&AV.yc G l
end
def bf.ren (ρ f:Nat->Nat):bf->bf
 | .cells c et rw opn=>.cells (AV.uQ ρ f c) et rw opn
 | .vec j et b=>.vec (f j) et b
 | .smap j kk sz=>.smap (f j) kk sz
 | o=>o
def bf.okS (G:Nat):bf->Bool
 | .cells c _ rw _=>AV.yc G c&&rw
 | .vec _ _ _=>true
 | .smap _ _ _=>true
 | _=>false
theorem WQ (ρ f:Nat->Nat):∀l:List AV,AV.uQ ρ f l=l.map (AV.ren ρ f)
 | []=>rfl
 | a::l=>by simp [AV.uQ,WQ ρ f l]
structure Jp (S T:aG) (G:Nat) (ρ f:Nat->Nat) (η η':Env):Prop where
 val:∀j g,S.val j=some g->T.val (f j)=some g
 pl:∀i q,G < i->η i=some q->η' (ρ i)=some q
 gl:∀i q,i<=G->η i=some q->∃q',η' (ρ i)=some q'/\q'.bl=q.bl/\q'.ba=q.ba
 gh:∀i,G < i->η.gh i=true->η'.gh (ρ i)=true
 ro:∀b o,η.ro b=some o->η'.ro b=some o
section
variable {S T:aG} {G:Nat} {ρ f:Nat->Nat} {η η':Env}
mutual
theorem VR.ren (h:Jp S T G ρ f η η'):∀ (a:AV) (v:Value),a.okS G=true->@VR S η a v->@VR T η' (a.ren ρ f) v
 | .b _,_,_,hv=>by simpa only [VR,AV.ren] using hv
 | .i _ _,_,_,hv=>by simpa only [VR,AV.ren] using hv
 | .s _,_,_,hv=>by simpa only [VR,AV.ren] using hv
 | .jq,_,_,hv=>by simpa only [VR,AV.ren] using hv
 | .p i off,v,_,hv=>by
  simp only [VR,AV.ren] at hv ⊢;obtain ⟨q,hq,rfl⟩:=hv;by_cases hi:i<=G
  ·obtain ⟨q',h1,h2,h3⟩:=h.gl i q hi hq
   exact ⟨q',h1,by rw [h2,h3]⟩
  ·exact ⟨q,h.pl i q (by omega) hq,rfl⟩
 | .bK,_,_,hv=>by simpa only [VR,AV.ren] using hv
 | .sl _ _ _ _,_,ho,_=>by simp [AV.okS] at ho
 | .oK,_,_,hv=>by simpa only [VR,AV.ren] using hv
 | .mp i,v,_,hv=>by
  simp only [VR,AV.ren] at hv ⊢;obtain ⟨q,hq,rfl⟩:=hv;by_cases hi:i<=G
  ·obtain ⟨q',h1,h2,h3⟩:=h.gl i q hi hq
   exact ⟨q',h1,by rw [h2]⟩
  ·exact ⟨q,h.pl i q (by omega) hq,rfl⟩
 | .xZ,_,_,hv=>by simpa only [VR,AV.ren] using hv
 | .fn _ fi cs,_,ho,hv=>by
  simp only [AV.okS,aI] at ho;simp only [VR,AV.ren] at hv ⊢;obtain ⟨us,vs,e,h1,h2⟩:=hv;exact ⟨us,vs,e,ay.ren h fi us ho.1 h1,ay.ren h cs vs ho.2 h2⟩
 | .qY,_,_,hv=>by simpa only [VR,AV.ren] using hv
 | .dU _ a,_,ho,hv=>by simp only [AV.okS] at ho;simp only [VR,AV.ren] at hv ⊢;obtain ⟨x,e,h1⟩:=hv;exact ⟨x,e,VR.ren h a x ho h1⟩
 | .agg l,_,ho,hv=>by simp only [AV.okS] at ho;simp only [VR,AV.ren] at hv ⊢;obtain ⟨x,e,h1⟩:=hv;exact ⟨x,e,ay.ren h l x ho h1⟩
 | .dM l,_,ho,hv=>by simp only [AV.okS] at ho;simp only [VR,AV.ren] at hv ⊢;obtain ⟨x,e,h1⟩:=hv;exact ⟨x,e,ay.ren h l x ho h1⟩
 | .z _ _ _,_,ho,_=>by simp [AV.okS] at ho
 | .ro _,_,ho,_=>by simp [AV.okS] at ho
 | .rp _ _,_,ho,_=>by simp [AV.okS] at ho
 | .nd _,_,_,hv=>by simp only [VR,AV.ren] at hv ⊢;obtain ⟨g,h1,h2,h3⟩:=hv;exact ⟨g,h.val _ _ h1,h2,GR.mono h.ro _ _ h3⟩
 | .rx _ _,_,_,hv=>by
  simp only [VR,AV.ren] at hv ⊢;obtain ⟨g,bl,base,cs,elem,fr,x,h1,h2,h3,h4⟩:=hv;exact ⟨g,bl,base,cs,elem,fr,x,h.val _ _ h1,h.ro _ _ h2,GR.mono h.ro _ _ h3,h4⟩
 | .sv i j,_,ho,hv=>by
  simp only [AV.okS,iW] at ho;simp only [VR,AV.ren] at hv ⊢;obtain ⟨xs,h1,⟨q,hq,h2⟩ | ⟨hg,h2⟩⟩:=hv
  ·exact ⟨xs,h.val _ _ h1,.inl ⟨q,h.pl i q ho hq,h2⟩⟩
  ·exact ⟨xs,h.val _ _ h1,.inr ⟨h.gh i ho hg,h2⟩⟩
 | .pv _ _ _,_,ho,_=>by simp [AV.okS] at ho
 | .pd _ _,_,ho,_=>by simp [AV.okS] at ho
theorem ay.ren (h:Jp S T G ρ f η η'):∀ (l:List AV) (vs:List Value),AV.yc G l=true->@ay S η l vs->@ay T η' (AV.uQ ρ f l) vs
 | [],_,_,hv=>by simpa only [ay,AV.uQ] using hv
 | a::l,_,ho,hv=>by
  simp only [AV.yc,aI] at ho;simp only [ay,AV.uQ] at hv ⊢;obtain ⟨x,xs,e,h1,h2⟩:=hv;exact ⟨x,xs,e,VR.ren h a x ho.1 h1,ay.ren h l xs ho.2 h2⟩
end
theorem OR.ren (h:Jp S T G ρ f η η') {q:Place} {w:World} {o:bf} (ho:o.okS G=true) (r:@OR S P η q w o):@OR T P η' q w (o.ren ρ f):=by
 cases o with
 | cells c et rX opn=>
  simp only [bf.okS,aI] at ho;obtain ⟨cs,elem,fr,h1,⟨r1,r2,r3,r4,r5,r6,r7⟩⟩:=r;have hl:(AV.uQ ρ f c).length=c.length:=by rw [WQ];simp
  have hok:∀a∈c,a.okS G=true:=by
   have:∀l:List AV,AV.yc G l=true->∀a∈l,a.okS G=true:=by
    intro l;induction l with
    | nil=>intro _ a ha;simp at ha
    | cons b l ih=>
     intro h a ha;simp only [AV.yc,aI] at h;rcases bZ.1 ha with rfl | ha
     ·exact h.1
     ·exact ih h.2 a ha
   exact this c ho.1
  refine ⟨cs,elem,fr,h1,@qG.mk T P η' q _ et rX opn cs elem fr r1 (by rw [hl];exact r2) (λe=>by rw [hl];exact r3 e) (λk a hk=>?_) r5 r6 r7⟩;rw [WQ,jg] at hk;obtain ⟨a0,h2,rfl⟩:=aX.1 hk;obtain ⟨x,hx,hv⟩:=r4 k a0 h2;exact ⟨x,hx,VR.ren h a0 x (hok a0 (rE h2)) hv⟩
 | iter s pos=>simp [bf.okS] at ho
 | map es=>simp [bf.okS] at ho
 | pmap es=>simp [bf.okS] at ho
 | iterM m=>simp [bf.okS] at ho
 | smap j kk sz=>
  obtain ⟨xs,ms,clock,k1,k2,k3⟩:=r;exact ⟨xs,ms,clock,h.val _ _ k1,k2,k3.mono h.ro⟩
 | vec j et b=>
  obtain ⟨xs,cs,elem,fr,ys,k1,k2,k3,k4,k5,k6,⟨r1,r2,r3,r4,r5,r6,r7⟩,k8⟩:=r;exact ⟨xs,cs,elem,fr,ys,h.val _ _ k1,k2,aO.mono h.ro _ _ k3,k4,k5,k6,@qG.mk T P η' q [] et true true cs elem fr r1 r2 r3 (λk a hk=>by simp at hk) r5 r6 r7,k8⟩
theorem Live.ren (h:Jp S T G ρ f η η') {w:World} {i:Nat} {o:bf} (hi:G < i) (ho:o.okS G=true) (r:@Live S P η w i o):@Live T P η' w (ρ i) (o.ren ρ f):=by
 rcases r with ⟨q,hq,hr⟩ | ⟨hg,n,et,b,rfl,hv⟩
 ·exact .inl ⟨q,h.pl i q hi hq,OR.ren h ho hr⟩
 ·exact .inr ⟨h.gh i hi hg,f n,et,b,rfl,h.val _ _ hv⟩
end
theorem bf.VB {G:Nat} {o:bf} (h:o.okS G=true):o.own=true:=by
 cases o<;>simp only [bf.okS,aI,gQ] at h<;>simp [bf.own]
 exact h.2
def rhoC (G ka next:Nat) (r:List (Nat×Option Nat)) (i:Nat):Nat:=if i<=G then i else if i<=G+ka then (match bY i r with | some (some id)=>id | _=>0) else next+(i - (G+ka+1))
def Iy (ρ f:Nat->Nat):List (Nat×bf)->Tr bf->Tr bf
 | [],h=>h
 | p::l,h=>(Iy ρ f l h).set (ρ p.1) (some (p.2.ren ρ f))
def nR:List (Nat×Option Nat)->List Nat
 | []=>[]
 | p::l=>match p.2 with
  | some id=>id::nR l
  | none=>nR l
def NV {α:Type}:List (Nat×α)->Bool
 | []=>true
 | p::l=>(match bY p.1 l with | none=>true | some _=>false)&&NV l
def zL (r:List (Nat×Option Nat)) (σ:ak):Nat->Nat->Bool
 | _,0=>true
 | i,n+1=>(match bY (i+1) r with
  | some (some id)=>(match σ.get id with | some (.cells _ _ _ _)=>true | _=>false)
  | _=>false)&&zL r σ (i+1) n
def Wy (s:fU):Bool:=Nat.blt (s.gn+s.ka) s.next&&AV.yc s.gn s.args&&NV s.objs&&s.objs.all λp=>Nat.blt s.gn p.1&&Nat.blt p.1 s.next&&p.2.okS s.gn
section
variable [fQ]
def ahE (P:Program) (s:fU) (l:List AV) (σ:ak):US:=QU P s.gn σ s.objs (Dh P s.gn σ s.args l ⟨[],[],[]⟩)
def ahF (P:Program) (s:fU) (l:List AV) (σ:ak):US:=QU P s.gn σ s.objs (Dh P s.gn σ s.args l ⟨RZ s.gn s.ka,[],[]⟩)
def Pz (P:Program) (s:fU) (l:List AV) (σ:ak) (fz:List Nat) (r:List (Nat×Option Nat)) (ps:List Nat):Bool:=
 Nat.beq s.gn P.globals.size&&Nat.blt (s.gn+s.ka) s.next&&Fh r&&yY P s.gn σ fz r ps s.args l&&Ic P s.gn s.next σ fz r ps s.objs
def VK (P:Program) (st:List (Option FuncId)) (sp:bD):eU:=λJv σ=>match zo st Jv with
 | none=>none
 | some args=>match ahE P sp.pre args σ with
  | ⟨r,p,fz⟩=>match WC p 0 sp.pre.np with
   | none=>none
   | some ps=>
    if Pz P sp.pre args σ fz r ps&&(fz.all (Nat.ble σ.lock ·)&&((nR r).all (λid=>Nat.ble σ.lock id&&!(fz.contains id))&&zL r σ sp.pre.gn sp.pre.ka)) then
     match dX (.call sp.key ps 0) with
     | some tag=>match EI tag sp.posts 0 with
      | some (_,s)=>if Wy s&&(Nat.beq s.ka sp.pre.ka&&Nat.beq s.gn sp.pre.gn) then match y8 sp.key ps s.al 1 s.np with
       | some ns=>
        some (FM (AV.uQ (rhoC s.gn s.ka σ.next r) (λj=>ns.getD j 0) s.args),⟨Iy (rhoC s.gn s.ka σ.next r) (λj=>ns.getD j 0) s.objs (kills (kills σ fz) (nR r)).h,σ.next+(s.next - (s.gn+s.ka+1)),σ.lock⟩)
       | none=>none
       else none
      | none=>none
     | none=>none
    else none
end
theorem ZQ {α:Type}:∀ {l:List (Nat×α)},NV l=true->∀ {k:Nat} {v:α},(k,v)∈l->bY k l=some v
 | [],_,k,v,h=>by simp at h
 | p::l,hd,k,v,h=>by
  simp only [NV,aI] at hd;rcases bZ.1 h with e | h
  ·subst e;simp [bY]
  ·have h1:=ZQ hd.2 h
   simp only [bY];cases hb:Nat.beq k p.1 with
   | true=>
    have e:=bC hb;have h2:=hd.1;rw [<- e,h1] at h2;cases h2
   | false=>exact h1
theorem aaW {α:Type}:∀ {l m:List (Nat×α)} {k:Nat} {v:α},bY k l=some v->bY k (l++m)=some v
 | [],m,k,v,h=>by simp [bY] at h
 | p::l,m,k,v,h=>by
  simp only [dW,bY] at h ⊢;cases hb:Nat.beq k p.1 with
  | true=>rw [hb] at h;exact h
  | false=>rw [hb] at h;exact aaW h
theorem ac1 {ρ f:Nat->Nat}:∀ {l:List (Nat×bf)} {h:Tr bf} {k:Nat} {o:bf},(Iy ρ f l h).get k=some o->(∃i o0,(i,o0)∈l/\ρ i=k/\o=o0.ren ρ f)\/(h.get k=some o/\∀p∈l,ρ p.1≠k)
 | [],h,k,o,hg=>.inr ⟨hg,λp hp=>by simp at hp⟩
 | q::l,h,k,o,hg=>by
  simp only [Iy,Tr.uH] at hg;split at hg
  ·next e=>cases hg;exact .inl ⟨q.1,q.2,by simp,e.symm,rfl⟩
  ·next e=>
   rcases ac1 hg with ⟨i,o0,h1,h2,h3⟩ | ⟨h1,h2⟩
   ·exact .inl ⟨i,o0,yw _ h1,h2,h3⟩
   ·refine .inr ⟨h1,λp hp=>?_⟩
    rcases bZ.1 hp with rfl | hp
    ·exact λe'=>e e'.symm
    ·exact h2 p hp
theorem abj {r:List (Nat×Option Nat)}:∀ {i id:Nat},bY i r=some (some id)->id∈nR r:=by
 induction r with
 | nil=>intro i id h;simp [bY] at h
 | cons p l ih=>
  intro i id h;simp only [bY] at h;cases hb:Nat.beq i p.1 with
  | true=>
   rw [hb] at h;simp only [cond_true,aT] at h;simp only [nR,h];simp
  | false=>
   rw [hb] at h;have:=ih h;simp only [nR];split
   ·exact yw _ this
   ·exact this
theorem Si {r:List (Nat×Option Nat)} {σ:ak}:∀ {n i:Nat},zL r σ i n=true->∀j,i < j->j<=i+n->∃id c et rw opn,bY j r=some (some id)/\σ.get id=some (.cells c et rw opn)
 | 0,i,_,j,h1,h2=>by omega
 | n+1,i,h,j,h1,h2=>by
  simp only [zL,aI] at h;by_cases e:j=i+1
  ·subst e
   have h3:=h.1;split at h3
   ·next id hid=>
    split at h3
    ·next c et rw opn hg=>exact ⟨id,c,et,rw,opn,hid,hg⟩
    ·cases h3
   ·cases h3
  ·exact Si h.2 j (by omega) (by omega)
theorem St.als {T:aG} {tabs:List (Nat×List AV)} (rQ:T.tabs=tabs) {G ka:Nat} (hG:G=P.globals.size) {η η2:Env} {σ:ak} {w w':World} (h:@SR T P η σ w) {r:List (Nat×Option Nat)} (hinj:Fh r=true) (hlk:∀id∈nR r,σ.lock<=id) (Uh:zL r σ G ka=true)
 {s:fU} (hs:Wy s=true) (hsk:s.ka=ka) (hsg:s.gn=G) {gs:List GV} {f:Nat->Nat} (hf:∀j g,gs[j]? = some g->T.val (f j)=some g)
 (hF:@jd (Tg tabs gs s.ka) P ⟨w,λb=>∃id o q,id∈nR r/\σ.get id=some o/\o.own=true/\η id=some q/\q.bl=b,λi=>if G < i/\i<=G+ka then (match bY i r with | some (some id)=>η id | _=>none) else none⟩ η.ro η2 (s.st tabs) w')
 {vs:List Value} (hv:@ay (Tg tabs gs s.ka) η2 s.args vs) :
 ∃η',@St T P η σ w η' ⟨Iy (rhoC s.gn s.ka σ.next r) f s.objs (kills σ (nR r)).h,σ.next+(s.next - (s.gn+s.ka+1)),σ.lock⟩ w'/\@ay T η' (AV.uQ (rhoC s.gn s.ka σ.next r) f s.args) vs:=by
 obtain ⟨⟨aoO,adx,aoR,Xc,aps,apo,apr,aqb⟩,IG,apk,apq,adJ,aok⟩:=hF;letI:=T
 subst hsk;subst hsg;unfold Wy at hs;simp only [aI,iW] at hs;obtain ⟨⟨⟨p1,p2⟩,p3⟩,p4⟩:=hs;have EF:∀i o,(i,o)∈s.objs->s.gn < i/\i < s.next/\o.okS s.gn=true:=by
  intro i o hm;have:=List.all_eq_true.1 p4 _ hm;simp only [aI,iW] at this;exact ⟨this.1.1,this.1.2,this.2⟩
 have Lp:∀i o,(i,o)∈s.objs->(s.st tabs).get i=some o:=by
  intro i o hm;show (nX (s.objs++tV tabs)).get i=some o
  rw [Ey];exact aaW (ZQ p3 hm)
 let B:Nat:=s.gn+s.ka+1
 let η':Env:=⟨λid=>if id < σ.next then η id else η2 (id - σ.next+B),η2.ro,λid=>if id < σ.next then η.gh id else η2.gh (id - σ.next+B)⟩
 have Uw:∀b o,η.ro b=some o->η2.ro b=some o:=apq;have hext:η.le η':=by
  refine ⟨λid q hq=>?_,Uw,λid hg=>?_⟩
  ·show (if id < σ.next then η id else _)=some q
   rw [aj (h.dom id q hq)];exact hq
  ·show (if id < σ.next then η.gh id else _)=true
   rw [aj (h.jc id hg).2];exact hg
 have ou:∀i,s.gn < i->i<=s.gn+s.ka->∃id q,bY i r=some (some id)/\η id=some q/\η2 i=some q/\id < σ.next/\(∃o,σ.get id=some o):=by
  intro i h1 h2;obtain ⟨id,c,et,rX,opn,g1,g2⟩:=Si Uh i h1 h2;obtain ⟨q,hq,_⟩:=h.obj _ _ g2 rfl;have:=(aok i q (by show (if s.gn < i/\i<=s.gn+s.ka then _ else _)=_;rw [aj ⟨h1,h2⟩,g1];exact hq)).1;exact ⟨id,q,g1,hq,this,h.dom id q hq,_,g2⟩
 have IB:∀i id,s.gn < i->i<=s.gn+s.ka->bY i r=some (some id)->rhoC s.gn s.ka σ.next r i=id:=by
  intro i id h1 h2 h3;unfold rhoC;rw [ah (by omega),aj h2,h3]
 have Fp:∀i,s.gn+s.ka < i->rhoC s.gn s.ka σ.next r i=σ.next+(i - B):=by
  intro i h1;unfold rhoC;rw [ah (by omega),ah (by omega)]
 have EJ:∀i,s.gn+s.ka < i->η' (σ.next+(i - B))=η2 i/\η'.gh (σ.next+(i - B))=η2.gh i:=by
  intro i h1;have e:σ.next+(i - B) - σ.next+B=i:=by show σ.next+(i - (s.gn+s.ka+1)) - σ.next+(s.gn+s.ka+1)=i;omega
  constructor
  ·show (if σ.next+(i - B) < σ.next then _ else η2 (σ.next+(i - B) - σ.next+B))=_
   rw [ah (by omega),e]
  ·show (if σ.next+(i - B) < σ.next then _ else η2.gh (σ.next+(i - B) - σ.next+B))=_
   rw [ah (by omega),e]
 have abf:Jp (Tg tabs gs s.ka) T s.gn (rhoC s.gn s.ka σ.next r) f η2 η':=by
  refine ⟨hf,λi q hi hq=>?_,λi q hi hq=>?_,λi hi hg=>?_,λ_ _ h=>h⟩
  ·by_cases hk:i<=s.gn+s.ka
   ·obtain ⟨id,q',g1,g2,g3,g4,_⟩:=ou i hi hk
    rw [IB i id hi hk g1];rw [hq] at g3;cases g3;exact hext.pl _ _ g2
   ·rw [Fp i (by omega),(EJ i (by omega)).1];exact hq
  ·obtain ⟨sz,es,e1⟩:=aoO i (by omega)
   rw [hq] at e1;cases e1;obtain ⟨sz',es',e2⟩:=h.kV i (by omega);refine ⟨⟨i,0,sz',es'⟩, ?_,rfl,rfl⟩;show η' (rhoC s.gn s.ka σ.next r i)=_
   unfold rhoC;rw [aj hi];exact hext.pl _ _ e2
  ·by_cases hk:i<=s.gn+s.ka
   ·obtain ⟨id,q',g1,g2,g3,_⟩:=ou i hi hk
    rw [(Xc i hg).1] at g3;cases g3
   ·rw [Fp i (by omega),(EJ i (by omega)).2];exact hg
 have old:∀id o,(kills σ (nR r)).get id=some o->id∉nR r/\σ.get id=some o:=by
  intro id o hg;rw [Af] at hg;split at hg
  ·cases hg
  ·next hm=>exact ⟨hm,hg⟩
 have PX:∀id o q,id∉nR r->σ.get id=some o->η id=some q->∀dF o0 q0,dF∈nR r->σ.get dF=some o0->o0.own=true->η dF=some q0->q0.bl≠q.bl:=by
  intro id o q hm hg hq dF o0 q0 hm0 hg0 ho0 hq0;exact h.sep dF o0 id o q0 q hg0 ho0 hg (λe=>hm (e ▸ hm0)) hq0 hq
 have ajy:∀id o q,id∉nR r->σ.get id=some o->η id=some q->q.bl < w.heap.size->w'.heap[q.bl]? = w.heap[q.bl]?:=by
  intro id o q hm hg hq hlt;refine IG.keep q.bl hlt ?_;rintro ⟨dF,o0,q0,a1,a2,a3,a4,a5⟩
  exact PX id o q hm hg hq dF o0 q0 a1 a2 a3 a4 a5
 have obj:∀k o,(Iy (rhoC s.gn s.ka σ.next r) f s.objs (kills σ (nR r)).h).get k=some o->(∃i o0,(i,o0)∈s.objs/\rhoC s.gn s.ka σ.next r i=k/\o=o0.ren (rhoC s.gn s.ka σ.next r) f)\/(k∉nR r/\σ.get k=some o/\∀p∈s.objs,rhoC s.gn s.ka σ.next r p.1≠k):=by
  intro k o hk;rcases ac1 hk with h1 | ⟨h1,h2⟩
  ·exact .inl h1
  ·obtain ⟨h3,h4⟩:=old k o h1
   exact .inr ⟨h3,h4,h2⟩
 have Ir:∀k o q,σ.get k=some o->η' k=some q->η k=some q:=by
  intro k o q hg hq;have hlt:k < σ.next:=h.hasLt (h.Kq hg);have hq':(if k < σ.next then η k else _)=some q:=hq;rw [aj hlt] at hq';exact hq'
 have plNew:∀i o q,(i,o)∈s.objs->η' (rhoC s.gn s.ka σ.next r i)=some q->η2 i=some q:=by
  intro i o q hm hq;obtain ⟨g1,g2,g3⟩:=EF i o hm;by_cases hk:i<=s.gn+s.ka
  ·obtain ⟨id,q',a1,a2,a3,a4,_⟩:=ou i g1 hk
   rw [IB i id g1 hk a1] at hq;have:=hext.pl _ _ a2;rw [hq] at this;cases this;exact a3
  ·rw [Fp i (by omega),(EJ i (by omega)).1] at hq;exact hq
 have aus:∀i j oi oj,(i,oi)∈s.objs->(j,oj)∈s.objs->rhoC s.gn s.ka σ.next r i=rhoC s.gn s.ka σ.next r j->i=j:=by
  intro i j oi oj hi hj e;obtain ⟨g1,g2,_⟩:=EF i oi hi;obtain ⟨k1,k2,_⟩:=EF j oj hj;by_cases c1:i<=s.gn+s.ka<;>by_cases c2:j<=s.gn+s.ka
  ·obtain ⟨id,_,a1,_,_,_,_⟩:=ou i g1 c1
   obtain ⟨id',_,b1,_,_,_,_⟩:=ou j k1 c2;rw [IB i id g1 c1 a1,IB j id' k1 c2 b1] at e;subst e;exact WH hinj i j id a1 b1
  ·obtain ⟨id,_,a1,_,_,a4,_⟩:=ou i g1 c1
   rw [IB i id g1 c1 a1,Fp j (by omega)] at e;omega
  ·obtain ⟨id,_,a1,_,_,a4,_⟩:=ou j k1 c2
   rw [IB j id k1 c2 a1,Fp i (by omega)] at e;omega
  ·rw [Fp i (by omega),Fp j (by omega)] at e
   have hB:B=s.gn+s.ka+1:=rfl;omega
 have VJ:∀i o q,(i,o)∈s.objs->η2 i=some q->w.heap.size<=q.bl\/∃id o0 q0,id∈nR r/\σ.get id=some o0/\o0.own=true/\η id=some q0/\q0.bl=q.bl:=by
  intro i o q hm hq;exact apk i o q (Lp i o hm) (bf.VB (EF i o hm).2.2) hq
 have hlt:∀k o q,σ.get k=some o->η k=some q->q.bl < w.heap.size:=λk o q hg hq=>(h.at hg hq).lt;refine ⟨η',⟨hext,⟨?_, ?_, ?_, ?_, ?_,apo, ?_, ?_⟩,IG.size, ?_, ?_,IG.os,IG.tape,IG.output,rfl,Nat.le_add_right _ _, ?_, ?_⟩,ay.ren abf _ _ p2 hv⟩
 ·intro g hg
  obtain ⟨sz,es,e⟩:=h.kV g hg;exact ⟨sz,es,hext.pl _ _ e⟩
 ·intro id q hq
  show id < σ.next+(s.next - (s.gn+s.ka+1))
  by_cases hl:id < σ.next
  ·omega
  ·have hq':(if id < σ.next then η id else η2 (id - σ.next+B))=some q:=hq
   rw [ah hl] at hq';have:=adx _ _ hq';have:id - σ.next+(s.gn+s.ka+1) < s.next:=this;omega
 ·intro k o hk
  rcases obj k o hk with ⟨i,o0,h1,rfl,rfl⟩ | ⟨h1,h2,_⟩
  ·obtain ⟨g1,g2,g3⟩:=EF i o0 h1
   exact Live.ren abf g1 g3 (aoR i o0 (Lp i o0 h1))
  ·refine ((h.live k o h2).heap λq hq hor=>?_).mono hext
   exact ajy k o q h1 h2 hq hor.lt
 ·intro id hg
  have hg':(if id < σ.next then η.gh id else η2.gh (id - σ.next+B))=true:=hg;show (if id < σ.next then η id else η2 (id - σ.next+B))=none/\id < σ.next+(s.next - (s.gn+s.ka+1))
  by_cases hl:id < σ.next
  ·rw [aj hl] at hg' ⊢
   exact ⟨(h.jc id hg').1,by omega⟩
  ·rw [ah hl] at hg' ⊢
   obtain ⟨a1,a2⟩:=Xc _ hg';have a2':id - σ.next+(s.gn+s.ka+1) < s.next:=a2;exact ⟨a1,by omega⟩
 ·intro k o k' o' q q' a1 a2 a3 a4 a5 a6
  rcases obj k o a1 with ⟨i,o0,h1,rfl,rfl⟩ | ⟨h1,h2,_⟩<;>rcases obj k' o' a3 with ⟨j,KN,k1,rfl,rfl⟩ | ⟨k1,k2,_⟩
  ·have b1:=plNew i o0 q h1 a5
   have b2:=plNew j KN q' k1 a6;exact aps i o0 j KN q q' (Lp i o0 h1) (bf.VB (EF i o0 h1).2.2) (Lp j KN k1) (λe=>a4 (by rw [e])) b1 b2
  ·have b1:=plNew i o0 q h1 a5
   have b2:=Ir k' o' q' k2 a6;rcases VJ i o0 q h1 b1 with c1 | ⟨id,o1,q1,c1,c2,c3,c4,c5⟩
   ·have:=hlt k' o' q' k2 b2
    omega
   ·rw [<- c5]
    exact PX k' o' q' k1 k2 b2 id o1 q1 c1 c2 c3 c4
  ·have b1:=Ir k o q h2 a5
   have b2:=plNew j KN q' k1 a6;rcases VJ j KN q' k1 b2 with c1 | ⟨id,o1,q1,c1,c2,c3,c4,c5⟩
   ·have:=hlt k o q h2 b1
    omega
   ·rw [<- c5]
    exact λe=>PX k o q h1 h2 b1 id o1 q1 c1 c2 c3 c4 e.symm
  ·exact h.sep k o k' o' q q' h2 a2 k2 a4 (Ir k o q h2 a5) (Ir k' o' q' k2 a6)
 ·intro k o q a1 a2 a3
  rcases obj k o a1 with ⟨i,o0,h1,rfl,rfl⟩ | ⟨h1,h2,_⟩
  ·exact apr i o0 q (Lp i o0 h1) (bf.VB (EF i o0 h1).2.2) (plNew i o0 q h1 a3)
  ·have b1:=Ir k o q h2 a3
   show η2.ro q.bl=none
   cases hro:η2.ro q.bl with
   | none=>rfl
   | some x=>
    rcases adJ q.bl (by rw [hro];simp) with c1 | c1 | ⟨id,o1,q1,c1,c2,c3,c4,c5⟩
    ·exact absurd (h.jS k o q h2 a2 b1) c1
    ·have:=hlt k o q h2 b1
     have c1':w.heap.size<=q.bl:=c1;omega
    ·exact absurd c5 (PX k o q h1 h2 b1 id o1 q1 c1 c2 c3 c4)
 ·intro p hp
  have hp':p∈tabs:=by rw [<- rQ];exact hp
  obtain ⟨cs,elem,fr,e1,e2⟩:=aqb p hp';exact ⟨cs,elem,fr,e1,e2⟩
 ·intro bl hbl hno
  refine IG.keep bl hbl ?_;rintro ⟨id,o,q,a1,a2,a3,a4,a5⟩
  exact hno id o q a2 a3 (hlk id a1) a4 a5
 ·intro k o q a1 a2 a3 a4
  rcases obj k o a1 with ⟨i,o0,h1,rfl,rfl⟩ | ⟨h1,h2,_⟩
  ·rcases VJ i o0 q h1 (plNew i o0 q h1 a4) with c1 | ⟨id,o1,q1,c1,c2,c3,c4,c5⟩
   ·exact .inl c1
   ·exact .inr ⟨id,o1,q1,c2,c3,hlk id c1,c4,c5⟩
  ·exact .inr ⟨k,o,q,h2,a2,a3,Ir k o q h2 a4,rfl⟩
 ·intro id hh
  by_cases hl:id < σ.next
  ·left
   rcases hh with ⟨q,hq⟩ | hg
   ·have hq':(if id < σ.next then η id else _)=some q:=hq
    rw [aj hl] at hq';exact .inl ⟨q,hq'⟩
   ·have hg':(if id < σ.next then η.gh id else _)=true:=hg
    rw [aj hl] at hg';exact .inr hg'
  ·right
   refine ⟨by omega, ?_⟩;show id < σ.next+(s.next - (s.gn+s.ka+1))
   rcases hh with ⟨q,hq⟩ | hg
   ·have hq':(if id < σ.next then η id else η2 (id - σ.next+B))=some q:=hq
    rw [ah hl] at hq';have:id - σ.next+(s.gn+s.ka+1) < s.next:=adx _ _ hq';omega
   ·have hg':(if id < σ.next then η.gh id else η2.gh (id - σ.next+B))=true:=hg
    rw [ah hl] at hg';have:id - σ.next+(s.gn+s.ka+1) < s.next:=(Xc _ hg').2;omega
 ·intro b hb
  rcases adJ b hb with c1 | c1 | ⟨id,o1,q1,c1,c2,c3,c4,c5⟩
  ·exact .inl c1
  ·exact .inr (.inl c1)
  ·exact .inr (.inr ⟨id,o1,q1,c2,c3,hlk id c1,c4,c5⟩)
theorem alI {T:aG} (hlow:sO T.tabs P.globals.size) {f:FuncId} {st:List (Option FuncId)} {sp:bD} (hok:sp.pre.ok=true) (hC:∀gs out,T.I sp.key gs=some out->I9 P T.tabs f st sp.pre sp.posts gs out):@dY T P f (@VK T.tofQ P st sp):=by
 letI:=T
 intro Jv σ rr σ' hs η w vs0 hS hv0;unfold VK at hs;split at hs
 ·cases hs
 next args htk=>
 obtain ⟨vs,rfl,hv⟩:=QS htk hv0;split at hs;next r p fz hfit=>
 split at hs
 ·cases hs
 next ps hps=>
 split at hs;rotate_left
 ·cases hs
 next hm=>
 split at hs;rotate_left
 ·cases hs
 next tag htag=>
 split at hs;rotate_left
 ·cases hs
 next e s hpick=>
 split at hs;rotate_left
 ·cases hs
 next hpost=>
 split at hs;rotate_left
 ·cases hs
 next ns hns=>
 cases hs;rw [aI,aI,aI] at hm;obtain ⟨hm,hm1,hm2,hm3⟩:=hm;unfold Pz at hm;simp only [aI,iW] at hm;obtain ⟨⟨⟨⟨m1,m2⟩,m3⟩,m4⟩,m5⟩:=hm;have m1:=bC m1;rw [aI,aI] at hpost;obtain ⟨q1,q2,q3⟩:=hpost;have q2:=bC q2;have q3:=bC q3;unfold fU.ok at hok;rw [aI,aI] at hok;obtain ⟨⟨_,hbs⟩,Ef⟩:=hok;have hbs:AV.og sp.pre.next sp.pre.args=true:=by
  have:∀l:List (Nat×AV),BD sp.pre.next l=true->AV.og sp.pre.next (l.map (·.2))=true:=by
   intro l;induction l with
   | nil=>intro _;rfl
   | cons a l ih=>intro h;simp only [BD,aI] at h;simp only [ji,AV.og,aI];exact ⟨h.1,ih h.2⟩
  exact this _ hbs
 have aiT:∀id∈fz,σ.lock<=id:=λid hid=>qM (List.all_eq_true.1 hm1 id hid);have hlk2:∀id∈nR r,σ.lock<=id:=λid hid=>by
  have:=List.all_eq_true.1 hm2 id hid;rw [aI] at this;exact qM this.1
 have aiV:∀id∈nR r,id∉fz:=λid hid hm=>by
  have:=List.all_eq_true.1 hm2 id hid;rw [aI,Ya.2 hm] at this;simp at this
 obtain ⟨bT,f1,f2,f3⟩:=TQ hS fz aiT;obtain ⟨gt,t1,t2⟩:=fD htag;simp only [Nd.den] at t2;split at t2;rotate_left
 ·cases t2
 next gs hgs=>
 split at t2;rotate_left
 ·cases t2
 next out hI=>
 obtain ⟨t,r0,rest,e2,s2,rfl,hp2,hex,hrl,hrun⟩:=hC gs out hI;simp only [iI,aT] at t2;subst t2;have hpe:=VU t1 sp.posts 0 hpick (vC _) (e2,s2) (by simpa using hp2);cases hpe;obtain ⟨n1,n2⟩:=KR hgs hI _ 1 s.al (r:=r0) (λk=>by rw [Jh,qI]) hex hns;have hval:∀j g,rest[j]? = some g->T.val (ns.getD j 0)=some g:=by
  intro j g hj;have hjl:j < ns.length:=by have:=(dS.1 hj).1;omega
  have hm:ns[j]? = some (ns.getD j 0):=by rw [wz,bU hjl];rfl
  rw [n2 j _ hm];exact hj
 have C:uf T P T.tabs sp.pre.gn sp.pre.next η σ w fz r ps gs bT:=⟨hS,hgs,f1,f3,m1,by omega⟩
 obtain ⟨hR,hown⟩:=Vl (ka:=sp.pre.ka) rfl hlow Ef (by omega) m1 C f2.rel.iH (λid o q b2 b3 b4 b5=>f2.rel.jS id o q (by rw [Af,ah b2];exact b3) b4 b5) m3 m5;let σ1:ak:=kills σ fz
 let η1:Env:=⟨η.pl,bT,η.gh⟩
 let w0:Base:=⟨w,λb=>∃id o q,id∈nR r/\σ1.get id=some o/\o.own=true/\η1 id=some q/\q.bl=b,λi=>if sp.pre.gn < i/\i<=sp.pre.gn+sp.pre.ka then (match bY i r with | some (some id)=>η1 id | _=>none) else none⟩
 have hF:@jd (Tg T.tabs gs sp.pre.ka) P w0 bT (qU T.tabs sp.pre.gn sp.pre.next r η bT) (sp.pre.st T.tabs) w:=by
  refine @jd.mk (Tg T.tabs gs sp.pre.ka) P w0 bT _ _ w hR ⟨rfl,rfl,rfl,dJ _,λ_ _ _=>rfl⟩ ?_ (λ_ _ h=>h) (λ_ h=>.inl h) ?_
  ·intro i o q a1 a2 a3
   obtain ⟨id,o',b1,b2,b3,b4,b5⟩:=hown i o q a1 a2 a3;exact .inr ⟨id,o',q,abj b1,by show (kills σ fz).get id=_;rw [Af,ah b2];exact b3,b4,b5,rfl⟩
  ·intro i q hi
   have hi':(if sp.pre.gn < i/\i<=sp.pre.gn+sp.pre.ka then (match bY i r with | some (some id)=>η1 id | _=>none) else none)=some q:=hi;split at hi'
   ·next hr=>
    split at hi'
    ·next id hid=>
     refine ⟨?_,by omega,by show i<=P.globals.size+sp.pre.ka;omega⟩;rw [Et hr.1 (by omega) hid];exact hi'
    ·cases hi'
   ·cases hi'
 have hvs:=CP (ka:=sp.pre.ka) C _ _ _ hbs m4 hv;refine jV.mono (hrun w0 bT w vs ⟨_,hF,hvs⟩) ?_;rintro v w' ⟨us,rfl,η2,hF2,hv2⟩
 have aiy:zL r σ1 sp.pre.gn sp.pre.ka=true:=by
  have:∀n i,(∀j,i < j->j<=i+n->∃id,bY j r=some (some id)/\id∉fz)->zL r σ i n=true->zL r σ1 i n=true:=by
   intro n;induction n with
   | zero=>intro i _ _;rfl
   | succ n ih=>
    intro i hnf h;simp only [zL,aI] at h ⊢;obtain ⟨id,h1,h2⟩:=hnf (i+1) (by omega) (by omega);refine ⟨?_,ih (i+1) (λj a b=>hnf j (by omega) (by omega)) h.2⟩;have h3:=h.1;rw [h1] at h3 ⊢;simp only at h3 ⊢;show (match (kills σ fz).get id with | some (.cells _ _ _ _)=>true | _=>false)=true
    rw [Af,ah h2];exact h3
  refine this _ _ (λj a b=>?_) hm3;obtain ⟨id,c,et,rX,opn,g1,g2⟩:=Si hm3 j a b;exact ⟨id,g1,aiV id (abj g1)⟩
 obtain ⟨η',hst,hvr⟩:=St.als (T:=T) (tabs:=T.tabs) (G:=sp.pre.gn) (ka:=sp.pre.ka) rfl m1 f2.rel m3 (by rw [H8];exact hlk2) aiy q1 q2 q3 hval hF2 hv2;have hst':=f2.trans hst;rw [UR,H8] at hst';rw [UR] at hvr;exact ⟨η',hst',ad9 hvr⟩
def U9 (P:Program) (tabs:List (Nat×List AV)) (pl:jJ) (specs:List (Nat×bD)) (fuel:Nat) (st:List (Option FuncId)) (sp:bD) (ntmps:Nat) (res:List ResultVar) (ac:AC) (ns:List Nd) (ds:List (Nat×Bool)) (lf:Leaf):Bool:=
 match lf with
 | .ret (tn::l)=>match @uq ⟨ns,ds,sp.pre.ka⟩ (AU P tabs ⟨ns,ds,sp.pre.ka⟩ specs) (Fq P ⟨ns,ds,sp.pre.ka⟩ pl fuel) ac { t:=xG (uO st (AV.oJ (λj=>j) sp.pre.args)) 0 .nil,n:=max (uO st (AV.oJ (λj=>j) sp.pre.args)).length ntmps,gn:=P.globals.size } (sp.pre.AQ tabs λj=>j) with
  | some (e,a',σ')=>(match e with | .exit _=>false | _=>true)&&match yG P σ' a' res with
   | some rs=>match ns[tn]? with
    | some (.ci .i64 t)=>match sp.posts[t.toNat]? with
     | some (_,s)=>decide (0<=t)&&(s.ok&&(Nat.beq s.ka sp.pre.ka&&(match zW sp.pre.np s.al l with
      | some l2=>Nat.beq l2.length s.np&&(match @ahF ⟨ns,ds,sp.pre.ka⟩ P s rs σ' with
       | ⟨r,_,fz⟩=>Ju r s.gn s.ka&&@Pz ⟨ns,ds,sp.pre.ka⟩ P s rs σ' fz r l2)
      | none=>false)))
     | none=>false
    | _=>false
   | none=>false
  | none=>false
 | _=>false
theorem I9.KP {tabs:List (Nat×List AV)} (hlow:sO tabs P.globals.size) (hm:P.follows .mixedOrders=true) (hn:uh P) {pl:jJ} {I:gu} (hpl:wG P tabs I pl) {specs:List (Nat×bD)} {fuel:Nat} {f:FuncId} {fn:Func} {c:Code} {pe:List Nat} {st:List (Option FuncId)} {sp:bD} {n:Nat} (hnp:n=sp.pre.np) {t:Tree}
 (hf:P.funcs[f]? = some fn) (hc:fn.body=some c)
 (Ei:∀k sp',bY k specs=some sp'->sp'.pre.ok=true/\∀b,(kR pe c).nJ k b->∀gs out,I sp'.key gs=some out->sH P tabs b sp'.pre sp'.posts gs out)
 (uJ:t.chk (U9 P tabs pl specs fuel st sp fn.ntmps fn.results.toList (kR pe c)) (List.replicate sp.pre.np .arg) []=true) {gs out:List GV} (hd:(aJ.tree n t).den I gs=some out):I9 P tabs f st sp.pre sp.posts gs out:=by
 simp only [aJ.den] at hd;split at hd;rotate_left
 ·cases hd
 next hlen=>
 subst hnp;obtain ⟨ns,ds,env,lf,h1,h2,⟨more,h3⟩,h4⟩:=Tree.Gy t uJ (zK.start I gs _ hlen) hd;let T:aG:=Tw tabs I sp.pre.ka h2
 unfold U9 at h1;split at h1;rotate_left
 ·cases h1
 next tn l=>
 split at h1;rotate_left
 ·cases h1
 next e a' σ' hrun=>
 rw [aI] at h1;obtain ⟨he,h1⟩:=h1;split at h1;rotate_left
 ·cases h1
 next rs hrs=>
 split at h1;rotate_left
 ·cases h1
 next tt htn=>
 split at h1;rotate_left
 ·cases h1
 next e' s hpost=>
 rw [aI,aI,aI,decide_eq_true_iff] at h1;obtain ⟨c1,c2,c3,h1⟩:=h1;split at h1;rotate_left
 ·cases h1
 next l2 hl2=>
 rw [aI] at h1;obtain ⟨c4,h1⟩:=h1;have c3:=bC c3;have c4:=bC c4;split at h1;next r pp fz hfit=>
 rw [aI] at h1;obtain ⟨c5,c6⟩:=h1;unfold Pz at c6;simp only [aI,iW] at c6;obtain ⟨⟨⟨⟨m1,m2⟩,m3⟩,m4⟩,m5⟩:=c6;have m1:=bC m1;have h4':valsOf (λn=>env[n]?) (tn::l)=some out:=h4;simp only [valsOf] at h4';split at h4';rotate_left
 ·cases h4'
 next g r0 hg hr0=>
 cases h4';obtain ⟨rest,hrest,hex⟩:=Oc h3 hlen hl2 hr0;obtain ⟨g',k1,k2⟩:=h2.node tn _ htn (by simp);have hg':env[tn]? = some g:=hg;rw [hg'] at k1;cases k1;simp only [Nd.den,aT] at k2;subst k2;unfold fU.ok at c2;rw [aI,aI] at c2;obtain ⟨⟨_,hbs⟩,Ef⟩:=c2;have hbs:AV.og s.next s.args=true:=by
  have:∀l:List (Nat×AV),BD s.next l=true->AV.og s.next (l.map (·.2))=true:=by
   intro l;induction l with
   | nil=>intro _;rfl
   | cons a l ih=>intro h;simp only [BD,aI] at h;simp only [ji,AV.og,aI];exact ⟨h.1,ih h.2⟩
  exact this _ hbs
 refine ⟨tt.toNat,r0,rest,e',s,by rw [Int.toNat_of_nonneg c1],hpost,hex,by rw [<- c4];exact XF hrest,λw0 dD w vs hA=>?_⟩;have Ht:∀Q:dP->aV->ak->Prop,Q e a' σ'->@AT T P c { t:=xG (uO st (AV.oJ (λj=>j) sp.pre.args)) 0 .nil,n:=max (uO st (AV.oJ (λj=>j) sp.pre.args)).length fn.ntmps,gn:=P.globals.size } (sp.pre.AQ tabs λj=>j) Q:=by
  intro Q hq;have:=@RX P T (AU P tabs ⟨ns,ds,sp.pre.ka⟩ specs) (Fq P ⟨ns,ds,sp.pre.ka⟩ pl fuel) (WY (T:=T) hm hn (hpl T rfl rfl) fuel) (kR pe c) (wM pe c 0).2 (λk b hk a σ e1 a1 σ1 hs Q' hq'=>by
   unfold AU at hs;split at hs
   ·next sp' hsp=>
    obtain ⟨k1,k2⟩:=Ei k sp' hsp;exact U3 (T:=T) rfl hlow k1 (λgs out hI=>k2 b hk gs out hI) hs hq'
   ·cases hs) _ _ _ _ _ hrun Q hq
  rwa [show (kR pe c).erase=c from (wM pe c 0).1] at this
 have henv:∀j g,gs[j]? = some g->T.val ((λj=>j) j)=some g:=by
  intro j g hj;show env[j]? = some g
  rw [h3];have:=(dS.1 hj).1;rw [kM this];exact hj
 obtain ⟨η,hF0,hv0⟩:=hA;have hF1:=aaP (T:=T) (f:=λj=>j) rfl rfl henv hF0;have hv1:@ay T η (AV.oJ (λj=>j) sp.pre.args) vs:=ay.dL (S:=Tg tabs gs sp.pre.ka) (T:=T) henv _ _ hv0;have key:Calls P f ⟨uP st vs⟩ w λen w'=>∃v,en=.returned v/\∃us,v=zq us/\IZ P tabs s rest w0 dD us w':=by
  letI:=T
  have hv2:ay η (uO st (AV.oJ (λj=>j) sp.pre.args)) (uP st vs):=Qc hv1;refine calls_of_wp hf hc ?_;refine Ht (λe2 a2 σ2=>e2=e/\a2=a'/\σ2=σ') ⟨rfl,rfl,rfl⟩ w0 dD η w _ _ hF1 rfl (Ti hv2) ?_;rintro e2 a2 σ2 η1 A' w' ⟨rfl,rfl,rfl⟩ hF hl0 ht
  obtain ⟨us,r1,r2⟩:=Lc hF.rel ht (fun | .tmp t=>pure (A'.tmps.getD t undef) | .cell a t=>do loadVar t (<- asAddr (A'.tmps.getD a undef))) (λ_=>rfl) (λ_ _=>rfl) _ _ hrs;obtain ⟨bT,f1,f2,f3⟩:=Ov hF hl0 fz;have C:uf T P tabs s.gn s.next η1 σ2 w' fz r l2 rest bT:=⟨hF.rel,hrest,f1,f3,m1,by omega⟩
  obtain ⟨hR,hown⟩:=Vl (ka:=s.ka) (T:=T) rfl hlow Ef (by omega) m1 C f2.rel.iH (λid o q b2 b3 b4 b5=>f2.rel.jS id o q (by rw [Af,ah b2];exact b3) b4 b5) m3 m5;have hvs:=CP (ka:=s.ka) C _ _ _ hbs m4 r2;have hA':IZ P tabs s rest w0 dD us w':=by
   refine ⟨_,@jd.mk (Tg tabs rest s.ka) P w0 dD _ _ w' hR hF.kept ?_ f2.rW f2.pR ?_,hvs⟩
   ·intro i o q a1 a2 a3
    obtain ⟨id,u,b1,b2,b3,b4,b5⟩:=hown i o q a1 a2 a3;exact hF.own id u q b3 b4 b5
   ·intro i q hi
    obtain ⟨a1,a2,a3⟩:=hF.ou i q hi;have a3':i<=P.globals.size+s.ka:=by rw [c3];exact a3
    refine ⟨?_,a2,a3'⟩;rw [Et (by omega) (by omega) (Sj c5 i (by omega) (by omega))];exact a1
  have hres':(results fn A'.tmps).run P w'=.ok (if h:(⟨us⟩:Array Value).size=1 then (⟨us⟩:Array Value)[0] else .tuple ⟨us⟩) w':=by
   unfold results;rw [Rk];simp only [aQ,RN];exact sU (λr:Result (List Value)=>(r.andThen λa w'=>Result.ok a.toArray w').andThen λa w'=>Sem.run P (pure (if h:a.size=1 then a[0] else Value.tuple a)) w') r1
  have UA:(if h:(⟨us⟩:Array Value).size=1 then (⟨us⟩:Array Value)[0] else .tuple ⟨us⟩)=zq us:=by
   match us with
   | []=>rfl
   | [u]=>rfl
   | u::u'::us=>rfl
  rw [UA] at hres'
  have hpost:A'.defers=[]/\∃v,(results fn A'.tmps).run P w'=.ok v w'/\∃v',Ending.returned v=.returned v'/\∃us,v'=zq us/\IZ P tabs s rest w0 dD us w':=
   ⟨ht.none,_,hres',_,rfl,us,rfl,hA'⟩
  cases e2 with
  | normal=>exact hpost
  | ret=>exact hpost
  | exit id=>simp at he
 right;refine ⟨?_,Calls.mono' key ?_⟩
 ·have hname:=hn f fn c hf hc
  simp only [callFunc,aQ,program,Sem.run,aP,hf];simp only [hname,gQ,if_false,hc,Gh,bg]
 ·rintro en w' ⟨v,rfl,h5⟩
  exact ⟨v,rfl,h5⟩
end
end Go.aN
namespace Go.aN
set_option linter.unusedSimpArgs false
noncomputable section
set_option linter.unusedSectionVars false
set_option linter.unusedVariables false
variable {P:Program} {H:Type} {enc:TypeId×Value->H}
inductive bI where
 | bool
 | int (k:IntKind)
 | str
 | list (agg:Bool) (e:List bI)
def fieldTys (P:Program) (r:TypeId->Option (List bI)):Nat->List Field->Option (List bI)
 | _,[]=>some []
 | off,f::fs=>match r f.type with
  | some l=>if Nat.beq f.offset off&&Nat.beq (P.cellsOf f.type) l.length then match fieldTys P r (off+l.length) fs with
   | some m=>some (l++m)
   | none=>none
   else none
  | none=>none
def zQ (P:Program):Nat->TypeId->Option (List bI)
 | 0,_=>none
 | n+1,t=>match P.underlying t with
  | some .bool=>some [.bool]
  | some (.int k)=>some [.int k]
  | some .string=>some [.str]
  | some (.slice e)=>match zQ P n e,nS P e with
   | some l,some b=>if Nat.beq (P.cellsOf e) l.length&&Nat.ble 1 l.length&&Nat.ble 1 (P.bytesOf e)&&(b || Nat.beq l.length 1) then some [.list b l] else none
   | _,_=>none
  | some (.struct fs)=>match fieldTys P (zQ P n) 0 fs.toList with
   | some l=>if Nat.beq (P.cellsOf t) l.length then some l else none
   | none=>none
  | _=>none
mutual
def bI.has:bI->GV->Prop
 | .bool,g=>∃b,g=.b b
 | .int k,g=>∃n,g=.i k n/\k.min<=n/\n<=k.max
 | .str,g=>∃s,g=.s s/\s.length<=reachBytes
 | .list agg e,g=>∃xs,g=.l xs/\xs.length<=reachBytes/\∀x∈xs,bI.iC e x.cells/\x.scalar = !agg
def bI.iC:List bI->List GV->Prop
 | [],gs=>gs=[]
 | t::ts,gs=>∃g r,gs=g::r/\bI.has t g/\bI.iC ts r
end
theorem bI.has.scalar {t:bI} {g:GV} (h:t.has g):g.scalar=true:=by
 cases t<;>simp only [bI.has] at h
 ·obtain ⟨b,rfl⟩:=h;rfl
 ·obtain ⟨b,rfl,_⟩:=h;rfl
 ·obtain ⟨b,rfl,_⟩:=h;rfl
 ·obtain ⟨b,rfl,_⟩:=h;rfl
theorem bI.iC.scalars:∀ {l:List bI} {gs:List GV},bI.iC l gs->gs.all GV.scalar=true/\gs.length=l.length
 | [],gs,h=>by simp only [bI.iC] at h;subst h;exact ⟨rfl,rfl⟩
 | t::l,gs,h=>by
  simp only [bI.iC] at h;obtain ⟨g,r,rfl,h1,h2⟩:=h;have:=bI.iC.scalars h2;simp [h1.scalar,this.1,this.2]
theorem bI.iC.append:∀ {l m:List bI} {gs hs:List GV},bI.iC l gs->bI.iC m hs->bI.iC (l++m) (gs++hs)
 | [],m,gs,hs,h,h'=>by simp only [bI.iC] at h;subst h;simpa using h'
 | t::l,m,gs,hs,h,h'=>by
  simp only [bI.iC] at h;obtain ⟨g,r,rfl,h1,h2⟩:=h;simp only [dW,bI.iC];exact ⟨g,r++hs,rfl,h1,bI.iC.append h2 h'⟩
theorem aO.append {ro:Nat->Option Obj}:∀ {l m:List GV} {vs us:List Value},aO ro l vs->aO ro m us->aO ro (l++m) (vs++us)
 | [],m,vs,us,h,h'=>by simp only [aO] at h;subst h;simpa using h'
 | a::l,m,vs,us,h,h'=>by
  simp only [aO] at h;obtain ⟨x,xs,rfl,h1,h2⟩:=h;simp only [dW,aO];exact ⟨x,xs++us,rfl,h1,aO.append h2 h'⟩
theorem aev:∀ {e:TypeId} {ds:List (DataW H)} {d:DataW H},d∈ds->∀z∈d.weights P e,z∈DataW.weightsAll P e ds
 | e,[],d,h,z,_=>by simp at h
 | e,d0::ds,d,h,z,hz=>by
  simp only [DataW.weightsAll,lX];rcases bZ.1 h with rfl | h
  ·exact .inl hz
  ·exact .inr (aev h z hz)
def xR (w:World):Nat->Option Obj:=λb=>w.heap[b]?
theorem cell?_at {w:World} {a:Addr} {v:Value} (h:w.cell? a=some v):a.spot=none/\∃c elem fr,w.heap[a.block]? = some (.cells c elem fr)/\c[a.off]? = some v:=by
 unfold World.cell? at h;split at h
 ·next c elem fr hb=>
  split at h
  ·cases h
  ·next hs=>exact ⟨by simpa using hs,c,elem,fr,hb,h⟩
 ·cases h
theorem aaG {w:World} {r:TypeId->Option (List bI)} {fuel:Nat} {cs:List Value}
 (ih:∀t l ch (x:DataW H×List MemPlace),r t=some l->DataW.trod enc P w 0 (λ_=>true) true fuel t ch=some x->(∀z∈x.1.weights P t,z<=reachBytes)->∃gs,aO (xR w) gs ch/\bI.iC l gs) :
 ∀ (fs:List Field) (xs:List (DataW H×List MemPlace)) (off:Nat) (l:List bI),fieldTys P r off fs=some l->xs.length=fs.length->
  (∀ (i:Nat) (f:Field),fs[i]? = some f->DataW.trod enc P w 0 (λ_=>true) true fuel f.type ((cs.drop f.offset).take (P.cellsOf f.type))=xs[i]?)->
  (∀z∈DataW.weightsEach P (fs.map (·.type)) (xs.map (·.1)),z<=reachBytes)->
  ∃gs,aO (xR w) gs ((cs.drop off).take l.length)/\bI.iC l gs
 | [],xs,off,l,h,_,_,_=>by
  simp only [fieldTys,aT] at h;subst h;exact ⟨[],by simp [aO],by simp [bI.iC]⟩
 | f::fs,[],off,l,_,hl,_,_=>by simp at hl
 | f::fs,x::xs,off,l,h,hl,hx,hw=>by
  simp only [fieldTys] at h;split at h
  ·next l1 h1=>
   split at h
   ·next hc=>
    rw [aI] at hc;have e1:=bC hc.1;have e2:=bC hc.2;split at h
    ·next m hm=>
     cases h;have h0:=hx 0 f rfl;simp only [iI] at h0;obtain ⟨gs,g1,g2⟩:=ih f.type l1 _ x h1 h0 (λz hz=>hw z (by simp only [ji,DataW.weightsEach,lX];exact .inl hz))
     obtain ⟨hs,k1,k2⟩:=aaG ih fs xs (off+l1.length) m hm (by simpa using hl) (λi f' hf=>by have:=hx (i+1) f' (by simpa using hf);simpa using this)
      (λz hz=>hw z (by simp only [ji,DataW.weightsEach,lX];exact .inr hz))
     refine ⟨gs++hs, ?_,g2.append k2⟩;rw [e1,e2] at g1;have:(cs.drop off).take (l1++m).length=(cs.drop off).take l1.length++(cs.drop (off+l1.length)).take m.length:=by
      rw [dQ,zG,oW]
     rw [this];exact aO.append g1 k1
    ·cases h
   ·cases h
  ·cases h
theorem aan {c:Nat} {ch:Nat->List Value} {arr:Array Value} {off:Nat}:∀ (n:Nat) (_:∀i,i < n->(ch i).length=c/\∀j,j < c->arr[off+i * c+j]? = (ch i)[j]?),
 ((List.range n).flatMap ch).length=n * c/\∀ (k:Nat) x,((List.range n).flatMap ch)[k]? = some x->arr[off+k]? = some x
 | 0,_=>by simp
 | n+1,h=>by
  obtain ⟨h1,h2⟩:=aan n λi hi=>h i (by omega);obtain ⟨e1,e2⟩:=h n (by omega);rw [List.range_succ,Yd];simp only [jf,List.flatMap_nil,nK];refine ⟨by rw [dQ,h1,e1,qL,Dv],λk x hk=>?_⟩;by_cases hlt:k < n * c
  ·rw [kM (by omega)] at hk
   exact h2 k x hk
  ·rw [tZ (by omega),h1] at hk
   have hj:=(dS.1 hk).1;have:=e2 (k - n * c) (by omega);rw [hk] at this;rw [<- this];congr 1;omega
theorem aO.ofFn {ro:Nat->Option Obj} {G:Nat->GV} {Y:Nat->Value}:∀ (l:List Nat),(∀i∈l,GR ro (G i) (Y i))->aO ro (l.map G) (l.map Y)
 | [],_=>by simp [aO]
 | i::l,h=>by simp only [ji,aO];exact ⟨_,_,rfl,h i (by simp),aO.ofFn l λj hj=>h j (by simp [hj])⟩
theorem Xy {w:World}:∀ (n m:Nat) (t:TypeId) (cs:List Value) (x:DataW H×List MemPlace) (l:List bI),zQ P n t=some l->DataW.trod enc P w 0 (λ_=>true) true m t cs=some x->
 (∀z∈x.1.weights P t,z<=reachBytes)->∃gs,aO (xR w) gs cs/\bI.iC l gs
 | 0,m,t,cs,x,l,hc,h,hw=>by simp [zQ] at hc
 | n+1,m,t,cs,x,l,hc,h,hw=>by
  simp only [zQ] at hc;split at hc
  ·next hu=>
   cases hc;obtain ⟨b,rfl,rfl⟩:=DataW.trod_bool hu h;exact ⟨[.b b],by simp [aO,GR],by simp only [bI.iC];exact ⟨_,_,rfl,by simp [bI.has],rfl⟩⟩
  ·next k hu=>
   cases hc;obtain ⟨b,rfl,rfl,hwf⟩:=DataW.trod_int hu h;have hwf':k.min<=b/\b<=k.max:=by simpa [Lit.wf] using hwf
   exact ⟨[.i k b],by simp [aO,GR],by simp only [bI.iC];exact ⟨_,_,rfl,by simp only [bI.has];exact ⟨b,rfl,hwf'⟩,rfl⟩⟩
  ·next hu=>
   cases hc;obtain ⟨s,rfl,rfl,hs⟩:=DataW.trod_string hu h;refine ⟨[.s s.data.toList],by simp only [aO,GR];exact ⟨_,_,rfl,by cases s with | mk a=>cases a;rfl,rfl⟩,by simp only [bI.iC];exact ⟨_,_,rfl,by simp only [bI.has];exact ⟨_,rfl,hw _ (by simp [DataW.weights])⟩,rfl⟩⟩
  ·next e hu=>
   split at hc
   ·next le agg he hag=>
    split at hc
    ·next hcond=>
     cases hc;simp only [aI,mP] at hcond;obtain ⟨⟨⟨c1,c2⟩,c3⟩,c4⟩:=hcond;have c1:=bC c1;have c2:=qM c2;have c3:=qM c3;rcases Deep.open_slice hu h with ⟨rfl,rfl⟩ | ⟨a,len,cap0,cap,n',D,Pl,rfl,hb,hl,hm,rfl,rfl,hi⟩
     ·exact ⟨[.l []],by simp [aO,GR],by simp only [bI.iC];exact ⟨_,_,rfl,by simp only [bI.has];exact ⟨[],rfl,by simp,by simp⟩,rfl⟩⟩
     have aiS:cap * P.bytesOf e<=reachBytes:=by
      have:=hw (cap * P.bytesOf e) (by simp only [DataW.weights,hu,bZ,wC,List.length_range];left;rw [Me hl]);exact this
     have hcapR:cap<=reachBytes:=iR (aeO _ c3) aiS;have one:∀i,i < len->∃ch gs,(ch.length=P.cellsOf e/\∀j,j < P.cellsOf e->w.cell? (((a.add (i * P.cellsOf e))).add j)=ch[j]?)/\aO (xR w) gs ch/\bI.iC le gs:=by
      intro i hil;obtain ⟨ch,h1,h2⟩:=hi i (by omega);obtain ⟨_,h3,h4⟩:=World.cells?_some h1;obtain ⟨gs,g1,g2⟩:=Xy n n' e ch _ le he h2 (λz hz=>hw z (by
       simp only [DataW.weights,hu,bZ,lX];right;left;exact aev (by simp only [nM,xB];exact ⟨i,hil,rfl⟩) z hz))
      exact ⟨ch,gs,⟨h3,h4⟩,g1,g2⟩
     by_cases hz:cap=0
     ·have hlz:len=0:=by omega
      subst hz;subst hlz;refine ⟨[.l []],by simp only [aO,GR];exact ⟨_,_,rfl,.inl ⟨trivial,_,rfl⟩,rfl⟩,by simp only [bI.iC];exact ⟨_,_,rfl,by simp only [bI.has];exact ⟨[],rfl,by simp,by simp⟩,rfl⟩⟩
     have ha:a.spot=none/\∃arr elem fr,w.heap[a.block]? = some (.cells arr elem fr):=by
      obtain ⟨ch,h1,h2⟩:=hi 0 (by omega);obtain ⟨_,h3,h4⟩:=World.cells?_some h1;have h5:=h4 0 (by omega);have hch:ch[0]? = some ch[0]:=bU (by omega);rw [hch] at h5;have h6:=cell?_at h5;simp only [Nat.zero_mul,Addr.add,if_true] at h6;exact ⟨h6.1,h6.2.choose,h6.2.choose_spec.choose,h6.2.choose_spec.choose_spec.choose,h6.2.choose_spec.choose_spec.choose_spec.1⟩
     obtain ⟨hsp,arr,elem,fr,hblk⟩:=ha;obtain ⟨bl,off,sp⟩:=a;simp only at hsp hblk;subst hsp;have addr:∀i j:Nat,((Addr.mk bl off none).add i).add j=⟨bl,off+i+j,none⟩:=by
      intro i j;unfold Addr.add;split<;>split<;>simp_all
     have hex:∃ (ch:Nat->List Value) (G:Nat->List GV),∀i,i < len->(ch i).length=P.cellsOf e/\(∀j,j < P.cellsOf e->arr[off+i * P.cellsOf e+j]? = (ch i)[j]?)/\aO (xR w) (G i) (ch i)/\bI.iC le (G i):=by
      refine ⟨λi=>if hil:i < len then (one i hil).choose else [],λi=>if hil:i < len then (one i hil).choose_spec.choose else [],λi hil=>?_⟩;simp only [dif_pos hil];obtain ⟨⟨h1,h2⟩,h3,h4⟩:=(one i hil).choose_spec.choose_spec;refine ⟨h1,λj hj=>?_,h3,h4⟩;have:=h2 j hj;rw [addr] at this;rw [<- this];have hch:=bU (l:=(one i hil).choose) (i:=j) (by omega);rw [hch] at this;have h6:=cell?_at this;simp only at h6;obtain ⟨_,c',e',f',h7,h8⟩:=h6;rw [hblk] at h7;cases h7;rw [this,h8]
     obtain ⟨ch,G,hG⟩:=hex;obtain ⟨q1,q2⟩:=aan (c:=P.cellsOf e) (ch:=ch) (arr:=arr) (off:=off) len λi hil=>⟨(hG i hil).1,λj hj=>(hG i hil).2.1 j hj⟩
     have hgl:∀i,i < len->(G i).length=le.length:=λi hil=>(hG i hil).2.2.2.scalars.2;let X:Nat->GV:=λi=>if agg then .g (G i) else (G i).headD (.l [])
     let Y:Nat->Value:=λi=>if agg then .agg ⟨ch i⟩ else (ch i).headD undef
     have hX:∀i,i < len->(X i).cells=G i/\(X i).scalar = !agg/\GR (xR w) (X i) (Y i)/\(Y i).cells.toList=ch i:=by
      intro i hil;obtain ⟨p1,p2,p3,p4⟩:=hG i hil;cases agg with
      | true=>simp only [X,Y,if_true];exact ⟨rfl,rfl,by simp only [GR];exact ⟨_,rfl,p3⟩,rfl⟩
      | false=>
       have hle1:le.length=1:=by simpa using c4
       obtain ⟨g,hg⟩:∃g,G i=[g]:=Ru.1 (by rw [hgl i hil,hle1]);obtain ⟨y,hy⟩:∃y,ch i=[y]:=Ru.1 (by rw [p1,c1,hle1]);have hsc:g.scalar=true:=by have:=p4.scalars.1;rw [hg] at this;simpa using this
       have Hy:GR (xR w) g y:=by rw [hg,hy] at p3;simp only [aO] at p3;obtain ⟨u,us,e1,e2,_⟩:=p3;cases e1;exact e2
       simp only [X,Y,hg,hy,List.headD_cons,gQ,if_false,Bool.not_false];refine ⟨by cases g<;>first | rfl | (simp [GV.scalar] at hsc),hsc,Hy, ?_⟩;cases g<;>simp only [GR] at Hy
       ·subst Hy;rfl
       ·subst Hy;rfl
       ·subst Hy;rfl
       ·rcases Hy with ⟨_,_,rfl⟩ | ⟨_,_,_,_,_,rfl,_⟩<;>rfl
       ·simp [GV.scalar] at hsc
     refine ⟨[.l ((List.range len).map X)], ?_, ?_⟩
     ·simp only [aO]
      refine ⟨_,_,rfl, ?_,rfl⟩;simp only [GR];right;have aa9:dw ((List.range len).map Y)=(List.range len).flatMap ch:=by
       unfold dw;rw [List.flatMap_map];rw [List.flatMap_def,List.flatMap_def,List.map_congr_left λi hir=>(hX i (xB.1 hir)).2.2.2]
      refine ⟨bl,off,cap,(List.range len).map Y,P.cellsOf e,by simp,by simpa using hl,aO.ofFn _ λi hir=>(hX i (xB.1 hir)).2.2.1, ?_,λhne=>⟨arr,elem,fr,hblk, ?_, ?_⟩⟩
      ·intro y hy
       obtain ⟨i,hir,rfl⟩:=nM.1 hy;have:=(hX i (xB.1 hir)).2.2.2;rw [<- FX,this];exact (hG i (xB.1 hir)).1
      ·rw [aa9,q1]
       have hlp:0 < len:=by
        rcases RJ len with h0 | h0
        ·subst h0;simp at hne
        ·exact h0
       have hcp:0 < P.cellsOf e:=by omega
       have hk:len * P.cellsOf e - 1 < ((List.range len).flatMap ch).length:=by
        rw [q1];have:0 < len * P.cellsOf e:=Jk hlp hcp;omega
       have:=q2 _ _ (bU hk);have:=(oQ.1 this).1;have:0 < len * P.cellsOf e:=Jk hlp hcp;omega
      ·rw [aa9];exact q2
     ·simp only [bI.iC]
      refine ⟨_,_,rfl, ?_,rfl⟩;simp only [bI.has];refine ⟨_,rfl,by simp;omega,λy hy=>?_⟩;obtain ⟨i,hir,rfl⟩:=nM.1 hy;obtain ⟨k1,k2,_⟩:=hX i (xB.1 hir);rw [k1];exact ⟨(hG i (xB.1 hir)).2.2.2,k2⟩
    ·cases hc
   ·cases hc
  ·next fs hu=>
   split at hc
   ·next l' hf=>
    split at hc
    ·next hcl=>
     cases hc;have hcl:=bC hcl;obtain ⟨xs,n',rfl,rfl,hlen,hxl,hx⟩:=DataW.trod_struct hu h
     obtain ⟨gs,g1,g2⟩:=aaG (enc:=enc) (P:=P) (w:=w) (fuel:=n') (cs:=cs) (r:=zQ P n) (λt l ch x h1 h2 h3=>Xy n n' t ch x l h1 h2 h3) fs.toList xs 0 l hf (by simpa using hxl)
      (λi f hi=>hx i f (by simpa using hi)) (λz hz=>hw z (by simp only [DataW.weights,hu];simpa using hz))
     refine ⟨gs, ?_,g2⟩;rw [eH,mQ (by omega)] at g1;exact g1
    ·cases hc
   ·cases hc
  ·cases hc
def argTys (P:Program) (n:Nat):List TypeId->Option (List (Bool×List bI))
 | []=>some []
 | t::ts=>match zQ P n t,nS P t,argTys P n ts with
  | some l,some b,some r=>if b || Nat.beq l.length 1 then some ((b,l)::r) else none
  | _,_,_=>none
def hasArgs:List (Bool×List bI)->List GV->Prop
 | [],gs=>gs=[]
 | (b,l)::r,gs=>∃g gs',gs=g::gs'/\bI.iC l g.cells/\g.scalar = !b/\hasArgs r gs'
theorem alx {w:World} {r:Reach} {b0:Nat} {t:TypeId} {v:Value} (h:Value.okWide P w r b0 t v):(nS P t=some true->∃cs,v=.agg cs)/\
 (nS P t=some false->v.cells = #[v]\/∀n,zQ P n t=none):=by
 unfold Value.okWide at h;unfold nS;constructor
 ·intro ha
  split at ha
  ·next hu=>rw [hu] at h;simp only at h;obtain ⟨cs,rfl,_⟩:=h;exact ⟨cs,rfl⟩
  ·next hu=>rw [hu] at h;simp only at h;obtain ⟨cs,rfl,_⟩:=h;exact ⟨cs,rfl⟩
  ·cases ha
  ·cases ha
 ·intro ha
  split at ha
  ·cases ha
  ·cases ha
  ·next u h1 h2 hu=>
   rw [hu] at h
   cases u<;>first
    | (exact absurd rfl (h1 _))
    | (exact absurd rfl (h2 _ _))
    | (right;intro n;cases n<;>simp [zQ,hu];done)
    | (left;simp only [Cell.okWide,hu,Cell.ok] at h;cases v<;>first | rfl | (simp only at h;done) | (cases h;done))
  ·cases ha
theorem ad7 {w:World} {n:Nat}:∀ {ts:List TypeId} {vs:List Value} {ds:List (DataW H)} {ps:List MemPlace} {L:List (Bool×List bI)},argTys P n ts=some L->DataW.TrodAll enc P w 0 (λ_=>true) true ts vs ds ps->
 (∀z∈DataW.weightsEach P ts ds,z<=reachBytes)->(∀ (j:Nat) t v,ts[j]? = some t->vs[j]? = some v->∃b0,Value.okWide P w .any b0 t v)->∃gs,aO (xR w) gs vs/\hasArgs L gs
 | [],[],[],ps,L,hL,h,hw,hok=>by simp only [argTys,aT] at hL;subst hL;exact ⟨[],by simp [aO],by simp [hasArgs]⟩
 | t::ts,v::vs,d::ds,ps,L,hL,h,hw,hok=>by
  obtain ⟨p,q,⟨m,h1⟩,h2,rfl⟩:=h;simp only [argTys] at hL;split at hL
  ·next l b r hc hag hr=>
   split at hL
   ·next hb=>
    cases hL;obtain ⟨gs,g1,g2⟩:=Xy n m t _ _ l hc h1 (λz hz=>hw z (by simp only [DataW.weightsEach,lX];exact .inl hz));obtain ⟨hs,k1,k2⟩:=ad7 hr h2 (λz hz=>hw z (by simp only [DataW.weightsEach,lX];exact .inr hz)) (λj t' v' h1 h2=>hok (j+1) t' v' (by simpa using h1) (by simpa using h2));obtain ⟨b0,hv⟩:=hok 0 t v rfl rfl;obtain ⟨o1,o2⟩:=alx hv;cases b with
    | true=>
     obtain ⟨cs,rfl⟩:=o1 hag;refine ⟨.g gs::hs,by simp only [aO];exact ⟨_,_,rfl,by simp only [GR];exact ⟨cs.toList,rfl,g1⟩,k1⟩, ?_⟩;simp only [hasArgs];exact ⟨_,_,rfl,g2,rfl,k2⟩
    | false=>
     have hl1:l.length=1:=by simpa using hb
     rcases o2 hag with o2 | o2
     rotate_left
     ·rw [o2 n] at hc;cases hc
     rw [o2] at g1;obtain ⟨g,rfl⟩:∃g,gs=[g]:=Ru.1 (by rw [g2.scalars.2,hl1]);have hsc:g.scalar=true:=by have:=g2.scalars.1;simpa using this
     simp only [aO] at g1;obtain ⟨u,us,e1,e2,_⟩:=g1;cases e1;refine ⟨g::hs,by simp only [aO];exact ⟨_,_,rfl,e2,k1⟩, ?_⟩;simp only [hasArgs];exact ⟨_,_,rfl,by cases g<;>first | exact g2 | (simp [GV.scalar] at hsc),hsc,k2⟩
   ·cases hL
  ·cases hL
 | [],_::_,_,_,_,_,h,_,_=>by simp [DataW.TrodAll] at h
 | [],[],_::_,_,_,_,h,_,_=>by simp [DataW.TrodAll] at h
 | _::_,[],_,_,_,_,h,_,_=>by simp [DataW.TrodAll] at h
 | _::_,_::_,[],_,_,_,h,_,_=>by simp [DataW.TrodAll] at h
theorem Kept.below {W W':World} (h:Kept W W'):Go.RowKit.Below W.heap.size W W':=⟨h.os,h.tape,h.output,h.size,h.keep⟩
theorem ad8 {W W':World} (hl:laidOutB P=true) (hk:Kept W W') {sp:Nat->Bool}:∀ {ts:List TypeId} {vs:List Value} {ds:List (DataW H)} {ps:List MemPlace},DataW.TrodAll enc P W 0 (λ_=>true) true ts vs ds ps->
 (∀t∈ts,P.readableRec t=true/\t < P.types.size)->(∀x∈ps,x.block < W.heap.size)->(∀x∈ps,sp x.block=true)->DataW.TrodAll enc P W' 0 sp true ts vs ds ps
 | [],[],[],ps,h,_,_,_=>h
 | t::ts,v::vs,d::ds,ps,h,hr,hlt,hsp=>by
  obtain ⟨p,q,h1,h2,rfl⟩:=h;obtain ⟨r1,r2⟩:=hr t (by simp)
  exact ⟨p,q,WideElems.Trod_stays hl r1 r2 h1 (λx hx=>hk.below.same (hlt x (List.mem_append_left _ hx))) (λx hx=>hsp x (List.mem_append_left _ hx)),
   ad8 hl hk h2 (λt' ht=>hr t' (by simp [ht])) (λx hx=>hlt x (aeK _ hx)) (λx hx=>hsp x (aeK _ hx)),rfl⟩
 | [],_::_,_,_,h,_,_,_=>by simp [DataW.TrodAll] at h
 | [],[],_::_,_,h,_,_,_=>by simp [DataW.TrodAll] at h
 | _::_,[],_,_,h,_,_,_=>by simp [DataW.TrodAll] at h
 | _::_,_::_,[],_,h,_,_,_=>by simp [DataW.TrodAll] at h
end
end Go.aN
namespace Go.aN
set_option linter.unusedSimpArgs false
open Go.ChangeShapes Go.WideShapes Go.ChangeAt Go.RowKit
noncomputable section
set_option linter.unusedSectionVars false
set_option linter.unusedVariables false
variable {P:Program}
theorem afJ {T0:aG} {call:Caller} {f:FuncId} {σ0 σ':ak} (hcall:@qF T0 P call) (h0:@yC T0 σ0 P.globals.size) (hrun:call f [] σ0=some (.b true,σ')) {ro:Nat->Option Obj} {w:World} (hro:wH T0.tabs ro w) :
 jV P f ⟨[]⟩ w λv w'=>v=.bool true/\Kept w w':=by
 letI:=T0
 have hS:SR P (vN P.globals.size σ0 ro) σ0 w:=Jr h0.1 (λid o ho=>by
  obtain ⟨c,rfl,hm,hle⟩:=h0.2 id o ho;obtain ⟨cs,elem,fr,h1,h2,h3⟩:=hro.tab _ hm;exact ⟨hle,c,rfl,⟨cs,elem,fr,hro.at' _ _ h1,h2,h3⟩⟩) hro.at' (λp hp=>hro.tab p hp)
 refine jV.mono (hcall f [] σ0 _ _ hrun _ w [] hS rfl) ?_;rintro v w' ⟨η',hst,hr⟩
 simp only [VR] at hr;exact ⟨hr,hst.kept h0.own⟩
theorem alJ {T:aG} {f:FuncId} (h:∀ro w,wH T.tabs ro w->jV P f ⟨[]⟩ w λv w'=>v=.bool true/\Kept w w'):@dY T P f EG:=by
 letI:=T
 intro args σ r σ1 hs η w vs hS hv;unfold EG at hs;split at hs
 ·cases hs
  simp only [ay] at hv;subst hv;refine jV.mono (h η.ro w hS.Qj) ?_;rintro v w' ⟨rfl,hk⟩
  exact ⟨η,St.acD hS hk,by simp only [VR]⟩
 ·cases hs
theorem ajL {H:Type} {enc:TypeId×Value->H} {tabs:List (Nat×List AV)} {f:FuncId} {fn:Func} {c:Code} {s:ChangeSpec} {n:Nat} {L:List (Bool×List bI)} {tb:TypeId} {again:Bool} (hn:uh P) (hf:P.funcs[f]? = some fn) (hc:fn.body=some c)
 (hL:argTys P n fn.params.toList=some L) (hlaid:laidOutB P=true) (hread:∀t∈fn.params.toList,P.readableRec t=true/\t < P.types.size) (hr:fn.resultTypes = #[tb]) (htb:P.underlying tb=some .bool)
 (hvars:s.vars=[]) (hs:∀ds:List (DataW H),ds.length=fn.params.size->s.fn H ds = { results:=[.lit (.bool true)],args:=ds })
 (aiR:∀gs,hasArgs L gs->sD P tabs f [] [.sc] gs [.b true]) {W:World} {base:Nat} {args:Array Value} {ds gs:List (DataW H)} {before:List MemPlace}
 (hval:∀ (j:Nat) t v,fn.params[j]? = some t->args[j]? = some v->Value.okWide P W .any base t v)
 (hW:DataW.Whole enc P fn.params.toList s.vars false W args.toList ds gs before) {vt:List TypeId} (hvt:vt=[]) (hsz0:(DataW.weightsEach P (fn.params.toList++vt) (ds++gs)).all (·<=reachBytes)=true) (hro:wH tabs (xR W) W) :
 Calls P f args W λe W'=>∃v,e=.returned v/\s.post enc P fn false true false again W args v W':=by
 letI:aG:=Tg [] [] 0
 have hW':=hW;have hlt:=λp hp=>hW.lt p hp;obtain ⟨p,q,hA,hV,rfl,hfz,hnd⟩:=hW;have hV':=hV;rw [hvars] at hV;obtain ⟨rfl,rfl⟩:=trodVars_none hV;have hsz:∀z∈DataW.weightsEach P fn.params.toList ds,z<=reachBytes:=by
  subst hvt;rw [nK,nK,List.all_eq_true] at hsz0;exact λz hz=>by simpa using hsz0 z hz
 obtain ⟨gl,g1,g2⟩:=ad7 hL hA hsz (λj t v h1 h2=>⟨base,hval j t v (by simpa using h1) (by simpa using h2)⟩);have hcall:=(aiR gl g2).call (xR W) W args.toList hro g1;have aa6:=jV.calls hn hf hc hcall;have hput:(⟨uP [] args.toList⟩:Array Value)=args:=by simp [uP]
 rw [hput] at aa6;have hdl:ds.length=fn.params.size:=by
  have:∀ {ts:List TypeId} {vs:List Value} {ds:List (DataW H)} {ps:List MemPlace},DataW.TrodAll enc P W 0 (λ_=>true) true ts vs ds ps->ds.length=ts.length:=by
   intro ts;induction ts with
   | nil=>intro vs ds ps h;cases vs<;>cases ds<;>simp [DataW.TrodAll] at h ⊢
   | cons t ts ih=>intro vs ds ps h;cases vs<;>cases ds<;>simp [DataW.TrodAll] at h ⊢;obtain ⟨_,_,_,h2,_⟩:=h;exact ih h2
  simpa using this hA
 refine Calls.mono' aa6 ?_;rintro e W' ⟨v,rfl,ro',hstep,us,rfl,hus⟩
 simp only [aO] at hus;obtain ⟨u,us',rfl,hu,rfl⟩:=hus;simp only [GR] at hu;subst hu;have hfn:s.fn H (ds++[]) = { results:=[.lit (.bool true)],args:=ds }:=by rw [nK];exact hs ds hdl
 simp only [nK] at hW' hlt;refine ⟨_,rfl,amo (pa:=p) (pv:=[]) hW' (λ_ _ _=>?_) (λsp hsp=>?_) (λ_ _=>?_) (by simp) hstep.kept (ok_one (by rw [hr]) rfl (okWide_bool_mk htb _))⟩
 ·rw [hfn,hr];exact trodAll_cons_mk (shut_bool htb _) trodAll_mk0
 ·rw [hfn];exact ad8 hlaid hstep.kept hA hread hlt hsp
 ·rw [hfn,hvars];rfl
def AC.nU:AC->Nat->Option Code
 | .plain _,_=>none
 | .seq x y,k=>match x.nU k with
  | some b=>some b
  | none=>y.nU k
 | .cond _ y z,k=>match y.nU k with
  | some b=>some b
  | none=>z.nU k
 | .block _ x,k=>x.nU k
 | .loop k' b,k=>if Nat.beq k' k then some b else none
 | .peel x k' b,k=>if Nat.beq k' k then some b else x.nU k
theorem AC.CO {k:Nat} {b:Code}:∀ {x:AC},x.nU k=some b->x.nJ k b
 | .plain _,h=>by simp [AC.nU] at h
 | .seq x y,h=>by
  simp only [AC.nU] at h;split at h
  ·next hx=>cases h;exact .inl (AC.CO hx)
  ·exact .inr (AC.CO h)
 | .cond _ x y,h=>by
  simp only [AC.nU] at h;split at h
  ·next hx=>cases h;exact .inl (AC.CO hx)
  ·exact .inr (AC.CO h)
 | .block _ x,h=>AC.CO (x:=x) h
 | .loop k' b',h=>by
  simp only [AC.nU] at h;split at h
  ·next e=>cases h;exact ⟨Nat.eq_of_beq_eq_true e,rfl⟩
  ·cases h
 | .peel x k' b',h=>by
  simp only [AC.nU] at h;split at h
  ·next e=>cases h;exact .inl ⟨Nat.eq_of_beq_eq_true e,rfl⟩
  ·exact .inr (AC.CO h)
theorem DI (ps:List Nat):∀ (c:Code) (n:Nat),n<=(jK ps c n).2/\∀k b,(jK ps c n).1.nJ k b->(n<=k/\k < (jK ps c n).2)/\(jK ps c n).1.nU k=some b
 | .seq x y,n=>by
  obtain ⟨h1,h2⟩:=DI ps x n;obtain ⟨h3,h4⟩:=DI ps y (jK ps x n).2;simp only [jK,AC.nJ,AC.nU];refine ⟨by omega,λk b h=>?_⟩;rcases h with h | h
  ·obtain ⟨r,e⟩:=h2 k b h;exact ⟨by omega,by rw [e]⟩
  ·obtain ⟨r,e⟩:=h4 k b h
   refine ⟨by omega, ?_⟩;cases hx:(jK ps x n).1.nU k with
   | none=>exact e
   | some b'=>have:=(h2 k b' (AC.CO hx)).1;omega
 | .cond _ x y,n=>by
  obtain ⟨h1,h2⟩:=DI ps x n;obtain ⟨h3,h4⟩:=DI ps y (jK ps x n).2;simp only [jK,AC.nJ,AC.nU];refine ⟨by omega,λk b h=>?_⟩;rcases h with h | h
  ·obtain ⟨r,e⟩:=h2 k b h;exact ⟨by omega,by rw [e]⟩
  ·obtain ⟨r,e⟩:=h4 k b h
   refine ⟨by omega, ?_⟩;cases hx:(jK ps x n).1.nU k with
   | none=>exact e
   | some b'=>have:=(h2 k b' (AC.CO hx)).1;omega
 | .block id x,n=>DI ps x n
 | .loop x,n=>by
  obtain ⟨h1,h2⟩:=DI ps x (n+1);simp only [jK];split
  ·exact ⟨by simp,λk b h=>by simp [AC.nJ] at h⟩
  ·split
   ·simp only [AC.nJ,AC.nU]
    refine ⟨by omega,λk b h=>?_⟩;rcases h with ⟨rfl,rfl⟩ | h
    ·exact ⟨by omega,by simp⟩
    ·obtain ⟨r,e⟩:=h2 k b h
     refine ⟨by omega, ?_⟩;have:Nat.beq n k=false:=by cases hb:Nat.beq n k with | false=>rfl | true=>have:=bC hb;omega
     rw [this];exact e
   ·simp only [AC.nJ,AC.nU]
    refine ⟨by omega,λk b h=>?_⟩;obtain ⟨rfl,rfl⟩:=h;exact ⟨by omega,by simp⟩
 | .skip,n | .region _ _ _,n | .rangeFunc _ _ _ _,n | .exit _,n | .scope _,n | .label _,n | .goto _,n | .ret,n | .refuse _,n=>⟨Nat.le_refl _,λk b h=>by simp [jK,AC.nJ] at h⟩
theorem aj1 {ps:List Nat} {c:Code} {k:Nat} {b:Code} (h:(kR ps c).nJ k b):(kR ps c).nU k=some b:=((DI ps c 0).2 k b h).2
def uw:Code->List (List Nat×Nat)->Code
 | c,[]=>c
 | c,(ps,k)::r=>uw (((kR ps c).nU k).getD .skip) r
theorem aff {ps:List Nat} {c:Code} {k:Nat} {b:Code} (h:(kR ps c).nJ k b):uw c [(ps,k)]=b:=by
 simp only [uw,aj1 h,pX]
theorem YW {ps:List Nat} {k:Nat}:∀ (r:List (List Nat×Nat)) (c:Code),uw c (r++[(ps,k)])=uw (uw c r) [(ps,k)]
 | [],_=>rfl
 | (_,_)::r,_=>YW r _
abbrev Dn:=List GV->List GV->Prop
def I7 (Cs:List Dn) (k:Nat) (gs out:List GV):Prop:=match Cs[k]? with
 | some c=>c gs out
 | none=>False
def wI (Ds:List aJ):gJ:=λk=>Ds[k]?
def F5 (C:Nat->List GV->List GV->Prop) (d:aJ) (c:Dn):Prop:=∀I:gu,(∀k gs out,I k gs=some out->C k gs out)->∀gs out,d.den I gs=some out->c gs out
def FV (C:Nat->List GV->List GV->Prop):List aJ->List Dn->Prop
 | [],[]=>True
 | d::ds,c::cs=>F5 C d c/\FV C ds cs
 | _,_=>False
theorem FV.at {C:Nat->List GV->List GV->Prop}:∀ {ds:List aJ} {cs:List Dn},FV C ds cs->∀ {k:Nat} {d:aJ},ds[k]? = some d->∃c,cs[k]? = some c/\F5 C d c
 | [],[],_,k,d,hd=>by simp at hd
 | d0::ds,c0::cs,h,k,d,hd=>by
  cases k with
  | zero=>simp at hd;subst hd;exact ⟨c0,rfl,h.1⟩
  | succ k=>obtain ⟨c,h1,h2⟩:=FV.at h.2 (k:=k) (by simpa using hd);exact ⟨c,by simpa using h1,h2⟩
 | [],_::_,h,_,_,_=>h.elim
 | _::_,[],h,_,_,_=>h.elim
theorem ajQ {Ds:List aJ} {Cs:List Dn} (h:FV (I7 Cs) Ds Cs):∀k gs out,(wI Ds).lim k gs=some out->I7 Cs k gs out:=by
 refine gJ.ajR λk d hk I hI gs out hd=>?_;obtain ⟨c,h1,h2⟩:=h.at hk;unfold I7;rw [h1];exact h2 I hI gs out hd
def zJ (P:Program) (tabs:List (Nat×List AV)) (I:gu) (ac:AC) (specs:List (Nat×bD)):Prop:=
 ∀k sp',bY k specs=some sp'->sp'.pre.ok=true/\∀b,ac.nJ k b->∀gs out,I sp'.key gs=some out->sH P tabs b sp'.pre sp'.posts gs out
theorem zJ.nil {tabs:List (Nat×List AV)} {I:gu} {ac:AC}:zJ P tabs I ac []:=λk sp' h=>by simp [bY] at h
theorem zJ.cons {tabs:List (Nat×List AV)} {I:gu} {ps:List Nat} {c:Code} {k:Nat} {sp:bD} {specs:List (Nat×bD)} (hok:sp.pre.ok=true) (hb:∀gs out,I sp.key gs=some out->sH P tabs (uw c [(ps,k)]) sp.pre sp.posts gs out)
 (r:zJ P tabs I (kR ps c) specs):zJ P tabs I (kR ps c) ((k,sp)::specs):=by
 intro k' sp' h;simp only [bY] at h;cases e:Nat.beq k' k with
 | true=>
  rw [e] at h;cases h;have e:=bC e;subst e;exact ⟨hok,λb hb' gs out hI=>by rw [<- aff hb'];exact hb gs out hI⟩
 | false=>rw [e] at h;exact r k' sp' h
theorem sH.alv {tabs:List (Nat×List AV)} (hlow:sO tabs P.globals.size) (hm:P.follows .mixedOrders=true) (hn:uh P) {pl:jJ} {I:gu} (hpl:wG P tabs I pl) {specs:List (Nat×bD)} {fuel:Nat} {sp:bD} (hok:sp.pre.ok=true) {n:Nat} (hnp:n=sp.pre.np)
 {ps:List Nat} {b:Code} {t:Tree} (Ei:zJ P tabs I (kR ps b) specs) (hself:∀gs out,I sp.key gs=some out->sH P tabs b sp.pre sp.posts gs out)
 (uJ:t.chk (Pe P tabs pl specs fuel sp (kR ps b)) (List.replicate sp.pre.np .arg) []=true) {gs out:List GV} (hd:(aJ.tree n t).den I gs=some out):sH P tabs b sp.pre sp.posts gs out:=by
 simp only [aJ.den] at hd;split at hd
 ·next hlen=>exact sH.KP hlow hm hn hpl hok Ei hself uJ (by rw [hlen,hnp]) hd
 ·cases hd
def PL.nil:jJ:=λ_=>[]
def PL.cons (f:FuncId) (p:fQ->eU) (l:jJ):jJ:=λN=>(f,p N)::l N
theorem PL.aly {tabs:List (Nat×List AV)} {I:gu}:wG P tabs I PL.nil:=λT _ _ p hp=>by simp [PL.nil] at hp
theorem PL.VD {tabs:List (Nat×List AV)} {I:gu} {f:FuncId} {p:fQ->eU} {l:jJ} (h:∀T:aG,T.tabs=tabs->T.I=I->@dY T P f (p T.tofQ)) (hl:wG P tabs I l):wG P tabs I (PL.cons f p l):=by
 intro T hT hI q hq;rcases bZ.1 hq with rfl | hq
 ·exact h T hT hI
 ·exact hl T hT hI q hq
def VF (p q:eU):eU:=λargs σ=>match p args σ with
 | some r=>some r
 | none=>q args σ
theorem alF {T:aG} {f:FuncId} {p q:eU} (hp:@dY T P f p) (hq:@dY T P f q):@dY T P f (VF p q):=by
 letI:=T
 intro args σ r σ' hs;unfold VF at hs;split at hs
 ·next r0 h0=>cases hs;exact hp args σ r σ' h0
 ·exact hq args σ r σ' hs
end
end Go.aN
