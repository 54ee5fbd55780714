/- Loops by contract: the step that the evaluator takes at a loop, and how a loop's contract is proved. -/
import Derived.Test.YtcpfjpcdcafjmaaGreatDoorAbsI
import Derived.ChangeArms
import Derived.Deep.Slices
import Derived.Carry
import Derived.Test.YtcpfjpcdcafjmaaGreatDoorAbsH
import Derived.ProofKit
import Derived.OpenShut
import Derived.Deep.DeepHandedRow
namespace Go.aN
set_option linter.unusedSimpArgs false
noncomputable section
set_option linter.unusedSectionVars false
set_option linter.unusedVariables false
variable {P:Program}
structure US where
 r:List (Nat×Option Nat)
 p:List (Nat×Nat)
 fz:List Nat
def US.CS (u:US) (j m:Nat):US:=match bW j u.p with
 | some _=>u
 | none=>{ u with p:=(j,m)::u.p }
def US.Lj (u:US) (i:Nat) (x:Option Nat):US:=match bW i u.r with
 | some _=>u
 | none=>{ u with r:=(i,x)::u.r }
section
variable [gq]
def F9 (P:Program) (σ:aj) (a:AV):Option (Nat×Option Nat):=
 match gU a with
 | some m=>some (m,none)
 | none=>match a with
   | .sv id _=>match σ.get id with
     | some (.vec m _ _)=>some (m,some id)
     | _=>none
   | .sl id off len cap=>match σ.get id with
     | some (.cells _ et _ _)=>(listOf P σ et (.sl id off len cap)).map λm=>(m,some id)
     | _=>none
   | _=>none
mutual
def uV (P:Program) (G:Nat) (σ:aj):AV->AV->US->US
 | .nd j,a,u=>match F9 P σ a with
   | some (m,some id)=>{ u.CS j m with fz:=id::u.fz }
   | some (m,none)=>u.CS j m
   | none=>u
 | .sv i _,a,u=>match a with
   | .sv id _=>u.Lj i (some id)
   | .bP=>u.Lj i none
   | _=>u
 | .p i _,a,u=>match a with
   | .p id _=>if i<=G then u else u.Lj i (some id)
   | _=>u
 | .mp i,a,u=>match a with
   | .mp id=>u.Lj i (some id)
   | _=>u
 | .rx j _,a,u=>match a with
   | .rx m _=>u.CS j m
   | _=>u
 | .fn _ fi cs,a,u=>match a with
   | .fn _ fi' cs'=>BM P G σ cs cs' (BM P G σ fi fi' u)
   | _=>u
 | .agg l,a,u=>match a with
   | .agg l'=>BM P G σ l l' u
   | _=>u
 | .dA l,a,u=>match a with
   | .dA l'=>BM P G σ l l' u
   | _=>u
 | .ig _ x,a,u=>match a with
   | .ig _ x'=>uV P G σ x x' u
   | _=>u
 | _,_,u=>u
def BM (P:Program) (G:Nat) (σ:aj):List AV->List AV->US->US
 | [],_,u=>u
 | a::l,m,u=>match m with
   | b::m'=>BM P G σ l m' (uV P G σ a b u)
   | []=>u
end
def ac2 (P:Program) (G:Nat) (σ:aj) (t:Tr AV):List (Nat×AV)->US->US
 | [],u=>u
 | p::l,u=>ac2 P G σ t l (match t.get p.1 with | some v=>uV P G σ p.2 v u | none=>u)
def Ph (P:Program) (G:Nat) (σ:aj):List (Nat×bg)->US->US
 | [],u=>u
 | p::l,u=>Ph P G σ l (match bW p.1 u.r with
   | some (some id)=>match p.2,σ.get id with
     | .cells c _ _ _,some (.cells c' _ _ _)=>BM P G σ c c' u
     | .vec j _ _,some (.vec m _ _)=>u.CS j m
     | .smap j _ _,some (.smap m _ _)=>u.CS j m
     | .smap j _ _,some (.map [])=>match dU (.ml []) with
       | some m=>u.CS j m
       | none=>u
     | _,_=>u
   | some none=>match p.2 with
     | .vec j _ _=>match dU (.ml []) with
       | some m=>u.CS j m
       | none=>u
     | _=>u
   | none=>u)
def UM (p:List (Nat×Nat)):Nat->Nat->Option (List Nat)
 | _,0=>some []
 | j,n+1=>match bW j p,UM p (j+1) n with
   | some m,some r=>some (m::r)
   | _,_=>none
def Qe:Nat->Nat->List (Nat×Option Nat)
 | _,0=>[]
 | i,n+1=>(i+1,some (i+1))::Qe (i+1) n
def fit (P:Program) (s:fJ) (a:aX) (σ:aj):US:=Ph P s.gn σ s.objs (ac2 P s.gn σ a.t s.slots ⟨Qe s.gn s.ka,[],[]⟩)
def fits (P:Program) (s:fJ) (a:aX) (σ:aj) (ps:List Nat):Bool:=Nat.beq ps.length s.np&&match fit P s a σ with
 | ⟨r,_,fz⟩=>Tv P s a σ fz r ps
structure bK where
 key:Nat
 pre:fJ
 posts:List (dH×fJ)
def DX (tag:Nat):List (dH×fJ)->Nat->Option (dH×fJ)
 | [],_=>none
 | [p],_=>some p
 | p::q::l,t=>match dU (.ci .i64 t) with
   | some c=>match dU (.bin .eql tag c) with
     | some b=>match QL b with
       | some true=>some p
       | some false=>DX tag (q::l) (t+1)
       | none=>none
     | none=>none
   | none=>none
def yP (key:Nat) (ps:List Nat):List (Option Nat)->Nat->Nat->Option (List Nat)
 | _,_,0=>some []
 | some i::al,j,n+1=>match ps[i]?,yP key ps al j n with
   | some m,some r=>some (m::r)
   | _,_=>none
 | none::al,j,n+1=>match dU (.call key ps j),yP key ps al (j+1) n with
   | some m,some r=>some (m::r)
   | _,_=>none
 | [],j,n+1=>match dU (.call key ps j),yP key ps [] (j+1) n with
   | some m,some r=>some (m::r)
   | _,_=>none
def SQ (P:Program) (tabs:List (Nat×List AV)) (sp:bK) (a:aX) (σ:aj):Option (dH×aX×aj):=
 match UM (fit P sp.pre a σ).p 0 sp.pre.np with
 | some ps=>if fits P sp.pre a σ ps then
    match dU (.call sp.key ps 0) with
    | some tag=>match DX tag sp.posts 0 with
      | some (e,s)=>if Nat.beq s.ka gq.ka then match yP sp.key ps s.al 1 s.np with
        | some ns=>some (e,s.KY (λj=>ns.getD j 0),s.Ag tabs (λj=>ns.getD j 0))
        | none=>none
        else none
      | none=>none
    | none=>none
   else none
 | none=>none
end
def qK:List (Option Nat)->List GV->List GV->Option (List GV)
 | [],_,r=>some r
 | some i::al,gs,r=>match gs[i]?,qK al gs r with
   | some g,some l=>some (g::l)
   | _,_=>none
 | none::al,gs,x::r=>match qK al gs r with
   | some l=>some (x::l)
   | none=>none
 | none::_,_,[]=>none
def zG (np:Nat):List (Option Nat)->List Nat->Option (List Nat)
 | [],r=>some r
 | some i::al,r=>bif Nat.blt i np then (match zG np al r with
   | some l=>some (i::l)
   | none=>none) else none
 | none::al,x::r=>match zG np al r with
   | some l=>some (x::l)
   | none=>none
 | none::_,[]=>none
def CG (np:Nat) (l:List Nat):List (Option Nat)->Bool
 | []=>true
 | none::al=>CG np l al
 | some i::al=>Nat.blt i np&&((match l[i]? with | some m=>Nat.beq m i | none=>false)&&CG np l al)
def KZ (np:Nat) (l:List Nat):List (dH×fJ)->Bool
 | []=>true
 | p::ps=>CG np l p.2.al&&KZ np l ps
theorem Wh {val:Nat->Option GV}:∀ {l:List Nat} {gs:List GV},valsOf val l=some gs->∀ (i m:Nat),l[i]? = some m->gs[i]? = val m
 | [],gs,h,i,m,hm=>by simp at hm
 | x::l,gs,h,i,m,hm=>by
   simp only [valsOf] at h;split at h
   ·next g r h5 h6=>
    cases h;cases i with
    | zero=>simp at hm;subst hm;simp [h5]
    | succ i=>simpa using Wh h6 i m (by simpa using hm)
   ·cases h
theorem L6 {np:Nat} {gs env more:List GV} (henv:env=gs++more) (hn:gs.length=np):∀ {al:List (Option Nat)} {l l2:List Nat} {r:List GV},zG np al l=some l2->valsOf (λn=>env[n]?) l=some r->∃rest,valsOf (λn=>env[n]?) l2=some rest/\qK al gs r=some rest
 | [],l,l2,r,h,hv=>by simp only [zG,aT] at h;subst h;exact ⟨r,hv,rfl⟩
 | some i::al,l,l2,r,h,hv=>by
   simp only [zG] at h;cases hb:Nat.blt i np with
   | false=>rw [hb] at h;cases h
   | true=>
     rw [hb] at h;simp only [cond_true] at h;rw [iK] at hb;split at h
     ·next l3 h3=>
      cases h;obtain ⟨rest,h4,h5⟩:=L6 henv hn h3 hv;have hi:env[i]? = some (gs[i]'(by omega)):=by rw [henv,lg (by omega),dK (by omega)]
      refine ⟨gs[i]'(by omega)::rest, ?_, ?_⟩
      ·simp only [valsOf,hi,h4]
      ·simp only [qK,h5,dK (show i < gs.length by omega)]
     ·cases h
 | none::al,[],l2,r,h,hv=>by simp [zG] at h
 | none::al,x::l,l2,r,h,hv=>by
   simp only [zG] at h;split at h
   ·next l3 h3=>
    cases h;simp only [valsOf] at hv;split at hv
    ·next g r' h6 h7=>
     cases hv;obtain ⟨rest,h4,h5⟩:=L6 henv hn h3 h7;exact ⟨g::rest,by simp only [valsOf,h6,h4],by simp only [qK,h5]⟩
    ·cases hv
   ·cases h
theorem Q5 {np:Nat} {gs env more gs':List GV} (henv:env=gs++more) (hn:gs.length=np) {l:List Nat} (hv:valsOf (λn=>env[n]?) l=some gs'):∀ {al:List (Option Nat)},CG np l al=true->∀r,qK al gs' r=qK al gs r
 | [],_,r=>rfl
 | none::al,h,[]=>rfl
 | none::al,h,x::r=>by
   simp only [CG] at h;simp only [qK,Q5 henv hn hv h r]
 | some i::al,h,r=>by
   simp only [CG,aH,iK] at h;obtain ⟨h1,h2,h3⟩:=h;split at h2
   ·next m hm=>
    have:=bn h2;subst this;have h4:gs'[m]? = gs[m]?:=by
     rw [Wh hv m m hm];show env[m]? = gs[m]?
     rw [henv,lg (by omega)]
    simp only [qK,Q5 henv hn hv h3 r,h4]
   ·cases h2
theorem Xp {np:Nat} {l:List Nat}:∀ {posts:List (dH×fJ)},KZ np l posts=true->∀p∈posts,CG np l p.2.al=true
 | q::posts,h,p,hp=>by
   simp only [KZ,aH] at h;rcases dP.1 hp with rfl | hp
   ·exact h.1
   ·exact Xp h.2 p hp
def qW (P:Program) (tabs:List (Nat×List AV)) (b:Code) (pre:fJ) (posts:List (dH×fJ)) (gs out:List GV):Prop:=
 ∃ (t:Nat) (r rest:List GV) (e:dH) (s:fJ),out=GV.i .i64 t::r/\posts[t]? = some (e,s)/\qK s.al gs r=some rest/\rest.length=s.np/\∀w0 cu A w K,KE P tabs pre gs w0 cu A w->(∀A' w',KE P tabs s rest w0 cu A' w'->K e.toExit A' w')->xU P b K A w
theorem Ui {T:aF} {tag:Nat} {t0:Nat} (htag:T.val tag=some (.i .i64 (t0:Nat))):∀ (l:List (dH×fJ)) (t:Nat) {p:dH×fJ},@DX T.togq tag l t=some p->t<=t0->∀q,l[t0 - t]? = some q->p=q
 | [],t,p,h,_,q,hq=>by simp [DX] at h
 | [x],t,p,h,hle,q,hq=>by
   simp only [DX,aT] at h;cases hd:t0 - t with
   | zero=>rw [hd] at hq;simp at hq;rw [<- h,hq]
   | succ n=>rw [hd] at hq;simp at hq
 | x::y::l,t,p,h,hle,q,hq=>by
   letI:=T
   simp only [DX] at h;split at h
   ·next c hc=>
    split at h
    ·next b hb=>
     obtain ⟨g1,k1,k2⟩:=fG hc;simp only [Nd.den,aT] at k2;subst k2;obtain ⟨g2,m1,m2⟩:=fG hb;have aht:aF.val tag=some (.i .i64 (t0:Nat)):=htag;simp only [Nd.den,aht,k1,fM,if_true,fO,aT] at m2;split at h
     ·next hd=>
      cases h;have:=T.yE b true (IV hd);have Tt:T.val b=some g2:=m1;rw [Tt] at this;cases this;simp at m2;have:t0 - t=0:=by omega
      rw [this] at hq;simpa using hq
     ·next hd=>
      have:=T.yE b false (IV hd);have Tt:T.val b=some g2:=m1;rw [Tt] at this;cases this;simp at m2;have e:t0 - t=(t0 - (t+1))+1:=by omega
      rw [e,qw] at hq;exact Ui htag (y::l) (t+1) h (by omega) q hq
     ·cases h
    ·cases h
   ·cases h
theorem Jz {T:aF} {key:Nat} {ps:List Nat} {gs out:List GV} (hps:valsOf T.val ps=some gs) (hI:T.I key gs=some out):∀ (n j:Nat) (al:List (Option Nat)) {ns:List Nat} {r rest:List GV},(∀k:Nat,r[k]? = out[j+k]?)->qK al gs r=some rest->@yP T.togq key ps al j n=some ns->ns.length=n/\∀ (i m:Nat),ns[i]? = some m->T.val m=rest[i]?
 | 0,j,al,ns,r,rest,_,_,h=>by
   letI:=T
   have:ns=[]:=by unfold yP at h;simpa using h.symm
   subst this;simp
 | n+1,j,some i0::al,ns,r,rest,hr,he,h=>by
   letI:=T
   simp only [yP] at h;simp only [qK] at he;split at he
   ·next g l hg hl=>
    cases he;split at h
    ·next m r' hm hr'=>
     cases h;obtain ⟨h1,h2⟩:=Jz hps hI n j al hr hl hr';refine ⟨by simp [h1],λi m' hi=>?_⟩;cases i with
     | zero=>
       simp at hi;subst hi;have:=Wh hps i0 m hm;rw [iH,<- hg];exact this.symm
     | succ i=>simpa using h2 i m' (by simpa using hi)
    ·cases h
   ·cases he
 | n+1,j,none::al,ns,[],rest,hr,he,h=>by simp [qK] at he
 | n+1,j,none::al,ns,x::r,rest,hr,he,h=>by
   letI:=T
   simp only [yP] at h;simp only [qK] at he;split at he
   ·next l hl=>
    cases he;split at h
    ·next m r' hm hr'=>
     cases h;obtain ⟨h1,h2⟩:=Jz hps hI n (j+1) al (r:=r) (λk=>by
      have:=hr (k+1);rw [qw] at this;rw [this];congr 1;omega) hl hr'
     refine ⟨by simp [h1],λi m' hi=>?_⟩;cases i with
     | zero=>
       simp at hi;subst hi;obtain ⟨g,k1,k2⟩:=fG hm;have Sj:valsOf aF.val ps=some gs:=hps;have hI':aF.I key gs=some out:=hI;simp only [Nd.den,Sj,hI'] at k2;have k1':T.val m=some g:=k1;have:=hr 0;simp only [iH,lZ] at this;rw [k1',iH,this];exact k2.symm
     | succ i=>simpa using h2 i m' (by simpa using hi)
    ·cases h
   ·cases he
 | n+1,j,[],ns,r,rest,hr,he,h=>by
   letI:=T
   simp only [yP] at h;simp only [qK,aT] at he;subst he;split at h
   ·next m r' hm hr'=>
    cases h;obtain ⟨h1,h2⟩:=Jz hps hI n (j+1) [] (r:=r.tail) (λk=>by
     have:=hr (k+1);rw [List.getElem?_tail,this];congr 1;omega) rfl hr'
    refine ⟨by simp [h1],λi m' hi=>?_⟩;cases i with
    | zero=>
      simp at hi;subst hi;obtain ⟨g,k1,k2⟩:=fG hm;have Sj:valsOf aF.val ps=some gs:=hps;have hI':aF.I key gs=some out:=hI;simp only [Nd.den,Sj,hI'] at k2;have k1':T.val m=some g:=k1;have:=hr 0;rw [lZ] at this;rw [k1',this];exact k2.symm
    | succ i=>
      have:=h2 i m' (by simpa using hi);rw [this,List.getElem?_tail]
   ·cases h
theorem SS {T:aF} {tabs:List (Nat×List AV)} (qL:T.tabs=tabs) (hlow:qZ tabs P.globals.size) {sp:bK} (hok:sp.pre.ok=true) {b:Code} (hC:∀gs out,T.I sp.key gs=some out->qW P tabs b sp.pre sp.posts gs out)
 {a a':aX} {σ σ':aj} {e:dH} (h:@SQ T.togq P tabs sp a σ=some (e,a',σ')) {Q:dH->aX->aj->Prop} (hq:Q e a' σ'):@yZ T P b a σ Q:=by
 letI:=T
 unfold SQ at h;split at h
 ·next ps hps=>
  split at h
  ·next hfit=>
   split at h
   ·next tag htag=>
    split at h
    ·next e' s hpick=>
     split at h;rotate_left
     ·cases h
     next Sz=>
     have Sz:=bn Sz;split at h
     ·next ns hns=>
      cases h;obtain ⟨gt,t1,t2⟩:=fG htag;simp only [Nd.den] at t2;split at t2
      ·next gs hgs=>
       split at t2
       ·next out hI=>
        obtain ⟨t,r,rest,e2,s2,rfl,hp2,hex,hrl,hrun⟩:=hC gs out hI;simp only [iH,aT] at t2;subst t2;have hpe:=Ui t1 sp.posts 0 hpick (yg _) (e2,s2) (by simpa using hp2);cases hpe;obtain ⟨n1,n2⟩:=Jz hgs hI _ 1 s.al (r:=r) (λk=>by rw [Hu,qw]) hex hns;intro w0 cu η w A K hF hl ht hK;unfold fits at hfit;rw [aH] at hfit;have hst:=TB qL hlow hok hF hl ht hfit.2 hgs;refine hrun w0 cu A w K hst λA' w' hs'=>?_;obtain ⟨η',hF',ht'⟩:=VD (T:=T) (f:=λj=>ns.getD j 0) qL Sz.symm (λj g hj=>by
         have hjl:j < ns.length:=by have:=(dO.1 hj).1;omega
         have hm:ns[j]? = some (ns.getD j 0):=by rw [uU,dK hjl];rfl
         rw [n2 j _ hm];exact hj) hs'
        exact hK e _ _ η' A' w' hq hF' rfl ht'
       ·cases t2
      ·cases t2
     ·cases h
    ·cases h
   ·cases h
  ·cases h
 ·cases h
theorem V9 {val:Nat->Option GV}:∀ {l:List Nat} {gs:List GV},valsOf val l=some gs->gs.length=l.length
 | [],gs,h=>by simp only [valsOf,aT] at h;subst h;rfl
 | x::l,gs,h=>by
   simp only [valsOf] at h;split at h
   ·next h5 h6=>cases h;simp [V9 h6]
   ·cases h
def dH.eq:dH->dH->Bool
 | .normal,.normal=>true
 | .ret,.ret=>true
 | .exit a,.exit b=>Nat.beq a b
 | _,_=>false
theorem dH.eq_of {a b:dH} (h:a.eq b=true):a=b:=by
 cases a<;>cases b<;>first | rfl | (cases h;done) | skip
 rw [bn h]
abbrev jK:=gq->List (FuncId×dX)
def uZ (P:Program) (tabs:List (Nat×List AV)) (I:fP) (pl:jK):Prop:=∀T:aF,T.tabs=tabs->T.I=I->∀p∈pl T.togq,@dS T P p.1 p.2
def Ea (P:Program) (N:gq) (pl:jK) (fuel:Nat):Code->aX->aj->Option (dH×aX×aj):=@AQ N P (KH P) (UL (pl N)) fuel
def Ah (P:Program) (tabs:List (Nat×List AV)) (N:gq) (specs:List (Nat×bK)):PY:=λk a σ=>match bW k specs with
 | some sp=>@SQ N P tabs sp a σ
 | none=>none
def Nw (P:Program) (tabs:List (Nat×List AV)) (pl:jK) (specs:List (Nat×bK)) (fuel:Nat) (sp:bK) (ac:AC) (ns:List Nd) (ds:List (Nat×Bool)) (lf:Leaf):Bool:=
 match @sG ⟨ns,ds,sp.pre.ka⟩ (Ah P tabs ⟨ns,ds,sp.pre.ka⟩ specs) (Ea P ⟨ns,ds,sp.pre.ka⟩ pl fuel) ac (sp.pre.KY λj=>j) (sp.pre.Ag tabs λj=>j) with
 | some (e,a',σ')=>match lf with
   | .ret (tn::l)=>match ns[tn]? with
     | some (.ci .i64 t)=>match sp.posts[t.toNat]? with
       | some (e',s)=>decide (0<=t)&&!(e.eq .normal)&&e.eq e'&&s.ok&&(match zG sp.pre.np s.al l with | some l2=>@fits ⟨ns,ds,sp.pre.ka⟩ P s a' σ' l2 | none=>false)
       | none=>false
     | _=>false
   | .tail f l=>Nat.beq f sp.key&&e.eq .normal&&(KZ sp.pre.np l sp.posts&&@fits ⟨ns,ds,sp.pre.ka⟩ P sp.pre a' σ' l)
   | _=>false
 | none=>false
@[reducible] def Tw (tabs:List (Nat×List AV)) (I:fP) (ka:Nat) {ns:List Nd} {ds:List (Nat×Bool)} {env:List GV} (h:zu I ns ds env):aF:={ nodes:=ns,dec:=ds,ka:=ka,tabs:=tabs,I:=I,val:=λn=>env[n]?,oJ:=h.node,yE:=h.dec }
theorem zu.start (I:fP) (gs:List GV) (n:Nat) (h:gs.length=n):zu I (List.replicate n .arg) [] gs:=
 ⟨by simp [h],λk nd hk hn=>absurd (WX.1 (qC hk)).2 hn,λk b hb=>by simp at hb⟩
theorem U6 {T:aF} (hm:P.follows .mixedOrders=true) (hn:rX P) {pl:jK} (hp:∀p∈pl T.togq,@dS T P p.1 p.2) (fuel:Nat):@H8 T P (Ea P T.togq pl fuel):=
 (@Yi T P _ _ (Yz hm) (abE hp) hn fuel).1
theorem qW.Jw {tabs:List (Nat×List AV)} (hlow:qZ tabs P.globals.size) (hm:P.follows .mixedOrders=true) (hn:rX P) {pl:jK} {I:fP} (hpl:uZ P tabs I pl) {specs:List (Nat×bK)} {fuel:Nat} {sp:bK} (hok:sp.pre.ok=true) {ps:List Nat} {b:Code} {t:Tree}
 (Dv:∀k sp',bW k specs=some sp'->sp'.pre.ok=true/\∀c,(lC ps b).mW k c->∀gs out,I sp'.key gs=some out->qW P tabs c sp'.pre sp'.posts gs out)
 (hself:∀gs out,I sp.key gs=some out->qW P tabs b sp.pre sp.posts gs out)
 (sW:t.chk (Nw P tabs pl specs fuel sp (lC ps b)) (List.replicate sp.pre.np .arg) []=true) {gs out:List GV} (hlen:gs.length=sp.pre.np) (hd:t.den I gs=some out):qW P tabs b sp.pre sp.posts gs out:=by
 obtain ⟨ns,ds,env,lf,h1,h2,⟨more,h3⟩,h4⟩:=Tree.ER t sW (zu.start I gs _ hlen) hd;let T:aF:=Tw tabs I sp.pre.ka h2
 unfold Nw at h1;split at h1
 ·next e a' σ' hrun=>
  have Fz:∀Q:dH->aX->aj->Prop,Q e a' σ'->@AT T P b (sp.pre.KY λj=>j) (sp.pre.Ag tabs λj=>j) Q:=by
   intro Q hq;have:=@Qd P T (Ah P tabs ⟨ns,ds,sp.pre.ka⟩ specs) (Ea P ⟨ns,ds,sp.pre.ka⟩ pl fuel) (U6 (T:=T) hm hn (hpl T rfl rfl) fuel) (lC ps b) (vC ps b 0).2 (λk c hk a σ e1 a1 σ1 hs Q' hq'=>by
    unfold Ah at hs;split at hs
    ·next sp' hsp=>
     obtain ⟨k1,k2⟩:=Dv k sp' hsp;exact SS (T:=T) rfl hlow k1 (λgs out hI=>k2 c hk gs out hI) hs hq'
    ·cases hs) _ _ _ _ _ hrun Q hq
   rwa [show (lC ps b).erase=b from (vC ps b 0).1] at this
  have henv:∀j g,gs[j]? = some g->T.val ((λj=>j) j)=some g:=by
   intro j g hj;show env[j]? = some g
   rw [h3];have:=(dO.1 hj).1;rw [lg this];exact hj
  split at h1
  ·next tn l=>
   split at h1
   ·next tt htn=>
    split at h1
    ·next e' s hpost=>
     simp only [aH,decide_eq_true_iff] at h1;obtain ⟨⟨⟨⟨t0,t1⟩,t2⟩,t3⟩,t4⟩:=h1;split at t4;rotate_left
     ·cases t4
     next l2 hl2=>
     have e1:=dH.eq_of t2;subst e1;simp only [valsOf] at h4;split at h4
     ·next g r hg hr0=>
      cases h4;obtain ⟨g',k1,k2⟩:=h2.node tn _ htn (by simp);have hg':env[tn]? = some g:=hg;rw [hg'] at k1;cases k1;simp only [Nd.den,aT] at k2;subst k2;obtain ⟨rest,hrest,hex⟩:=L6 h3 hlen hl2 hr0;have hfl:rest.length=s.np:=by
       unfold fits at t4;rw [aH] at t4;rw [<- bn t4.1];exact V9 hrest
      refine ⟨tt.toNat,r,rest,e,s,by rw [Int.toNat_of_nonneg t0],hpost,hex,hfl,λw0 cu A w K hS hK=>xU.step ?_⟩;obtain ⟨η,hF,ht⟩:=VD (T:=T) (f:=λj=>j) rfl rfl henv hS;refine Fz (λe2 a2 σ2=>e2=e/\a2=a'/\σ2=σ') ⟨rfl,rfl,rfl⟩ w0 cu η w A _ hF rfl ht ?_;rintro e2 a2 σ2 η' A' w' ⟨rfl,rfl,rfl⟩ hF' hl' ht'
      unfold fits at t4;rw [aH] at t4;have hst:=TB (T:=T) rfl hlow t3 hF' hl' ht' t4.2 hrest;have:=hK A' w' hst;cases e2 with
      | normal=>simp [dH.eq] at t1
      | exit id=>exact this
      | ret=>exact this
     ·cases h4
    ·cases h1
   ·cases h1
  ·next f l=>
   simp only [aH] at h1;obtain ⟨⟨t1,t2⟩,t5,t3⟩:=h1;have e1:=dH.eq_of t2;subst e1;have e2:=bn t1;subst e2;obtain ⟨gs',hgs',hI⟩:=h4;obtain ⟨tn,r,rest,e2,s,r1,r2,r5,r3,r4⟩:=hself gs' out hI;refine ⟨tn,r,rest,e2,s,r1,r2,by rw [<- Q5 h3 hlen hgs' (Xp t5 _ (qC r2)) r];exact r5,r3,λw0 cu A w K hS hK=>xU.step ?_⟩;obtain ⟨η,hF,ht⟩:=VD (T:=T) (f:=λj=>j) rfl rfl henv hS;refine Fz (λe2 a2 σ2=>e2=.normal/\a2=a'/\σ2=σ') ⟨rfl,rfl,rfl⟩ w0 cu η w A _ hF rfl ht ?_;rintro e3 a2 σ2 η' A' w' ⟨rfl,rfl,rfl⟩ hF' hl' ht'
   unfold fits at t3;rw [aH] at t3;have hst:=TB (T:=T) rfl hlow hok hF' hl' ht' t3.2 hgs';exact r4 w0 cu A' w' K hst hK
  ·cases h1
 ·cases h1
end
end Go.aN
namespace Go.aN
set_option linter.unusedSimpArgs false
noncomputable section
set_option linter.unusedSectionVars false
set_option linter.unusedVariables false
variable {P:Program}
structure qR (P:Program) (tabs:List (Nat×List AV)) (f:FuncId) (st:List (Option FuncId)) (sh:List ou) (gs out:List GV):Prop where
 call:adB P tabs f st gs out
 fits:nY sh out=true
section
variable [gq]
def ru (P:Program) (σ:aj) (fz:List Nat) (a:AV):Option Nat:=
 match F9 P σ a with
 | some (m,none)=>some m
 | some (m,some _)=>if MO P σ fz a m then some m else none
 | none=>none
def IC (P:Program) (σ:aj) (fz:List Nat):List AV->Option (List Nat)
 | []=>some []
 | a::l=>match ru P σ fz a,IC P σ fz l with
   | some m,some r=>some (m::r)
   | _,_=>none
def eF (P:Program) (σ:aj) (fz:List Nat):AV->Option Nat
 | .agg l=>match IC P σ fz l with
   | some ns=>dU (.mk ns)
   | none=>none
 | a=>ru P σ fz a
def valsN (P:Program) (σ:aj) (fz:List Nat):List AV->Option (List Nat)
 | []=>some []
 | a::l=>match eF P σ fz a,valsN P σ fz l with
   | some m,some r=>some (m::r)
   | _,_=>none
def ZE (P:Program) (σ:aj) (a:AV):List Nat:=match F9 P σ a with
 | some (_,some id)=>[id]
 | _=>[]
def zI (P:Program) (σ:aj):List AV->List Nat
 | []=>[]
 | .agg l::r=>l.flatMap (ZE P σ)++zI P σ r
 | a::r=>ZE P σ a++zI P σ r
def N9 (k:Nat) (ns:List Nat) (j:Nat):ou->Option AV
 | .sc=>jq (.call k ns j)
 | .ag n=>match dU (.call k ns j) with
   | some m=>(CZ m 0 n).map .agg
   | none=>none
def DR (k:Nat) (ns:List Nat):Nat->List ou->Option (List AV)
 | _,[]=>some []
 | j,s::l=>match N9 k ns j s,DR k ns (j+1) l with
   | some a,some r=>some (a::r)
   | _,_=>none
def Ob (P:Program) (k:Nat) (st:List (Option FuncId)) (sh:List ou):dX:=λIe σ=>match yX st Ie with
 | none=>none
 | some args=>
 let fz:=zI P σ args
 if fz.all (Nat.ble σ.lock ·) then
  match valsN P σ fz args with
  | some ns=>match DR k ns 0 sh with
    | some (a::l)=>some (Ei (a::l),kills σ fz)
    | _=>none
  | none=>none
 else none
end
theorem Ro {T:aF} {η:Env} {σ:aj} {w:World} (h:@SR T P η σ w):∀fz:List Nat,(∀id∈fz,σ.lock<=id)->∃bQ,(∀b o,η.ro b=some o->bQ b=some o)/\@St T P η σ w ⟨η.pl,bQ,η.gh⟩ (kills σ fz) w/\
 (∀id∈fz,∀o q,σ.get id=some o->o.own=true->η id=some q->bQ q.bl=w.heap[q.bl]?)
 | [],_=>⟨η.ro,λ_ _ h=>h,@St.refl T _ _ _ _ h,by simp⟩
 | id::fz,hlk=>by
   letI:=T
   obtain ⟨bQ,h1,h2,h3⟩:=Ro h fz (λk hk=>hlk k (xX _ hk));by_cases hx:∃o q,(kills σ fz).get id=some o/\o.own=true/\η id=some q
   ·obtain ⟨o,q,ho,hown,hq⟩:=hx
    have hst:=St.freeze h2.rel ho hown (by rw [FN];exact hlk id (by simp)) (show (⟨η.pl,bQ,η.gh⟩:Env) id=some q from hq);refine ⟨BI bQ w q.bl,λb o hb=>Ou h2.rel.iG q.bl b o (h1 b o hb),h2.trans hst, ?_⟩;intro id' iP o' q' ho' hown' hq';show (if q'.bl=q.bl then w.heap[q.bl]? else bQ q'.bl)=_
    split
    ·next e=>rw [e]
    ·next e=>
     rcases dP.1 iP with rfl | iP
     ·rw [hq] at hq';cases hq';exact absurd rfl e
     ·exact h3 id' iP o' q' ho' hown' hq'
   ·refine ⟨bQ,h1,h2.Nu id, ?_⟩
    intro id' iP o' q' ho' hown' hq';rcases dP.1 iP with rfl | iP
    ·by_cases hm:id'∈fz
     ·exact h3 id' hm o' q' ho' hown' hq'
     ·exact absurd ⟨o',q',by rw [zQ,ah hm];exact ho',hown',hq'⟩ hx
    ·exact h3 id' iP o' q' ho' hown' hq'
section
variable {T:aF} {tabs:List (Nat×List AV)} {G next:Nat} {η:Env} {σ:aj} {w:World} {fz:List Nat} {r:List (Nat×Option Nat)} {ps:List Nat} {gs:List GV} {bQ:Nat->Option Obj}
theorem ai0 {a:AV} {m:Nat} (h:@F9 T.togq P σ a=some (m,none)):@gU T.togq a=some m:=by
 letI:=T
 unfold F9 at h;split at h
 ·next m' hm=>cases h;exact hm
 ·split at h
  ·split at h<;>cases h
  ·split at h
   ·obtain ⟨m',_,e⟩:=aZ.1 h;cases e
   ·cases h
  ·cases h
theorem XY (C:rW T P tabs G next η σ w fz r ps gs bQ) {a:AV} {m:Nat} {v:Value} (h:@ru T.togq P σ fz a=some m) (hv:@VR T η a v):∃g,T.val m=some g/\g.scalar=true/\GR bQ g v:=by
 letI:=T
 unfold ru at h;split at h
 ·next m' hc=>
  cases h;obtain ⟨g,k1,k2,k3⟩:=kU (ai0 hc) hv;exact ⟨g,k1,k2,GR.mono C.qP _ _ k3⟩
 ·next m' id hc=>
  split at h
  ·next hf=>
   cases h;have hval:∃g,T.val m=some g:=by
    unfold F9 at hc;split at hc
    ·cases hc
    ·split at hc
     ·next id' n=>
      split at hc
      ·next m2 et f hg=>
       cases hc;rcases C.rel.live _ _ hg with ⟨q,hq,hor⟩ | ⟨_,n2,QY,f2,e2,hv0⟩
       ·obtain ⟨xs,x1,_⟩:=hor.FZ;exact ⟨_,x1⟩
       ·cases e2;exact ⟨_,hv0⟩
      ·cases hc
     ·split at hc
      ·next c et qQ opn hg=>
       obtain ⟨m2,hl,e⟩:=aZ.1 hc;cases e;unfold listOf at hl;simp only [hg] at hl;split at hl
       ·split at hl
        ·split at hl
         ·split at hl
          ·obtain ⟨g,g1,_⟩:=fG hl;exact ⟨g,g1⟩
          ·cases hl
         ·cases hl
        ·cases hl
       ·cases hl
      ·cases hc
     ·cases hc
   obtain ⟨g,hg⟩:=hval;obtain ⟨k1,k2⟩:=ZA C hf hv hg;exact ⟨g,hg,k1,k2⟩
  ·cases h
 ·cases h
theorem X4 (C:rW T P tabs G next η σ w fz r ps gs bQ):∀ {l:List AV} {ns:List Nat} {vs:List Value},@IC T.togq P σ fz l=some ns->@au T η l vs->∃gl,valsOf T.val ns=some gl/\gl.all GV.scalar=true/\aS bQ gl vs
 | [],ns,vs,h,hv=>by simp only [IC,aT] at h;subst h;simp only [au] at hv;subst hv;exact ⟨[],rfl,rfl,by simp [aS]⟩
 | a::l,ns,vs,h,hv=>by
   letI:=T
   simp only [IC] at h;split at h
   ·next m r' hm hr=>
    cases h;simp only [au] at hv;obtain ⟨x,xs,rfl,h1,h2⟩:=hv;obtain ⟨g,g1,g2,g3⟩:=XY C hm h1;obtain ⟨gl,k1,k2,k3⟩:=X4 C hr h2;exact ⟨g::gl,by simp only [valsOf,g1,k1],by simp [g2,k2],by simp only [aS];exact ⟨x,xs,rfl,g3,k3⟩⟩
   ·cases h
theorem GI (C:rW T P tabs G next η σ w fz r ps gs bQ) {a:AV} {m:Nat} {v:Value} (h:@eF T.togq P σ fz a=some m) (hv:@VR T η a v):∃g,T.val m=some g/\GR bQ g v/\(match a with | .agg l=>∃gl,g=.g gl/\gl.length=l.length | _=>g.scalar=true):=by
 letI:=T
 cases a;case agg l=>
  simp only [eF] at h;split at h
  ·next ns hns=>
   simp only [VR] at hv;obtain ⟨vs,rfl,hvs⟩:=hv;obtain ⟨gl,k1,k2,k3⟩:=X4 C hns hvs;obtain ⟨g,g1,g2⟩:=fG h;have k1':valsOf aF.val ns=some gl:=k1;simp only [Nd.den,k1',k2,if_true,aT] at g2;subst g2;exact ⟨_,g1,by simp only [GR];exact ⟨vs,rfl,k3⟩,gl,rfl,by rw [k3.length,hvs.length]⟩
  ·cases h
 all_goals
  simp only [eF] at h;obtain ⟨g,g1,g2,g3⟩:=XY C h hv;exact ⟨g,g1,g3,g2⟩
theorem V8 (C:rW T P tabs G next η σ w fz r ps gs bQ):∀ {l:List AV} {ns:List Nat} {vs:List Value},@valsN T.togq P σ fz l=some ns->@au T η l vs->∃gl,valsOf T.val ns=some gl/\aS bQ gl vs
 | [],ns,vs,h,hv=>by simp only [valsN,aT] at h;subst h;simp only [au] at hv;subst hv;exact ⟨[],rfl,by simp [aS]⟩
 | a::l,ns,vs,h,hv=>by
   letI:=T
   simp only [valsN] at h;split at h
   ·next m r' hm hr=>
    cases h;simp only [au] at hv;obtain ⟨x,xs,rfl,h1,h2⟩:=hv;obtain ⟨g,g1,g2,_⟩:=GI C hm h1;obtain ⟨gl,k1,k2⟩:=V8 C hr h2;exact ⟨g::gl,by simp only [valsOf,g1,k1],by simp only [aS];exact ⟨x,xs,rfl,g2,k2⟩⟩
   ·cases h
theorem Ua {k:Nat} {ns:List Nat} {gl out:List GV} (hns:valsOf T.val ns=some gl) (hI:T.I k gl=some out) {η':Env}:∀ {sh:List ou} {j:Nat} {l:List AV} {us:List Value} {rest:List GV},@DR T.togq k ns j sh=some l->nY sh rest=true->(∀i,rest[i]? = out[j+i]?)->aS η'.ro rest us->@au T η' l us
 | [],j,l,us,rest,h,hf,hr,hg=>by
   cases rest with
   | cons a b=>simp [nY] at hf
   | nil=>simp only [DR,aT] at h;subst h;simp only [aS] at hg;subst hg;simp [au]
 | s::sh,j,l,us,rest,h,hf,hr,hg=>by
   letI:=T
   cases rest with
   | nil=>cases s<;>simp [nY] at hf
   | cons g rest=>
     simp only [DR] at h;split at h
     ·next a r' ha hr'=>
      cases h;simp only [aS] at hg;obtain ⟨u,us',rfl,g1,g2⟩:=hg;have h0:=hr 0;simp only [iH,lZ] at h0;have hden:(Nd.call k ns j).den aF.I aF.val=some g:=by
       have ahj:valsOf aF.val ns=some gl:=hns;have hI':aF.I k gl=some out:=hI;simp only [Nd.den,ahj,hI'];exact h0.symm
      have hrest:∀i,rest[i]? = out[j+1+i]?:=λi=>by
       have:=hr (i+1);rw [qw] at this;rw [this];congr 1;omega
      cases s with
      | sc=>
        simp only [nY,aH] at hf;refine ⟨u,us',rfl, ?_,Ua hns hI hr' hf.2 hrest g2⟩;obtain ⟨_,g',_,k2,k3⟩:=kY (η:=η') ha;rw [hden] at k2;cases k2;exact k3 u hf.1 g1
      | ag n=>
        simp only [nY,aH] at hf;refine ⟨u,us',rfl, ?_,Ua hns hI hr' hf.2 hrest g2⟩;simp only [N9] at ha;split at ha
        ·next m hm=>
         obtain ⟨l',hl',rfl⟩:=aZ.1 ha;obtain ⟨g',k1,k2⟩:=fG hm;rw [hden] at k2;cases k2;obtain ⟨r'',h5,h6⟩:=Lr (η:=η') k1 n 0 hl';cases g with
         | g cs=>
           have hlen:=bn hf.1.2;simp only [GR] at g1;obtain ⟨vs,rfl,hvs⟩:=g1;simp only [VR];refine ⟨vs,rfl,h6 vs ?_⟩;obtain ⟨e1,e2,_⟩:=pJ h5;have hlen':cs.length=n:=hlen;rw [e1,dJ,lK (by rw [jX];show cs.length<=n;omega)];exact (mQ _ _).1 hvs
         | _=>simp [GV.scalar] at hf
        ·cases ha
     ·cases h
theorem ac1 {T:aF} {η:Env} {l:List AV} {us:List Value} (h:@au T η l us):@VR T η (Ei l) (yY us):=by
 letI:=T
 have hl:=h.length;match l,us,h,hl with
 | [a],[u],h,_=>simp only [au] at h;obtain ⟨x,xs,e,h1,h2⟩:=h;cases e;exact h1
 | [],[],h,_=>show VR η (.dA []) (.tuple ⟨[]⟩);simp only [VR];exact ⟨_,rfl,h⟩
 | a::b::l,u::u'::us,h,_=>show VR η (.dA _) (.tuple ⟨_⟩);simp only [VR];exact ⟨_,rfl,h⟩
 | [],_::_,_,hl=>simp at hl
 | [_],[],_,hl=>simp at hl
 | [_],_::_::_,_,hl=>simp at hl
 | _::_::_,[],_,hl=>simp at hl
 | _::_::_,[_],_,hl=>simp at hl
theorem abw {f:FuncId} {k:Nat} {st:List (Option FuncId)} {sh:List ou} (hC:∀gs out,T.I k gs=some out->qR P T.tabs f st sh gs out):@dS T P f (@Ob T.togq P k st sh):=by
 letI:=T
 intro Ie σ rr σ' hs η w vs0 hS hv0;unfold Ob at hs;split at hs
 ·cases hs
 next args htk=>
 obtain ⟨vs,rfl,hv⟩:=Pg htk hv0;simp only at hs;split at hs
 ·next hlk=>
  have zM:∀id∈zI P σ args,σ.lock<=id:=λid hid=>qE (List.all_eq_true.1 hlk id hid);split at hs
  ·next ns hns=>
   split at hs
   ·next a0 l hl=>
    cases hs;obtain ⟨bQ,f1,f2,f3⟩:=Ro hS (zI P σ args) zM;have C:rW T P T.tabs P.globals.size (P.globals.size+1) η σ w (zI P σ args) [] [] [] bQ:=⟨hS,rfl,f1,f3,rfl,Hw _⟩
    obtain ⟨gl,k1,k2⟩:=V8 C hns hv;have hI:∃out,T.I k gl=some out:=by
     have hden:∀ {m g},dU (.call k ns 0)=some m->aF.val m=some g->∃out,T.I k gl=some out:=by
      intro m g hm hg;obtain ⟨g',_,d2⟩:=fG hm;have k1':valsOf aF.val ns=some gl:=k1;simp only [Nd.den,k1'] at d2;split at d2
      ·next r hr=>exact ⟨r,hr⟩
      ·cases d2
     cases sh with
     | nil=>simp [DR] at hl
     | cons s sh=>
       simp only [DR] at hl;split at hl
       ·next a1 r1 ha1 _=>
        cases s with
        | sc=>
          simp only [N9,jq] at ha1;split at ha1
          ·next m hm=>obtain ⟨g,g1,_⟩:=fG hm;exact hden hm g1
          ·cases ha1
        | ag n=>
          simp only [N9] at ha1;split at ha1
          ·next m hm=>obtain ⟨g,g1,_⟩:=fG hm;exact hden hm g1
          ·cases ha1
       ·cases hl
    obtain ⟨out,hI⟩:=hI;obtain ⟨hcall,hfit⟩:=hC gl out hI;refine jS.mono (hcall bQ w vs f2.rel.Ox k2) ?_;rintro v w' ⟨ro',hro,us,rfl,hus⟩
    have hst:=St.aiO (ro':=ro') f2.rel hro;refine ⟨_,f2.trans hst,ac1 (Ua k1 hI (η':=⟨η.pl,ro',η.gh⟩) hl hfit (λi=>by simp) hus)⟩
   ·cases hs
  ·cases hs
 ·cases hs
def U2:List ou->List AV->Bool
 | [],[]=>true
 | .sc::l,a::m=>(match a with | .agg _=>false | _=>true)&&U2 l m
 | .ag n::l,a::m=>(match a with | .agg c=>Nat.beq c.length n | _=>false)&&U2 l m
 | _,_=>false
section
variable [gq]
def CO:Nat->List ou->Option (List AV)
 | _,[]=>some []
 | j,.sc::l=>match CO (j+1) l with
   | some r=>some (.nd j::r)
   | none=>none
 | j,.ag n::l=>match CZ j 0 n,CO (j+1) l with
   | some c,some r=>some (.agg c::r)
   | _,_=>none
end
theorem Qj {η:Env}:∀ {sh:List ou} {j:Nat} {l:List AV} {vs:List Value} {rest:List GV},@CO T.togq j sh=some l->nY sh rest=true->(∀i g,rest[i]? = some g->T.val (j+i)=some g)->aS η.ro rest vs->@au T η l vs
 | [],j,l,vs,rest,h,hf,hr,hg=>by
   cases rest with
   | cons a b=>simp [nY] at hf
   | nil=>simp only [CO,aT] at h;subst h;simp only [aS] at hg;subst hg;simp [au]
 | s::sh,j,l,vs,rest,h,hf,hr,hg=>by
   letI:=T
   cases rest with
   | nil=>cases s<;>simp [nY] at hf
   | cons g rest=>
     simp only [aS] at hg;obtain ⟨u,us,rfl,g1,g2⟩:=hg;have h0:=hr 0 g (by simp);have hrest:∀i g,rest[i]? = some g->T.val (j+1+i)=some g:=λi g hi=>by
      have:=hr (i+1) g (by simpa using hi);rw [<- this];congr 1;omega
     cases s with
     | sc=>
       simp only [CO] at h;split at h
       ·next r' hr'=>
        cases h;simp only [nY,aH] at hf;exact ⟨u,us,rfl,by simp only [VR];exact ⟨g,h0,hf.1,g1⟩,Qj hr' hf.2 hrest g2⟩
       ·cases h
     | ag n=>
       simp only [CO] at h;split at h
       ·next c r' hc hr'=>
        cases h;simp only [nY,aH] at hf;refine ⟨u,us,rfl, ?_,Qj hr' hf.2 hrest g2⟩;obtain ⟨r'',h5,h6⟩:=Lr (η:=η) h0 n 0 hc;cases g with
        | g cs=>
          have hlen:=bn hf.1.2;simp only [GR] at g1;obtain ⟨vs,rfl,hvs⟩:=g1;simp only [VR];refine ⟨vs,rfl,h6 vs ?_⟩;obtain ⟨e1,e2,_⟩:=pJ h5;have hlen':cs.length=n:=hlen;rw [e1,dJ,lK (by rw [jX];show cs.length<=n;omega)];exact (mQ _ _).1 hvs
        | _=>simp [GV.scalar] at hf
       ·cases h
def Tc (P:Program) (tabs:List (Nat×List AV)) (pl:jK) (specs:List (Nat×bK)) (fuel:Nat) (st:List (Option FuncId)) (tV vP:List ou) (ntmps:Nat) (res:List ResultVar) (ac:AC) (ns:List Nd) (ds:List (Nat×Bool)) (lf:Leaf):Bool:=
 match lf with
 | .ret l=>match @CO ⟨ns,ds,0⟩ 0 tV with
   | some args=>match @sG ⟨ns,ds,0⟩ (Ah P tabs ⟨ns,ds,0⟩ specs) (Ea P ⟨ns,ds,0⟩ pl fuel) ac { t:=vY (tH st args) 0 .nil,n:=max (tH st args).length ntmps,gn:=P.globals.size } ⟨ny (rO tabs),P.globals.size+1,0⟩ with
     | some (e,a',σ')=>(match e with | .exit _=>false | _=>true)&&match yw P σ' a' res with
       | some rs=>U2 vP rs&&match @valsN ⟨ns,ds,0⟩ P σ' (@zI ⟨ns,ds,0⟩ P σ' rs) rs with
         | some l'=>uK l l'
         | none=>false
       | none=>false
     | none=>false
   | none=>false
 | _=>false
theorem O8 (hlow:qZ tabs P.globals.size) (qL:T.tabs=tabs):@yh T ⟨ny (rO tabs),P.globals.size+1,0⟩ P.globals.size:=by
 refine ⟨Nat.lt_succ_self _,λid o ho=>?_⟩;have hm:=Ju (show (ny (rO tabs)).get id=some o from ho);obtain ⟨p,hp,e⟩:=qB.1 hm;cases e;exact ⟨p.2,rfl,by rw [qL];exact hp,hlow.low p hp⟩
theorem qR.Jw {tabs:List (Nat×List AV)} (hlow:qZ tabs P.globals.size) (hm:P.follows .mixedOrders=true) (hn:rX P) {pl:jK} {I:fP} (hpl:uZ P tabs I pl) {specs:List (Nat×bK)} {fuel:Nat} {f:FuncId} {fn:Func} {c:Code} {pe:List Nat} {st:List (Option FuncId)} {tV vP:List ou} {t:Tree}
 (hf:P.funcs[f]? = some fn) (hc:fn.body=some c)
 (Dv:∀k sp',bW k specs=some sp'->sp'.pre.ok=true/\∀b,(lC pe c).mW k b->∀gs out,I sp'.key gs=some out->qW P tabs b sp'.pre sp'.posts gs out)
 (sW:t.chk (Tc P tabs pl specs fuel st tV vP fn.ntmps fn.results.toList (lC pe c)) (List.replicate tV.length .arg) []=true) {gs out:List GV} (hd:(aI.fn tV vP t).den I gs=some out):qR P tabs f st vP gs out:=by
 simp only [aI.den] at hd;split at hd;rotate_left
 ·cases hd
 next hfit=>
 split at hd;rotate_left
 ·cases hd
 next aqT hd0=>
 split at hd;rotate_left
 ·cases hd
 next hfo=>
 cases hd;have hd:=hd0;have hlen:gs.length=tV.length:=by
  clear hd hd0 sW;induction tV generalizing gs with
  | nil=>cases gs with | nil=>rfl | cons _ _=>simp [nY] at hfit
  | cons s sh ih=>cases gs with
    | nil=>cases s<;>simp [nY] at hfit
    | cons g gs=>cases s<;>simp only [nY,aH] at hfit<;>simp [ih hfit.2]
 obtain ⟨ns,ds,env,lf,h1,h2,⟨more,h3⟩,h4⟩:=Tree.ER t sW (zu.start I gs _ hlen) hd;let T:aF:=Tw tabs I 0 h2
 unfold Tc at h1;split at h1
 ·next l=>
  split at h1
  ·next args hargs=>
   split at h1
   ·next e a' σ' hrun=>
    rw [aH] at h1;obtain ⟨he,h1⟩:=h1;split at h1
    ·next rs hrs=>
     rw [aH] at h1;obtain ⟨hrf,h1⟩:=h1;split at h1
     ·next l' hl'=>
      have hll:=TJ h1;subst hll;have Fz:∀Q:dH->aX->aj->Prop,Q e a' σ'->@AT T P c { t:=vY (tH st args) 0 .nil,n:=max (tH st args).length fn.ntmps,gn:=P.globals.size } ⟨ny (rO tabs),P.globals.size+1,0⟩ Q:=by
       intro Q hq;have:=@Qd P T (Ah P tabs ⟨ns,ds,0⟩ specs) (Ea P ⟨ns,ds,0⟩ pl fuel) (U6 (T:=T) hm hn (hpl T rfl rfl) fuel) (lC pe c) (vC pe c 0).2 (λk b hk a σ e1 a1 σ1 hs Q' hq'=>by
        unfold Ah at hs;split at hs
        ·next sp' hsp=>
         obtain ⟨k1,k2⟩:=Dv k sp' hsp;exact SS (T:=T) rfl hlow k1 (λgs out hI=>k2 b hk gs out hI) hs hq'
        ·cases hs) _ _ _ _ _ hrun Q hq
       rwa [show (lC pe c).erase=c from (vC pe c 0).1] at this
      have henv:∀i g,gs[i]? = some g->T.val (0+i)=some g:=by
       intro j g hj;show env[0+j]? = some g
       rw [h3,iW];have:=(dO.1 hj).1;rw [lg this];exact hj
      have key:∀ro w vs,vg tabs ro w->aS ro gs vs->Calls P f ⟨tJ st vs⟩ w λen w'=>∃v,en=.returned v/\∃ro',ED ro ro' w w'/\∃us,v=yY us/\aS ro' out us:=by
       intro ro w vs hro hvs;letI:=T
       have hst:yh (⟨ny (rO tabs),P.globals.size+1,0⟩:aj) P.globals.size:=O8 (T:=T) hlow rfl
       have hS0:SR P (uF P.globals.size ⟨ny (rO tabs),P.globals.size+1,0⟩ ro) ⟨ny (rO tabs),P.globals.size+1,0⟩ w:=
        H9 hst.1 (λid o ho=>by
         obtain ⟨c,rfl,hmem,hle⟩:=hst.2 id o ho;obtain ⟨cs,elem,fr,k1,k2,k3⟩:=hro.tab _ hmem;exact ⟨hle,c,rfl,⟨cs,elem,fr,hro.at' _ _ k1,k2,k3⟩⟩) hro.at' (λp hp=>hro.tab p hp)
       have hv0:au (uF P.globals.size ⟨ny (rO tabs),P.globals.size+1,0⟩ ro) (tH st args) (tJ st vs):=Oo (Qj (T:=T) hargs hfit henv hvs);refine calls_of_wp hf hc ?_;refine Fz (λe2 a2 σ2=>e2=e/\a2=a'/\σ2=σ') ⟨rfl,rfl,rfl⟩ (.shut w) ro (uF P.globals.size ⟨ny (rO tabs),P.globals.size+1,0⟩ ro) w _ _ (je.start hS0 hst.own) rfl (QS hv0) ?_;rintro e2 a2 σ2 η1 A' w' ⟨rfl,rfl,rfl⟩ hF hl0 ht
       obtain ⟨us,r1,r2⟩:=JG hF.rel ht (fun | .tmp t=>pure (A'.tmps.getD t undef) | .cell a t=>do loadVar t (<- asAddr (A'.tmps.getD a undef))) (λ_=>rfl) (λ_ _=>rfl) _ _ hrs;obtain ⟨bQ,f1,f2,f3⟩:=MK hF hl0 (@zI ⟨ns,ds,0⟩ P σ2 rs);have C:rW T P tabs P.globals.size (P.globals.size+1) η1 σ2 w' (@zI ⟨ns,ds,0⟩ P σ2 rs) [] [] [] bQ:=⟨hF.rel,rfl,f1,f3,rfl,Hw _⟩
       obtain ⟨gl,k1,k2⟩:=V8 C hl' r2;have hgl:gl=out:=by
        have h4':valsOf (λn=>env[n]?) l=some out:=h4;have k1':valsOf (λn=>env[n]?) l=some gl:=k1;rw [k1'] at h4';cases h4';rfl
       subst hgl;have hres':(results fn A'.tmps).run P w'=.ok (if h:(⟨us⟩:Array Value).size=1 then (⟨us⟩:Array Value)[0] else .tuple ⟨us⟩) w':=by
        unfold results;rw [PE];simp only [aP,P6];exact vF (λr:Result (List Value)=>(r.andThen λa w'=>Result.ok a.toArray w').andThen λa w'=>Sem.run P (pure (if h:a.size=1 then a[0] else Value.tuple a)) w') r1
       have SB:(if h:(⟨us⟩:Array Value).size=1 then (⟨us⟩:Array Value)[0] else .tuple ⟨us⟩)=yY us:=by
        match us with
        | []=>rfl
        | [u]=>rfl
        | u::u'::us=>rfl
       rw [SB] at hres'
       have hpost:A'.defers=[]/\∃v,(results fn A'.tmps).run P w'=.ok v w'/\∃v',Ending.returned v=.returned v'/\(∃ro',ED ro ro' w w'/\∃us,v'=yY us/\aS ro' gl us):=
        ⟨ht.none,_,hres',_,rfl,⟨bQ,⟨hF.kept.shut,f2.qP,f2.ab4,f2.rel.iG⟩,us,rfl,k2⟩⟩
       cases e2 with
       | normal=>exact hpost
       | ret=>exact hpost
       | exit id=>simp at he
      refine ⟨λro w vs hro hvs=>?_, ?_⟩
      ·right
       refine ⟨?_,Calls.mono' (key ro w vs hro hvs) ?_⟩
       ·have hname:=hn f fn c hf hc
        simp only [callFunc,aP,program,Sem.run,aO,hf];simp only [hname,iC,if_false,hc,Ez,bf]
       ·rintro en w' ⟨v,rfl,h5⟩
        exact ⟨v,rfl,h5⟩
      ·exact hfo
     ·cases h1
    ·cases h1
   ·cases h1
  ·cases h1
 ·cases h1
end
end
end Go.aN
namespace Go.aN
set_option linter.unusedSimpArgs false
noncomputable section
set_option linter.unusedSectionVars false
set_option linter.unusedVariables false
variable {P:Program}
def fJ.args (s:fJ):List AV:=s.slots.map (·.2)
def GY (P:Program) (tabs:List (Nat×List AV)) (s:fJ) (gs:List GV) (w0:Base) (cu:Nat->Option Obj) (vs:List Value) (w:World):Prop:=
 ∃η,@je (Tg tabs gs s.ka) P w0 cu η (s.st tabs) w/\@au (Tg tabs gs s.ka) η s.args vs
def G8 (P:Program) (tabs:List (Nat×List AV)) (f:FuncId) (st:List (Option FuncId)) (pre:fJ) (posts:List (dH×fJ)) (gs out:List GV):Prop:=
 ∃ (t:Nat) (r rest:List GV) (e:dH) (s:fJ),out=GV.i .i64 t::r/\posts[t]? = some (e,s)/\qK s.al gs r=some rest/\rest.length=s.np/\
   ∀w0 cu w vs,GY P tabs pre gs w0 cu vs w->jS P f ⟨tJ st vs⟩ w λv w'=>∃us,v=yY us/\GY P tabs s rest w0 cu us w'
mutual
def AV.ren (ρ f:Nat->Nat):AV->AV
 | .nd j=>.nd (f j)
 | .rx j off=>.rx (f j) off
 | .sv id j=>.sv (ρ id) (f j)
 | .p id off=>.p (ρ id) off
 | .mp id=>.mp (ρ id)
 | .fn g fi cs=>.fn g (AV.tK ρ f fi) (AV.tK ρ f cs)
 | .ig t a=>.ig t (a.ren ρ f)
 | .agg l=>.agg (AV.tK ρ f l)
 | .dA l=>.dA (AV.tK ρ f l)
 | a=>a
def AV.tK (ρ f:Nat->Nat):List AV->List AV
 | []=>[]
 | a::l=>a.ren ρ f::AV.tK ρ f l
end
mutual
def AV.okS (G:Nat):AV->Bool
 | .sv id _=>Nat.blt G id
 | .fn _ fi cs=>AV.wR G fi&&AV.wR G cs
 | .ig _ a=>a.okS G
 | .agg l=>AV.wR G l
 | .dA l=>AV.wR G l
 | .nd _ | .rx _ _ | .p _ _ | .mp _ | .b _ | .i _ _ | .s _ | .ji | .bP | .wQ | .qN | .nU=>true
 | _=>false
def AV.wR (G:Nat):List AV->Bool
 | []=>true
 | a::l=>a.okS G&&AV.wR G l
end
def bg.ren (ρ f:Nat->Nat):bg->bg
 | .cells c et rw opn=>.cells (AV.tK ρ f c) et rw opn
 | .vec j et b=>.vec (f j) et b
 | .smap j kk sz=>.smap (f j) kk sz
 | o=>o
def bg.okS (G:Nat):bg->Bool
 | .cells c _ rw _=>AV.wR G c&&rw
 | .vec _ _ _=>true
 | .smap _ _ _=>true
 | _=>false
theorem UY (ρ f:Nat->Nat):∀l:List AV,AV.tK ρ f l=l.map (AV.ren ρ f)
 | []=>rfl
 | a::l=>by simp [AV.tK,UY ρ f l]
structure H7 (S T:aF) (G:Nat) (ρ f:Nat->Nat) (η η':Env):Prop where
 val:∀j g,S.val j=some g->T.val (f j)=some g
 pl:∀i q,G < i->η i=some q->η' (ρ i)=some q
 gl:∀i q,i<=G->η i=some q->∃q',η' (ρ i)=some q'/\q'.bl=q.bl/\q'.ba=q.ba
 gh:∀i,G < i->η.gh i=true->η'.gh (ρ i)=true
 ro:∀b o,η.ro b=some o->η'.ro b=some o
section
variable {S T:aF} {G:Nat} {ρ f:Nat->Nat} {η η':Env}
mutual
theorem VR.ren (h:H7 S T G ρ f η η'):∀ (a:AV) (v:Value),a.okS G=true->@VR S η a v->@VR T η' (a.ren ρ f) v
 | .b _,_,_,hv=>by simpa only [VR,AV.ren] using hv
 | .i _ _,_,_,hv=>by simpa only [VR,AV.ren] using hv
 | .s _,_,_,hv=>by simpa only [VR,AV.ren] using hv
 | .ji,_,_,hv=>by simpa only [VR,AV.ren] using hv
 | .p i off,v,_,hv=>by
   simp only [VR,AV.ren] at hv ⊢;obtain ⟨q,hq,rfl⟩:=hv;by_cases hi:i<=G
   ·obtain ⟨q',h1,h2,h3⟩:=h.gl i q hi hq
    exact ⟨q',h1,by rw [h2,h3]⟩
   ·exact ⟨q,h.pl i q (by omega) hq,rfl⟩
 | .bP,_,_,hv=>by simpa only [VR,AV.ren] using hv
 | .sl _ _ _ _,_,ho,_=>by simp [AV.okS] at ho
 | .nU,_,_,hv=>by simpa only [VR,AV.ren] using hv
 | .mp i,v,_,hv=>by
   simp only [VR,AV.ren] at hv ⊢;obtain ⟨q,hq,rfl⟩:=hv;by_cases hi:i<=G
   ·obtain ⟨q',h1,h2,h3⟩:=h.gl i q hi hq
    exact ⟨q',h1,by rw [h2]⟩
   ·exact ⟨q,h.pl i q (by omega) hq,rfl⟩
 | .wQ,_,_,hv=>by simpa only [VR,AV.ren] using hv
 | .fn _ fi cs,_,ho,hv=>by
   simp only [AV.okS,aH] at ho;simp only [VR,AV.ren] at hv ⊢;obtain ⟨us,vs,e,h1,h2⟩:=hv;exact ⟨us,vs,e,au.ren h fi us ho.1 h1,au.ren h cs vs ho.2 h2⟩
 | .qN,_,_,hv=>by simpa only [VR,AV.ren] using hv
 | .ig _ a,_,ho,hv=>by simp only [AV.okS] at ho;simp only [VR,AV.ren] at hv ⊢;obtain ⟨x,e,h1⟩:=hv;exact ⟨x,e,VR.ren h a x ho h1⟩
 | .agg l,_,ho,hv=>by simp only [AV.okS] at ho;simp only [VR,AV.ren] at hv ⊢;obtain ⟨x,e,h1⟩:=hv;exact ⟨x,e,au.ren h l x ho h1⟩
 | .dA l,_,ho,hv=>by simp only [AV.okS] at ho;simp only [VR,AV.ren] at hv ⊢;obtain ⟨x,e,h1⟩:=hv;exact ⟨x,e,au.ren h l x ho h1⟩
 | .z _ _ _,_,ho,_=>by simp [AV.okS] at ho
 | .ro _,_,ho,_=>by simp [AV.okS] at ho
 | .rp _ _,_,ho,_=>by simp [AV.okS] at ho
 | .nd _,_,_,hv=>by simp only [VR,AV.ren] at hv ⊢;obtain ⟨g,h1,h2,h3⟩:=hv;exact ⟨g,h.val _ _ h1,h2,GR.mono h.ro _ _ h3⟩
 | .rx _ _,_,_,hv=>by
   simp only [VR,AV.ren] at hv ⊢;obtain ⟨g,bl,base,cs,elem,fr,x,h1,h2,h3,h4⟩:=hv;exact ⟨g,bl,base,cs,elem,fr,x,h.val _ _ h1,h.ro _ _ h2,GR.mono h.ro _ _ h3,h4⟩
 | .sv i j,_,ho,hv=>by
   simp only [AV.okS,iK] at ho;simp only [VR,AV.ren] at hv ⊢;obtain ⟨xs,h1,⟨q,hq,h2⟩ | ⟨hg,h2⟩⟩:=hv
   ·exact ⟨xs,h.val _ _ h1,.inl ⟨q,h.pl i q ho hq,h2⟩⟩
   ·exact ⟨xs,h.val _ _ h1,.inr ⟨h.gh i ho hg,h2⟩⟩
 | .pv _ _ _,_,ho,_=>by simp [AV.okS] at ho
 | .pd _ _,_,ho,_=>by simp [AV.okS] at ho
theorem au.ren (h:H7 S T G ρ f η η'):∀ (l:List AV) (vs:List Value),AV.wR G l=true->@au S η l vs->@au T η' (AV.tK ρ f l) vs
 | [],_,_,hv=>by simpa only [au,AV.tK] using hv
 | a::l,_,ho,hv=>by
   simp only [AV.wR,aH] at ho;simp only [au,AV.tK] at hv ⊢;obtain ⟨x,xs,e,h1,h2⟩:=hv;exact ⟨x,xs,e,VR.ren h a x ho.1 h1,au.ren h l xs ho.2 h2⟩
end
theorem OR.ren (h:H7 S T G ρ f η η') {q:Place} {w:World} {o:bg} (ho:o.okS G=true) (r:@OR S P η q w o):@OR T P η' q w (o.ren ρ f):=by
 cases o with
 | cells c et qQ opn=>
   simp only [bg.okS,aH] at ho;obtain ⟨cs,elem,fr,h1,⟨r1,r2,r3,r4,r5,r6,r7⟩⟩:=r;have hl:(AV.tK ρ f c).length=c.length:=by rw [UY];simp
   have hok:∀a∈c,a.okS G=true:=by
    have:∀l:List AV,AV.wR G l=true->∀a∈l,a.okS G=true:=by
     intro l;induction l with
     | nil=>intro _ a ha;simp at ha
     | cons b l ih=>
       intro h a ha;simp only [AV.wR,aH] at h;rcases dP.1 ha with rfl | ha
       ·exact h.1
       ·exact ih h.2 a ha
    exact this c ho.1
   refine ⟨cs,elem,fr,h1,@pR.mk T P η' q _ et qQ opn cs elem fr r1 (by rw [hl];exact r2) (λe=>by rw [hl];exact r3 e) (λk a hk=>?_) r5 r6 r7⟩;rw [UY,jU] at hk;obtain ⟨a0,h2,rfl⟩:=aZ.1 hk;obtain ⟨x,hx,hv⟩:=r4 k a0 h2;exact ⟨x,hx,VR.ren h a0 x (hok a0 (qC h2)) hv⟩
 | iter s pos=>simp [bg.okS] at ho
 | map es=>simp [bg.okS] at ho
 | pmap es=>simp [bg.okS] at ho
 | iterM m=>simp [bg.okS] at ho
 | smap j kk sz=>
   obtain ⟨xs,ms,clock,k1,k2,k3⟩:=r;exact ⟨xs,ms,clock,h.val _ _ k1,k2,k3.mono h.ro⟩
 | vec j et b=>
   obtain ⟨xs,cs,elem,fr,ys,k1,k2,k3,k4,k5,k6,⟨r1,r2,r3,r4,r5,r6,r7⟩,k8⟩:=r;exact ⟨xs,cs,elem,fr,ys,h.val _ _ k1,k2,aS.mono h.ro _ _ k3,k4,k5,k6,@pR.mk T P η' q [] et true true cs elem fr r1 r2 r3 (λk a hk=>by simp at hk) r5 r6 r7,k8⟩
theorem Live.ren (h:H7 S T G ρ f η η') {w:World} {i:Nat} {o:bg} (hi:G < i) (ho:o.okS G=true) (r:@Live S P η w i o):@Live T P η' w (ρ i) (o.ren ρ f):=by
 rcases r with ⟨q,hq,hr⟩ | ⟨hg,n,et,b,rfl,hv⟩
 ·exact .inl ⟨q,h.pl i q hi hq,OR.ren h ho hr⟩
 ·exact .inr ⟨h.gh i hi hg,f n,et,b,rfl,h.val _ _ hv⟩
end
theorem bg.TS {G:Nat} {o:bg} (h:o.okS G=true):o.own=true:=by
 cases o<;>simp only [bg.okS,aH,iC] at h<;>simp [bg.own]
 exact h.2
def rhoC (G ka next:Nat) (r:List (Nat×Option Nat)) (i:Nat):Nat:=if i<=G then i else if i<=G+ka then (match bW i r with | some (some id)=>id | _=>0) else next+(i - (G+ka+1))
def Gm (ρ f:Nat->Nat):List (Nat×bg)->Tr bg->Tr bg
 | [],h=>h
 | p::l,h=>(Gm ρ f l h).set (ρ p.1) (some (p.2.ren ρ f))
def mY:List (Nat×Option Nat)->List Nat
 | []=>[]
 | p::l=>match p.2 with
   | some id=>id::mY l
   | none=>mY l
def LP {α:Type}:List (Nat×α)->Bool
 | []=>true
 | p::l=>(match bW p.1 l with | none=>true | some _=>false)&&LP l
def zx (r:List (Nat×Option Nat)) (σ:aj):Nat->Nat->Bool
 | _,0=>true
 | i,n+1=>(match bW (i+1) r with
   | some (some id)=>(match σ.get id with | some (.cells _ _ _ _)=>true | _=>false)
   | _=>false)&&zx r σ (i+1) n
def UJ (s:fJ):Bool:=Nat.blt (s.gn+s.ka) s.next&&AV.wR s.gn s.args&&LP s.objs&&s.objs.all λp=>Nat.blt s.gn p.1&&Nat.blt p.1 s.next&&p.2.okS s.gn
section
variable [gq]
def agb (P:Program) (s:fJ) (l:List AV) (σ:aj):US:=Ph P s.gn σ s.objs (BM P s.gn σ s.args l ⟨[],[],[]⟩)
def agc (P:Program) (s:fJ) (l:List AV) (σ:aj):US:=Ph P s.gn σ s.objs (BM P s.gn σ s.args l ⟨Qe s.gn s.ka,[],[]⟩)
def NK (P:Program) (s:fJ) (l:List AV) (σ:aj) (fz:List Nat) (r:List (Nat×Option Nat)) (ps:List Nat):Bool:=
 Nat.beq s.gn P.globals.size&&Nat.blt (s.gn+s.ka) s.next&&D7 r&&yL P s.gn σ fz r ps s.args l&&FV P s.gn s.next σ fz r ps s.objs
def Uc (P:Program) (st:List (Option FuncId)) (sp:bK):dX:=λIe σ=>match yX st Ie with
 | none=>none
 | some args=>match agb P sp.pre args σ with
   | ⟨r,p,fz⟩=>match UM p 0 sp.pre.np with
     | none=>none
     | some ps=>
       if NK P sp.pre args σ fz r ps&&(fz.all (Nat.ble σ.lock ·)&&((mY r).all (λid=>Nat.ble σ.lock id&&!(fz.contains id))&&zx r σ sp.pre.gn sp.pre.ka)) then
        match dU (.call sp.key ps 0) with
        | some tag=>match DX tag sp.posts 0 with
          | some (_,s)=>if UJ s&&(Nat.beq s.ka sp.pre.ka&&Nat.beq s.gn sp.pre.gn) then match yP sp.key ps s.al 1 s.np with
            | some ns=>
              some (Ei (AV.tK (rhoC s.gn s.ka σ.next r) (λj=>ns.getD j 0) s.args),⟨Gm (rhoC s.gn s.ka σ.next r) (λj=>ns.getD j 0) s.objs (kills (kills σ fz) (mY r)).h,σ.next+(s.next - (s.gn+s.ka+1)),σ.lock⟩)
            | none=>none
            else none
          | none=>none
        | none=>none
       else none
end
theorem YA {α:Type}:∀ {l:List (Nat×α)},LP l=true->∀ {k:Nat} {v:α},(k,v)∈l->bW k l=some v
 | [],_,k,v,h=>by simp at h
 | p::l,hd,k,v,h=>by
   simp only [LP,aH] at hd;rcases dP.1 h with e | h
   ·subst e;simp [bW]
   ·have h1:=YA hd.2 h
    simp only [bW];cases hb:Nat.beq k p.1 with
    | true=>
      have e:=bn hb;have h2:=hd.1;rw [<- e,h1] at h2;cases h2
    | false=>exact h1
theorem ZG {α:Type}:∀ {l m:List (Nat×α)} {k:Nat} {v:α},bW k l=some v->bW k (l++m)=some v
 | [],m,k,v,h=>by simp [bW] at h
 | p::l,m,k,v,h=>by
   simp only [eP,bW] at h ⊢;cases hb:Nat.beq k p.1 with
   | true=>rw [hb] at h;exact h
   | false=>rw [hb] at h;exact ZG h
theorem abI {ρ f:Nat->Nat}:∀ {l:List (Nat×bg)} {h:Tr bg} {k:Nat} {o:bg},(Gm ρ f l h).get k=some o->(∃i o0,(i,o0)∈l/\ρ i=k/\o=o0.ren ρ f)\/(h.get k=some o/\∀p∈l,ρ p.1≠k)
 | [],h,k,o,hg=>.inr ⟨hg,λp hp=>by simp at hp⟩
 | q::l,h,k,o,hg=>by
   simp only [Gm,Tr.sU] at hg;split at hg
   ·next e=>cases hg;exact .inl ⟨q.1,q.2,by simp,e.symm,rfl⟩
   ·next e=>
    rcases abI hg with ⟨i,o0,h1,h2,h3⟩ | ⟨h1,h2⟩
    ·exact .inl ⟨i,o0,xX _ h1,h2,h3⟩
    ·refine .inr ⟨h1,λp hp=>?_⟩
     rcases dP.1 hp with rfl | hp
     ·exact λe'=>e e'.symm
     ·exact h2 p hp
theorem aag {r:List (Nat×Option Nat)}:∀ {i id:Nat},bW i r=some (some id)->id∈mY r:=by
 induction r with
 | nil=>intro i id h;simp [bW] at h
 | cons p l ih=>
   intro i id h;simp only [bW] at h;cases hb:Nat.beq i p.1 with
   | true=>
     rw [hb] at h;simp only [cond_true,aT] at h;simp only [mY,h];simp
   | false=>
     rw [hb] at h;have:=ih h;simp only [mY];split
     ·exact xX _ this
     ·exact this
theorem Qg {r:List (Nat×Option Nat)} {σ:aj}:∀ {n i:Nat},zx r σ i n=true->∀j,i < j->j<=i+n->∃id c et rw opn,bW j r=some (some id)/\σ.get id=some (.cells c et rw opn)
 | 0,i,_,j,h1,h2=>by omega
 | n+1,i,h,j,h1,h2=>by
   simp only [zx,aH] at h;by_cases e:j=i+1
   ·subst e
    have h3:=h.1;split at h3
    ·next id hid=>
     split at h3
     ·next c et rw opn hg=>exact ⟨id,c,et,rw,opn,hid,hg⟩
     ·cases h3
    ·cases h3
   ·exact Qg h.2 j (by omega) (by omega)
theorem St.aiP {T:aF} {tabs:List (Nat×List AV)} (qL:T.tabs=tabs) {G ka:Nat} (hG:G=P.globals.size) {η η2:Env} {σ:aj} {w w':World} (h:@SR T P η σ w) {r:List (Nat×Option Nat)} (hinj:D7 r=true) (hlk:∀id∈mY r,σ.lock<=id) (RJ:zx r σ G ka=true)
 {s:fJ} (hs:UJ s=true) (hsk:s.ka=ka) (hsg:s.gn=G) {gs:List GV} {f:Nat->Nat} (hf:∀j g,gs[j]? = some g->T.val (f j)=some g)
 (hF:@je (Tg tabs gs s.ka) P ⟨w,λb=>∃id o q,id∈mY r/\σ.get id=some o/\o.own=true/\η id=some q/\q.bl=b,λi=>if G < i/\i<=G+ka then (match bW i r with | some (some id)=>η id | _=>none) else none⟩ η.ro η2 (s.st tabs) w')
 {vs:List Value} (hv:@au (Tg tabs gs s.ka) η2 s.args vs) :
 ∃η',@St T P η σ w η' ⟨Gm (rhoC s.gn s.ka σ.next r) f s.objs (kills σ (mY r)).h,σ.next+(s.next - (s.gn+s.ka+1)),σ.lock⟩ w'/\@au T η' (AV.tK (rhoC s.gn s.ka σ.next r) f s.args) vs:=by
 obtain ⟨⟨amI,acu,amL,VA,amS,amP,amR,amT⟩,Gu,amN,amQ,acE,ame⟩:=hF;letI:=T
 subst hsk;subst hsg;unfold UJ at hs;simp only [aH,iK] at hs;obtain ⟨⟨⟨p1,p2⟩,p3⟩,p4⟩:=hs;have DU:∀i o,(i,o)∈s.objs->s.gn < i/\i < s.next/\o.okS s.gn=true:=by
  intro i o hm;have:=List.all_eq_true.1 p4 _ hm;simp only [aH,iK] at this;exact ⟨this.1.1,this.1.2,this.2⟩
 have JK:∀i o,(i,o)∈s.objs->(s.st tabs).get i=some o:=by
  intro i o hm;show (ny (s.objs++rO tabs)).get i=some o
  rw [DL];exact ZG (YA p3 hm)
 let B:Nat:=s.gn+s.ka+1
 let η':Env:=⟨λid=>if id < σ.next then η id else η2 (id - σ.next+B),η2.ro,λid=>if id < σ.next then η.gh id else η2.gh (id - σ.next+B)⟩
 have Sr:∀b o,η.ro b=some o->η2.ro b=some o:=amQ;have hext:η.le η':=by
  refine ⟨λid q hq=>?_,Sr,λid hg=>?_⟩
  ·show (if id < σ.next then η id else _)=some q
   rw [ak (h.dom id q hq)];exact hq
  ·show (if id < σ.next then η.gh id else _)=true
   rw [ak (h.jo id hg).2];exact hg
 have nK:∀i,s.gn < i->i<=s.gn+s.ka->∃id q,bW i r=some (some id)/\η id=some q/\η2 i=some q/\id < σ.next/\(∃o,σ.get id=some o):=by
  intro i h1 h2;obtain ⟨id,c,et,qQ,opn,g1,g2⟩:=Qg RJ i h1 h2;obtain ⟨q,hq,_⟩:=h.obj _ _ g2 rfl;have:=(ame i q (by show (if s.gn < i/\i<=s.gn+s.ka then _ else _)=_;rw [ak ⟨h1,h2⟩,g1];exact hq)).1;exact ⟨id,q,g1,hq,this,h.dom id q hq,_,g2⟩
 have Gp:∀i id,s.gn < i->i<=s.gn+s.ka->bW i r=some (some id)->rhoC s.gn s.ka σ.next r i=id:=by
  intro i id h1 h2 h3;unfold rhoC;rw [ah (by omega),ak h2,h3]
 have D9:∀i,s.gn+s.ka < i->rhoC s.gn s.ka σ.next r i=σ.next+(i - B):=by
  intro i h1;unfold rhoC;rw [ah (by omega),ah (by omega)]
 have DY:∀i,s.gn+s.ka < i->η' (σ.next+(i - B))=η2 i/\η'.gh (σ.next+(i - B))=η2.gh i:=by
  intro i h1;have e:σ.next+(i - B) - σ.next+B=i:=by show σ.next+(i - (s.gn+s.ka+1)) - σ.next+(s.gn+s.ka+1)=i;omega
  constructor
  ·show (if σ.next+(i - B) < σ.next then _ else η2 (σ.next+(i - B) - σ.next+B))=_
   rw [ah (by omega),e]
  ·show (if σ.next+(i - B) < σ.next then _ else η2.gh (σ.next+(i - B) - σ.next+B))=_
   rw [ah (by omega),e]
 have aad:H7 (Tg tabs gs s.ka) T s.gn (rhoC s.gn s.ka σ.next r) f η2 η':=by
  refine ⟨hf,λi q hi hq=>?_,λi q hi hq=>?_,λi hi hg=>?_,λ_ _ h=>h⟩
  ·by_cases hk:i<=s.gn+s.ka
   ·obtain ⟨id,q',g1,g2,g3,g4,_⟩:=nK i hi hk
    rw [Gp i id hi hk g1];rw [hq] at g3;cases g3;exact hext.pl _ _ g2
   ·rw [D9 i (by omega),(DY i (by omega)).1];exact hq
  ·obtain ⟨sz,es,e1⟩:=amI i (by omega)
   rw [hq] at e1;cases e1;obtain ⟨sz',es',e2⟩:=h.mD i (by omega);refine ⟨⟨i,0,sz',es'⟩, ?_,rfl,rfl⟩;show η' (rhoC s.gn s.ka σ.next r i)=_
   unfold rhoC;rw [ak hi];exact hext.pl _ _ e2
  ·by_cases hk:i<=s.gn+s.ka
   ·obtain ⟨id,q',g1,g2,g3,_⟩:=nK i hi hk
    rw [(VA i hg).1] at g3;cases g3
   ·rw [D9 i (by omega),(DY i (by omega)).2];exact hg
 have old:∀id o,(kills σ (mY r)).get id=some o->id∉mY r/\σ.get id=some o:=by
  intro id o hg;rw [zQ] at hg;split at hg
  ·cases hg
  ·next hm=>exact ⟨hm,hg⟩
 have N7:∀id o q,id∉mY r->σ.get id=some o->η id=some q->∀dh o0 q0,dh∈mY r->σ.get dh=some o0->o0.own=true->η dh=some q0->q0.bl≠q.bl:=by
  intro id o q hm hg hq dh o0 q0 hm0 hg0 ho0 hq0;exact h.sep dh o0 id o q0 q hg0 ho0 hg (λe=>hm (e ▸ hm0)) hq0 hq
 have ahP:∀id o q,id∉mY r->σ.get id=some o->η id=some q->q.bl < w.heap.size->w'.heap[q.bl]? = w.heap[q.bl]?:=by
  intro id o q hm hg hq hlt;refine Gu.keep q.bl hlt ?_;rintro ⟨dh,o0,q0,a1,a2,a3,a4,a5⟩
  exact N7 id o q hm hg hq dh o0 q0 a1 a2 a3 a4 a5
 have obj:∀k o,(Gm (rhoC s.gn s.ka σ.next r) f s.objs (kills σ (mY r)).h).get k=some o->(∃i o0,(i,o0)∈s.objs/\rhoC s.gn s.ka σ.next r i=k/\o=o0.ren (rhoC s.gn s.ka σ.next r) f)\/(k∉mY r/\σ.get k=some o/\∀p∈s.objs,rhoC s.gn s.ka σ.next r p.1≠k):=by
  intro k o hk;rcases abI hk with h1 | ⟨h1,h2⟩
  ·exact .inl h1
  ·obtain ⟨h3,h4⟩:=old k o h1
   exact .inr ⟨h3,h4,h2⟩
 have Gh:∀k o q,σ.get k=some o->η' k=some q->η k=some q:=by
  intro k o q hg hq;have hlt:k < σ.next:=h.hasLt (h.Jc hg);have hq':(if k < σ.next then η k else _)=some q:=hq;rw [ak hlt] at hq';exact hq'
 have plNew:∀i o q,(i,o)∈s.objs->η' (rhoC s.gn s.ka σ.next r i)=some q->η2 i=some q:=by
  intro i o q hm hq;obtain ⟨g1,g2,g3⟩:=DU i o hm;by_cases hk:i<=s.gn+s.ka
  ·obtain ⟨id,q',a1,a2,a3,a4,_⟩:=nK i g1 hk
   rw [Gp i id g1 hk a1] at hq;have:=hext.pl _ _ a2;rw [hq] at this;cases this;exact a3
  ·rw [D9 i (by omega),(DY i (by omega)).1] at hq;exact hq
 have aqY:∀i j oi oj,(i,oi)∈s.objs->(j,oj)∈s.objs->rhoC s.gn s.ka σ.next r i=rhoC s.gn s.ka σ.next r j->i=j:=by
  intro i j oi oj hi hj e;obtain ⟨g1,g2,_⟩:=DU i oi hi;obtain ⟨k1,k2,_⟩:=DU j oj hj;by_cases c1:i<=s.gn+s.ka<;>by_cases c2:j<=s.gn+s.ka
  ·obtain ⟨id,_,a1,_,_,_,_⟩:=nK i g1 c1
   obtain ⟨id',_,b1,_,_,_,_⟩:=nK j k1 c2;rw [Gp i id g1 c1 a1,Gp j id' k1 c2 b1] at e;subst e;exact UQ hinj i j id a1 b1
  ·obtain ⟨id,_,a1,_,_,a4,_⟩:=nK i g1 c1
   rw [Gp i id g1 c1 a1,D9 j (by omega)] at e;omega
  ·obtain ⟨id,_,a1,_,_,a4,_⟩:=nK j k1 c2
   rw [Gp j id k1 c2 a1,D9 i (by omega)] at e;omega
  ·rw [D9 i (by omega),D9 j (by omega)] at e
   have hB:B=s.gn+s.ka+1:=rfl;omega
 have Ub:∀i o q,(i,o)∈s.objs->η2 i=some q->w.heap.size<=q.bl\/∃id o0 q0,id∈mY r/\σ.get id=some o0/\o0.own=true/\η id=some q0/\q0.bl=q.bl:=by
  intro i o q hm hq;exact amN i o q (JK i o hm) (bg.TS (DU i o hm).2.2) hq
 have hlt:∀k o q,σ.get k=some o->η k=some q->q.bl < w.heap.size:=λk o q hg hq=>(h.at hg hq).lt;refine ⟨η',⟨hext,⟨?_, ?_, ?_, ?_, ?_,amP, ?_, ?_⟩,Gu.size, ?_, ?_,Gu.os,Gu.tape,Gu.output,rfl,Nat.le_add_right _ _, ?_, ?_⟩,au.ren aad _ _ p2 hv⟩
 ·intro g hg
  obtain ⟨sz,es,e⟩:=h.mD g hg;exact ⟨sz,es,hext.pl _ _ e⟩
 ·intro id q hq
  show id < σ.next+(s.next - (s.gn+s.ka+1))
  by_cases hl:id < σ.next
  ·omega
  ·have hq':(if id < σ.next then η id else η2 (id - σ.next+B))=some q:=hq
   rw [ah hl] at hq';have:=acu _ _ hq';have:id - σ.next+(s.gn+s.ka+1) < s.next:=this;omega
 ·intro k o hk
  rcases obj k o hk with ⟨i,o0,h1,rfl,rfl⟩ | ⟨h1,h2,_⟩
  ·obtain ⟨g1,g2,g3⟩:=DU i o0 h1
   exact Live.ren aad g1 g3 (amL i o0 (JK i o0 h1))
  ·refine ((h.live k o h2).heap λq hq hor=>?_).mono hext
   exact ahP k o q h1 h2 hq hor.lt
 ·intro id hg
  have hg':(if id < σ.next then η.gh id else η2.gh (id - σ.next+B))=true:=hg;show (if id < σ.next then η id else η2 (id - σ.next+B))=none/\id < σ.next+(s.next - (s.gn+s.ka+1))
  by_cases hl:id < σ.next
  ·rw [ak hl] at hg' ⊢
   exact ⟨(h.jo id hg').1,by omega⟩
  ·rw [ah hl] at hg' ⊢
   obtain ⟨a1,a2⟩:=VA _ hg';have a2':id - σ.next+(s.gn+s.ka+1) < s.next:=a2;exact ⟨a1,by omega⟩
 ·intro k o k' o' q q' a1 a2 a3 a4 a5 a6
  rcases obj k o a1 with ⟨i,o0,h1,rfl,rfl⟩ | ⟨h1,h2,_⟩<;>rcases obj k' o' a3 with ⟨j,Js,k1,rfl,rfl⟩ | ⟨k1,k2,_⟩
  ·have b1:=plNew i o0 q h1 a5
   have b2:=plNew j Js q' k1 a6;exact amS i o0 j Js q q' (JK i o0 h1) (bg.TS (DU i o0 h1).2.2) (JK j Js k1) (λe=>a4 (by rw [e])) b1 b2
  ·have b1:=plNew i o0 q h1 a5
   have b2:=Gh k' o' q' k2 a6;rcases Ub i o0 q h1 b1 with c1 | ⟨id,o1,q1,c1,c2,c3,c4,c5⟩
   ·have:=hlt k' o' q' k2 b2
    omega
   ·rw [<- c5]
    exact N7 k' o' q' k1 k2 b2 id o1 q1 c1 c2 c3 c4
  ·have b1:=Gh k o q h2 a5
   have b2:=plNew j Js q' k1 a6;rcases Ub j Js q' k1 b2 with c1 | ⟨id,o1,q1,c1,c2,c3,c4,c5⟩
   ·have:=hlt k o q h2 b1
    omega
   ·rw [<- c5]
    exact λe=>N7 k o q h1 h2 b1 id o1 q1 c1 c2 c3 c4 e.symm
  ·exact h.sep k o k' o' q q' h2 a2 k2 a4 (Gh k o q h2 a5) (Gh k' o' q' k2 a6)
 ·intro k o q a1 a2 a3
  rcases obj k o a1 with ⟨i,o0,h1,rfl,rfl⟩ | ⟨h1,h2,_⟩
  ·exact amR i o0 q (JK i o0 h1) (bg.TS (DU i o0 h1).2.2) (plNew i o0 q h1 a3)
  ·have b1:=Gh k o q h2 a3
   show η2.ro q.bl=none
   cases hro:η2.ro q.bl with
   | none=>rfl
   | some x=>
     rcases acE q.bl (by rw [hro];simp) with c1 | c1 | ⟨id,o1,q1,c1,c2,c3,c4,c5⟩
     ·exact absurd (h.lU k o q h2 a2 b1) c1
     ·have:=hlt k o q h2 b1
      have c1':w.heap.size<=q.bl:=c1;omega
     ·exact absurd c5 (N7 k o q h1 h2 b1 id o1 q1 c1 c2 c3 c4)
 ·intro p hp
  have hp':p∈tabs:=by rw [<- qL];exact hp
  obtain ⟨cs,elem,fr,e1,e2⟩:=amT p hp';exact ⟨cs,elem,fr,e1,e2⟩
 ·intro bl hbl hno
  refine Gu.keep bl hbl ?_;rintro ⟨id,o,q,a1,a2,a3,a4,a5⟩
  exact hno id o q a2 a3 (hlk id a1) a4 a5
 ·intro k o q a1 a2 a3 a4
  rcases obj k o a1 with ⟨i,o0,h1,rfl,rfl⟩ | ⟨h1,h2,_⟩
  ·rcases Ub i o0 q h1 (plNew i o0 q h1 a4) with c1 | ⟨id,o1,q1,c1,c2,c3,c4,c5⟩
   ·exact .inl c1
   ·exact .inr ⟨id,o1,q1,c2,c3,hlk id c1,c4,c5⟩
  ·exact .inr ⟨k,o,q,h2,a2,a3,Gh k o q h2 a4,rfl⟩
 ·intro id hh
  by_cases hl:id < σ.next
  ·left
   rcases hh with ⟨q,hq⟩ | hg
   ·have hq':(if id < σ.next then η id else _)=some q:=hq
    rw [ak hl] at hq';exact .inl ⟨q,hq'⟩
   ·have hg':(if id < σ.next then η.gh id else _)=true:=hg
    rw [ak hl] at hg';exact .inr hg'
  ·right
   refine ⟨by omega, ?_⟩;show id < σ.next+(s.next - (s.gn+s.ka+1))
   rcases hh with ⟨q,hq⟩ | hg
   ·have hq':(if id < σ.next then η id else η2 (id - σ.next+B))=some q:=hq
    rw [ah hl] at hq';have:id - σ.next+(s.gn+s.ka+1) < s.next:=acu _ _ hq';omega
   ·have hg':(if id < σ.next then η.gh id else η2.gh (id - σ.next+B))=true:=hg
    rw [ah hl] at hg';have:id - σ.next+(s.gn+s.ka+1) < s.next:=(VA _ hg').2;omega
 ·intro b hb
  rcases acE b hb with c1 | c1 | ⟨id,o1,q1,c1,c2,c3,c4,c5⟩
  ·exact .inl c1
  ·exact .inr (.inl c1)
  ·exact .inr (.inr ⟨id,o1,q1,c2,c3,hlk id c1,c4,c5⟩)
theorem ai2 {T:aF} (hlow:qZ T.tabs P.globals.size) {f:FuncId} {st:List (Option FuncId)} {sp:bK} (hok:sp.pre.ok=true) (hC:∀gs out,T.I sp.key gs=some out->G8 P T.tabs f st sp.pre sp.posts gs out):@dS T P f (@Uc T.togq P st sp):=by
 letI:=T
 intro Ie σ rr σ' hs η w vs0 hS hv0;unfold Uc at hs;split at hs
 ·cases hs
 next args htk=>
 obtain ⟨vs,rfl,hv⟩:=Pg htk hv0;split at hs;next r p fz hfit=>
 split at hs
 ·cases hs
 next ps hps=>
 split at hs;rotate_left
 ·cases hs
 next hm=>
 split at hs;rotate_left
 ·cases hs
 next tag htag=>
 split at hs;rotate_left
 ·cases hs
 next e s hpick=>
 split at hs;rotate_left
 ·cases hs
 next hpost=>
 split at hs;rotate_left
 ·cases hs
 next ns hns=>
 cases hs;rw [aH,aH,aH] at hm;obtain ⟨hm,hm1,hm2,hm3⟩:=hm;unfold NK at hm;simp only [aH,iK] at hm;obtain ⟨⟨⟨⟨m1,m2⟩,m3⟩,m4⟩,m5⟩:=hm;have m1:=bn m1;rw [aH,aH] at hpost;obtain ⟨q1,q2,q3⟩:=hpost;have q2:=bn q2;have q3:=bn q3;unfold fJ.ok at hok;rw [aH,aH] at hok;obtain ⟨⟨_,hbs⟩,Dt⟩:=hok;have hbs:AV.nD sp.pre.next sp.pre.args=true:=by
  have:∀l:List (Nat×AV),AZ sp.pre.next l=true->AV.nD sp.pre.next (l.map (·.2))=true:=by
   intro l;induction l with
   | nil=>intro _;rfl
   | cons a l ih=>intro h;simp only [AZ,aH] at h;simp only [jV,AV.nD,aH];exact ⟨h.1,ih h.2⟩
  exact this _ hbs
 have ahe:∀id∈fz,σ.lock<=id:=λid hid=>qE (List.all_eq_true.1 hm1 id hid);have hlk2:∀id∈mY r,σ.lock<=id:=λid hid=>by
  have:=List.all_eq_true.1 hm2 id hid;rw [aH] at this;exact qE this.1
 have ahg:∀id∈mY r,id∉fz:=λid hid hm=>by
  have:=List.all_eq_true.1 hm2 id hid;rw [aH,WM.2 hm] at this;simp at this
 obtain ⟨bQ,f1,f2,f3⟩:=Ro hS fz ahe;obtain ⟨gt,t1,t2⟩:=fG htag;simp only [Nd.den] at t2;split at t2;rotate_left
 ·cases t2
 next gs hgs=>
 split at t2;rotate_left
 ·cases t2
 next out hI=>
 obtain ⟨t,r0,rest,e2,s2,rfl,hp2,hex,hrl,hrun⟩:=hC gs out hI;simp only [iH,aT] at t2;subst t2;have hpe:=Ui t1 sp.posts 0 hpick (yg _) (e2,s2) (by simpa using hp2);cases hpe;obtain ⟨n1,n2⟩:=Jz hgs hI _ 1 s.al (r:=r0) (λk=>by rw [Hu,qw]) hex hns;have hval:∀j g,rest[j]? = some g->T.val (ns.getD j 0)=some g:=by
  intro j g hj;have hjl:j < ns.length:=by have:=(dO.1 hj).1;omega
  have hm:ns[j]? = some (ns.getD j 0):=by rw [uU,dK hjl];rfl
  rw [n2 j _ hm];exact hj
 have C:rW T P T.tabs sp.pre.gn sp.pre.next η σ w fz r ps gs bQ:=⟨hS,hgs,f1,f3,m1,by omega⟩
 obtain ⟨hR,hown⟩:=TD (ka:=sp.pre.ka) rfl hlow Dt (by omega) m1 C f2.rel.iG (λid o q b2 b3 b4 b5=>f2.rel.lU id o q (by rw [zQ,ah b2];exact b3) b4 b5) m3 m5;let σ1:aj:=kills σ fz
 let η1:Env:=⟨η.pl,bQ,η.gh⟩
 let w0:Base:=⟨w,λb=>∃id o q,id∈mY r/\σ1.get id=some o/\o.own=true/\η1 id=some q/\q.bl=b,λi=>if sp.pre.gn < i/\i<=sp.pre.gn+sp.pre.ka then (match bW i r with | some (some id)=>η1 id | _=>none) else none⟩
 have hF:@je (Tg T.tabs gs sp.pre.ka) P w0 bQ (qg T.tabs sp.pre.gn sp.pre.next r η bQ) (sp.pre.st T.tabs) w:=by
  refine @je.mk (Tg T.tabs gs sp.pre.ka) P w0 bQ _ _ w hR ⟨rfl,rfl,rfl,dF _,λ_ _ _=>rfl⟩ ?_ (λ_ _ h=>h) (λ_ h=>.inl h) ?_
  ·intro i o q a1 a2 a3
   obtain ⟨id,o',b1,b2,b3,b4,b5⟩:=hown i o q a1 a2 a3;exact .inr ⟨id,o',q,aag b1,by show (kills σ fz).get id=_;rw [zQ,ah b2];exact b3,b4,b5,rfl⟩
  ·intro i q hi
   have hi':(if sp.pre.gn < i/\i<=sp.pre.gn+sp.pre.ka then (match bW i r with | some (some id)=>η1 id | _=>none) else none)=some q:=hi;split at hi'
   ·next hr=>
    split at hi'
    ·next id hid=>
     refine ⟨?_,by omega,by show i<=P.globals.size+sp.pre.ka;omega⟩;rw [DJ hr.1 (by omega) hid];exact hi'
    ·cases hi'
   ·cases hi'
 have hvs:=BF (ka:=sp.pre.ka) C _ _ _ hbs m4 hv;refine jS.mono (hrun w0 bQ w vs ⟨_,hF,hvs⟩) ?_;rintro v w' ⟨us,rfl,η2,hF2,hv2⟩
 have agW:zx r σ1 sp.pre.gn sp.pre.ka=true:=by
  have:∀n i,(∀j,i < j->j<=i+n->∃id,bW j r=some (some id)/\id∉fz)->zx r σ i n=true->zx r σ1 i n=true:=by
   intro n;induction n with
   | zero=>intro i _ _;rfl
   | succ n ih=>
     intro i hnf h;simp only [zx,aH] at h ⊢;obtain ⟨id,h1,h2⟩:=hnf (i+1) (by omega) (by omega);refine ⟨?_,ih (i+1) (λj a b=>hnf j (by omega) (by omega)) h.2⟩;have h3:=h.1;rw [h1] at h3 ⊢;simp only at h3 ⊢;show (match (kills σ fz).get id with | some (.cells _ _ _ _)=>true | _=>false)=true
     rw [zQ,ah h2];exact h3
  refine this _ _ (λj a b=>?_) hm3;obtain ⟨id,c,et,qQ,opn,g1,g2⟩:=Qg hm3 j a b;exact ⟨id,g1,ahg id (aag g1)⟩
 obtain ⟨η',hst,hvr⟩:=St.aiP (T:=T) (tabs:=T.tabs) (G:=sp.pre.gn) (ka:=sp.pre.ka) rfl m1 f2.rel m3 (by rw [FN];exact hlk2) agW q1 q2 q3 hval hF2 hv2;have hst':=f2.trans hst;rw [SN,FN] at hst';rw [SN] at hvr;exact ⟨η',hst',ac1 hvr⟩
def Td (P:Program) (tabs:List (Nat×List AV)) (pl:jK) (specs:List (Nat×bK)) (fuel:Nat) (st:List (Option FuncId)) (sp:bK) (ntmps:Nat) (res:List ResultVar) (ac:AC) (ns:List Nd) (ds:List (Nat×Bool)) (lf:Leaf):Bool:=
 match lf with
 | .ret (tn::l)=>match @sG ⟨ns,ds,sp.pre.ka⟩ (Ah P tabs ⟨ns,ds,sp.pre.ka⟩ specs) (Ea P ⟨ns,ds,sp.pre.ka⟩ pl fuel) ac { t:=vY (tH st (AV.nT (λj=>j) sp.pre.args)) 0 .nil,n:=max (tH st (AV.nT (λj=>j) sp.pre.args)).length ntmps,gn:=P.globals.size } (sp.pre.Ag tabs λj=>j) with
   | some (e,a',σ')=>(match e with | .exit _=>false | _=>true)&&match yw P σ' a' res with
     | some rs=>match ns[tn]? with
       | some (.ci .i64 t)=>match sp.posts[t.toNat]? with
         | some (_,s)=>decide (0<=t)&&(s.ok&&(Nat.beq s.ka sp.pre.ka&&(match zG sp.pre.np s.al l with
           | some l2=>Nat.beq l2.length s.np&&(match @agc ⟨ns,ds,sp.pre.ka⟩ P s rs σ' with
             | ⟨r,_,fz⟩=>Ic r s.gn s.ka&&@NK ⟨ns,ds,sp.pre.ka⟩ P s rs σ' fz r l2)
           | none=>false)))
         | none=>false
       | _=>false
     | none=>false
   | none=>false
 | _=>false
theorem G8.Jw {tabs:List (Nat×List AV)} (hlow:qZ tabs P.globals.size) (hm:P.follows .mixedOrders=true) (hn:rX P) {pl:jK} {I:fP} (hpl:uZ P tabs I pl) {specs:List (Nat×bK)} {fuel:Nat} {f:FuncId} {fn:Func} {c:Code} {pe:List Nat} {st:List (Option FuncId)} {sp:bK} {n:Nat} (hnp:n=sp.pre.np) {t:Tree}
 (hf:P.funcs[f]? = some fn) (hc:fn.body=some c)
 (Dv:∀k sp',bW k specs=some sp'->sp'.pre.ok=true/\∀b,(lC pe c).mW k b->∀gs out,I sp'.key gs=some out->qW P tabs b sp'.pre sp'.posts gs out)
 (sW:t.chk (Td P tabs pl specs fuel st sp fn.ntmps fn.results.toList (lC pe c)) (List.replicate sp.pre.np .arg) []=true) {gs out:List GV} (hd:(aI.tree n t).den I gs=some out):G8 P tabs f st sp.pre sp.posts gs out:=by
 simp only [aI.den] at hd;split at hd;rotate_left
 ·cases hd
 next hlen=>
 subst hnp;obtain ⟨ns,ds,env,lf,h1,h2,⟨more,h3⟩,h4⟩:=Tree.ER t sW (zu.start I gs _ hlen) hd;let T:aF:=Tw tabs I sp.pre.ka h2
 unfold Td at h1;split at h1;rotate_left
 ·cases h1
 next tn l=>
 split at h1;rotate_left
 ·cases h1
 next e a' σ' hrun=>
 rw [aH] at h1;obtain ⟨he,h1⟩:=h1;split at h1;rotate_left
 ·cases h1
 next rs hrs=>
 split at h1;rotate_left
 ·cases h1
 next tt htn=>
 split at h1;rotate_left
 ·cases h1
 next e' s hpost=>
 rw [aH,aH,aH,decide_eq_true_iff] at h1;obtain ⟨c1,c2,c3,h1⟩:=h1;split at h1;rotate_left
 ·cases h1
 next l2 hl2=>
 rw [aH] at h1;obtain ⟨c4,h1⟩:=h1;have c3:=bn c3;have c4:=bn c4;split at h1;next r pp fz hfit=>
 rw [aH] at h1;obtain ⟨c5,c6⟩:=h1;unfold NK at c6;simp only [aH,iK] at c6;obtain ⟨⟨⟨⟨m1,m2⟩,m3⟩,m4⟩,m5⟩:=c6;have m1:=bn m1;have h4':valsOf (λn=>env[n]?) (tn::l)=some out:=h4;simp only [valsOf] at h4';split at h4';rotate_left
 ·cases h4'
 next g r0 hg hr0=>
 cases h4';obtain ⟨rest,hrest,hex⟩:=L6 h3 hlen hl2 hr0;obtain ⟨g',k1,k2⟩:=h2.node tn _ htn (by simp);have hg':env[tn]? = some g:=hg;rw [hg'] at k1;cases k1;simp only [Nd.den,aT] at k2;subst k2;unfold fJ.ok at c2;rw [aH,aH] at c2;obtain ⟨⟨_,hbs⟩,Dt⟩:=c2;have hbs:AV.nD s.next s.args=true:=by
  have:∀l:List (Nat×AV),AZ s.next l=true->AV.nD s.next (l.map (·.2))=true:=by
   intro l;induction l with
   | nil=>intro _;rfl
   | cons a l ih=>intro h;simp only [AZ,aH] at h;simp only [jV,AV.nD,aH];exact ⟨h.1,ih h.2⟩
  exact this _ hbs
 refine ⟨tt.toNat,r0,rest,e',s,by rw [Int.toNat_of_nonneg c1],hpost,hex,by rw [<- c4];exact V9 hrest,λw0 cu w vs hA=>?_⟩;have Fz:∀Q:dH->aX->aj->Prop,Q e a' σ'->@AT T P c { t:=vY (tH st (AV.nT (λj=>j) sp.pre.args)) 0 .nil,n:=max (tH st (AV.nT (λj=>j) sp.pre.args)).length fn.ntmps,gn:=P.globals.size } (sp.pre.Ag tabs λj=>j) Q:=by
  intro Q hq;have:=@Qd P T (Ah P tabs ⟨ns,ds,sp.pre.ka⟩ specs) (Ea P ⟨ns,ds,sp.pre.ka⟩ pl fuel) (U6 (T:=T) hm hn (hpl T rfl rfl) fuel) (lC pe c) (vC pe c 0).2 (λk b hk a σ e1 a1 σ1 hs Q' hq'=>by
   unfold Ah at hs;split at hs
   ·next sp' hsp=>
    obtain ⟨k1,k2⟩:=Dv k sp' hsp;exact SS (T:=T) rfl hlow k1 (λgs out hI=>k2 b hk gs out hI) hs hq'
   ·cases hs) _ _ _ _ _ hrun Q hq
  rwa [show (lC pe c).erase=c from (vC pe c 0).1] at this
 have henv:∀j g,gs[j]? = some g->T.val ((λj=>j) j)=some g:=by
  intro j g hj;show env[j]? = some g
  rw [h3];have:=(dO.1 hj).1;rw [lg this];exact hj
 obtain ⟨η,hF0,hv0⟩:=hA;have hF1:=Zy (T:=T) (f:=λj=>j) rfl rfl henv hF0;have hv1:@au T η (AV.nT (λj=>j) sp.pre.args) vs:=au.dw (S:=Tg tabs gs sp.pre.ka) (T:=T) henv _ _ hv0;have key:Calls P f ⟨tJ st vs⟩ w λen w'=>∃v,en=.returned v/\∃us,v=yY us/\GY P tabs s rest w0 cu us w':=by
  letI:=T
  have hv2:au η (tH st (AV.nT (λj=>j) sp.pre.args)) (tJ st vs):=Oo hv1;refine calls_of_wp hf hc ?_;refine Fz (λe2 a2 σ2=>e2=e/\a2=a'/\σ2=σ') ⟨rfl,rfl,rfl⟩ w0 cu η w _ _ hF1 rfl (QS hv2) ?_;rintro e2 a2 σ2 η1 A' w' ⟨rfl,rfl,rfl⟩ hF hl0 ht
  obtain ⟨us,r1,r2⟩:=JG hF.rel ht (fun | .tmp t=>pure (A'.tmps.getD t undef) | .cell a t=>do loadVar t (<- asAddr (A'.tmps.getD a undef))) (λ_=>rfl) (λ_ _=>rfl) _ _ hrs;obtain ⟨bQ,f1,f2,f3⟩:=MK hF hl0 fz;have C:rW T P tabs s.gn s.next η1 σ2 w' fz r l2 rest bQ:=⟨hF.rel,hrest,f1,f3,m1,by omega⟩
  obtain ⟨hR,hown⟩:=TD (ka:=s.ka) (T:=T) rfl hlow Dt (by omega) m1 C f2.rel.iG (λid o q b2 b3 b4 b5=>f2.rel.lU id o q (by rw [zQ,ah b2];exact b3) b4 b5) m3 m5;have hvs:=BF (ka:=s.ka) C _ _ _ hbs m4 r2;have hA':GY P tabs s rest w0 cu us w':=by
   refine ⟨_,@je.mk (Tg tabs rest s.ka) P w0 cu _ _ w' hR hF.kept ?_ f2.qP f2.oM ?_,hvs⟩
   ·intro i o q a1 a2 a3
    obtain ⟨id,u,b1,b2,b3,b4,b5⟩:=hown i o q a1 a2 a3;exact hF.own id u q b3 b4 b5
   ·intro i q hi
    obtain ⟨a1,a2,a3⟩:=hF.nK i q hi;have a3':i<=P.globals.size+s.ka:=by rw [c3];exact a3
    refine ⟨?_,a2,a3'⟩;rw [DJ (by omega) (by omega) (Qh c5 i (by omega) (by omega))];exact a1
  have hres':(results fn A'.tmps).run P w'=.ok (if h:(⟨us⟩:Array Value).size=1 then (⟨us⟩:Array Value)[0] else .tuple ⟨us⟩) w':=by
   unfold results;rw [PE];simp only [aP,P6];exact vF (λr:Result (List Value)=>(r.andThen λa w'=>Result.ok a.toArray w').andThen λa w'=>Sem.run P (pure (if h:a.size=1 then a[0] else Value.tuple a)) w') r1
  have SB:(if h:(⟨us⟩:Array Value).size=1 then (⟨us⟩:Array Value)[0] else .tuple ⟨us⟩)=yY us:=by
   match us with
   | []=>rfl
   | [u]=>rfl
   | u::u'::us=>rfl
  rw [SB] at hres'
  have hpost:A'.defers=[]/\∃v,(results fn A'.tmps).run P w'=.ok v w'/\∃v',Ending.returned v=.returned v'/\∃us,v'=yY us/\GY P tabs s rest w0 cu us w':=
   ⟨ht.none,_,hres',_,rfl,us,rfl,hA'⟩
  cases e2 with
  | normal=>exact hpost
  | ret=>exact hpost
  | exit id=>simp at he
 right;refine ⟨?_,Calls.mono' key ?_⟩
 ·have hname:=hn f fn c hf hc
  simp only [callFunc,aP,program,Sem.run,aO,hf];simp only [hname,iC,if_false,hc,Ez,bf]
 ·rintro en w' ⟨v,rfl,h5⟩
  exact ⟨v,rfl,h5⟩
end
end Go.aN
namespace Go.aN
set_option linter.unusedSimpArgs false
noncomputable section
set_option linter.unusedSectionVars false
set_option linter.unusedVariables false
variable {P:Program} {H:Type} {enc:TypeId×Value->H}
inductive bF where
 | bool
 | int (k:IntKind)
 | str
 | list (agg:Bool) (e:List bF)
def fieldTys (P:Program) (r:TypeId->Option (List bF)):Nat->List Field->Option (List bF)
 | _,[]=>some []
 | off,f::fs=>match r f.type with
   | some l=>if Nat.beq f.offset off&&Nat.beq (P.cellsOf f.type) l.length then match fieldTys P r (off+l.length) fs with
     | some m=>some (l++m)
     | none=>none
     else none
   | none=>none
def zC (P:Program):Nat->TypeId->Option (List bF)
 | 0,_=>none
 | n+1,t=>match P.underlying t with
   | some .bool=>some [.bool]
   | some (.int k)=>some [.int k]
   | some .string=>some [.str]
   | some (.slice e)=>match zC P n e,mZ P e with
     | some l,some b=>if Nat.beq (P.cellsOf e) l.length&&Nat.ble 1 l.length&&Nat.ble 1 (P.bytesOf e)&&(b || Nat.beq l.length 1) then some [.list b l] else none
     | _,_=>none
   | some (.struct fs)=>match fieldTys P (zC P n) 0 fs.toList with
     | some l=>if Nat.beq (P.cellsOf t) l.length then some l else none
     | none=>none
   | _=>none
mutual
def bF.has:bF->GV->Prop
 | .bool,g=>∃b,g=.b b
 | .int k,g=>∃n,g=.i k n/\k.min<=n/\n<=k.max
 | .str,g=>∃s,g=.s s/\s.length<=reachBytes
 | .list agg e,g=>∃xs,g=.l xs/\xs.length<=reachBytes/\∀x∈xs,bF.gW e x.cells/\x.scalar = !agg
def bF.gW:List bF->List GV->Prop
 | [],gs=>gs=[]
 | t::ts,gs=>∃g r,gs=g::r/\bF.has t g/\bF.gW ts r
end
theorem bF.has.scalar {t:bF} {g:GV} (h:t.has g):g.scalar=true:=by
 cases t<;>simp only [bF.has] at h
 ·obtain ⟨b,rfl⟩:=h;rfl
 ·obtain ⟨b,rfl,_⟩:=h;rfl
 ·obtain ⟨b,rfl,_⟩:=h;rfl
 ·obtain ⟨b,rfl,_⟩:=h;rfl
theorem bF.gW.scalars:∀ {l:List bF} {gs:List GV},bF.gW l gs->gs.all GV.scalar=true/\gs.length=l.length
 | [],gs,h=>by simp only [bF.gW] at h;subst h;exact ⟨rfl,rfl⟩
 | t::l,gs,h=>by
   simp only [bF.gW] at h;obtain ⟨g,r,rfl,h1,h2⟩:=h;have:=bF.gW.scalars h2;simp [h1.scalar,this.1,this.2]
theorem bF.gW.append:∀ {l m:List bF} {gs hs:List GV},bF.gW l gs->bF.gW m hs->bF.gW (l++m) (gs++hs)
 | [],m,gs,hs,h,h'=>by simp only [bF.gW] at h;subst h;simpa using h'
 | t::l,m,gs,hs,h,h'=>by
   simp only [bF.gW] at h;obtain ⟨g,r,rfl,h1,h2⟩:=h;simp only [eP,bF.gW];exact ⟨g,r++hs,rfl,h1,bF.gW.append h2 h'⟩
theorem aS.append {ro:Nat->Option Obj}:∀ {l m:List GV} {vs us:List Value},aS ro l vs->aS ro m us->aS ro (l++m) (vs++us)
 | [],m,vs,us,h,h'=>by simp only [aS] at h;subst h;simpa using h'
 | a::l,m,vs,us,h,h'=>by
   simp only [aS] at h;obtain ⟨x,xs,rfl,h1,h2⟩:=h;simp only [eP,aS];exact ⟨x,xs++us,rfl,h1,aS.append h2 h'⟩
theorem ado:∀ {e:TypeId} {ds:List (DataW H)} {d:DataW H},d∈ds->∀z∈d.weights P e,z∈DataW.weightsAll P e ds
 | e,[],d,h,z,_=>by simp at h
 | e,d0::ds,d,h,z,hz=>by
   simp only [DataW.weightsAll,nI];rcases dP.1 h with rfl | h
   ·exact .inl hz
   ·exact .inr (ado h z hz)
def wK (w:World):Nat->Option Obj:=λb=>w.heap[b]?
theorem cell?_at {w:World} {a:Addr} {v:Value} (h:w.cell? a=some v):a.spot=none/\∃c elem fr,w.heap[a.block]? = some (.cells c elem fr)/\c[a.off]? = some v:=by
 unfold World.cell? at h;split at h
 ·next c elem fr hb=>
  split at h
  ·cases h
  ·next hs=>exact ⟨by simpa using hs,c,elem,fr,hb,h⟩
 ·cases h
theorem Zo {w:World} {r:TypeId->Option (List bF)} {fuel:Nat} {cs:List Value}
 (ih:∀t l ch (x:DataW H×List MemPlace),r t=some l->DataW.trod enc P w 0 (λ_=>true) true fuel t ch=some x->(∀z∈x.1.weights P t,z<=reachBytes)->∃gs,aS (wK w) gs ch/\bF.gW l gs) :
 ∀ (fs:List Field) (xs:List (DataW H×List MemPlace)) (off:Nat) (l:List bF),fieldTys P r off fs=some l->xs.length=fs.length->
   (∀ (i:Nat) (f:Field),fs[i]? = some f->DataW.trod enc P w 0 (λ_=>true) true fuel f.type ((cs.drop f.offset).take (P.cellsOf f.type))=xs[i]?)->
   (∀z∈DataW.weightsEach P (fs.map (·.type)) (xs.map (·.1)),z<=reachBytes)->
   ∃gs,aS (wK w) gs ((cs.drop off).take l.length)/\bF.gW l gs
 | [],xs,off,l,h,_,_,_=>by
   simp only [fieldTys,aT] at h;subst h;exact ⟨[],by simp [aS],by simp [bF.gW]⟩
 | f::fs,[],off,l,_,hl,_,_=>by simp at hl
 | f::fs,x::xs,off,l,h,hl,hx,hw=>by
   simp only [fieldTys] at h;split at h
   ·next l1 h1=>
    split at h
    ·next hc=>
     rw [aH] at hc;have e1:=bn hc.1;have e2:=bn hc.2;split at h
     ·next m hm=>
      cases h;have h0:=hx 0 f rfl;simp only [iH] at h0;obtain ⟨gs,g1,g2⟩:=ih f.type l1 _ x h1 h0 (λz hz=>hw z (by simp only [jV,DataW.weightsEach,nI];exact .inl hz))
      obtain ⟨hs,k1,k2⟩:=Zo ih fs xs (off+l1.length) m hm (by simpa using hl) (λi f' hf=>by have:=hx (i+1) f' (by simpa using hf);simpa using this)
       (λz hz=>hw z (by simp only [jV,DataW.weightsEach,nI];exact .inr hz))
      refine ⟨gs++hs, ?_,g2.append k2⟩;rw [e1,e2] at g1;have:(cs.drop off).take (l1++m).length=(cs.drop off).take l1.length++(cs.drop (off+l1.length)).take m.length:=by
       rw [iJ,zf,nH]
      rw [this];exact aS.append g1 k1
     ·cases h
    ·cases h
   ·cases h
theorem Y1 {c:Nat} {ch:Nat->List Value} {arr:Array Value} {off:Nat}:∀ (n:Nat) (_:∀i,i < n->(ch i).length=c/\∀j,j < c->arr[off+i * c+j]? = (ch i)[j]?),
 ((List.range n).flatMap ch).length=n * c/\∀ (k:Nat) x,((List.range n).flatMap ch)[k]? = some x->arr[off+k]? = some x
 | 0,_=>by simp
 | n+1,h=>by
   obtain ⟨h1,h2⟩:=Y1 n λi hi=>h i (by omega);obtain ⟨e1,e2⟩:=h n (by omega);rw [List.range_succ,WQ];simp only [iU,List.flatMap_nil,qV];refine ⟨by rw [iJ,h1,e1,pW,Cc],λk x hk=>?_⟩;by_cases hlt:k < n * c
   ·rw [lg (by omega)] at hk
    exact h2 k x hk
   ·rw [rV (by omega),h1] at hk
    have hj:=(dO.1 hk).1;have:=e2 (k - n * c) (by omega);rw [hk] at this;rw [<- this];congr 1;omega
theorem aS.ofFn {ro:Nat->Option Obj} {G:Nat->GV} {Y:Nat->Value}:∀ (l:List Nat),(∀i∈l,GR ro (G i) (Y i))->aS ro (l.map G) (l.map Y)
 | [],_=>by simp [aS]
 | i::l,h=>by simp only [jV,aS];exact ⟨_,_,rfl,h i (by simp),aS.ofFn l λj hj=>h j (by simp [hj])⟩
theorem VY {w:World}:∀ (n m:Nat) (t:TypeId) (cs:List Value) (x:DataW H×List MemPlace) (l:List bF),zC P n t=some l->DataW.trod enc P w 0 (λ_=>true) true m t cs=some x->
 (∀z∈x.1.weights P t,z<=reachBytes)->∃gs,aS (wK w) gs cs/\bF.gW l gs
 | 0,m,t,cs,x,l,hc,h,hw=>by simp [zC] at hc
 | n+1,m,t,cs,x,l,hc,h,hw=>by
   simp only [zC] at hc;split at hc
   ·next hu=>
    cases hc;obtain ⟨b,rfl,rfl⟩:=DataW.trod_bool hu h;exact ⟨[.b b],by simp [aS,GR],by simp only [bF.gW];exact ⟨_,_,rfl,by simp [bF.has],rfl⟩⟩
   ·next k hu=>
    cases hc;obtain ⟨b,rfl,rfl,hwf⟩:=DataW.trod_int hu h;have hwf':k.min<=b/\b<=k.max:=by simpa [Lit.wf] using hwf
    exact ⟨[.i k b],by simp [aS,GR],by simp only [bF.gW];exact ⟨_,_,rfl,by simp only [bF.has];exact ⟨b,rfl,hwf'⟩,rfl⟩⟩
   ·next hu=>
    cases hc;obtain ⟨s,rfl,rfl,hs⟩:=DataW.trod_string hu h;refine ⟨[.s s.data.toList],by simp only [aS,GR];exact ⟨_,_,rfl,by cases s with | mk a=>cases a;rfl,rfl⟩,by simp only [bF.gW];exact ⟨_,_,rfl,by simp only [bF.has];exact ⟨_,rfl,hw _ (by simp [DataW.weights])⟩,rfl⟩⟩
   ·next e hu=>
    split at hc
    ·next le agg he hag=>
     split at hc
     ·next hcond=>
      cases hc;simp only [aH,lW] at hcond;obtain ⟨⟨⟨c1,c2⟩,c3⟩,c4⟩:=hcond;have c1:=bn c1;have c2:=qE c2;have c3:=qE c3;rcases Deep.open_slice hu h with ⟨rfl,rfl⟩ | ⟨a,len,cap0,cap,n',D,Pl,rfl,hb,hl,hm,rfl,rfl,hi⟩
      ·exact ⟨[.l []],by simp [aS,GR],by simp only [bF.gW];exact ⟨_,_,rfl,by simp only [bF.has];exact ⟨[],rfl,by simp,by simp⟩,rfl⟩⟩
      have ahd:cap * P.bytesOf e<=reachBytes:=by
       have:=hw (cap * P.bytesOf e) (by simp only [DataW.weights,hu,dP,oQ,List.length_range];left;rw [Kw hl]);exact this
      have hcapR:cap<=reachBytes:=lu (adz _ c3) ahd;have one:∀i,i < len->∃ch gs,(ch.length=P.cellsOf e/\∀j,j < P.cellsOf e->w.cell? (((a.add (i * P.cellsOf e))).add j)=ch[j]?)/\aS (wK w) gs ch/\bF.gW le gs:=by
       intro i hil;obtain ⟨ch,h1,h2⟩:=hi i (by omega);obtain ⟨_,h3,h4⟩:=World.cells?_some h1;obtain ⟨gs,g1,g2⟩:=VY n n' e ch _ le he h2 (λz hz=>hw z (by
        simp only [DataW.weights,hu,dP,nI];right;left;exact ado (by simp only [qB,xY];exact ⟨i,hil,rfl⟩) z hz))
       exact ⟨ch,gs,⟨h3,h4⟩,g1,g2⟩
      by_cases hz:cap=0
      ·have hlz:len=0:=by omega
       subst hz;subst hlz;refine ⟨[.l []],by simp only [aS,GR];exact ⟨_,_,rfl,.inl ⟨trivial,_,rfl⟩,rfl⟩,by simp only [bF.gW];exact ⟨_,_,rfl,by simp only [bF.has];exact ⟨[],rfl,by simp,by simp⟩,rfl⟩⟩
      have ha:a.spot=none/\∃arr elem fr,w.heap[a.block]? = some (.cells arr elem fr):=by
       obtain ⟨ch,h1,h2⟩:=hi 0 (by omega);obtain ⟨_,h3,h4⟩:=World.cells?_some h1;have h5:=h4 0 (by omega);have hch:ch[0]? = some ch[0]:=dK (by omega);rw [hch] at h5;have h6:=cell?_at h5;simp only [Nat.zero_mul,Addr.add,if_true] at h6;exact ⟨h6.1,h6.2.choose,h6.2.choose_spec.choose,h6.2.choose_spec.choose_spec.choose,h6.2.choose_spec.choose_spec.choose_spec.1⟩
      obtain ⟨hsp,arr,elem,fr,hblk⟩:=ha;obtain ⟨bl,off,sp⟩:=a;simp only at hsp hblk;subst hsp;have addr:∀i j:Nat,((Addr.mk bl off none).add i).add j=⟨bl,off+i+j,none⟩:=by
       intro i j;unfold Addr.add;split<;>split<;>simp_all
      have hex:∃ (ch:Nat->List Value) (G:Nat->List GV),∀i,i < len->(ch i).length=P.cellsOf e/\(∀j,j < P.cellsOf e->arr[off+i * P.cellsOf e+j]? = (ch i)[j]?)/\aS (wK w) (G i) (ch i)/\bF.gW le (G i):=by
       refine ⟨λi=>if hil:i < len then (one i hil).choose else [],λi=>if hil:i < len then (one i hil).choose_spec.choose else [],λi hil=>?_⟩;simp only [dif_pos hil];obtain ⟨⟨h1,h2⟩,h3,h4⟩:=(one i hil).choose_spec.choose_spec;refine ⟨h1,λj hj=>?_,h3,h4⟩;have:=h2 j hj;rw [addr] at this;rw [<- this];have hch:=dK (l:=(one i hil).choose) (i:=j) (by omega);rw [hch] at this;have h6:=cell?_at this;simp only at h6;obtain ⟨_,c',e',f',h7,h8⟩:=h6;rw [hblk] at h7;cases h7;rw [this,h8]
      obtain ⟨ch,G,hG⟩:=hex;obtain ⟨q1,q2⟩:=Y1 (c:=P.cellsOf e) (ch:=ch) (arr:=arr) (off:=off) len λi hil=>⟨(hG i hil).1,λj hj=>(hG i hil).2.1 j hj⟩
      have hgl:∀i,i < len->(G i).length=le.length:=λi hil=>(hG i hil).2.2.2.scalars.2;let X:Nat->GV:=λi=>if agg then .g (G i) else (G i).headD (.l [])
      let Y:Nat->Value:=λi=>if agg then .agg ⟨ch i⟩ else (ch i).headD undef
      have hX:∀i,i < len->(X i).cells=G i/\(X i).scalar = !agg/\GR (wK w) (X i) (Y i)/\(Y i).cells.toList=ch i:=by
       intro i hil;obtain ⟨p1,p2,p3,p4⟩:=hG i hil;cases agg with
       | true=>simp only [X,Y,if_true];exact ⟨rfl,rfl,by simp only [GR];exact ⟨_,rfl,p3⟩,rfl⟩
       | false=>
         have hle1:le.length=1:=by simpa using c4
         obtain ⟨g,hg⟩:∃g,G i=[g]:=PV.1 (by rw [hgl i hil,hle1]);obtain ⟨y,hy⟩:∃y,ch i=[y]:=PV.1 (by rw [p1,c1,hle1]);have hsc:g.scalar=true:=by have:=p4.scalars.1;rw [hg] at this;simpa using this
         have FI:GR (wK w) g y:=by rw [hg,hy] at p3;simp only [aS] at p3;obtain ⟨u,us,e1,e2,_⟩:=p3;cases e1;exact e2
         simp only [X,Y,hg,hy,List.headD_cons,iC,if_false,Bool.not_false];refine ⟨by cases g<;>first | rfl | (simp [GV.scalar] at hsc),hsc,FI, ?_⟩;cases g<;>simp only [GR] at FI
         ·subst FI;rfl
         ·subst FI;rfl
         ·subst FI;rfl
         ·rcases FI with ⟨_,_,rfl⟩ | ⟨_,_,_,_,_,rfl,_⟩<;>rfl
         ·simp [GV.scalar] at hsc
      refine ⟨[.l ((List.range len).map X)], ?_, ?_⟩
      ·simp only [aS]
       refine ⟨_,_,rfl, ?_,rfl⟩;simp only [GR];right;have ZY:cZ ((List.range len).map Y)=(List.range len).flatMap ch:=by
        unfold cZ;rw [List.flatMap_map];rw [List.flatMap_def,List.flatMap_def,List.map_congr_left λi hir=>(hX i (xY.1 hir)).2.2.2]
       refine ⟨bl,off,cap,(List.range len).map Y,P.cellsOf e,by simp,by simpa using hl,aS.ofFn _ λi hir=>(hX i (xY.1 hir)).2.2.1, ?_,λhne=>⟨arr,elem,fr,hblk, ?_, ?_⟩⟩
       ·intro y hy
        obtain ⟨i,hir,rfl⟩:=qB.1 hy;have:=(hX i (xY.1 hir)).2.2.2;rw [<- Eo,this];exact (hG i (xY.1 hir)).1
       ·rw [ZY,q1]
        have hlp:0 < len:=by
         rcases Xd len with h0 | h0
         ·subst h0;simp at hne
         ·exact h0
        have hcp:0 < P.cellsOf e:=by omega
        have hk:len * P.cellsOf e - 1 < ((List.range len).flatMap ch).length:=by
         rw [q1];have:0 < len * P.cellsOf e:=Hy hlp hcp;omega
        have:=q2 _ _ (dK hk);have:=(og.1 this).1;have:0 < len * P.cellsOf e:=Hy hlp hcp;omega
       ·rw [ZY];exact q2
      ·simp only [bF.gW]
       refine ⟨_,_,rfl, ?_,rfl⟩;simp only [bF.has];refine ⟨_,rfl,by simp;omega,λy hy=>?_⟩;obtain ⟨i,hir,rfl⟩:=qB.1 hy;obtain ⟨k1,k2,_⟩:=hX i (xY.1 hir);rw [k1];exact ⟨(hG i (xY.1 hir)).2.2.2,k2⟩
     ·cases hc
    ·cases hc
   ·next fs hu=>
    split at hc
    ·next l' hf=>
     split at hc
     ·next hcl=>
      cases hc;have hcl:=bn hcl;obtain ⟨xs,n',rfl,rfl,hlen,hxl,hx⟩:=DataW.trod_struct hu h
      obtain ⟨gs,g1,g2⟩:=Zo (enc:=enc) (P:=P) (w:=w) (fuel:=n') (cs:=cs) (r:=zC P n) (λt l ch x h1 h2 h3=>VY n n' t ch x l h1 h2 h3) fs.toList xs 0 l hf (by simpa using hxl)
       (λi f hi=>hx i f (by simpa using hi)) (λz hz=>hw z (by simp only [DataW.weights,hu];simpa using hz))
      refine ⟨gs, ?_,g2⟩;rw [dJ,lK (by omega)] at g1;exact g1
     ·cases hc
    ·cases hc
   ·cases hc
def argTys (P:Program) (n:Nat):List TypeId->Option (List (Bool×List bF))
 | []=>some []
 | t::ts=>match zC P n t,mZ P t,argTys P n ts with
   | some l,some b,some r=>if b || Nat.beq l.length 1 then some ((b,l)::r) else none
   | _,_,_=>none
def hasArgs:List (Bool×List bF)->List GV->Prop
 | [],gs=>gs=[]
 | (b,l)::r,gs=>∃g gs',gs=g::gs'/\bF.gW l g.cells/\g.scalar = !b/\hasArgs r gs'
theorem aiS {w:World} {r:Reach} {b0:Nat} {t:TypeId} {v:Value} (h:Value.okWide P w r b0 t v):(mZ P t=some true->∃cs,v=.agg cs)/\
 (mZ P t=some false->v.cells = #[v]\/∀n,zC P n t=none):=by
 unfold Value.okWide at h;unfold mZ;constructor
 ·intro ha
  split at ha
  ·next hu=>rw [hu] at h;simp only at h;obtain ⟨cs,rfl,_⟩:=h;exact ⟨cs,rfl⟩
  ·next hu=>rw [hu] at h;simp only at h;obtain ⟨cs,rfl,_⟩:=h;exact ⟨cs,rfl⟩
  ·cases ha
  ·cases ha
 ·intro ha
  split at ha
  ·cases ha
  ·cases ha
  ·next u h1 h2 hu=>
   rw [hu] at h
   cases u<;>first
    | (exact absurd rfl (h1 _))
    | (exact absurd rfl (h2 _ _))
    | (right;intro n;cases n<;>simp [zC,hu];done)
    | (left;simp only [Cell.okWide,hu,Cell.ok] at h;cases v<;>first | rfl | (simp only at h;done) | (cases h;done))
  ·cases ha
theorem acZ {w:World} {n:Nat}:∀ {ts:List TypeId} {vs:List Value} {ds:List (DataW H)} {ps:List MemPlace} {L:List (Bool×List bF)},argTys P n ts=some L->DataW.TrodAll enc P w 0 (λ_=>true) true ts vs ds ps->
 (∀z∈DataW.weightsEach P ts ds,z<=reachBytes)->(∀ (j:Nat) t v,ts[j]? = some t->vs[j]? = some v->∃b0,Value.okWide P w .any b0 t v)->∃gs,aS (wK w) gs vs/\hasArgs L gs
 | [],[],[],ps,L,hL,h,hw,hok=>by simp only [argTys,aT] at hL;subst hL;exact ⟨[],by simp [aS],by simp [hasArgs]⟩
 | t::ts,v::vs,d::ds,ps,L,hL,h,hw,hok=>by
   obtain ⟨p,q,⟨m,h1⟩,h2,rfl⟩:=h;simp only [argTys] at hL;split at hL
   ·next l b r hc hag hr=>
    split at hL
    ·next hb=>
     cases hL;obtain ⟨gs,g1,g2⟩:=VY n m t _ _ l hc h1 (λz hz=>hw z (by simp only [DataW.weightsEach,nI];exact .inl hz));obtain ⟨hs,k1,k2⟩:=acZ hr h2 (λz hz=>hw z (by simp only [DataW.weightsEach,nI];exact .inr hz)) (λj t' v' h1 h2=>hok (j+1) t' v' (by simpa using h1) (by simpa using h2));obtain ⟨b0,hv⟩:=hok 0 t v rfl rfl;obtain ⟨o1,o2⟩:=aiS hv;cases b with
     | true=>
       obtain ⟨cs,rfl⟩:=o1 hag;refine ⟨.g gs::hs,by simp only [aS];exact ⟨_,_,rfl,by simp only [GR];exact ⟨cs.toList,rfl,g1⟩,k1⟩, ?_⟩;simp only [hasArgs];exact ⟨_,_,rfl,g2,rfl,k2⟩
     | false=>
       have hl1:l.length=1:=by simpa using hb
       rcases o2 hag with o2 | o2
       rotate_left
       ·rw [o2 n] at hc;cases hc
       rw [o2] at g1;obtain ⟨g,rfl⟩:∃g,gs=[g]:=PV.1 (by rw [g2.scalars.2,hl1]);have hsc:g.scalar=true:=by have:=g2.scalars.1;simpa using this
       simp only [aS] at g1;obtain ⟨u,us,e1,e2,_⟩:=g1;cases e1;refine ⟨g::hs,by simp only [aS];exact ⟨_,_,rfl,e2,k1⟩, ?_⟩;simp only [hasArgs];exact ⟨_,_,rfl,by cases g<;>first | exact g2 | (simp [GV.scalar] at hsc),hsc,k2⟩
    ·cases hL
   ·cases hL
 | [],_::_,_,_,_,_,h,_,_=>by simp [DataW.TrodAll] at h
 | [],[],_::_,_,_,_,h,_,_=>by simp [DataW.TrodAll] at h
 | _::_,[],_,_,_,_,h,_,_=>by simp [DataW.TrodAll] at h
 | _::_,_::_,[],_,_,_,h,_,_=>by simp [DataW.TrodAll] at h
theorem Kept.below {W W':World} (h:Kept W W'):Go.RowKit.Below W.heap.size W W':=⟨h.os,h.tape,h.output,h.size,h.keep⟩
theorem ac0 {W W':World} (hl:laidOutB P=true) (hk:Kept W W') {sp:Nat->Bool}:∀ {ts:List TypeId} {vs:List Value} {ds:List (DataW H)} {ps:List MemPlace},DataW.TrodAll enc P W 0 (λ_=>true) true ts vs ds ps->
 (∀t∈ts,P.readableRec t=true/\t < P.types.size)->(∀x∈ps,x.block < W.heap.size)->(∀x∈ps,sp x.block=true)->DataW.TrodAll enc P W' 0 sp true ts vs ds ps
 | [],[],[],ps,h,_,_,_=>h
 | t::ts,v::vs,d::ds,ps,h,hr,hlt,hsp=>by
   obtain ⟨p,q,h1,h2,rfl⟩:=h;obtain ⟨r1,r2⟩:=hr t (by simp)
   exact ⟨p,q,WideElems.Trod_stays hl r1 r2 h1 (λx hx=>hk.below.same (hlt x (List.mem_append_left _ hx))) (λx hx=>hsp x (List.mem_append_left _ hx)),
    ac0 hl hk h2 (λt' ht=>hr t' (by simp [ht])) (λx hx=>hlt x (ady _ hx)) (λx hx=>hsp x (ady _ hx)),rfl⟩
 | [],_::_,_,_,h,_,_,_=>by simp [DataW.TrodAll] at h
 | [],[],_::_,_,h,_,_,_=>by simp [DataW.TrodAll] at h
 | _::_,[],_,_,h,_,_,_=>by simp [DataW.TrodAll] at h
 | _::_,_::_,[],_,h,_,_,_=>by simp [DataW.TrodAll] at h
end
end Go.aN
namespace Go.aN
set_option linter.unusedSimpArgs false
open Go.ChangeShapes Go.WideShapes Go.ChangeAt Go.RowKit
noncomputable section
set_option linter.unusedSectionVars false
set_option linter.unusedVariables false
variable {P:Program}
theorem aer {T0:aF} {call:Caller} {f:FuncId} {σ0 σ':aj} (hcall:@pO T0 P call) (h0:@yh T0 σ0 P.globals.size) (hrun:call f [] σ0=some (.b true,σ')) {ro:Nat->Option Obj} {w:World} (hro:vg T0.tabs ro w) :
 jS P f ⟨[]⟩ w λv w'=>v=.bool true/\Kept w w':=by
 letI:=T0
 have hS:SR P (uF P.globals.size σ0 ro) σ0 w:=H9 h0.1 (λid o ho=>by
  obtain ⟨c,rfl,hm,hle⟩:=h0.2 id o ho;obtain ⟨cs,elem,fr,h1,h2,h3⟩:=hro.tab _ hm;exact ⟨hle,c,rfl,⟨cs,elem,fr,hro.at' _ _ h1,h2,h3⟩⟩) hro.at' (λp hp=>hro.tab p hp)
 refine jS.mono (hcall f [] σ0 _ _ hrun _ w [] hS rfl) ?_;rintro v w' ⟨η',hst,hr⟩
 simp only [VR] at hr;exact ⟨hr,hst.kept h0.own⟩
theorem ai3 {T:aF} {f:FuncId} (h:∀ro w,vg T.tabs ro w->jS P f ⟨[]⟩ w λv w'=>v=.bool true/\Kept w w'):@dS T P f DV:=by
 letI:=T
 intro args σ r σ1 hs η w vs hS hv;unfold DV at hs;split at hs
 ·cases hs
  simp only [au] at hv;subst hv;refine jS.mono (h η.ro w hS.Ox) ?_;rintro v w' ⟨rfl,hk⟩
  exact ⟨η,St.abn hS hk,by simp only [VR]⟩
 ·cases hs
theorem ahY {H:Type} {enc:TypeId×Value->H} {tabs:List (Nat×List AV)} {f:FuncId} {fn:Func} {c:Code} {s:ChangeSpec} {n:Nat} {L:List (Bool×List bF)} {tb:TypeId} {again:Bool} (hn:rX P) (hf:P.funcs[f]? = some fn) (hc:fn.body=some c)
 (hL:argTys P n fn.params.toList=some L) (hlaid:laidOutB P=true) (hread:∀t∈fn.params.toList,P.readableRec t=true/\t < P.types.size) (hr:fn.resultTypes = #[tb]) (htb:P.underlying tb=some .bool)
 (hvars:s.vars=[]) (hs:∀ds:List (DataW H),ds.length=fn.params.size->s.fn H ds = { results:=[.lit (.bool true)],args:=ds })
 (ahc:∀gs,hasArgs L gs->qR P tabs f [] [.sc] gs [.b true]) {W:World} {base:Nat} {args:Array Value} {ds gs:List (DataW H)} {before:List MemPlace}
 (hval:∀ (j:Nat) t v,fn.params[j]? = some t->args[j]? = some v->Value.okWide P W .any base t v)
 (hW:DataW.Whole enc P fn.params.toList s.vars false W args.toList ds gs before) {vt:List TypeId} (hvt:vt=[]) (hsz0:(DataW.weightsEach P (fn.params.toList++vt) (ds++gs)).all (·<=reachBytes)=true) (hro:vg tabs (wK W) W) :
 Calls P f args W λe W'=>∃v,e=.returned v/\s.post enc P fn false true false again W args v W':=by
 letI:aF:=Tg [] [] 0
 have hW':=hW;have hlt:=λp hp=>hW.lt p hp;obtain ⟨p,q,hA,hV,rfl,hfz,hnd⟩:=hW;have hV':=hV;rw [hvars] at hV;obtain ⟨rfl,rfl⟩:=trodVars_none hV;have hsz:∀z∈DataW.weightsEach P fn.params.toList ds,z<=reachBytes:=by
  subst hvt;rw [qV,qV,List.all_eq_true] at hsz0;exact λz hz=>by simpa using hsz0 z hz
 obtain ⟨gl,g1,g2⟩:=acZ hL hA hsz (λj t v h1 h2=>⟨base,hval j t v (by simpa using h1) (by simpa using h2)⟩);have hcall:=(ahc gl g2).call (wK W) W args.toList hro g1;have ZW:=jS.calls hn hf hc hcall;have hput:(⟨tJ [] args.toList⟩:Array Value)=args:=by simp [tJ]
 rw [hput] at ZW;have hdl:ds.length=fn.params.size:=by
  have:∀ {ts:List TypeId} {vs:List Value} {ds:List (DataW H)} {ps:List MemPlace},DataW.TrodAll enc P W 0 (λ_=>true) true ts vs ds ps->ds.length=ts.length:=by
   intro ts;induction ts with
   | nil=>intro vs ds ps h;cases vs<;>cases ds<;>simp [DataW.TrodAll] at h ⊢
   | cons t ts ih=>intro vs ds ps h;cases vs<;>cases ds<;>simp [DataW.TrodAll] at h ⊢;obtain ⟨_,_,_,h2,_⟩:=h;exact ih h2
  simpa using this hA
 refine Calls.mono' ZW ?_;rintro e W' ⟨v,rfl,ro',hstep,us,rfl,hus⟩
 simp only [aS] at hus;obtain ⟨u,us',rfl,hu,rfl⟩:=hus;simp only [GR] at hu;subst hu;have hfn:s.fn H (ds++[]) = { results:=[.lit (.bool true)],args:=ds }:=by rw [qV];exact hs ds hdl
 simp only [qV] at hW' hlt;refine ⟨_,rfl,ajB (pa:=p) (pv:=[]) hW' (λ_ _ _=>?_) (λsp hsp=>?_) (λ_ _=>?_) (by simp) hstep.kept (ok_one (by rw [hr]) rfl (okWide_bool_mk htb _))⟩
 ·rw [hfn,hr];exact trodAll_cons_mk (shut_bool htb _) trodAll_mk0
 ·rw [hfn];exact ac0 hlaid hstep.kept hA hread hlt hsp
 ·rw [hfn,hvars];rfl
def AC.ng:AC->Nat->Option Code
 | .plain _,_=>none
 | .seq x y,k=>match x.ng k with
   | some b=>some b
   | none=>y.ng k
 | .cond _ y z,k=>match y.ng k with
   | some b=>some b
   | none=>z.ng k
 | .block _ x,k=>x.ng k
 | .loop k' b,k=>if Nat.beq k' k then some b else none
 | .peel x k' b,k=>if Nat.beq k' k then some b else x.ng k
theorem AC.BD {k:Nat} {b:Code}:∀ {x:AC},x.ng k=some b->x.mW k b
 | .plain _,h=>by simp [AC.ng] at h
 | .seq x y,h=>by
   simp only [AC.ng] at h;split at h
   ·next hx=>cases h;exact .inl (AC.BD hx)
   ·exact .inr (AC.BD h)
 | .cond _ x y,h=>by
   simp only [AC.ng] at h;split at h
   ·next hx=>cases h;exact .inl (AC.BD hx)
   ·exact .inr (AC.BD h)
 | .block _ x,h=>AC.BD (x:=x) h
 | .loop k' b',h=>by
   simp only [AC.ng] at h;split at h
   ·next e=>cases h;exact ⟨Nat.eq_of_beq_eq_true e,rfl⟩
   ·cases h
 | .peel x k' b',h=>by
   simp only [AC.ng] at h;split at h
   ·next e=>cases h;exact .inl ⟨Nat.eq_of_beq_eq_true e,rfl⟩
   ·exact .inr (AC.BD h)
theorem CJ (ps:List Nat):∀ (c:Code) (n:Nat),n<=(jL ps c n).2/\∀k b,(jL ps c n).1.mW k b->(n<=k/\k < (jL ps c n).2)/\(jL ps c n).1.ng k=some b
 | .seq x y,n=>by
   obtain ⟨h1,h2⟩:=CJ ps x n;obtain ⟨h3,h4⟩:=CJ ps y (jL ps x n).2;simp only [jL,AC.mW,AC.ng];refine ⟨by omega,λk b h=>?_⟩;rcases h with h | h
   ·obtain ⟨r,e⟩:=h2 k b h;exact ⟨by omega,by rw [e]⟩
   ·obtain ⟨r,e⟩:=h4 k b h
    refine ⟨by omega, ?_⟩;cases hx:(jL ps x n).1.ng k with
    | none=>exact e
    | some b'=>have:=(h2 k b' (AC.BD hx)).1;omega
 | .cond _ x y,n=>by
   obtain ⟨h1,h2⟩:=CJ ps x n;obtain ⟨h3,h4⟩:=CJ ps y (jL ps x n).2;simp only [jL,AC.mW,AC.ng];refine ⟨by omega,λk b h=>?_⟩;rcases h with h | h
   ·obtain ⟨r,e⟩:=h2 k b h;exact ⟨by omega,by rw [e]⟩
   ·obtain ⟨r,e⟩:=h4 k b h
    refine ⟨by omega, ?_⟩;cases hx:(jL ps x n).1.ng k with
    | none=>exact e
    | some b'=>have:=(h2 k b' (AC.BD hx)).1;omega
 | .block id x,n=>CJ ps x n
 | .loop x,n=>by
   obtain ⟨h1,h2⟩:=CJ ps x (n+1);simp only [jL];split
   ·exact ⟨by simp,λk b h=>by simp [AC.mW] at h⟩
   ·split
    ·simp only [AC.mW,AC.ng]
     refine ⟨by omega,λk b h=>?_⟩;rcases h with ⟨rfl,rfl⟩ | h
     ·exact ⟨by omega,by simp⟩
     ·obtain ⟨r,e⟩:=h2 k b h
      refine ⟨by omega, ?_⟩;have:Nat.beq n k=false:=by cases hb:Nat.beq n k with | false=>rfl | true=>have:=bn hb;omega
      rw [this];exact e
    ·simp only [AC.mW,AC.ng]
     refine ⟨by omega,λk b h=>?_⟩;obtain ⟨rfl,rfl⟩:=h;exact ⟨by omega,by simp⟩
 | .skip,n | .region _ _ _,n | .rangeFunc _ _ _ _,n | .exit _,n | .scope _,n | .label _,n | .goto _,n | .ret,n | .refuse _,n=>⟨Nat.le_refl _,λk b h=>by simp [jL,AC.mW] at h⟩
theorem ail {ps:List Nat} {c:Code} {k:Nat} {b:Code} (h:(lC ps c).mW k b):(lC ps c).ng k=some b:=((CJ ps c 0).2 k b h).2
def sJ:Code->List (List Nat×Nat)->Code
 | c,[]=>c
 | c,(ps,k)::r=>sJ (((lC ps c).ng k).getD .skip) r
theorem adV {ps:List Nat} {c:Code} {k:Nat} {b:Code} (h:(lC ps c).mW k b):sJ c [(ps,k)]=b:=by
 simp only [sJ,ail h,uj]
theorem XH {ps:List Nat} {k:Nat}:∀ (r:List (List Nat×Nat)) (c:Code),sJ c (r++[(ps,k)])=sJ (sJ c r) [(ps,k)]
 | [],_=>rfl
 | (_,_)::r,_=>XH r _
abbrev BR:=List GV->List GV->Prop
def G6 (Cs:List BR) (k:Nat) (gs out:List GV):Prop:=match Cs[k]? with
 | some c=>c gs out
 | none=>False
def vk (Ds:List aI):gu:=λk=>Ds[k]?
def Es (C:Nat->List GV->List GV->Prop) (d:aI) (c:BR):Prop:=∀I:fP,(∀k gs out,I k gs=some out->C k gs out)->∀gs out,d.den I gs=some out->c gs out
def En (C:Nat->List GV->List GV->Prop):List aI->List BR->Prop
 | [],[]=>True
 | d::ds,c::cs=>Es C d c/\En C ds cs
 | _,_=>False
theorem En.at {C:Nat->List GV->List GV->Prop}:∀ {ds:List aI} {cs:List BR},En C ds cs->∀ {k:Nat} {d:aI},ds[k]? = some d->∃c,cs[k]? = some c/\Es C d c
 | [],[],_,k,d,hd=>by simp at hd
 | d0::ds,c0::cs,h,k,d,hd=>by
   cases k with
   | zero=>simp at hd;subst hd;exact ⟨c0,rfl,h.1⟩
   | succ k=>obtain ⟨c,h1,h2⟩:=En.at h.2 (k:=k) (by simpa using hd);exact ⟨c,by simpa using h1,h2⟩
 | [],_::_,h,_,_,_=>h.elim
 | _::_,[],h,_,_,_=>h.elim
theorem ah3 {Ds:List aI} {Cs:List BR} (h:En (G6 Cs) Ds Cs):∀k gs out,(vk Ds).lim k gs=some out->G6 Cs k gs out:=by
 refine gu.ah4 λk d hk I hI gs out hd=>?_;obtain ⟨c,h1,h2⟩:=h.at hk;unfold G6;rw [h1];exact h2 I hI gs out hd
def zo (P:Program) (tabs:List (Nat×List AV)) (I:fP) (ac:AC) (specs:List (Nat×bK)):Prop:=
 ∀k sp',bW k specs=some sp'->sp'.pre.ok=true/\∀b,ac.mW k b->∀gs out,I sp'.key gs=some out->qW P tabs b sp'.pre sp'.posts gs out
theorem zo.nil {tabs:List (Nat×List AV)} {I:fP} {ac:AC}:zo P tabs I ac []:=λk sp' h=>by simp [bW] at h
theorem zo.cons {tabs:List (Nat×List AV)} {I:fP} {ps:List Nat} {c:Code} {k:Nat} {sp:bK} {specs:List (Nat×bK)} (hok:sp.pre.ok=true) (hb:∀gs out,I sp.key gs=some out->qW P tabs (sJ c [(ps,k)]) sp.pre sp.posts gs out)
 (r:zo P tabs I (lC ps c) specs):zo P tabs I (lC ps c) ((k,sp)::specs):=by
 intro k' sp' h;simp only [bW] at h;cases e:Nat.beq k' k with
 | true=>
   rw [e] at h;cases h;have e:=bn e;subst e;exact ⟨hok,λb hb' gs out hI=>by rw [<- adV hb'];exact hb gs out hI⟩
 | false=>rw [e] at h;exact r k' sp' h
theorem qW.aiR {tabs:List (Nat×List AV)} (hlow:qZ tabs P.globals.size) (hm:P.follows .mixedOrders=true) (hn:rX P) {pl:jK} {I:fP} (hpl:uZ P tabs I pl) {specs:List (Nat×bK)} {fuel:Nat} {sp:bK} (hok:sp.pre.ok=true) {n:Nat} (hnp:n=sp.pre.np)
 {ps:List Nat} {b:Code} {t:Tree} (Dv:zo P tabs I (lC ps b) specs) (hself:∀gs out,I sp.key gs=some out->qW P tabs b sp.pre sp.posts gs out)
 (sW:t.chk (Nw P tabs pl specs fuel sp (lC ps b)) (List.replicate sp.pre.np .arg) []=true) {gs out:List GV} (hd:(aI.tree n t).den I gs=some out):qW P tabs b sp.pre sp.posts gs out:=by
 simp only [aI.den] at hd;split at hd
 ·next hlen=>exact qW.Jw hlow hm hn hpl hok Dv hself sW (by rw [hlen,hnp]) hd
 ·cases hd
def PL.nil:jK:=λ_=>[]
def PL.cons (f:FuncId) (p:gq->dX) (l:jK):jK:=λN=>(f,p N)::l N
theorem PL.aiT {tabs:List (Nat×List AV)} {I:fP}:uZ P tabs I PL.nil:=λT _ _ p hp=>by simp [PL.nil] at hp
theorem PL.abo {tabs:List (Nat×List AV)} {I:fP} {f:FuncId} {p:gq->dX} {l:jK} (h:∀T:aF,T.tabs=tabs->T.I=I->@dS T P f (p T.togq)) (hl:uZ P tabs I l):uZ P tabs I (PL.cons f p l):=by
 intro T hT hI q hq;rcases dP.1 hq with rfl | hq
 ·exact h T hT hI
 ·exact hl T hT hI q hq
def TW (p q:dX):dX:=λargs σ=>match p args σ with
 | some r=>some r
 | none=>q args σ
theorem aiZ {T:aF} {f:FuncId} {p q:dX} (hp:@dS T P f p) (hq:@dS T P f q):@dS T P f (TW p q):=by
 letI:=T
 intro args σ r σ' hs;unfold TW at hs;split at hs
 ·next r0 h0=>cases hs;exact hp args σ r σ' h0
 ·exact hq args σ r σ' hs
end
end Go.aN
