/- Loops by contract: the step that the evaluator takes at a loop, and how a loop's contract is proved. -/
import Derived.Test.YthgifdbaegpbpaaGreatDoorAbsI
import Derived.ChangeArms
import Derived.Deep.Slices
import Derived.Carry
import Derived.Test.YthgifdbaegpbpaaGreatDoorAbsH
import Derived.ProofKit
import Derived.OpenShut
import Derived.Deep.DeepHandedRow
namespace Go.aP
noncomputable section
set_option linter.unusedSectionVars false
set_option linter.unusedVariables false
set_option linter.unusedSimpArgs false
variable {P:Program}
structure US where
 r:List (Nat×Option Nat)
 p:List (Nat×Nat)
 fz:List Nat
def US.zG (u:US) (j m:Nat):US:=match bM j u.p with
 | some _=>u
 | none=>{ u with p:=(j,m)::u.p }
def US.Hw (u:US) (i:Nat) (x:Option Nat):US:=match bM i u.r with
 | some _=>u
 | none=>{ u with r:=(i,x)::u.r }
section
variable [fF]
def Dv (P:Program) (σ:ah) (a:AV):Option (Nat×Option Nat):=
 match fK a with
 | some m=>some (m,none)
 | none=>match a with
  | .sv id _=>match σ.get id with
   | some (.vec m _ _)=>some (m,some id)
   | _=>none
  | .sl id off len cap=>match σ.get id with
   | some (.cells _ et _ _)=>(listOf P σ et (.sl id off len cap)).map fun m=>(m,some id)
   | _=>none
  | _=>none
mutual
def uV (P:Program) (G:Nat) (σ:ah):AV→AV→US→US
 | .nd j,a,u=>match Dv P σ a with
  | some (m,some id)=>{ u.zG j m with fz:=id::u.fz }
  | some (m,none)=>u.zG j m
  | none=>u
 | .sv i _,a,u=>match a with
  | .sv id _=>u.Hw i (some id)
  | .dM=>u.Hw i none
  | _=>u
 | .p i _,a,u=>match a with
  | .p id _=>if i≤G then u else u.Hw i (some id)
  | _=>u
 | .mp i,a,u=>match a with
  | .mp id=>u.Hw i (some id)
  | _=>u
 | .rx j _,a,u=>match a with
  | .rx m _=>u.zG j m
  | _=>u
 | .fn _ fi cs,a,u=>match a with
  | .fn _ fi' cs'=>zk P G σ cs cs' (zk P G σ fi fi' u)
  | _=>u
 | .agg l,a,u=>match a with
  | .agg l'=>zk P G σ l l' u
  | _=>u
 | .bV l,a,u=>match a with
  | .bV l'=>zk P G σ l l' u
  | _=>u
 | .dD _ x,a,u=>match a with
  | .dD _ x'=>uV P G σ x x' u
  | _=>u
 | _,_,u=>u
def zk (P:Program) (G:Nat) (σ:ah):List AV→List AV→US→US
 | [],_,u=>u
 | a::l,m,u=>match m with
  | b::m'=>zk P G σ l m' (uV P G σ a b u)
  | []=>u
end
def aeG (P:Program) (G:Nat) (σ:ah) (t:Tr AV):List (Nat×AV)→US→US
 | [],u=>u
 | p::l,u=>aeG P G σ t l (match t.get p.1 with | some v=>uV P G σ p.2 v u | none=>u)
def MR (P:Program) (G:Nat) (σ:ah):List (Nat×aZ)→US→US
 | [],u=>u
 | p::l,u=>MR P G σ l (match bM p.1 u.r with
  | some (some id)=>match p.2,σ.get id with
   | .cells c _ _ _,some (.cells c' _ _ _)=>zk P G σ c c' u
   | .vec j _ _,some (.vec m _ _)=>u.zG j m
   | .smap j _ _,some (.smap m _ _)=>u.zG j m
   | .smap j _ _,some (.map [])=>match dH (.ml []) with
    | some m=>u.zG j m
    | none=>u
   | _,_=>u
  | some none=>match p.2 with
   | .vec j _ _=>match dH (.ml []) with
    | some m=>u.zG j m
    | none=>u
   | _=>u
  | none=>u)
def RP (p:List (Nat×Nat)):Nat→Nat→Option (List Nat)
 | _,0=>some []
 | j,n+1=>match bM j p,RP p (j+1) n with
  | some m,some r=>some (m::r)
  | _,_=>none
def NH:Nat→Nat→List (Nat×Option Nat)
 | _,0=>[]
 | i,n+1=>(i+1,some (i+1))::NH (i+1) n
def fit (P:Program) (s:fB) (a:aY) (σ:ah):US:=MR P s.gn σ s.objs (aeG P s.gn σ a.t s.slots ⟨NH s.gn s.ka,[],[]⟩)
def fits (P:Program) (s:fB) (a:aY) (σ:ah) (ps:List Nat):Bool:=Nat.beq ps.length s.np&&match fit P s a σ with
 | ⟨r,_,fz⟩=>Qy P s a σ fz r ps
structure bf where
 key:Nat
 pre:fB
 posts:List (dw×fB)
def AL (tag:Nat):List (dw×fB)→Nat→Option (dw×fB)
 | [],_=>none
 | [p],_=>some p
 | p::q::l,t=>match dH (.ci .i64 t) with
  | some c=>match dH (.bin .eql tag c) with
   | some b=>match Oz b with
    | some true=>some p
    | some false=>AL tag (q::l) (t+1)
    | none=>none
   | none=>none
  | none=>none
def uT (key:Nat) (ps:List Nat):List (Option Nat)→Nat→Nat→Option (List Nat)
 | _,_,0=>some []
 | some i::al,j,n+1=>match ps[i]?,uT key ps al j n with
  | some m,some r=>some (m::r)
  | _,_=>none
 | none::al,j,n+1=>match dH (.call key ps j),uT key ps al (j+1) n with
  | some m,some r=>some (m::r)
  | _,_=>none
 | [],j,n+1=>match dH (.call key ps j),uT key ps [] (j+1) n with
  | some m,some r=>some (m::r)
  | _,_=>none
def Ql (P:Program) (tabs:List (Nat×List AV)) (sp:bf) (a:aY) (σ:ah):Option (dw×aY×ah):=
 match RP (fit P sp.pre a σ).p 0 sp.pre.np with
 | some ps=>if fits P sp.pre a σ ps then
   match dH (.call sp.key ps 0) with
   | some tag=>match AL tag sp.posts 0 with
    | some (e,s)=>if Nat.beq s.ka fF.ka then match uT sp.key ps s.al 1 s.np with
     | some ns=>some (e,s.Hg (fun j=>ns.getD j 0),s.xA tabs (fun j=>ns.getD j 0))
     | none=>none
     else none
    | none=>none
   | none=>none
  else none
 | none=>none
end
def oh:List (Option Nat)→List GV→List GV→Option (List GV)
 | [],_,r=>some r
 | some i::al,gs,r=>match gs[i]?,oh al gs r with
  | some g,some l=>some (g::l)
  | _,_=>none
 | none::al,gs,x::r=>match oh al gs r with
  | some l=>some (x::l)
  | none=>none
 | none::_,_,[]=>none
def vV (np:Nat):List (Option Nat)→List Nat→Option (List Nat)
 | [],r=>some r
 | some i::al,r=>bif Nat.blt i np then (match vV np al r with
  | some l=>some (i::l)
  | none=>none) else none
 | none::al,x::r=>match vV np al r with
  | some l=>some (x::l)
  | none=>none
 | none::_,[]=>none
def zB (np:Nat) (l:List Nat):List (Option Nat)→Bool
 | []=>true
 | none::al=>zB np l al
 | some i::al=>Nat.blt i np&&((match l[i]? with | some m=>Nat.beq m i | none=>false)&&zB np l al)
def Hl (np:Nat) (l:List Nat):List (dw×fB)→Bool
 | []=>true
 | p::ps=>zB np l p.2.al&&Hl np l ps
theorem TJ {val:Nat→Option GV}:∀ {l:List Nat} {gs:List GV},valsOf val l=some gs→∀ (i m:Nat),l[i]? = some m→gs[i]? = val m
 | [],gs,h,i,m,hm=>by simp at hm
 | x::l,gs,h,i,m,hm=>by
  simp only [valsOf] at h
  split at h
  ·next g r h5 h6=>
   cases h
   cases i with
   | zero=>simp at hm;subst hm;simp [h5]
   | succ i=>simpa using TJ h6 i m (by simpa using hm)
  ·cases h
theorem Il {np:Nat} {gs env more:List GV} (henv:env=gs++more) (hn:gs.length=np):∀ {al:List (Option Nat)} {l l2:List Nat} {r:List GV},vV np al l=some l2→valsOf (fun n=>env[n]?) l=some r→∃rest,valsOf (fun n=>env[n]?) l2=some rest∧oh al gs r=some rest
 | [],l,l2,r,h,hv=>by simp only [vV,Option.some.injEq] at h;subst h;exact ⟨r,hv,rfl⟩
 | some i::al,l,l2,r,h,hv=>by
  simp only [vV] at h
  cases hb:Nat.blt i np with
  | false=>rw [hb] at h;cases h
  | true=>
   rw [hb] at h
   simp only [cond_true] at h
   rw [Nat.blt_eq] at hb
   split at h
   ·next l3 h3=>
    cases h
    obtain ⟨rest,h4,h5⟩:=Il henv hn h3 hv
    have hi:env[i]? = some (gs[i]'(by omega)):=by rw [henv,List.getElem?_append_left (by omega),List.getElem?_eq_getElem (by omega)]
    refine ⟨gs[i]'(by omega)::rest, ?_, ?_⟩
    ·simp only [valsOf,hi,h4]
    ·simp only [oh,h5,List.getElem?_eq_getElem (show i < gs.length by omega)]
   ·cases h
 | none::al,[],l2,r,h,hv=>by simp [vV] at h
 | none::al,x::l,l2,r,h,hv=>by
  simp only [vV] at h
  split at h
  ·next l3 h3=>
   cases h
   simp only [valsOf] at hv
   split at hv
   ·next g r' h6 h7=>
    cases hv
    obtain ⟨rest,h4,h5⟩:=Il henv hn h3 h7
    exact ⟨g::rest,by simp only [valsOf,h6,h4],by simp only [oh,h5]⟩
   ·cases hv
  ·cases h
theorem OH {np:Nat} {gs env more gs':List GV} (henv:env=gs++more) (hn:gs.length=np) {l:List Nat} (hv:valsOf (fun n=>env[n]?) l=some gs'):∀ {al:List (Option Nat)},zB np l al=true→∀r,oh al gs' r=oh al gs r
 | [],_,r=>rfl
 | none::al,h,[]=>rfl
 | none::al,h,x::r=>by
  simp only [zB] at h
  simp only [oh,OH henv hn hv h r]
 | some i::al,h,r=>by
  simp only [zB,Bool.and_eq_true,Nat.blt_eq] at h
  obtain ⟨h1,h2,h3⟩:=h
  split at h2
  ·next m hm=>
   have:=Nat.eq_of_beq_eq_true h2
   subst this
   have h4:gs'[m]? = gs[m]?:=by
    rw [TJ hv m m hm]
    show env[m]? = gs[m]?
    rw [henv,List.getElem?_append_left (by omega)]
   simp only [oh,OH henv hn hv h3 r,h4]
  ·cases h2
theorem Uh {np:Nat} {l:List Nat}:∀ {posts:List (dw×fB)},Hl np l posts=true→∀p∈posts,zB np l p.2.al=true
 | q::posts,h,p,hp=>by
  simp only [Hl,Bool.and_eq_true] at h
  rcases List.mem_cons.1 hp with rfl | hp
  ·exact h.1
  ·exact Uh h.2 p hp
def aU (P:Program) (tabs:List (Nat×List AV)) (b:Code) (pre:fB) (posts:List (dw×fB)) (gs out:List GV):Prop:=
 ∃ (t:Nat) (r rest:List GV) (e:dw) (s:fB),out=GV.i .i64 t::r∧posts[t]? = some (e,s)∧oh s.al gs r=some rest∧rest.length=s.np∧∀w0 bY A w K,GH P tabs pre gs w0 bY A w→(∀A' w',GH P tabs s rest w0 bY A' w'→K e.toExit A' w')→uf P b K A w
theorem Rf {T:aC} {tag:Nat} {t0:Nat} (htag:T.val tag=some (.i .i64 (t0:Nat))):∀ (l:List (dw×fB)) (t:Nat) {p:dw×fB},@AL T.tofF tag l t=some p→t≤t0→∀q,l[t0 - t]? = some q→p=q
 | [],t,p,h,_,q,hq=>by simp [AL] at h
 | [x],t,p,h,hle,q,hq=>by
  simp only [AL,Option.some.injEq] at h
  cases hd:t0 - t with
  | zero=>rw [hd] at hq;simp at hq;rw [← h,hq]
  | succ n=>rw [hd] at hq;simp at hq
 | x::y::l,t,p,h,hle,q,hq=>by
  letI:=T
  simp only [AL] at h
  split at h
  ·next c hc=>
   split at h
   ·next b hb=>
    obtain ⟨g1,k1,k2⟩:=dZ hc
    simp only [Nd.den,Option.some.injEq] at k2
    subst k2
    obtain ⟨g2,m1,m2⟩:=dZ hb
    have ajf:aC.val tag=some (.i .i64 (t0:Nat)):=htag
    simp only [Nd.den,ajf,k1,fC,if_true,bK,Option.some.injEq] at m2
    split at h
    ·next hd=>
     cases h
     have:=T.uI b true (EL hd)
     have Qx:T.val b=some g2:=m1
     rw [Qx] at this;cases this
     simp at m2
     have:t0 - t=0:=by omega
     rw [this] at hq;simpa using hq
    ·next hd=>
     have:=T.uI b false (EL hd)
     have Qx:T.val b=some g2:=m1
     rw [Qx] at this;cases this
     simp at m2
     have e:t0 - t=(t0 - (t+1))+1:=by omega
     rw [e,List.getElem?_cons_succ] at hq
     exact Rf htag (y::l) (t+1) h (by omega) q hq
    ·cases h
   ·cases h
  ·cases h
theorem FN {T:aC} {key:Nat} {ps:List Nat} {gs out:List GV} (hps:valsOf T.val ps=some gs) (hI:T.I key gs=some out):∀ (n j:Nat) (al:List (Option Nat)) {ns:List Nat} {r rest:List GV},(∀k:Nat,r[k]? = out[j+k]?)→oh al gs r=some rest→@uT T.tofF key ps al j n=some ns→ns.length=n∧∀ (i m:Nat),ns[i]? = some m→T.val m=rest[i]?
 | 0,j,al,ns,r,rest,_,_,h=>by
  letI:=T
  have:ns=[]:=by unfold uT at h;simpa using h.symm
  subst this;simp
 | n+1,j,some i0::al,ns,r,rest,hr,he,h=>by
  letI:=T
  simp only [uT] at h
  simp only [oh] at he
  split at he
  ·next g l hg hl=>
   cases he
   split at h
   ·next m r' hm hr'=>
    cases h
    obtain ⟨h1,h2⟩:=FN hps hI n j al hr hl hr'
    refine ⟨by simp [h1],fun i m' hi=>?_⟩
    cases i with
    | zero=>
     simp at hi;subst hi
     have:=TJ hps i0 m hm
     rw [List.getElem?_cons_zero,← hg];exact this.symm
    | succ i=>simpa using h2 i m' (by simpa using hi)
   ·cases h
  ·cases he
 | n+1,j,none::al,ns,[],rest,hr,he,h=>by simp [oh] at he
 | n+1,j,none::al,ns,x::r,rest,hr,he,h=>by
  letI:=T
  simp only [uT] at h
  simp only [oh] at he
  split at he
  ·next l hl=>
   cases he
   split at h
   ·next m r' hm hr'=>
    cases h
    obtain ⟨h1,h2⟩:=FN hps hI n (j+1) al (r:=r) (fun k=>by
     have:=hr (k+1)
     rw [List.getElem?_cons_succ] at this
     rw [this];congr 1;omega) hl hr'
    refine ⟨by simp [h1],fun i m' hi=>?_⟩
    cases i with
    | zero=>
     simp at hi;subst hi
     obtain ⟨g,k1,k2⟩:=dZ hm
     have PD:valsOf aC.val ps=some gs:=hps
     have hI':aC.I key gs=some out:=hI
     simp only [Nd.den,PD,hI'] at k2
     have k1':T.val m=some g:=k1
     have:=hr 0
     simp only [List.getElem?_cons_zero,Nat.add_zero] at this
     rw [k1',List.getElem?_cons_zero,this];exact k2.symm
    | succ i=>simpa using h2 i m' (by simpa using hi)
   ·cases h
  ·cases he
 | n+1,j,[],ns,r,rest,hr,he,h=>by
  letI:=T
  simp only [uT] at h
  simp only [oh,Option.some.injEq] at he
  subst he
  split at h
  ·next m r' hm hr'=>
   cases h
   obtain ⟨h1,h2⟩:=FN hps hI n (j+1) [] (r:=r.tail) (fun k=>by
    have:=hr (k+1)
    rw [List.getElem?_tail,this];congr 1;omega) rfl hr'
   refine ⟨by simp [h1],fun i m' hi=>?_⟩
   cases i with
   | zero=>
    simp at hi;subst hi
    obtain ⟨g,k1,k2⟩:=dZ hm
    have PD:valsOf aC.val ps=some gs:=hps
    have hI':aC.I key gs=some out:=hI
    simp only [Nd.den,PD,hI'] at k2
    have k1':T.val m=some g:=k1
    have:=hr 0
    rw [Nat.add_zero] at this
    rw [k1',this];exact k2.symm
   | succ i=>
    have:=h2 i m' (by simpa using hi)
    rw [this,List.getElem?_tail]
  ·cases h
theorem Qm {T:aC} {tabs:List (Nat×List AV)} (oq:T.tabs=tabs) (hlow:uo tabs P.globals.size) {sp:bf} (hok:sp.pre.ok=true) {b:Code} (hC:∀gs out,T.I sp.key gs=some out→aU P tabs b sp.pre sp.posts gs out)
 {a a':aY} {σ σ':ah} {e:dw} (h:@Ql T.tofF P tabs sp a σ=some (e,a',σ')) {Q:dw→aY→ah→Prop} (hq:Q e a' σ'):@vw T P b a σ Q:=by
 letI:=T
 unfold Ql at h
 split at h
 ·next ps hps=>
  split at h
  ·next hfit=>
   split at h
   ·next tag htag=>
    split at h
    ·next e' s hpick=>
     split at h
     rotate_left
     ·cases h
     next PK=>
     have PK:=Nat.eq_of_beq_eq_true PK
     split at h
     ·next ns hns=>
      cases h
      obtain ⟨gt,t1,t2⟩:=dZ htag
      simp only [Nd.den] at t2
      split at t2
      ·next gs hgs=>
       split at t2
       ·next out hI=>
        obtain ⟨t,r,rest,e2,s2,rfl,hp2,hex,hrl,hrun⟩:=hC gs out hI
        simp only [List.getElem?_cons_zero,Option.some.injEq] at t2
        subst t2
        have hpe:=Rf t1 sp.posts 0 hpick (Nat.zero_le _) (e2,s2) (by simpa using hp2)
        cases hpe
        obtain ⟨n1,n2⟩:=FN hgs hI _ 1 s.al (r:=r) (fun k=>by rw [Nat.add_comm,List.getElem?_cons_succ]) hex hns
        intro w0 bY η w A K hF hl ht hK
        unfold fits at hfit
        rw [Bool.and_eq_true] at hfit
        have hst:=QB oq hlow hok hF hl ht hfit.2 hgs
        refine hrun w0 bY A w K hst fun A' w' hs'=>?_
        obtain ⟨η',hF',ht'⟩:=SG (T:=T) (f:=fun j=>ns.getD j 0) oq PK.symm (fun j g hj=>by
         have hjl:j < ns.length:=by have:=(List.getElem?_eq_some_iff.1 hj).1;omega
         have hm:ns[j]? = some (ns.getD j 0):=by rw [List.getD_eq_getElem?_getD,List.getElem?_eq_getElem hjl];rfl
         rw [n2 j _ hm];exact hj) hs'
        exact hK e _ _ η' A' w' hq hF' rfl ht'
       ·cases t2
      ·cases t2
     ·cases h
    ·cases h
   ·cases h
  ·cases h
 ·cases h
theorem TI {val:Nat→Option GV}:∀ {l:List Nat} {gs:List GV},valsOf val l=some gs→gs.length=l.length
 | [],gs,h=>by simp only [valsOf,Option.some.injEq] at h;subst h;rfl
 | x::l,gs,h=>by
  simp only [valsOf] at h
  split at h
  ·next h5 h6=>cases h;simp [TI h6]
  ·cases h
def dw.eq:dw→dw→Bool
 | .normal,.normal=>true
 | .ret,.ret=>true
 | .exit a,.exit b=>Nat.beq a b
 | _,_=>false
theorem dw.eq_of {a b:dw} (h:a.eq b=true):a=b:=by
 cases a<;>cases b<;>first | rfl | (cases h;done) | skip
 rw [Nat.eq_of_beq_eq_true h]
abbrev nV:=fF→List (FuncId×dS)
def uj (P:Program) (tabs:List (Nat×List AV)) (I:fH) (pl:nV):Prop:=∀T:aC,T.tabs=tabs→T.I=I→∀p∈pl T.tofF,@dU T P p.1 p.2
def AY (P:Program) (N:fF) (pl:nV) (fuel:Nat):Code→aY→ah→Option (dw×aY×ah):=@xI N P (GL P) (RN (pl N)) fuel
def xB (P:Program) (tabs:List (Nat×List AV)) (N:fF) (specs:List (Nat×bf)):Ns:=fun k a σ=>match bM k specs with
 | some sp=>@Ql N P tabs sp a σ
 | none=>none
def Qr (P:Program) (tabs:List (Nat×List AV)) (pl:nV) (specs:List (Nat×bf)) (fuel:Nat) (sp:bf) (ac:AC) (ns:List Nd) (ds:List (Nat×Bool)) (lf:Leaf):Bool:=
 match @pO ⟨ns,ds,sp.pre.ka⟩ (xB P tabs ⟨ns,ds,sp.pre.ka⟩ specs) (AY P ⟨ns,ds,sp.pre.ka⟩ pl fuel) ac (sp.pre.Hg fun j=>j) (sp.pre.xA tabs fun j=>j) with
 | some (e,a',σ')=>match lf with
  | .ret (tn::l)=>match ns[tn]? with
   | some (.ci .i64 t)=>match sp.posts[t.toNat]? with
    | some (e',s)=>decide (0≤t)&&!(e.eq .normal)&&e.eq e'&&s.ok&&(match vV sp.pre.np s.al l with | some l2=>@fits ⟨ns,ds,sp.pre.ka⟩ P s a' σ' l2 | none=>false)
    | none=>false
   | _=>false
  | .tail f l=>Nat.beq f sp.key&&e.eq .normal&&(Hl sp.pre.np l sp.posts&&@fits ⟨ns,ds,sp.pre.ka⟩ P sp.pre a' σ' l)
  | _=>false
 | none=>false
@[reducible] def Tw (tabs:List (Nat×List AV)) (I:fH) (ka:Nat) {ns:List Nd} {ds:List (Nat×Bool)} {env:List GV} (h:vH I ns ds env):aC:={ nodes:=ns,dec:=ds,ka:=ka,tabs:=tabs,I:=I,val:=fun n=>env[n]?,l7:=h.node,uI:=h.dec }
theorem vH.start (I:fH) (gs:List GV) (n:Nat) (h:gs.length=n):vH I (List.replicate n .arg) [] gs:=
 ⟨by simp [h],fun k nd hk hn=>absurd (List.mem_replicate.1 (List.mem_of_getElem? hk)).2 hn,fun k b hb=>by simp at hb⟩
theorem Sv {T:aC} (hm:P.follows .mixedOrders=true) (hn:qX P) {pl:nV} (hp:∀p∈pl T.tofF,@dU T P p.1 p.2) (fuel:Nat):@D9 T P (AY P T.tofF pl fuel):=
 (@YE T P _ _ (aaf hm) (acY hp) hn fuel).1
theorem aU.aX {tabs:List (Nat×List AV)} (hlow:uo tabs P.globals.size) (hm:P.follows .mixedOrders=true) (hn:qX P) {pl:nV} {I:fH} (hpl:uj P tabs I pl) {specs:List (Nat×bf)} {fuel:Nat} {sp:bf} (hok:sp.pre.ok=true) {ps:List Nat} {b:Code} {t:Tree}
 (Ad:∀k sp',bM k specs=some sp'→sp'.pre.ok=true∧∀c,(lG ps b).kU k c→∀gs out,I sp'.key gs=some out→aU P tabs c sp'.pre sp'.posts gs out)
 (hself:∀gs out,I sp.key gs=some out→aU P tabs b sp.pre sp.posts gs out)
 (sN:t.chk (Qr P tabs pl specs fuel sp (lG ps b)) (List.replicate sp.pre.np .arg) []=true) {gs out:List GV} (hlen:gs.length=sp.pre.np) (hd:t.den I gs=some out):aU P tabs b sp.pre sp.posts gs out:=by
 obtain ⟨ns,ds,env,lf,h1,h2,⟨more,h3⟩,h4⟩:=Tree.BZ t sN (vH.start I gs _ hlen) hd
 let T:aC:=Tw tabs I sp.pre.ka h2
 unfold Qr at h1
 split at h1
 ·next e a' σ' hrun=>
  have CX:∀Q:dw→aY→ah→Prop,Q e a' σ'→@AT T P b (sp.pre.Hg fun j=>j) (sp.pre.xA tabs fun j=>j) Q:=by
   intro Q hq
   have:=@NC P T (xB P tabs ⟨ns,ds,sp.pre.ka⟩ specs) (AY P ⟨ns,ds,sp.pre.ka⟩ pl fuel) (Sv (T:=T) hm hn (hpl T rfl rfl) fuel) (lG ps b) (ru ps b 0).2 (fun k c hk a σ e1 a1 σ1 hs Q' hq'=>by
    unfold xB at hs
    split at hs
    ·next sp' hsp=>
     obtain ⟨k1,k2⟩:=Ad k sp' hsp
     exact Qm (T:=T) rfl hlow k1 (fun gs out hI=>k2 c hk gs out hI) hs hq'
    ·cases hs) _ _ _ _ _ hrun Q hq
   rwa [show (lG ps b).erase=b from (ru ps b 0).1] at this
  have henv:∀j g,gs[j]? = some g→T.val ((fun j=>j) j)=some g:=by
   intro j g hj
   show env[j]? = some g
   rw [h3]
   have:=(List.getElem?_eq_some_iff.1 hj).1
   rw [List.getElem?_append_left this];exact hj
  split at h1
  ·next tn l=>
   split at h1
   ·next tt htn=>
    split at h1
    ·next e' s hpost=>
     simp only [Bool.and_eq_true,decide_eq_true_iff] at h1
     obtain ⟨⟨⟨⟨t0,t1⟩,t2⟩,t3⟩,t4⟩:=h1
     split at t4
     rotate_left
     ·cases t4
     next l2 hl2=>
     have e1:=dw.eq_of t2
     subst e1
     simp only [valsOf] at h4
     split at h4
     ·next g r hg hr0=>
      cases h4
      obtain ⟨g',k1,k2⟩:=h2.node tn _ htn (by simp)
      have hg':env[tn]? = some g:=hg
      rw [hg'] at k1;cases k1
      simp only [Nd.den,Option.some.injEq] at k2
      subst k2
      obtain ⟨rest,hrest,hex⟩:=Il h3 hlen hl2 hr0
      have hfl:rest.length=s.np:=by
       unfold fits at t4
       rw [Bool.and_eq_true] at t4
       rw [← Nat.eq_of_beq_eq_true t4.1]
       exact TI hrest
      refine ⟨tt.toNat,r,rest,e,s,by rw [Int.toNat_of_nonneg t0],hpost,hex,hfl,fun w0 bY A w K hS hK=>uf.step ?_⟩
      obtain ⟨η,hF,ht⟩:=SG (T:=T) (f:=fun j=>j) rfl rfl henv hS
      refine CX (fun e2 a2 σ2=>e2=e∧a2=a'∧σ2=σ') ⟨rfl,rfl,rfl⟩ w0 bY η w A _ hF rfl ht ?_
      rintro e2 a2 σ2 η' A' w' ⟨rfl,rfl,rfl⟩ hF' hl' ht'
      unfold fits at t4
      rw [Bool.and_eq_true] at t4
      have hst:=QB (T:=T) rfl hlow t3 hF' hl' ht' t4.2 hrest
      have:=hK A' w' hst
      cases e2 with
      | normal=>simp [dw.eq] at t1
      | exit id=>exact this
      | ret=>exact this
     ·cases h4
    ·cases h1
   ·cases h1
  ·next f l=>
   simp only [Bool.and_eq_true] at h1
   obtain ⟨⟨t1,t2⟩,t5,t3⟩:=h1
   have e1:=dw.eq_of t2
   subst e1
   have e2:=Nat.eq_of_beq_eq_true t1
   subst e2
   obtain ⟨gs',hgs',hI⟩:=h4
   obtain ⟨tn,r,rest,e2,s,r1,r2,r5,r3,r4⟩:=hself gs' out hI
   refine ⟨tn,r,rest,e2,s,r1,r2,by rw [← OH h3 hlen hgs' (Uh t5 _ (List.mem_of_getElem? r2)) r];exact r5,r3,fun w0 bY A w K hS hK=>uf.step ?_⟩
   obtain ⟨η,hF,ht⟩:=SG (T:=T) (f:=fun j=>j) rfl rfl henv hS
   refine CX (fun e2 a2 σ2=>e2=.normal∧a2=a'∧σ2=σ') ⟨rfl,rfl,rfl⟩ w0 bY η w A _ hF rfl ht ?_
   rintro e3 a2 σ2 η' A' w' ⟨rfl,rfl,rfl⟩ hF' hl' ht'
   unfold fits at t3
   rw [Bool.and_eq_true] at t3
   have hst:=QB (T:=T) rfl hlow hok hF' hl' ht' t3.2 hgs'
   exact r4 w0 bY A' w' K hst hK
  ·cases h1
 ·cases h1
end
end Go.aP
namespace Go.aP
noncomputable section
set_option linter.unusedSectionVars false
set_option linter.unusedVariables false
set_option linter.unusedSimpArgs false
variable {P:Program}
structure aI (P:Program) (tabs:List (Nat×List AV)) (f:FuncId) (st:List (Option FuncId)) (sh:List nU) (gs out:List GV):Prop where
 call:ae4 P tabs f st gs out
 fits:lC sh out=true
section
variable [fF]
def HY (P:Program) (σ:ah) (fz:List Nat) (a:AV):Option Nat:=
 match Dv P σ a with
 | some (m,none)=>some m
 | some (m,some _)=>if IJ P σ fz a m then some m else none
 | none=>none
def EC (P:Program) (σ:ah) (fz:List Nat):List AV→Option (List Nat)
 | []=>some []
 | a::l=>match HY P σ fz a,EC P σ fz l with
  | some m,some r=>some (m::r)
  | _,_=>none
def MX (P:Program) (σ:ah) (fz:List Nat):AV→Option Nat
 | .agg l=>match EC P σ fz l with
  | some ns=>dH (.mk ns)
  | none=>none
 | a=>HY P σ fz a
def valsN (P:Program) (σ:ah) (fz:List Nat):List AV→Option (List Nat)
 | []=>some []
 | a::l=>match MX P σ fz a,valsN P σ fz l with
  | some m,some r=>some (m::r)
  | _,_=>none
def aa0 (P:Program) (σ:ah) (a:AV):List Nat:=match Dv P σ a with
 | some (_,some id)=>[id]
 | _=>[]
def wz (P:Program) (σ:ah):List AV→List Nat
 | []=>[]
 | .agg l::r=>l.flatMap (aa0 P σ)++wz P σ r
 | a::r=>aa0 P σ a++wz P σ r
def JA (k:Nat) (ns:List Nat) (j:Nat):nU→Option AV
 | .sc=>iD (.call k ns j)
 | .ag n=>match dH (.call k ns j) with
  | some m=>(zL m 0 n).map .agg
  | none=>none
def Au (k:Nat) (ns:List Nat):Nat→List nU→Option (List AV)
 | _,[]=>some []
 | j,s::l=>match JA k ns j s,Au k ns (j+1) l with
  | some a,some r=>some (a::r)
  | _,_=>none
def bn (P:Program) (k:Nat) (st:List (Option FuncId)) (sh:List nU):dS:=fun Ee σ=>match vk st Ee with
 | none=>none
 | some args=>
 let fz:=wz P σ args
 if fz.all (Nat.ble σ.lock ·) then
  match valsN P σ fz args with
  | some ns=>match Au k ns 0 sh with
   | some (a::l)=>some (Bh (a::l),kills σ fz)
   | _=>none
  | none=>none
 else none
end
theorem OY {T:aC} {η:Env} {σ:ah} {w:World} (h:@SR T P η σ w):∀fz:List Nat,(∀id∈fz,σ.lock≤id)→∃bI,(∀b o,η.ro b=some o→bI b=some o)∧@St T P η σ w ⟨η.pl,bI,η.gh⟩ (kills σ fz) w∧
 (∀id∈fz,∀o q,σ.get id=some o→o.own=true→η id=some q→bI q.bl=w.heap[q.bl]?)
 | [],_=>⟨η.ro,fun _ _ h=>h,@St.refl T _ _ _ _ h,by simp⟩
 | id::fz,hlk=>by
  letI:=T
  obtain ⟨bI,h1,h2,h3⟩:=OY h fz (fun k hk=>hlk k (List.mem_cons_of_mem _ hk))
  by_cases hx:∃o q,(kills σ fz).get id=some o∧o.own=true∧η id=some q
  ·obtain ⟨o,q,ho,hown,hq⟩:=hx
   have hst:=St.freeze h2.rel ho hown (by rw [Dc];exact hlk id (by simp)) (show (⟨η.pl,bI,η.gh⟩:Env) id=some q from hq)
   refine ⟨y8 bI w q.bl,fun b o hb=>JK h2.rel.fP q.bl b o (h1 b o hb),h2.trans hst, ?_⟩
   intro id' gQ o' q' ho' hown' hq'
   show (if q'.bl=q.bl then w.heap[q.bl]? else bI q'.bl)=_
   split
   ·next e=>rw [e]
   ·next e=>
    rcases List.mem_cons.1 gQ with rfl | gQ
    ·rw [hq] at hq';cases hq';exact absurd rfl e
    ·exact h3 id' gQ o' q' ho' hown' hq'
  ·refine ⟨bI,h1,h2.Jh id, ?_⟩
   intro id' gQ o' q' ho' hown' hq'
   rcases List.mem_cons.1 gQ with rfl | gQ
   ·by_cases hm:id'∈fz
    ·exact h3 id' hm o' q' ho' hown' hq'
    ·exact absurd ⟨o',q',by rw [wH,if_neg hm];exact ho',hown',hq'⟩ hx
   ·exact h3 id' gQ o' q' ho' hown' hq'
section
variable {T:aC} {tabs:List (Nat×List AV)} {G next:Nat} {η:Env} {σ:ah} {w:World} {fz:List Nat} {r:List (Nat×Option Nat)} {ps:List Nat} {gs:List GV} {bI:Nat→Option Obj}
theorem ak5 {a:AV} {m:Nat} (h:@Dv T.tofF P σ a=some (m,none)):@fK T.tofF a=some m:=by
 letI:=T
 unfold Dv at h
 split at h
 ·next m' hm=>cases h;exact hm
 ·split at h
  ·split at h<;>cases h
  ·split at h
   ·obtain ⟨m',_,e⟩:=Option.map_eq_some_iff.1 h;cases e
   ·cases h
  ·cases h
theorem XF (C:pG T P tabs G next η σ w fz r ps gs bI) {a:AV} {m:Nat} {v:Value} (h:@HY T.tofF P σ fz a=some m) (hv:@VR T η a v):∃g,T.val m=some g∧g.scalar=true∧GR bI g v:=by
 letI:=T
 unfold HY at h
 split at h
 ·next m' hc=>
  cases h
  obtain ⟨g,k1,k2,k3⟩:=jf (ak5 hc) hv
  exact ⟨g,k1,k2,GR.mono C.oC _ _ k3⟩
 ·next m' id hc=>
  split at h
  ·next hf=>
   cases h
   have hval:∃g,T.val m=some g:=by
    unfold Dv at hc
    split at hc
    ·cases hc
    ·split at hc
     ·next id' n=>
      split at hc
      ·next m2 et f hg=>
       cases hc
       rcases C.rel.live _ _ hg with ⟨q,hq,hor⟩ | ⟨_,n2,OE,f2,e2,hv0⟩
       ·obtain ⟨xs,x1,_⟩:=hor.Dl;exact ⟨_,x1⟩
       ·cases e2;exact ⟨_,hv0⟩
      ·cases hc
     ·split at hc
      ·next c et oD opn hg=>
       obtain ⟨m2,hl,e⟩:=Option.map_eq_some_iff.1 hc
       cases e
       unfold listOf at hl
       simp only [hg] at hl
       split at hl
       ·split at hl
        ·split at hl
         ·split at hl
          ·obtain ⟨g,g1,_⟩:=dZ hl;exact ⟨g,g1⟩
          ·cases hl
         ·cases hl
        ·cases hl
       ·cases hl
      ·cases hc
     ·cases hc
   obtain ⟨g,hg⟩:=hval
   obtain ⟨k1,k2⟩:=aaY C hf hv hg
   exact ⟨g,hg,k1,k2⟩
  ·cases h
 ·cases h
theorem XK (C:pG T P tabs G next η σ w fz r ps gs bI):∀ {l:List AV} {ns:List Nat} {vs:List Value},@EC T.tofF P σ fz l=some ns→@aj T η l vs→∃gl,valsOf T.val ns=some gl∧gl.all GV.scalar=true∧aS bI gl vs
 | [],ns,vs,h,hv=>by simp only [EC,Option.some.injEq] at h;subst h;simp only [aj] at hv;subst hv;exact ⟨[],rfl,rfl,by simp [aS]⟩
 | a::l,ns,vs,h,hv=>by
  letI:=T
  simp only [EC] at h
  split at h
  ·next m r' hm hr=>
   cases h
   simp only [aj] at hv
   obtain ⟨x,xs,rfl,h1,h2⟩:=hv
   obtain ⟨g,g1,g2,g3⟩:=XF C hm h1
   obtain ⟨gl,k1,k2,k3⟩:=XK C hr h2
   exact ⟨g::gl,by simp only [valsOf,g1,k1],by simp [g2,k2],by simp only [aS];exact ⟨x,xs,rfl,g3,k3⟩⟩
  ·cases h
theorem aq3 (C:pG T P tabs G next η σ w fz r ps gs bI) {a:AV} {m:Nat} {v:Value} (h:@MX T.tofF P σ fz a=some m) (hv:@VR T η a v):∃g,T.val m=some g∧GR bI g v∧(match a with | .agg l=>∃gl,g=.g gl∧gl.length=l.length | _=>g.scalar=true):=by
 letI:=T
 cases a
 case agg l=>
  simp only [MX] at h
  split at h
  ·next ns hns=>
   simp only [VR] at hv
   obtain ⟨vs,rfl,hvs⟩:=hv
   obtain ⟨gl,k1,k2,k3⟩:=XK C hns hvs
   obtain ⟨g,g1,g2⟩:=dZ h
   have k1':valsOf aC.val ns=some gl:=k1
   simp only [Nd.den,k1',k2,if_true,Option.some.injEq] at g2
   subst g2
   exact ⟨_,g1,by simp only [GR];exact ⟨vs,rfl,k3⟩,gl,rfl,by rw [k3.length,hvs.length]⟩
  ·cases h
 all_goals
  simp only [MX] at h
  obtain ⟨g,g1,g2,g3⟩:=XF C h hv
  exact ⟨g,g1,g3,g2⟩
theorem TG (C:pG T P tabs G next η σ w fz r ps gs bI):∀ {l:List AV} {ns:List Nat} {vs:List Value},@valsN T.tofF P σ fz l=some ns→@aj T η l vs→∃gl,valsOf T.val ns=some gl∧aS bI gl vs
 | [],ns,vs,h,hv=>by simp only [valsN,Option.some.injEq] at h;subst h;simp only [aj] at hv;subst hv;exact ⟨[],rfl,by simp [aS]⟩
 | a::l,ns,vs,h,hv=>by
  letI:=T
  simp only [valsN] at h
  split at h
  ·next m r' hm hr=>
   cases h
   simp only [aj] at hv
   obtain ⟨x,xs,rfl,h1,h2⟩:=hv
   obtain ⟨g,g1,g2,_⟩:=aq3 C hm h1
   obtain ⟨gl,k1,k2⟩:=TG C hr h2
   exact ⟨g::gl,by simp only [valsOf,g1,k1],by simp only [aS];exact ⟨x,xs,rfl,g2,k2⟩⟩
  ·cases h
theorem QW {k:Nat} {ns:List Nat} {gl out:List GV} (hns:valsOf T.val ns=some gl) (hI:T.I k gl=some out) {η':Env}:∀ {sh:List nU} {j:Nat} {l:List AV} {us:List Value} {rest:List GV},@Au T.tofF k ns j sh=some l→lC sh rest=true→(∀i,rest[i]? = out[j+i]?)→aS η'.ro rest us→@aj T η' l us
 | [],j,l,us,rest,h,hf,hr,hg=>by
  cases rest with
  | cons a b=>simp [lC] at hf
  | nil=>simp only [Au,Option.some.injEq] at h;subst h;simp only [aS] at hg;subst hg;simp [aj]
 | s::sh,j,l,us,rest,h,hf,hr,hg=>by
  letI:=T
  cases rest with
  | nil=>cases s<;>simp [lC] at hf
  | cons g rest=>
   simp only [Au] at h
   split at h
   ·next a r' ha hr'=>
    cases h
    simp only [aS] at hg
    obtain ⟨u,us',rfl,g1,g2⟩:=hg
    have h0:=hr 0
    simp only [List.getElem?_cons_zero,Nat.add_zero] at h0
    have hden:(Nd.call k ns j).den aC.I aC.val=some g:=by
     have ai5:valsOf aC.val ns=some gl:=hns
     have hI':aC.I k gl=some out:=hI
     simp only [Nd.den,ai5,hI'];exact h0.symm
    have hrest:∀i,rest[i]? = out[j+1+i]?:=fun i=>by
     have:=hr (i+1)
     rw [List.getElem?_cons_succ] at this
     rw [this];congr 1;omega
    cases s with
    | sc=>
     simp only [lC,Bool.and_eq_true] at hf
     refine ⟨u,us',rfl, ?_,QW hns hI hr' hf.2 hrest g2⟩
     obtain ⟨_,g',_,k2,k3⟩:=jm (η:=η') ha
     rw [hden] at k2;cases k2
     exact k3 u hf.1 g1
    | ag n=>
     simp only [lC,Bool.and_eq_true] at hf
     refine ⟨u,us',rfl, ?_,QW hns hI hr' hf.2 hrest g2⟩
     simp only [JA] at ha
     split at ha
     ·next m hm=>
      obtain ⟨l',hl',rfl⟩:=Option.map_eq_some_iff.1 ha
      obtain ⟨g',k1,k2⟩:=dZ hm
      rw [hden] at k2;cases k2
      obtain ⟨r'',h5,h6⟩:=H6 (η:=η') k1 n 0 hl'
      cases g with
      | g cs=>
       have hlen:=Nat.eq_of_beq_eq_true hf.1.2
       simp only [GR] at g1
       obtain ⟨vs,rfl,hvs⟩:=g1
       simp only [VR]
       refine ⟨vs,rfl,h6 vs ?_⟩
       obtain ⟨e1,e2,_⟩:=mY h5
       have hlen':cs.length=n:=hlen
       rw [e1,List.drop_zero,List.take_of_length_le (by rw [jd];show cs.length≤n;omega)]
       exact (kT _ _).1 hvs
      | _=>simp [GV.scalar] at hf
     ·cases ha
   ·cases h
theorem aeF {T:aC} {η:Env} {l:List AV} {us:List Value} (h:@aj T η l us):@VR T η (Bh l) (xE us):=by
 letI:=T
 have hl:=h.length
 match l,us,h,hl with
 | [a],[u],h,_=>simp only [aj] at h;obtain ⟨x,xs,e,h1,h2⟩:=h;cases e;exact h1
 | [],[],h,_=>show VR η (.bV []) (.tuple ⟨[]⟩);simp only [VR];exact ⟨_,rfl,h⟩
 | a::b::l,u::u'::us,h,_=>show VR η (.bV _) (.tuple ⟨_⟩);simp only [VR];exact ⟨_,rfl,h⟩
 | [],_::_,_,hl=>simp at hl
 | [_],[],_,hl=>simp at hl
 | [_],_::_::_,_,hl=>simp at hl
 | _::_::_,[],_,hl=>simp at hl
 | _::_::_,[_],_,hl=>simp at hl
theorem ak8 {f:FuncId} {k:Nat} {st:List (Option FuncId)} {sh:List nU} (hC:∀gs out,T.I k gs=some out→aI P T.tabs f st sh gs out):@dU T P f (@bn T.tofF P k st sh):=by
 letI:=T
 intro Ee σ rr σ' hs η w vs0 hS hv0
 unfold bn at hs
 split at hs
 ·cases hs
 next args htk=>
 obtain ⟨vs,rfl,hv⟩:=MP htk hv0
 simp only at hs
 split at hs
 ·next hlk=>
  have wE:∀id∈wz P σ args,σ.lock≤id:=fun id hid=>Nat.le_of_ble_eq_true (List.all_eq_true.1 hlk id hid)
  split at hs
  ·next ns hns=>
   split at hs
   ·next a0 l hl=>
    cases hs
    obtain ⟨bI,f1,f2,f3⟩:=OY hS (wz P σ args) wE
    have C:pG T P T.tabs P.globals.size (P.globals.size+1) η σ w (wz P σ args) [] [] [] bI:=⟨hS,rfl,f1,f3,rfl,Nat.lt_succ_self _⟩
    obtain ⟨gl,k1,k2⟩:=TG C hns hv
    have hI:∃out,T.I k gl=some out:=by
     have hden:∀ {m g},dH (.call k ns 0)=some m→aC.val m=some g→∃out,T.I k gl=some out:=by
      intro m g hm hg
      obtain ⟨g',_,d2⟩:=dZ hm
      have k1':valsOf aC.val ns=some gl:=k1
      simp only [Nd.den,k1'] at d2
      split at d2
      ·next r hr=>exact ⟨r,hr⟩
      ·cases d2
     cases sh with
     | nil=>simp [Au] at hl
     | cons s sh=>
      simp only [Au] at hl
      split at hl
      ·next a1 r1 ha1 _=>
       cases s with
       | sc=>
        simp only [JA,iD] at ha1
        split at ha1
        ·next m hm=>obtain ⟨g,g1,_⟩:=dZ hm;exact hden hm g1
        ·cases ha1
       | ag n=>
        simp only [JA] at ha1
        split at ha1
        ·next m hm=>obtain ⟨g,g1,_⟩:=dZ hm;exact hden hm g1
        ·cases ha1
      ·cases hl
    obtain ⟨out,hI⟩:=hI
    obtain ⟨hcall,hfit⟩:=hC gl out hI
    refine iZ.mono (hcall bI w vs f2.rel.JL k2) ?_
    rintro v w' ⟨ro',hro,us,rfl,hus⟩
    have hst:=St.akT (ro':=ro') f2.rel hro
    refine ⟨_,f2.trans hst,aeF (QW k1 hI (η':=⟨η.pl,ro',η.gh⟩) hl hfit (fun i=>by simp) hus)⟩
   ·cases hs
  ·cases hs
 ·cases hs
def Sl:List nU→List AV→Bool
 | [],[]=>true
 | .sc::l,a::m=>(match a with | .agg _=>false | _=>true)&&Sl l m
 | .ag n::l,a::m=>(match a with | .agg c=>Nat.beq c.length n | _=>false)&&Sl l m
 | _,_=>false
section
variable [fF]
def zD:Nat→List nU→Option (List AV)
 | _,[]=>some []
 | j,.sc::l=>match zD (j+1) l with
  | some r=>some (.nd j::r)
  | none=>none
 | j,.ag n::l=>match zL j 0 n,zD (j+1) l with
  | some c,some r=>some (.agg c::r)
  | _,_=>none
end
theorem NM {η:Env}:∀ {sh:List nU} {j:Nat} {l:List AV} {vs:List Value} {rest:List GV},@zD T.tofF j sh=some l→lC sh rest=true→(∀i g,rest[i]? = some g→T.val (j+i)=some g)→aS η.ro rest vs→@aj T η l vs
 | [],j,l,vs,rest,h,hf,hr,hg=>by
  cases rest with
  | cons a b=>simp [lC] at hf
  | nil=>simp only [zD,Option.some.injEq] at h;subst h;simp only [aS] at hg;subst hg;simp [aj]
 | s::sh,j,l,vs,rest,h,hf,hr,hg=>by
  letI:=T
  cases rest with
  | nil=>cases s<;>simp [lC] at hf
  | cons g rest=>
   simp only [aS] at hg
   obtain ⟨u,us,rfl,g1,g2⟩:=hg
   have h0:=hr 0 g (by simp)
   have hrest:∀i g,rest[i]? = some g→T.val (j+1+i)=some g:=fun i g hi=>by
    have:=hr (i+1) g (by simpa using hi)
    rw [← this];congr 1;omega
   cases s with
   | sc=>
    simp only [zD] at h
    split at h
    ·next r' hr'=>
     cases h
     simp only [lC,Bool.and_eq_true] at hf
     exact ⟨u,us,rfl,by simp only [VR];exact ⟨g,h0,hf.1,g1⟩,NM hr' hf.2 hrest g2⟩
    ·cases h
   | ag n=>
    simp only [zD] at h
    split at h
    ·next c r' hc hr'=>
     cases h
     simp only [lC,Bool.and_eq_true] at hf
     refine ⟨u,us,rfl, ?_,NM hr' hf.2 hrest g2⟩
     obtain ⟨r'',h5,h6⟩:=H6 (η:=η) h0 n 0 hc
     cases g with
     | g cs=>
      have hlen:=Nat.eq_of_beq_eq_true hf.1.2
      simp only [GR] at g1
      obtain ⟨vs,rfl,hvs⟩:=g1
      simp only [VR]
      refine ⟨vs,rfl,h6 vs ?_⟩
      obtain ⟨e1,e2,_⟩:=mY h5
      have hlen':cs.length=n:=hlen
      rw [e1,List.drop_zero,List.take_of_length_le (by rw [jd];show cs.length≤n;omega)]
      exact (kT _ _).1 hvs
     | _=>simp [GV.scalar] at hf
    ·cases h
def abJ (P:Program) (tabs:List (Nat×List AV)) (pl:nV) (specs:List (Nat×bf)) (fuel:Nat) (st:List (Option FuncId)) (uZ zh:List nU) (ntmps:Nat) (res:List ResultVar) (ac:AC) (ns:List Nd) (ds:List (Nat×Bool)) (lf:Leaf):Bool:=
 match lf with
 | .ret l=>match @zD ⟨ns,ds,0⟩ 0 uZ with
  | some args=>match @pO ⟨ns,ds,0⟩ (xB P tabs ⟨ns,ds,0⟩ specs) (AY P ⟨ns,ds,0⟩ pl fuel) ac { t:=su (qA st args) 0 .nil,n:=max (qA st args).length ntmps,gn:=P.globals.size } ⟨lu (pq tabs),P.globals.size+1,0⟩ with
   | some (e,a',σ')=>(match e with | .exit _=>false | _=>true)&&match uz P σ' a' res with
    | some rs=>Sl zh rs&&match @valsN ⟨ns,ds,0⟩ P σ' (@wz ⟨ns,ds,0⟩ P σ' rs) rs with
     | some l'=>qN l l'
     | none=>false
    | none=>false
   | none=>false
  | none=>false
 | _=>false
theorem ML (hlow:uo tabs P.globals.size) (oq:T.tabs=tabs):@rX T ⟨lu (pq tabs),P.globals.size+1,0⟩ P.globals.size:=by
 refine ⟨Nat.lt_succ_self _,fun id o ho=>?_⟩
 have hm:=FK (show (lu (pq tabs)).get id=some o from ho)
 obtain ⟨p,hp,e⟩:=List.mem_map.1 hm
 cases e
 exact ⟨p.2,rfl,by rw [oq];exact hp,hlow.low p hp⟩
theorem aI.aX {tabs:List (Nat×List AV)} (hlow:uo tabs P.globals.size) (hm:P.follows .mixedOrders=true) (hn:qX P) {pl:nV} {I:fH} (hpl:uj P tabs I pl) {specs:List (Nat×bf)} {fuel:Nat} {f:FuncId} {fn:Func} {c:Code} {pe:List Nat} {st:List (Option FuncId)} {uZ zh:List nU} {t:Tree}
 (hf:P.funcs[f]? = some fn) (hc:fn.body=some c)
 (Ad:∀k sp',bM k specs=some sp'→sp'.pre.ok=true∧∀b,(lG pe c).kU k b→∀gs out,I sp'.key gs=some out→aU P tabs b sp'.pre sp'.posts gs out)
 (sN:t.chk (abJ P tabs pl specs fuel st uZ zh fn.ntmps fn.results.toList (lG pe c)) (List.replicate uZ.length .arg) []=true) {gs out:List GV} (hd:(aF.fn uZ zh t).den I gs=some out):aI P tabs f st zh gs out:=by
 simp only [aF.den] at hd
 split at hd
 rotate_left
 ·cases hd
 next hfit=>
 split at hd
 rotate_left
 ·cases hd
 next aum hd0=>
 split at hd
 rotate_left
 ·cases hd
 next hfo=>
 cases hd
 have hd:=hd0
 have hlen:gs.length=uZ.length:=by
  clear hd hd0 sN
  induction uZ generalizing gs with
  | nil=>cases gs with | nil=>rfl | cons _ _=>simp [lC] at hfit
  | cons s sh ih=>cases gs with
   | nil=>cases s<;>simp [lC] at hfit
   | cons g gs=>cases s<;>simp only [lC,Bool.and_eq_true] at hfit<;>simp [ih hfit.2]
 obtain ⟨ns,ds,env,lf,h1,h2,⟨more,h3⟩,h4⟩:=Tree.BZ t sN (vH.start I gs _ hlen) hd
 let T:aC:=Tw tabs I 0 h2
 unfold abJ at h1
 split at h1
 ·next l=>
  split at h1
  ·next args hargs=>
   split at h1
   ·next e a' σ' hrun=>
    rw [Bool.and_eq_true] at h1
    obtain ⟨he,h1⟩:=h1
    split at h1
    ·next rs hrs=>
     rw [Bool.and_eq_true] at h1
     obtain ⟨hrf,h1⟩:=h1
     split at h1
     ·next l' hl'=>
      have hll:=QG h1
      subst hll
      have CX:∀Q:dw→aY→ah→Prop,Q e a' σ'→@AT T P c { t:=su (qA st args) 0 .nil,n:=max (qA st args).length fn.ntmps,gn:=P.globals.size } ⟨lu (pq tabs),P.globals.size+1,0⟩ Q:=by
       intro Q hq
       have:=@NC P T (xB P tabs ⟨ns,ds,0⟩ specs) (AY P ⟨ns,ds,0⟩ pl fuel) (Sv (T:=T) hm hn (hpl T rfl rfl) fuel) (lG pe c) (ru pe c 0).2 (fun k b hk a σ e1 a1 σ1 hs Q' hq'=>by
        unfold xB at hs
        split at hs
        ·next sp' hsp=>
         obtain ⟨k1,k2⟩:=Ad k sp' hsp
         exact Qm (T:=T) rfl hlow k1 (fun gs out hI=>k2 b hk gs out hI) hs hq'
        ·cases hs) _ _ _ _ _ hrun Q hq
       rwa [show (lG pe c).erase=c from (ru pe c 0).1] at this
      have henv:∀i g,gs[i]? = some g→T.val (0+i)=some g:=by
       intro j g hj
       show env[0+j]? = some g
       rw [h3,Nat.zero_add]
       have:=(List.getElem?_eq_some_iff.1 hj).1
       rw [List.getElem?_append_left this];exact hj
      have key:∀ro w vs,qY tabs ro w→aS ro gs vs→Calls P f ⟨qQ st vs⟩ w fun en w'=>∃v,en=.returned v∧∃ro',D8 ro ro' w w'∧∃us,v=xE us∧aS ro' out us:=by
       intro ro w vs hro hvs
       letI:=T
       have hst:rX (⟨lu (pq tabs),P.globals.size+1,0⟩:ah) P.globals.size:=ML (T:=T) hlow rfl
       have hS0:SR P (oM P.globals.size ⟨lu (pq tabs),P.globals.size+1,0⟩ ro) ⟨lu (pq tabs),P.globals.size+1,0⟩ w:=
        BA hst.1 (fun id o ho=>by
         obtain ⟨c,rfl,hmem,hle⟩:=hst.2 id o ho
         obtain ⟨cs,elem,fr,k1,k2,k3⟩:=hro.tab _ hmem
         exact ⟨hle,c,rfl,⟨cs,elem,fr,hro.at' _ _ k1,k2,k3⟩⟩) hro.at' (fun p hp=>hro.tab p hp)
       have hv0:aj (oM P.globals.size ⟨lu (pq tabs),P.globals.size+1,0⟩ ro) (qA st args) (qQ st vs):=JG (NM (T:=T) hargs hfit henv hvs)
       refine calls_of_wp hf hc ?_
       refine CX (fun e2 a2 σ2=>e2=e∧a2=a'∧σ2=σ') ⟨rfl,rfl,rfl⟩ (.shut w) ro (oM P.globals.size ⟨lu (pq tabs),P.globals.size+1,0⟩ ro) w _ _ (ig.start hS0 hst.own) rfl (OD hv0) ?_
       rintro e2 a2 σ2 η1 A' w' ⟨rfl,rfl,rfl⟩ hF hl0 ht
       obtain ⟨us,r1,r2⟩:=FY hF.rel ht (fun | .tmp t=>pure (A'.tmps.getD t undef) | .cell a t=>do loadVar t (← asAddr (A'.tmps.getD a undef))) (fun _=>rfl) (fun _ _=>rfl) _ _ hrs
       obtain ⟨bI,f1,f2,f3⟩:=IB hF hl0 (@wz ⟨ns,ds,0⟩ P σ2 rs)
       have C:pG T P tabs P.globals.size (P.globals.size+1) η1 σ2 w' (@wz ⟨ns,ds,0⟩ P σ2 rs) [] [] [] bI:=⟨hF.rel,rfl,f1,f3,rfl,Nat.lt_succ_self _⟩
       obtain ⟨gl,k1,k2⟩:=TG C hl' r2
       have hgl:gl=out:=by
        have h4':valsOf (fun n=>env[n]?) l=some out:=h4
        have k1':valsOf (fun n=>env[n]?) l=some gl:=k1
        rw [k1'] at h4';cases h4';rfl
       subst hgl
       have hres':(results fn A'.tmps).run P w'=.ok (if h:(⟨us⟩:Array Value).size=1 then (⟨us⟩:Array Value)[0] else .tuple ⟨us⟩) w':=by
        unfold results
        rw [Array.mapM_eq_mapM_toList]
        simp only [Sem.run_bind,Sem.run_map]
        exact congrArg (fun r:Result (List Value)=>(r.andThen fun a w'=>Result.ok a.toArray w').andThen fun a w'=>Sem.run P (pure (if h:a.size=1 then a[0] else Value.tuple a)) w') r1
       have PO:(if h:(⟨us⟩:Array Value).size=1 then (⟨us⟩:Array Value)[0] else .tuple ⟨us⟩)=xE us:=by
        match us with
        | []=>rfl
        | [u]=>rfl
        | u::u'::us=>rfl
       rw [PO] at hres'
       have hpost:A'.defers=[]∧∃v,(results fn A'.tmps).run P w'=.ok v w'∧∃v',Ending.returned v=.returned v'∧(∃ro',D8 ro ro' w w'∧∃us,v'=xE us∧aS ro' gl us):=
        ⟨ht.none,_,hres',_,rfl,⟨bI,⟨hF.kept.shut,f2.oC,f2.adr,f2.rel.fP⟩,us,rfl,k2⟩⟩
       cases e2 with
       | normal=>exact hpost
       | ret=>exact hpost
       | exit id=>simp at he
      refine ⟨fun ro w vs hro hvs=>?_, ?_⟩
      ·right
       refine ⟨?_,Calls.mono' (key ro w vs hro hvs) ?_⟩
       ·have hname:=hn f fn c hf hc
        simp only [callFunc,Sem.run_bind,program,Sem.run,Result.andThen_ok,hf]
        simp only [hname,Bool.false_eq_true,if_false,hc,Option.isNone_some,Sem.run_pure]
       ·rintro en w' ⟨v,rfl,h5⟩
        exact ⟨v,rfl,h5⟩
      ·exact hfo
     ·cases h1
    ·cases h1
   ·cases h1
  ·cases h1
 ·cases h1
end
end
end Go.aP
namespace Go.aP
noncomputable section
set_option linter.unusedSectionVars false
set_option linter.unusedVariables false
set_option linter.unusedSimpArgs false
variable {P:Program}
def fB.args (s:fB):List AV:=s.slots.map (·.2)
def DY (P:Program) (tabs:List (Nat×List AV)) (s:fB) (gs:List GV) (w0:Base) (bY:Nat→Option Obj) (vs:List Value) (w:World):Prop:=
 ∃η,@ig (Tg tabs gs s.ka) P w0 bY η (s.st tabs) w∧@aj (Tg tabs gs s.ka) η s.args vs
def dQ (P:Program) (tabs:List (Nat×List AV)) (f:FuncId) (st:List (Option FuncId)) (pre:fB) (posts:List (dw×fB)) (gs out:List GV):Prop:=
 ∃ (t:Nat) (r rest:List GV) (e:dw) (s:fB),out=GV.i .i64 t::r∧posts[t]? = some (e,s)∧oh s.al gs r=some rest∧rest.length=s.np∧
  ∀w0 bY w vs,DY P tabs pre gs w0 bY vs w→iZ P f ⟨qQ st vs⟩ w fun v w'=>∃us,v=xE us∧DY P tabs s rest w0 bY us w'
mutual
def AV.ren (ρ f:Nat→Nat):AV→AV
 | .nd j=>.nd (f j)
 | .rx j off=>.rx (f j) off
 | .sv id j=>.sv (ρ id) (f j)
 | .p id off=>.p (ρ id) off
 | .mp id=>.mp (ρ id)
 | .fn g fi cs=>.fn g (AV.qB ρ f fi) (AV.qB ρ f cs)
 | .dD t a=>.dD t (a.ren ρ f)
 | .agg l=>.agg (AV.qB ρ f l)
 | .bV l=>.bV (AV.qB ρ f l)
 | a=>a
def AV.qB (ρ f:Nat→Nat):List AV→List AV
 | []=>[]
 | a::l=>a.ren ρ f::AV.qB ρ f l
end
mutual
def AV.okS (G:Nat):AV→Bool
 | .sv id _=>Nat.blt G id
 | .fn _ fi cs=>AV.tq G fi&&AV.tq G cs
 | .dD _ a=>a.okS G
 | .agg l=>AV.tq G l
 | .bV l=>AV.tq G l
 | .nd _ | .rx _ _ | .p _ _ | .mp _ | .b _ | .i _ _ | .s _ | .iC | .dM | .sZ | .nO | .lQ=>true
 | _=>false
def AV.tq (G:Nat):List AV→Bool
 | []=>true
 | a::l=>a.okS G&&AV.tq G l
end
def aZ.ren (ρ f:Nat→Nat):aZ→aZ
 | .cells c et rw opn=>.cells (AV.qB ρ f c) et rw opn
 | .vec j et b=>.vec (f j) et b
 | .smap j kk sz=>.smap (f j) kk sz
 | o=>o
def aZ.okS (G:Nat):aZ→Bool
 | .cells c _ rw _=>AV.tq G c&&rw
 | .vec _ _ _=>true
 | .smap _ _ _=>true
 | _=>false
theorem RU (ρ f:Nat→Nat):∀l:List AV,AV.qB ρ f l=l.map (AV.ren ρ f)
 | []=>rfl
 | a::l=>by simp [AV.qB,RU ρ f l]
structure D6 (S T:aC) (G:Nat) (ρ f:Nat→Nat) (η η':Env):Prop where
 val:∀j g,S.val j=some g→T.val (f j)=some g
 pl:∀i q,G < i→η i=some q→η' (ρ i)=some q
 gl:∀i q,i≤G→η i=some q→∃q',η' (ρ i)=some q'∧q'.bl=q.bl∧q'.ba=q.ba
 gh:∀i,G < i→η.gh i=true→η'.gh (ρ i)=true
 ro:∀b o,η.ro b=some o→η'.ro b=some o
section
variable {S T:aC} {G:Nat} {ρ f:Nat→Nat} {η η':Env}
mutual
theorem VR.ren (h:D6 S T G ρ f η η'):∀ (a:AV) (v:Value),a.okS G=true→@VR S η a v→@VR T η' (a.ren ρ f) v
 | .b _,_,_,hv=>by simpa only [VR,AV.ren] using hv
 | .i _ _,_,_,hv=>by simpa only [VR,AV.ren] using hv
 | .s _,_,_,hv=>by simpa only [VR,AV.ren] using hv
 | .iC,_,_,hv=>by simpa only [VR,AV.ren] using hv
 | .p i off,v,_,hv=>by
  simp only [VR,AV.ren] at hv ⊢
  obtain ⟨q,hq,rfl⟩:=hv
  by_cases hi:i≤G
  ·obtain ⟨q',h1,h2,h3⟩:=h.gl i q hi hq
   exact ⟨q',h1,by rw [h2,h3]⟩
  ·exact ⟨q,h.pl i q (by omega) hq,rfl⟩
 | .dM,_,_,hv=>by simpa only [VR,AV.ren] using hv
 | .sl _ _ _ _,_,ho,_=>by simp [AV.okS] at ho
 | .lQ,_,_,hv=>by simpa only [VR,AV.ren] using hv
 | .mp i,v,_,hv=>by
  simp only [VR,AV.ren] at hv ⊢
  obtain ⟨q,hq,rfl⟩:=hv
  by_cases hi:i≤G
  ·obtain ⟨q',h1,h2,h3⟩:=h.gl i q hi hq
   exact ⟨q',h1,by rw [h2]⟩
  ·exact ⟨q,h.pl i q (by omega) hq,rfl⟩
 | .sZ,_,_,hv=>by simpa only [VR,AV.ren] using hv
 | .fn _ fi cs,_,ho,hv=>by
  simp only [AV.okS,Bool.and_eq_true] at ho
  simp only [VR,AV.ren] at hv ⊢
  obtain ⟨us,vs,e,h1,h2⟩:=hv
  exact ⟨us,vs,e,aj.ren h fi us ho.1 h1,aj.ren h cs vs ho.2 h2⟩
 | .nO,_,_,hv=>by simpa only [VR,AV.ren] using hv
 | .dD _ a,_,ho,hv=>by simp only [AV.okS] at ho;simp only [VR,AV.ren] at hv ⊢;obtain ⟨x,e,h1⟩:=hv;exact ⟨x,e,VR.ren h a x ho h1⟩
 | .agg l,_,ho,hv=>by simp only [AV.okS] at ho;simp only [VR,AV.ren] at hv ⊢;obtain ⟨x,e,h1⟩:=hv;exact ⟨x,e,aj.ren h l x ho h1⟩
 | .bV l,_,ho,hv=>by simp only [AV.okS] at ho;simp only [VR,AV.ren] at hv ⊢;obtain ⟨x,e,h1⟩:=hv;exact ⟨x,e,aj.ren h l x ho h1⟩
 | .z _ _ _,_,ho,_=>by simp [AV.okS] at ho
 | .ro _,_,ho,_=>by simp [AV.okS] at ho
 | .rp _ _,_,ho,_=>by simp [AV.okS] at ho
 | .nd _,_,_,hv=>by simp only [VR,AV.ren] at hv ⊢;obtain ⟨g,h1,h2,h3⟩:=hv;exact ⟨g,h.val _ _ h1,h2,GR.mono h.ro _ _ h3⟩
 | .rx _ _,_,_,hv=>by
  simp only [VR,AV.ren] at hv ⊢
  obtain ⟨g,bl,base,cs,elem,fr,x,h1,h2,h3,h4⟩:=hv
  exact ⟨g,bl,base,cs,elem,fr,x,h.val _ _ h1,h.ro _ _ h2,GR.mono h.ro _ _ h3,h4⟩
 | .sv i j,_,ho,hv=>by
  simp only [AV.okS,Nat.blt_eq] at ho
  simp only [VR,AV.ren] at hv ⊢
  obtain ⟨xs,h1,⟨q,hq,h2⟩ | ⟨hg,h2⟩⟩:=hv
  ·exact ⟨xs,h.val _ _ h1,.inl ⟨q,h.pl i q ho hq,h2⟩⟩
  ·exact ⟨xs,h.val _ _ h1,.inr ⟨h.gh i ho hg,h2⟩⟩
 | .pv _ _ _,_,ho,_=>by simp [AV.okS] at ho
 | .pd _ _,_,ho,_=>by simp [AV.okS] at ho
theorem aj.ren (h:D6 S T G ρ f η η'):∀ (l:List AV) (vs:List Value),AV.tq G l=true→@aj S η l vs→@aj T η' (AV.qB ρ f l) vs
 | [],_,_,hv=>by simpa only [aj,AV.qB] using hv
 | a::l,_,ho,hv=>by
  simp only [AV.tq,Bool.and_eq_true] at ho
  simp only [aj,AV.qB] at hv ⊢
  obtain ⟨x,xs,e,h1,h2⟩:=hv
  exact ⟨x,xs,e,VR.ren h a x ho.1 h1,aj.ren h l xs ho.2 h2⟩
end
theorem OR.ren (h:D6 S T G ρ f η η') {q:Place} {w:World} {o:aZ} (ho:o.okS G=true) (r:@OR S P η q w o):@OR T P η' q w (o.ren ρ f):=by
 cases o with
 | cells c et oD opn=>
  simp only [aZ.okS,Bool.and_eq_true] at ho
  obtain ⟨cs,elem,fr,h1,⟨r1,r2,r3,r4,r5,r6,r7⟩⟩:=r
  have hl:(AV.qB ρ f c).length=c.length:=by rw [RU];simp
  have hok:∀a∈c,a.okS G=true:=by
   have:∀l:List AV,AV.tq G l=true→∀a∈l,a.okS G=true:=by
    intro l
    induction l with
    | nil=>intro _ a ha;simp at ha
    | cons b l ih=>
     intro h a ha
     simp only [AV.tq,Bool.and_eq_true] at h
     rcases List.mem_cons.1 ha with rfl | ha
     ·exact h.1
     ·exact ih h.2 a ha
   exact this c ho.1
  refine ⟨cs,elem,fr,h1,@ng.mk T P η' q _ et oD opn cs elem fr r1 (by rw [hl];exact r2) (fun e=>by rw [hl];exact r3 e) (fun k a hk=>?_) r5 r6 r7⟩
  rw [RU,List.getElem?_map] at hk
  obtain ⟨a0,h2,rfl⟩:=Option.map_eq_some_iff.1 hk
  obtain ⟨x,hx,hv⟩:=r4 k a0 h2
  exact ⟨x,hx,VR.ren h a0 x (hok a0 (List.mem_of_getElem? h2)) hv⟩
 | iter s pos=>simp [aZ.okS] at ho
 | map es=>simp [aZ.okS] at ho
 | iterM m=>simp [aZ.okS] at ho
 | smap j kk sz=>
  obtain ⟨xs,ms,clock,k1,k2,k3⟩:=r
  exact ⟨xs,ms,clock,h.val _ _ k1,k2,k3.mono h.ro⟩
 | vec j et b=>
  obtain ⟨xs,cs,elem,fr,ys,k1,k2,k3,k4,k5,k6,⟨r1,r2,r3,r4,r5,r6,r7⟩,k8⟩:=r
  exact ⟨xs,cs,elem,fr,ys,h.val _ _ k1,k2,aS.mono h.ro _ _ k3,k4,k5,k6,@ng.mk T P η' q [] et true true cs elem fr r1 r2 r3 (fun k a hk=>by simp at hk) r5 r6 r7,k8⟩
theorem Live.ren (h:D6 S T G ρ f η η') {w:World} {i:Nat} {o:aZ} (hi:G < i) (ho:o.okS G=true) (r:@Live S P η w i o):@Live T P η' w (ρ i) (o.ren ρ f):=by
 rcases r with ⟨q,hq,hr⟩ | ⟨hg,n,et,b,rfl,hv⟩
 ·exact .inl ⟨q,h.pl i q hi hq,OR.ren h ho hr⟩
 ·exact .inr ⟨h.gh i hi hg,f n,et,b,rfl,h.val _ _ hv⟩
end
theorem aZ.QS {G:Nat} {o:aZ} (h:o.okS G=true):o.own=true:=by
 cases o<;>simp only [aZ.okS,Bool.and_eq_true,Bool.false_eq_true] at h<;>simp [aZ.own]
 exact h.2
def rhoC (G ka next:Nat) (r:List (Nat×Option Nat)) (i:Nat):Nat:=if i≤G then i else if i≤G+ka then (match bM i r with | some (some id)=>id | _=>0) else next+(i - (G+ka+1))
def Dz (ρ f:Nat→Nat):List (Nat×aZ)→Tr aZ→Tr aZ
 | [],h=>h
 | p::l,h=>(Dz ρ f l h).set (ρ p.1) (some (p.2.ren ρ f))
def kW:List (Nat×Option Nat)→List Nat
 | []=>[]
 | p::l=>match p.2 with
  | some id=>id::kW l
  | none=>kW l
def Ih {α:Type}:List (Nat×α)→Bool
 | []=>true
 | p::l=>(match bM p.1 l with | none=>true | some _=>false)&&Ih l
def vI (r:List (Nat×Option Nat)) (σ:ah):Nat→Nat→Bool
 | _,0=>true
 | i,n+1=>(match bM (i+1) r with
  | some (some id)=>(match σ.get id with | some (.cells _ _ _ _)=>true | _=>false)
  | _=>false)&&vI r σ (i+1) n
def RI (s:fB):Bool:=Nat.blt (s.gn+s.ka) s.next&&AV.tq s.gn s.args&&Ih s.objs&&s.objs.all fun p=>Nat.blt s.gn p.1&&Nat.blt p.1 s.next&&p.2.okS s.gn
section
variable [fF]
def ahW (P:Program) (s:fB) (l:List AV) (σ:ah):US:=MR P s.gn σ s.objs (zk P s.gn σ s.args l ⟨[],[],[]⟩)
def ahX (P:Program) (s:fB) (l:List AV) (σ:ah):US:=MR P s.gn σ s.objs (zk P s.gn σ s.args l ⟨NH s.gn s.ka,[],[]⟩)
def Jp (P:Program) (s:fB) (l:List AV) (σ:ah) (fz:List Nat) (r:List (Nat×Option Nat)) (ps:List Nat):Bool:=
 Nat.beq s.gn P.globals.size&&Nat.blt (s.gn+s.ka) s.next&&AU r&&uQ P s.gn σ fz r ps s.args l&&Di P s.gn s.next σ fz r ps s.objs
def jh (P:Program) (st:List (Option FuncId)) (sp:bf):dS:=fun Ee σ=>match vk st Ee with
 | none=>none
 | some args=>match ahW P sp.pre args σ with
  | ⟨r,p,fz⟩=>match RP p 0 sp.pre.np with
   | none=>none
   | some ps=>
    if Jp P sp.pre args σ fz r ps&&(fz.all (Nat.ble σ.lock ·)&&((kW r).all (fun id=>Nat.ble σ.lock id&&!(fz.contains id))&&vI r σ sp.pre.gn sp.pre.ka)) then
     match dH (.call sp.key ps 0) with
     | some tag=>match AL tag sp.posts 0 with
      | some (_,s)=>if RI s&&(Nat.beq s.ka sp.pre.ka&&Nat.beq s.gn sp.pre.gn) then match uT sp.key ps s.al 1 s.np with
       | some ns=>
        some (Bh (AV.qB (rhoC s.gn s.ka σ.next r) (fun j=>ns.getD j 0) s.args),⟨Dz (rhoC s.gn s.ka σ.next r) (fun j=>ns.getD j 0) s.objs (kills (kills σ fz) (kW r)).h,σ.next+(s.next - (s.gn+s.ka+1)),σ.lock⟩)
       | none=>none
       else none
      | none=>none
     | none=>none
    else none
end
theorem aag {α:Type}:∀ {l:List (Nat×α)},Ih l=true→∀ {k:Nat} {v:α},(k,v)∈l→bM k l=some v
 | [],_,k,v,h=>by simp at h
 | p::l,hd,k,v,h=>by
  simp only [Ih,Bool.and_eq_true] at hd
  rcases List.mem_cons.1 h with e | h
  ·subst e;simp [bM]
  ·have h1:=aag hd.2 h
   simp only [bM]
   cases hb:Nat.beq k p.1 with
   | true=>
    have e:=Nat.eq_of_beq_eq_true hb
    have h2:=hd.1
    rw [← e,h1] at h2
    cases h2
   | false=>exact h1
theorem aa2 {α:Type}:∀ {l m:List (Nat×α)} {k:Nat} {v:α},bM k l=some v→bM k (l++m)=some v
 | [],m,k,v,h=>by simp [bM] at h
 | p::l,m,k,v,h=>by
  simp only [List.cons_append,bM] at h ⊢
  cases hb:Nat.beq k p.1 with
  | true=>rw [hb] at h;exact h
  | false=>rw [hb] at h;exact aa2 h
theorem ac0 {ρ f:Nat→Nat}:∀ {l:List (Nat×aZ)} {h:Tr aZ} {k:Nat} {o:aZ},(Dz ρ f l h).get k=some o→(∃i o0,(i,o0)∈l∧ρ i=k∧o=o0.ren ρ f)∨(h.get k=some o∧∀p∈l,ρ p.1≠k)
 | [],h,k,o,hg=>.inr ⟨hg,fun p hp=>by simp at hp⟩
 | q::l,h,k,o,hg=>by
  simp only [Dz,Tr.qg] at hg
  split at hg
  ·next e=>cases hg;exact .inl ⟨q.1,q.2,by simp,e.symm,rfl⟩
  ·next e=>
   rcases ac0 hg with ⟨i,o0,h1,h2,h3⟩ | ⟨h1,h2⟩
   ·exact .inl ⟨i,o0,List.mem_cons_of_mem _ h1,h2,h3⟩
   ·refine .inr ⟨h1,fun p hp=>?_⟩
    rcases List.mem_cons.1 hp with rfl | hp
    ·exact fun e'=>e e'.symm
    ·exact h2 p hp
theorem abo {r:List (Nat×Option Nat)}:∀ {i id:Nat},bM i r=some (some id)→id∈kW r:=by
 induction r with
 | nil=>intro i id h;simp [bM] at h
 | cons p l ih=>
  intro i id h
  simp only [bM] at h
  cases hb:Nat.beq i p.1 with
  | true=>
   rw [hb] at h
   simp only [cond_true,Option.some.injEq] at h
   simp only [kW,h]
   simp
  | false=>
   rw [hb] at h
   have:=ih h
   simp only [kW]
   split
   ·exact List.mem_cons_of_mem _ this
   ·exact this
theorem NI {r:List (Nat×Option Nat)} {σ:ah}:∀ {n i:Nat},vI r σ i n=true→∀j,i < j→j≤i+n→∃id c et rw opn,bM j r=some (some id)∧σ.get id=some (.cells c et rw opn)
 | 0,i,_,j,h1,h2=>by omega
 | n+1,i,h,j,h1,h2=>by
  simp only [vI,Bool.and_eq_true] at h
  by_cases e:j=i+1
  ·subst e
   have h3:=h.1
   split at h3
   ·next id hid=>
    split at h3
    ·next c et rw opn hg=>exact ⟨id,c,et,rw,opn,hid,hg⟩
    ·cases h3
   ·cases h3
  ·exact NI h.2 j (by omega) (by omega)
theorem St.akV {T:aC} {tabs:List (Nat×List AV)} (oq:T.tabs=tabs) {G ka:Nat} (hG:G=P.globals.size) {η η2:Env} {σ:ah} {w w':World} (h:@SR T P η σ w) {r:List (Nat×Option Nat)} (hinj:AU r=true) (hlk:∀id∈kW r,σ.lock≤id) (O9:vI r σ G ka=true)
 {s:fB} (hs:RI s=true) (hsk:s.ka=ka) (hsg:s.gn=G) {gs:List GV} {f:Nat→Nat} (hf:∀j g,gs[j]? = some g→T.val (f j)=some g)
 (hF:@ig (Tg tabs gs s.ka) P ⟨w,fun b=>∃id o q,id∈kW r∧σ.get id=some o∧o.own=true∧η id=some q∧q.bl=b,fun i=>if G < i∧i≤G+ka then (match bM i r with | some (some id)=>η id | _=>none) else none⟩ η.ro η2 (s.st tabs) w')
 {vs:List Value} (hv:@aj (Tg tabs gs s.ka) η2 s.args vs) :
 ∃η',@St T P η σ w η' ⟨Dz (rhoC s.gn s.ka σ.next r) f s.objs (kills σ (kW r)).h,σ.next+(s.next - (s.gn+s.ka+1)),σ.lock⟩ w'∧@aj T η' (AV.qB (rhoC s.gn s.ka σ.next r) f s.args) vs:=by
 obtain ⟨⟨anw,ad4,anC,SC,an9,an6,an8,ao8⟩,DL,an4,an7,aef,anr⟩:=hF
 letI:=T
 subst hsk;subst hsg
 unfold RI at hs
 simp only [Bool.and_eq_true,Nat.blt_eq] at hs
 obtain ⟨⟨⟨p1,p2⟩,p3⟩,p4⟩:=hs
 have Az:∀i o,(i,o)∈s.objs→s.gn < i∧i < s.next∧o.okS s.gn=true:=by
  intro i o hm
  have:=List.all_eq_true.1 p4 _ hm
  simp only [Bool.and_eq_true,Nat.blt_eq] at this
  exact ⟨this.1.1,this.1.2,this.2⟩
 have Gg:∀i o,(i,o)∈s.objs→(s.st tabs).get i=some o:=by
  intro i o hm
  show (lu (s.objs++pq tabs)).get i=some o
  rw [Aq]
  exact aa2 (aag p3 hm)
 let B:Nat:=s.gn+s.ka+1
 let η':Env:=⟨fun id=>if id < σ.next then η id else η2 (id - σ.next+B),η2.ro,fun id=>if id < σ.next then η.gh id else η2.gh (id - σ.next+B)⟩
 have PE:∀b o,η.ro b=some o→η2.ro b=some o:=an7
 have hext:η.le η':=by
  refine ⟨fun id q hq=>?_,PE,fun id hg=>?_⟩
  ·show (if id < σ.next then η id else _)=some q
   rw [if_pos (h.dom id q hq)];exact hq
  ·show (if id < σ.next then η.gh id else _)=true
   rw [if_pos (h.gW id hg).2];exact hg
 have mD:∀i,s.gn < i→i≤s.gn+s.ka→∃id q,bM i r=some (some id)∧η id=some q∧η2 i=some q∧id < σ.next∧(∃o,σ.get id=some o):=by
  intro i h1 h2
  obtain ⟨id,c,et,oD,opn,g1,g2⟩:=NI O9 i h1 h2
  obtain ⟨q,hq,_⟩:=h.obj _ _ g2 rfl
  have:=(anr i q (by show (if s.gn < i∧i≤s.gn+s.ka then _ else _)=_;rw [if_pos ⟨h1,h2⟩,g1];exact hq)).1
  exact ⟨id,q,g1,hq,this,h.dom id q hq,_,g2⟩
 have DI:∀i id,s.gn < i→i≤s.gn+s.ka→bM i r=some (some id)→rhoC s.gn s.ka σ.next r i=id:=by
  intro i id h1 h2 h3
  unfold rhoC
  rw [if_neg (by omega),if_pos h2,h3]
 have AX:∀i,s.gn+s.ka < i→rhoC s.gn s.ka σ.next r i=σ.next+(i - B):=by
  intro i h1
  unfold rhoC
  rw [if_neg (by omega),if_neg (by omega)]
 have AO:∀i,s.gn+s.ka < i→η' (σ.next+(i - B))=η2 i∧η'.gh (σ.next+(i - B))=η2.gh i:=by
  intro i h1
  have e:σ.next+(i - B) - σ.next+B=i:=by show σ.next+(i - (s.gn+s.ka+1)) - σ.next+(s.gn+s.ka+1)=i;omega
  constructor
  ·show (if σ.next+(i - B) < σ.next then _ else η2 (σ.next+(i - B) - σ.next+B))=_
   rw [if_neg (by omega),e]
  ·show (if σ.next+(i - B) < σ.next then _ else η2.gh (σ.next+(i - B) - σ.next+B))=_
   rw [if_neg (by omega),e]
 have abk:D6 (Tg tabs gs s.ka) T s.gn (rhoC s.gn s.ka σ.next r) f η2 η':=by
  refine ⟨hf,fun i q hi hq=>?_,fun i q hi hq=>?_,fun i hi hg=>?_,fun _ _ h=>h⟩
  ·by_cases hk:i≤s.gn+s.ka
   ·obtain ⟨id,q',g1,g2,g3,g4,_⟩:=mD i hi hk
    rw [DI i id hi hk g1]
    rw [hq] at g3;cases g3
    exact hext.pl _ _ g2
   ·rw [AX i (by omega),(AO i (by omega)).1];exact hq
  ·obtain ⟨sz,es,e1⟩:=anw i (by omega)
   rw [hq] at e1;cases e1
   obtain ⟨sz',es',e2⟩:=h.jr i (by omega)
   refine ⟨⟨i,0,sz',es'⟩, ?_,rfl,rfl⟩
   show η' (rhoC s.gn s.ka σ.next r i)=_
   unfold rhoC
   rw [if_pos hi]
   exact hext.pl _ _ e2
  ·by_cases hk:i≤s.gn+s.ka
   ·obtain ⟨id,q',g1,g2,g3,_⟩:=mD i hi hk
    rw [(SC i hg).1] at g3;cases g3
   ·rw [AX i (by omega),(AO i (by omega)).2];exact hg
 have old:∀id o,(kills σ (kW r)).get id=some o→id∉kW r∧σ.get id=some o:=by
  intro id o hg
  rw [wH] at hg
  split at hg
  ·cases hg
  ·next hm=>exact ⟨hm,hg⟩
 have Jy:∀id o q,id∉kW r→σ.get id=some o→η id=some q→∀bW o0 q0,bW∈kW r→σ.get bW=some o0→o0.own=true→η bW=some q0→q0.bl≠q.bl:=by
  intro id o q hm hg hq bW o0 q0 hm0 hg0 ho0 hq0
  exact h.sep bW o0 id o q0 q hg0 ho0 hg (fun e=>hm (e ▸ hm0)) hq0 hq
 have ajA:∀id o q,id∉kW r→σ.get id=some o→η id=some q→q.bl < w.heap.size→w'.heap[q.bl]? = w.heap[q.bl]?:=by
  intro id o q hm hg hq hlt
  refine DL.keep q.bl hlt ?_
  rintro ⟨bW,o0,q0,a1,a2,a3,a4,a5⟩
  exact Jy id o q hm hg hq bW o0 q0 a1 a2 a3 a4 a5
 have obj:∀k o,(Dz (rhoC s.gn s.ka σ.next r) f s.objs (kills σ (kW r)).h).get k=some o→(∃i o0,(i,o0)∈s.objs∧rhoC s.gn s.ka σ.next r i=k∧o=o0.ren (rhoC s.gn s.ka σ.next r) f)∨(k∉kW r∧σ.get k=some o∧∀p∈s.objs,rhoC s.gn s.ka σ.next r p.1≠k):=by
  intro k o hk
  rcases ac0 hk with h1 | ⟨h1,h2⟩
  ·exact .inl h1
  ·obtain ⟨h3,h4⟩:=old k o h1
   exact .inr ⟨h3,h4,h2⟩
 have Dx:∀k o q,σ.get k=some o→η' k=some q→η k=some q:=by
  intro k o q hg hq
  have hlt:k < σ.next:=h.hasLt (h.E5 hg)
  have hq':(if k < σ.next then η k else _)=some q:=hq
  rw [if_pos hlt] at hq';exact hq'
 have plNew:∀i o q,(i,o)∈s.objs→η' (rhoC s.gn s.ka σ.next r i)=some q→η2 i=some q:=by
  intro i o q hm hq
  obtain ⟨g1,g2,g3⟩:=Az i o hm
  by_cases hk:i≤s.gn+s.ka
  ·obtain ⟨id,q',a1,a2,a3,a4,_⟩:=mD i g1 hk
   rw [DI i id g1 hk a1] at hq
   have:=hext.pl _ _ a2
   rw [hq] at this;cases this
   exact a3
  ·rw [AX i (by omega),(AO i (by omega)).1] at hq;exact hq
 have aur:∀i j oi oj,(i,oi)∈s.objs→(j,oj)∈s.objs→rhoC s.gn s.ka σ.next r i=rhoC s.gn s.ka σ.next r j→i=j:=by
  intro i j oi oj hi hj e
  obtain ⟨g1,g2,_⟩:=Az i oi hi
  obtain ⟨k1,k2,_⟩:=Az j oj hj
  by_cases c1:i≤s.gn+s.ka<;>by_cases c2:j≤s.gn+s.ka
  ·obtain ⟨id,_,a1,_,_,_,_⟩:=mD i g1 c1
   obtain ⟨id',_,b1,_,_,_,_⟩:=mD j k1 c2
   rw [DI i id g1 c1 a1,DI j id' k1 c2 b1] at e
   subst e
   exact RQ hinj i j id a1 b1
  ·obtain ⟨id,_,a1,_,_,a4,_⟩:=mD i g1 c1
   rw [DI i id g1 c1 a1,AX j (by omega)] at e
   omega
  ·obtain ⟨id,_,a1,_,_,a4,_⟩:=mD j k1 c2
   rw [DI j id k1 c2 a1,AX i (by omega)] at e
   omega
  ·rw [AX i (by omega),AX j (by omega)] at e
   have hB:B=s.gn+s.ka+1:=rfl
   omega
 have QX:∀i o q,(i,o)∈s.objs→η2 i=some q→w.heap.size≤q.bl∨∃id o0 q0,id∈kW r∧σ.get id=some o0∧o0.own=true∧η id=some q0∧q0.bl=q.bl:=by
  intro i o q hm hq
  exact an4 i o q (Gg i o hm) (aZ.QS (Az i o hm).2.2) hq
 have hlt:∀k o q,σ.get k=some o→η k=some q→q.bl < w.heap.size:=fun k o q hg hq=>(h.at hg hq).lt
 refine ⟨η',⟨hext,⟨?_, ?_, ?_, ?_, ?_,an6, ?_, ?_⟩,DL.size, ?_, ?_,DL.os,DL.tape,DL.output,rfl,Nat.le_add_right _ _, ?_, ?_⟩,aj.ren abk _ _ p2 hv⟩
 ·intro g hg
  obtain ⟨sz,es,e⟩:=h.jr g hg
  exact ⟨sz,es,hext.pl _ _ e⟩
 ·intro id q hq
  show id < σ.next+(s.next - (s.gn+s.ka+1))
  by_cases hl:id < σ.next
  ·omega
  ·have hq':(if id < σ.next then η id else η2 (id - σ.next+B))=some q:=hq
   rw [if_neg hl] at hq'
   have:=ad4 _ _ hq'
   have:id - σ.next+(s.gn+s.ka+1) < s.next:=this
   omega
 ·intro k o hk
  rcases obj k o hk with ⟨i,o0,h1,rfl,rfl⟩ | ⟨h1,h2,_⟩
  ·obtain ⟨g1,g2,g3⟩:=Az i o0 h1
   exact Live.ren abk g1 g3 (anC i o0 (Gg i o0 h1))
  ·refine ((h.live k o h2).heap fun q hq hor=>?_).mono hext
   exact ajA k o q h1 h2 hq hor.lt
 ·intro id hg
  have hg':(if id < σ.next then η.gh id else η2.gh (id - σ.next+B))=true:=hg
  show (if id < σ.next then η id else η2 (id - σ.next+B))=none∧id < σ.next+(s.next - (s.gn+s.ka+1))
  by_cases hl:id < σ.next
  ·rw [if_pos hl] at hg' ⊢
   exact ⟨(h.gW id hg').1,by omega⟩
  ·rw [if_neg hl] at hg' ⊢
   obtain ⟨a1,a2⟩:=SC _ hg'
   have a2':id - σ.next+(s.gn+s.ka+1) < s.next:=a2
   exact ⟨a1,by omega⟩
 ·intro k o k' o' q q' a1 a2 a3 a4 a5 a6
  rcases obj k o a1 with ⟨i,o0,h1,rfl,rfl⟩ | ⟨h1,h2,_⟩<;>rcases obj k' o' a3 with ⟨j,FI,k1,rfl,rfl⟩ | ⟨k1,k2,_⟩
  ·have b1:=plNew i o0 q h1 a5
   have b2:=plNew j FI q' k1 a6
   exact an9 i o0 j FI q q' (Gg i o0 h1) (aZ.QS (Az i o0 h1).2.2) (Gg j FI k1) (fun e=>a4 (by rw [e])) b1 b2
  ·have b1:=plNew i o0 q h1 a5
   have b2:=Dx k' o' q' k2 a6
   rcases QX i o0 q h1 b1 with c1 | ⟨id,o1,q1,c1,c2,c3,c4,c5⟩
   ·have:=hlt k' o' q' k2 b2
    omega
   ·rw [← c5]
    exact Jy k' o' q' k1 k2 b2 id o1 q1 c1 c2 c3 c4
  ·have b1:=Dx k o q h2 a5
   have b2:=plNew j FI q' k1 a6
   rcases QX j FI q' k1 b2 with c1 | ⟨id,o1,q1,c1,c2,c3,c4,c5⟩
   ·have:=hlt k o q h2 b1
    omega
   ·rw [← c5]
    exact fun e=>Jy k o q h1 h2 b1 id o1 q1 c1 c2 c3 c4 e.symm
  ·exact h.sep k o k' o' q q' h2 a2 k2 a4 (Dx k o q h2 a5) (Dx k' o' q' k2 a6)
 ·intro k o q a1 a2 a3
  rcases obj k o a1 with ⟨i,o0,h1,rfl,rfl⟩ | ⟨h1,h2,_⟩
  ·exact an8 i o0 q (Gg i o0 h1) (aZ.QS (Az i o0 h1).2.2) (plNew i o0 q h1 a3)
  ·have b1:=Dx k o q h2 a3
   show η2.ro q.bl=none
   cases hro:η2.ro q.bl with
   | none=>rfl
   | some x=>
    rcases aef q.bl (by rw [hro];simp) with c1 | c1 | ⟨id,o1,q1,c1,c2,c3,c4,c5⟩
    ·exact absurd (h.iW k o q h2 a2 b1) c1
    ·have:=hlt k o q h2 b1
     have c1':w.heap.size≤q.bl:=c1
     omega
    ·exact absurd c5 (Jy k o q h1 h2 b1 id o1 q1 c1 c2 c3 c4)
 ·intro p hp
  have hp':p∈tabs:=by rw [← oq];exact hp
  obtain ⟨cs,elem,fr,e1,e2⟩:=ao8 p hp'
  exact ⟨cs,elem,fr,e1,e2⟩
 ·intro bl hbl hno
  refine DL.keep bl hbl ?_
  rintro ⟨id,o,q,a1,a2,a3,a4,a5⟩
  exact hno id o q a2 a3 (hlk id a1) a4 a5
 ·intro k o q a1 a2 a3 a4
  rcases obj k o a1 with ⟨i,o0,h1,rfl,rfl⟩ | ⟨h1,h2,_⟩
  ·rcases QX i o0 q h1 (plNew i o0 q h1 a4) with c1 | ⟨id,o1,q1,c1,c2,c3,c4,c5⟩
   ·exact .inl c1
   ·exact .inr ⟨id,o1,q1,c2,c3,hlk id c1,c4,c5⟩
  ·exact .inr ⟨k,o,q,h2,a2,a3,Dx k o q h2 a4,rfl⟩
 ·intro id hh
  by_cases hl:id < σ.next
  ·left
   rcases hh with ⟨q,hq⟩ | hg
   ·have hq':(if id < σ.next then η id else _)=some q:=hq
    rw [if_pos hl] at hq'
    exact .inl ⟨q,hq'⟩
   ·have hg':(if id < σ.next then η.gh id else _)=true:=hg
    rw [if_pos hl] at hg'
    exact .inr hg'
  ·right
   refine ⟨by omega, ?_⟩
   show id < σ.next+(s.next - (s.gn+s.ka+1))
   rcases hh with ⟨q,hq⟩ | hg
   ·have hq':(if id < σ.next then η id else η2 (id - σ.next+B))=some q:=hq
    rw [if_neg hl] at hq'
    have:id - σ.next+(s.gn+s.ka+1) < s.next:=ad4 _ _ hq'
    omega
   ·have hg':(if id < σ.next then η.gh id else η2.gh (id - σ.next+B))=true:=hg
    rw [if_neg hl] at hg'
    have:id - σ.next+(s.gn+s.ka+1) < s.next:=(SC _ hg').2
    omega
 ·intro b hb
  rcases aef b hb with c1 | c1 | ⟨id,o1,q1,c1,c2,c3,c4,c5⟩
  ·exact .inl c1
  ·exact .inr (.inl c1)
  ·exact .inr (.inr ⟨id,o1,q1,c2,c3,hlk id c1,c4,c5⟩)
theorem jC {T:aC} (hlow:uo T.tabs P.globals.size) {f:FuncId} {st:List (Option FuncId)} {sp:bf} (hok:sp.pre.ok=true) (hC:∀gs out,T.I sp.key gs=some out→dQ P T.tabs f st sp.pre sp.posts gs out):@dU T P f (@jh T.tofF P st sp):=by
 letI:=T
 intro Ee σ rr σ' hs η w vs0 hS hv0
 unfold jh at hs
 split at hs
 ·cases hs
 next args htk=>
 obtain ⟨vs,rfl,hv⟩:=MP htk hv0
 split at hs
 next r p fz hfit=>
 split at hs
 ·cases hs
 next ps hps=>
 split at hs
 rotate_left
 ·cases hs
 next hm=>
 split at hs
 rotate_left
 ·cases hs
 next tag htag=>
 split at hs
 rotate_left
 ·cases hs
 next e s hpick=>
 split at hs
 rotate_left
 ·cases hs
 next hpost=>
 split at hs
 rotate_left
 ·cases hs
 next ns hns=>
 cases hs
 rw [Bool.and_eq_true,Bool.and_eq_true,Bool.and_eq_true] at hm
 obtain ⟨hm,hm1,hm2,hm3⟩:=hm
 unfold Jp at hm
 simp only [Bool.and_eq_true,Nat.blt_eq] at hm
 obtain ⟨⟨⟨⟨m1,m2⟩,m3⟩,m4⟩,m5⟩:=hm
 have m1:=Nat.eq_of_beq_eq_true m1
 rw [Bool.and_eq_true,Bool.and_eq_true] at hpost
 obtain ⟨q1,q2,q3⟩:=hpost
 have q2:=Nat.eq_of_beq_eq_true q2
 have q3:=Nat.eq_of_beq_eq_true q3
 unfold fB.ok at hok
 rw [Bool.and_eq_true,Bool.and_eq_true] at hok
 obtain ⟨⟨_,hbs⟩,Aa⟩:=hok
 have hbs:AV.lD sp.pre.next sp.pre.args=true:=by
  have:∀l:List (Nat×AV),xP sp.pre.next l=true→AV.lD sp.pre.next (l.map (·.2))=true:=by
   intro l
   induction l with
   | nil=>intro _;rfl
   | cons a l ih=>intro h;simp only [xP,Bool.and_eq_true] at h;simp only [List.map_cons,AV.lD,Bool.and_eq_true];exact ⟨h.1,ih h.2⟩
  exact this _ hbs
 have ai2:∀id∈fz,σ.lock≤id:=fun id hid=>Nat.le_of_ble_eq_true (List.all_eq_true.1 hm1 id hid)
 have hlk2:∀id∈kW r,σ.lock≤id:=fun id hid=>by
  have:=List.all_eq_true.1 hm2 id hid
  rw [Bool.and_eq_true] at this
  exact Nat.le_of_ble_eq_true this.1
 have ai3:∀id∈kW r,id∉fz:=fun id hid hm=>by
  have:=List.all_eq_true.1 hm2 id hid
  rw [Bool.and_eq_true,List.contains_iff_mem.2 hm] at this
  simp at this
 obtain ⟨bI,f1,f2,f3⟩:=OY hS fz ai2
 obtain ⟨gt,t1,t2⟩:=dZ htag
 simp only [Nd.den] at t2
 split at t2
 rotate_left
 ·cases t2
 next gs hgs=>
 split at t2
 rotate_left
 ·cases t2
 next out hI=>
 obtain ⟨t,r0,rest,e2,s2,rfl,hp2,hex,hrl,hrun⟩:=hC gs out hI
 simp only [List.getElem?_cons_zero,Option.some.injEq] at t2
 subst t2
 have hpe:=Rf t1 sp.posts 0 hpick (Nat.zero_le _) (e2,s2) (by simpa using hp2)
 cases hpe
 obtain ⟨n1,n2⟩:=FN hgs hI _ 1 s.al (r:=r0) (fun k=>by rw [Nat.add_comm,List.getElem?_cons_succ]) hex hns
 have hval:∀j g,rest[j]? = some g→T.val (ns.getD j 0)=some g:=by
  intro j g hj
  have hjl:j < ns.length:=by have:=(List.getElem?_eq_some_iff.1 hj).1;omega
  have hm:ns[j]? = some (ns.getD j 0):=by rw [List.getD_eq_getElem?_getD,List.getElem?_eq_getElem hjl];rfl
  rw [n2 j _ hm];exact hj
 have C:pG T P T.tabs sp.pre.gn sp.pre.next η σ w fz r ps gs bI:=⟨hS,hgs,f1,f3,m1,by omega⟩
 obtain ⟨hR,hown⟩:=QC (ka:=sp.pre.ka) rfl hlow Aa (by omega) m1 C f2.rel.fP (fun id o q b2 b3 b4 b5=>f2.rel.iW id o q (by rw [wH,if_neg b2];exact b3) b4 b5) m3 m5
 let σ1:ah:=kills σ fz
 let η1:Env:=⟨η.pl,bI,η.gh⟩
 let w0:Base:=⟨w,fun b=>∃id o q,id∈kW r∧σ1.get id=some o∧o.own=true∧η1 id=some q∧q.bl=b,fun i=>if sp.pre.gn < i∧i≤sp.pre.gn+sp.pre.ka then (match bM i r with | some (some id)=>η1 id | _=>none) else none⟩
 have hF:@ig (Tg T.tabs gs sp.pre.ka) P w0 bI (nN T.tabs sp.pre.gn sp.pre.next r η bI) (sp.pre.st T.tabs) w:=by
  refine @ig.mk (Tg T.tabs gs sp.pre.ka) P w0 bI _ _ w hR ⟨rfl,rfl,rfl,Nat.le_refl _,fun _ _ _=>rfl⟩ ?_ (fun _ _ h=>h) (fun _ h=>.inl h) ?_
  ·intro i o q a1 a2 a3
   obtain ⟨id,o',b1,b2,b3,b4,b5⟩:=hown i o q a1 a2 a3
   exact .inr ⟨id,o',q,abo b1,by show (kills σ fz).get id=_;rw [wH,if_neg b2];exact b3,b4,b5,rfl⟩
  ·intro i q hi
   have hi':(if sp.pre.gn < i∧i≤sp.pre.gn+sp.pre.ka then (match bM i r with | some (some id)=>η1 id | _=>none) else none)=some q:=hi
   split at hi'
   ·next hr=>
    split at hi'
    ·next id hid=>
     refine ⟨?_,by omega,by show i≤P.globals.size+sp.pre.ka;omega⟩
     rw [Ak hr.1 (by omega) hid];exact hi'
    ·cases hi'
   ·cases hi'
 have hvs:=yF (ka:=sp.pre.ka) C _ _ _ hbs m4 hv
 refine iZ.mono (hrun w0 bI w vs ⟨_,hF,hvs⟩) ?_
 rintro v w' ⟨us,rfl,η2,hF2,hv2⟩
 have aiI:vI r σ1 sp.pre.gn sp.pre.ka=true:=by
  have:∀n i,(∀j,i < j→j≤i+n→∃id,bM j r=some (some id)∧id∉fz)→vI r σ i n=true→vI r σ1 i n=true:=by
   intro n
   induction n with
   | zero=>intro i _ _;rfl
   | succ n ih=>
    intro i hnf h
    simp only [vI,Bool.and_eq_true] at h ⊢
    obtain ⟨id,h1,h2⟩:=hnf (i+1) (by omega) (by omega)
    refine ⟨?_,ih (i+1) (fun j a b=>hnf j (by omega) (by omega)) h.2⟩
    have h3:=h.1
    rw [h1] at h3 ⊢
    simp only at h3 ⊢
    show (match (kills σ fz).get id with | some (.cells _ _ _ _)=>true | _=>false)=true
    rw [wH,if_neg h2];exact h3
  refine this _ _ (fun j a b=>?_) hm3
  obtain ⟨id,c,et,oD,opn,g1,g2⟩:=NI hm3 j a b
  exact ⟨id,g1,ai3 id (abo g1)⟩
 obtain ⟨η',hst,hvr⟩:=St.akV (T:=T) (tabs:=T.tabs) (G:=sp.pre.gn) (ka:=sp.pre.ka) rfl m1 f2.rel m3 (by rw [Dc];exact hlk2) aiI q1 q2 q3 hval hF2 hv2
 have hst':=f2.trans hst
 rw [Qb,Dc] at hst'
 rw [Qb] at hvr
 exact ⟨η',hst',aeF hvr⟩
def abK (P:Program) (tabs:List (Nat×List AV)) (pl:nV) (specs:List (Nat×bf)) (fuel:Nat) (st:List (Option FuncId)) (sp:bf) (ntmps:Nat) (res:List ResultVar) (ac:AC) (ns:List Nd) (ds:List (Nat×Bool)) (lf:Leaf):Bool:=
 match lf with
 | .ret (tn::l)=>match @pO ⟨ns,ds,sp.pre.ka⟩ (xB P tabs ⟨ns,ds,sp.pre.ka⟩ specs) (AY P ⟨ns,ds,sp.pre.ka⟩ pl fuel) ac { t:=su (qA st (AV.lM (fun j=>j) sp.pre.args)) 0 .nil,n:=max (qA st (AV.lM (fun j=>j) sp.pre.args)).length ntmps,gn:=P.globals.size } (sp.pre.xA tabs fun j=>j) with
  | some (e,a',σ')=>(match e with | .exit _=>false | _=>true)&&match uz P σ' a' res with
   | some rs=>match ns[tn]? with
    | some (.ci .i64 t)=>match sp.posts[t.toNat]? with
     | some (_,s)=>decide (0≤t)&&(s.ok&&(Nat.beq s.ka sp.pre.ka&&(match vV sp.pre.np s.al l with
      | some l2=>Nat.beq l2.length s.np&&(match @ahX ⟨ns,ds,sp.pre.ka⟩ P s rs σ' with
       | ⟨r,_,fz⟩=>Ed r s.gn s.ka&&@Jp ⟨ns,ds,sp.pre.ka⟩ P s rs σ' fz r l2)
      | none=>false)))
     | none=>false
    | _=>false
   | none=>false
  | none=>false
 | _=>false
theorem dQ.aX {tabs:List (Nat×List AV)} (hlow:uo tabs P.globals.size) (hm:P.follows .mixedOrders=true) (hn:qX P) {pl:nV} {I:fH} (hpl:uj P tabs I pl) {specs:List (Nat×bf)} {fuel:Nat} {f:FuncId} {fn:Func} {c:Code} {pe:List Nat} {st:List (Option FuncId)} {sp:bf} {n:Nat} (hnp:n=sp.pre.np) {t:Tree}
 (hf:P.funcs[f]? = some fn) (hc:fn.body=some c)
 (Ad:∀k sp',bM k specs=some sp'→sp'.pre.ok=true∧∀b,(lG pe c).kU k b→∀gs out,I sp'.key gs=some out→aU P tabs b sp'.pre sp'.posts gs out)
 (sN:t.chk (abK P tabs pl specs fuel st sp fn.ntmps fn.results.toList (lG pe c)) (List.replicate sp.pre.np .arg) []=true) {gs out:List GV} (hd:(aF.tree n t).den I gs=some out):dQ P tabs f st sp.pre sp.posts gs out:=by
 simp only [aF.den] at hd
 split at hd
 rotate_left
 ·cases hd
 next hlen=>
 subst hnp
 obtain ⟨ns,ds,env,lf,h1,h2,⟨more,h3⟩,h4⟩:=Tree.BZ t sN (vH.start I gs _ hlen) hd
 let T:aC:=Tw tabs I sp.pre.ka h2
 unfold abK at h1
 split at h1
 rotate_left
 ·cases h1
 next tn l=>
 split at h1
 rotate_left
 ·cases h1
 next e a' σ' hrun=>
 rw [Bool.and_eq_true] at h1
 obtain ⟨he,h1⟩:=h1
 split at h1
 rotate_left
 ·cases h1
 next rs hrs=>
 split at h1
 rotate_left
 ·cases h1
 next tt htn=>
 split at h1
 rotate_left
 ·cases h1
 next e' s hpost=>
 rw [Bool.and_eq_true,Bool.and_eq_true,Bool.and_eq_true,decide_eq_true_iff] at h1
 obtain ⟨c1,c2,c3,h1⟩:=h1
 split at h1
 rotate_left
 ·cases h1
 next l2 hl2=>
 rw [Bool.and_eq_true] at h1
 obtain ⟨c4,h1⟩:=h1
 have c3:=Nat.eq_of_beq_eq_true c3
 have c4:=Nat.eq_of_beq_eq_true c4
 split at h1
 next r pp fz hfit=>
 rw [Bool.and_eq_true] at h1
 obtain ⟨c5,c6⟩:=h1
 unfold Jp at c6
 simp only [Bool.and_eq_true,Nat.blt_eq] at c6
 obtain ⟨⟨⟨⟨m1,m2⟩,m3⟩,m4⟩,m5⟩:=c6
 have m1:=Nat.eq_of_beq_eq_true m1
 have h4':valsOf (fun n=>env[n]?) (tn::l)=some out:=h4
 simp only [valsOf] at h4'
 split at h4'
 rotate_left
 ·cases h4'
 next g r0 hg hr0=>
 cases h4'
 obtain ⟨rest,hrest,hex⟩:=Il h3 hlen hl2 hr0
 obtain ⟨g',k1,k2⟩:=h2.node tn _ htn (by simp)
 have hg':env[tn]? = some g:=hg
 rw [hg'] at k1;cases k1
 simp only [Nd.den,Option.some.injEq] at k2
 subst k2
 unfold fB.ok at c2
 rw [Bool.and_eq_true,Bool.and_eq_true] at c2
 obtain ⟨⟨_,hbs⟩,Aa⟩:=c2
 have hbs:AV.lD s.next s.args=true:=by
  have:∀l:List (Nat×AV),xP s.next l=true→AV.lD s.next (l.map (·.2))=true:=by
   intro l
   induction l with
   | nil=>intro _;rfl
   | cons a l ih=>intro h;simp only [xP,Bool.and_eq_true] at h;simp only [List.map_cons,AV.lD,Bool.and_eq_true];exact ⟨h.1,ih h.2⟩
  exact this _ hbs
 refine ⟨tt.toNat,r0,rest,e',s,by rw [Int.toNat_of_nonneg c1],hpost,hex,by rw [← c4];exact TI hrest,fun w0 bY w vs hA=>?_⟩
 have CX:∀Q:dw→aY→ah→Prop,Q e a' σ'→@AT T P c { t:=su (qA st (AV.lM (fun j=>j) sp.pre.args)) 0 .nil,n:=max (qA st (AV.lM (fun j=>j) sp.pre.args)).length fn.ntmps,gn:=P.globals.size } (sp.pre.xA tabs fun j=>j) Q:=by
  intro Q hq
  have:=@NC P T (xB P tabs ⟨ns,ds,sp.pre.ka⟩ specs) (AY P ⟨ns,ds,sp.pre.ka⟩ pl fuel) (Sv (T:=T) hm hn (hpl T rfl rfl) fuel) (lG pe c) (ru pe c 0).2 (fun k b hk a σ e1 a1 σ1 hs Q' hq'=>by
   unfold xB at hs
   split at hs
   ·next sp' hsp=>
    obtain ⟨k1,k2⟩:=Ad k sp' hsp
    exact Qm (T:=T) rfl hlow k1 (fun gs out hI=>k2 b hk gs out hI) hs hq'
   ·cases hs) _ _ _ _ _ hrun Q hq
  rwa [show (lG pe c).erase=c from (ru pe c 0).1] at this
 have henv:∀j g,gs[j]? = some g→T.val ((fun j=>j) j)=some g:=by
  intro j g hj
  show env[j]? = some g
  rw [h3]
  have:=(List.getElem?_eq_some_iff.1 hj).1
  rw [List.getElem?_append_left this];exact hj
 obtain ⟨η,hF0,hv0⟩:=hA
 have hF1:=aaW (T:=T) (f:=fun j=>j) rfl rfl henv hF0
 have hv1:@aj T η (AV.lM (fun j=>j) sp.pre.args) vs:=aj.cZ (S:=Tg tabs gs sp.pre.ka) (T:=T) henv _ _ hv0
 have key:Calls P f ⟨qQ st vs⟩ w fun en w'=>∃v,en=.returned v∧∃us,v=xE us∧DY P tabs s rest w0 bY us w':=by
  letI:=T
  have hv2:aj η (qA st (AV.lM (fun j=>j) sp.pre.args)) (qQ st vs):=JG hv1
  refine calls_of_wp hf hc ?_
  refine CX (fun e2 a2 σ2=>e2=e∧a2=a'∧σ2=σ') ⟨rfl,rfl,rfl⟩ w0 bY η w _ _ hF1 rfl (OD hv2) ?_
  rintro e2 a2 σ2 η1 A' w' ⟨rfl,rfl,rfl⟩ hF hl0 ht
  obtain ⟨us,r1,r2⟩:=FY hF.rel ht (fun | .tmp t=>pure (A'.tmps.getD t undef) | .cell a t=>do loadVar t (← asAddr (A'.tmps.getD a undef))) (fun _=>rfl) (fun _ _=>rfl) _ _ hrs
  obtain ⟨bI,f1,f2,f3⟩:=IB hF hl0 fz
  have C:pG T P tabs s.gn s.next η1 σ2 w' fz r l2 rest bI:=⟨hF.rel,hrest,f1,f3,m1,by omega⟩
  obtain ⟨hR,hown⟩:=QC (ka:=s.ka) (T:=T) rfl hlow Aa (by omega) m1 C f2.rel.fP (fun id o q b2 b3 b4 b5=>f2.rel.iW id o q (by rw [wH,if_neg b2];exact b3) b4 b5) m3 m5
  have hvs:=yF (ka:=s.ka) C _ _ _ hbs m4 r2
  have hA':DY P tabs s rest w0 bY us w':=by
   refine ⟨_,@ig.mk (Tg tabs rest s.ka) P w0 bY _ _ w' hR hF.kept ?_ f2.oC f2.lU ?_,hvs⟩
   ·intro i o q a1 a2 a3
    obtain ⟨id,u,b1,b2,b3,b4,b5⟩:=hown i o q a1 a2 a3
    exact hF.own id u q b3 b4 b5
   ·intro i q hi
    obtain ⟨a1,a2,a3⟩:=hF.mD i q hi
    have a3':i≤P.globals.size+s.ka:=by rw [c3];exact a3
    refine ⟨?_,a2,a3'⟩
    rw [Ak (by omega) (by omega) (NJ c5 i (by omega) (by omega))]
    exact a1
  have hres':(results fn A'.tmps).run P w'=.ok (if h:(⟨us⟩:Array Value).size=1 then (⟨us⟩:Array Value)[0] else .tuple ⟨us⟩) w':=by
   unfold results
   rw [Array.mapM_eq_mapM_toList]
   simp only [Sem.run_bind,Sem.run_map]
   exact congrArg (fun r:Result (List Value)=>(r.andThen fun a w'=>Result.ok a.toArray w').andThen fun a w'=>Sem.run P (pure (if h:a.size=1 then a[0] else Value.tuple a)) w') r1
  have PO:(if h:(⟨us⟩:Array Value).size=1 then (⟨us⟩:Array Value)[0] else .tuple ⟨us⟩)=xE us:=by
   match us with
   | []=>rfl
   | [u]=>rfl
   | u::u'::us=>rfl
  rw [PO] at hres'
  have hpost:A'.defers=[]∧∃v,(results fn A'.tmps).run P w'=.ok v w'∧∃v',Ending.returned v=.returned v'∧∃us,v'=xE us∧DY P tabs s rest w0 bY us w':=
   ⟨ht.none,_,hres',_,rfl,us,rfl,hA'⟩
  cases e2 with
  | normal=>exact hpost
  | ret=>exact hpost
  | exit id=>simp at he
 right
 refine ⟨?_,Calls.mono' key ?_⟩
 ·have hname:=hn f fn c hf hc
  simp only [callFunc,Sem.run_bind,program,Sem.run,Result.andThen_ok,hf]
  simp only [hname,Bool.false_eq_true,if_false,hc,Option.isNone_some,Sem.run_pure]
 ·rintro en w' ⟨v,rfl,h5⟩
  exact ⟨v,rfl,h5⟩
end
end Go.aP
namespace Go.aP
noncomputable section
set_option linter.unusedSectionVars false
set_option linter.unusedVariables false
set_option linter.unusedSimpArgs false
variable {P:Program} {H:Type} {enc:TypeId×Value→H}
inductive bD where
 | bool
 | int (k:IntKind)
 | str
 | list (agg:Bool) (e:List bD)
def fieldTys (P:Program) (r:TypeId→Option (List bD)):Nat→List Field→Option (List bD)
 | _,[]=>some []
 | off,f::fs=>match r f.type with
  | some l=>if Nat.beq f.offset off&&Nat.beq (P.cellsOf f.type) l.length then match fieldTys P r (off+l.length) fs with
   | some m=>some (l++m)
   | none=>none
   else none
  | none=>none
def vP (P:Program):Nat→TypeId→Option (List bD)
 | 0,_=>none
 | n+1,t=>match P.underlying t with
  | some .bool=>some [.bool]
  | some (.int k)=>some [.int k]
  | some .string=>some [.str]
  | some (.slice e)=>match vP P n e,kX P e with
   | some l,some b=>if Nat.beq (P.cellsOf e) l.length&&Nat.ble 1 l.length&&Nat.ble 1 (P.bytesOf e)&&(b || Nat.beq l.length 1) then some [.list b l] else none
   | _,_=>none
  | some (.struct fs)=>match fieldTys P (vP P n) 0 fs.toList with
   | some l=>if Nat.beq (P.cellsOf t) l.length then some l else none
   | none=>none
  | _=>none
mutual
def bD.has:bD→GV→Prop
 | .bool,g=>∃b,g=.b b
 | .int k,g=>∃n,g=.i k n∧k.min≤n∧n≤k.max
 | .str,g=>∃s,g=.s s∧s.length≤reachBytes
 | .list agg e,g=>∃xs,g=.l xs∧xs.length≤reachBytes∧∀x∈xs,bD.fO e x.cells∧x.scalar = !agg
def bD.fO:List bD→List GV→Prop
 | [],gs=>gs=[]
 | t::ts,gs=>∃g r,gs=g::r∧bD.has t g∧bD.fO ts r
end
theorem bD.has.scalar {t:bD} {g:GV} (h:t.has g):g.scalar=true:=by
 cases t<;>simp only [bD.has] at h
 ·obtain ⟨b,rfl⟩:=h;rfl
 ·obtain ⟨b,rfl,_⟩:=h;rfl
 ·obtain ⟨b,rfl,_⟩:=h;rfl
 ·obtain ⟨b,rfl,_⟩:=h;rfl
theorem bD.fO.scalars:∀ {l:List bD} {gs:List GV},bD.fO l gs→gs.all GV.scalar=true∧gs.length=l.length
 | [],gs,h=>by simp only [bD.fO] at h;subst h;exact ⟨rfl,rfl⟩
 | t::l,gs,h=>by
  simp only [bD.fO] at h
  obtain ⟨g,r,rfl,h1,h2⟩:=h
  have:=bD.fO.scalars h2
  simp [h1.scalar,this.1,this.2]
theorem bD.fO.append:∀ {l m:List bD} {gs hs:List GV},bD.fO l gs→bD.fO m hs→bD.fO (l++m) (gs++hs)
 | [],m,gs,hs,h,h'=>by simp only [bD.fO] at h;subst h;simpa using h'
 | t::l,m,gs,hs,h,h'=>by
  simp only [bD.fO] at h
  obtain ⟨g,r,rfl,h1,h2⟩:=h
  simp only [List.cons_append,bD.fO]
  exact ⟨g,r++hs,rfl,h1,bD.fO.append h2 h'⟩
theorem aS.append {ro:Nat→Option Obj}:∀ {l m:List GV} {vs us:List Value},aS ro l vs→aS ro m us→aS ro (l++m) (vs++us)
 | [],m,vs,us,h,h'=>by simp only [aS] at h;subst h;simpa using h'
 | a::l,m,vs,us,h,h'=>by
  simp only [aS] at h
  obtain ⟨x,xs,rfl,h1,h2⟩:=h
  simp only [List.cons_append,aS]
  exact ⟨x,xs++us,rfl,h1,aS.append h2 h'⟩
theorem aeY:∀ {e:TypeId} {ds:List (DataW H)} {d:DataW H},d∈ds→∀z∈d.weights P e,z∈DataW.weightsAll P e ds
 | e,[],d,h,z,_=>by simp at h
 | e,d0::ds,d,h,z,hz=>by
  simp only [DataW.weightsAll,List.mem_append]
  rcases List.mem_cons.1 h with rfl | h
  ·exact .inl hz
  ·exact .inr (aeY h z hz)
def sO (w:World):Nat→Option Obj:=fun b=>w.heap[b]?
theorem cell?_at {w:World} {a:Addr} {v:Value} (h:w.cell? a=some v):a.spot=none∧∃c elem fr,w.heap[a.block]? = some (.cells c elem fr)∧c[a.off]? = some v:=by
 unfold World.cell? at h
 split at h
 ·next c elem fr hb=>
  split at h
  ·cases h
  ·next hs=>exact ⟨by simpa using hs,c,elem,fr,hb,h⟩
 ·cases h
theorem aaQ {w:World} {r:TypeId→Option (List bD)} {fuel:Nat} {cs:List Value}
 (ih:∀t l ch (x:DataW H×List MemPlace),r t=some l→DataW.trod enc P w 0 (fun _=>true) true fuel t ch=some x→(∀z∈x.1.weights P t,z≤reachBytes)→∃gs,aS (sO w) gs ch∧bD.fO l gs) :
 ∀ (fs:List Field) (xs:List (DataW H×List MemPlace)) (off:Nat) (l:List bD),fieldTys P r off fs=some l→xs.length=fs.length→
  (∀ (i:Nat) (f:Field),fs[i]? = some f→DataW.trod enc P w 0 (fun _=>true) true fuel f.type ((cs.drop f.offset).take (P.cellsOf f.type))=xs[i]?)→
  (∀z∈DataW.weightsEach P (fs.map (·.type)) (xs.map (·.1)),z≤reachBytes)→
  ∃gs,aS (sO w) gs ((cs.drop off).take l.length)∧bD.fO l gs
 | [],xs,off,l,h,_,_,_=>by
  simp only [fieldTys,Option.some.injEq] at h;subst h
  exact ⟨[],by simp [aS],by simp [bD.fO]⟩
 | f::fs,[],off,l,_,hl,_,_=>by simp at hl
 | f::fs,x::xs,off,l,h,hl,hx,hw=>by
  simp only [fieldTys] at h
  split at h
  ·next l1 h1=>
   split at h
   ·next hc=>
    rw [Bool.and_eq_true] at hc
    have e1:=Nat.eq_of_beq_eq_true hc.1
    have e2:=Nat.eq_of_beq_eq_true hc.2
    split at h
    ·next m hm=>
     cases h
     have h0:=hx 0 f rfl
     simp only [List.getElem?_cons_zero] at h0
     obtain ⟨gs,g1,g2⟩:=ih f.type l1 _ x h1 h0 (fun z hz=>hw z (by simp only [List.map_cons,DataW.weightsEach,List.mem_append];exact .inl hz))
     obtain ⟨hs,k1,k2⟩:=aaQ ih fs xs (off+l1.length) m hm (by simpa using hl) (fun i f' hf=>by have:=hx (i+1) f' (by simpa using hf);simpa using this)
      (fun z hz=>hw z (by simp only [List.map_cons,DataW.weightsEach,List.mem_append];exact .inr hz))
     refine ⟨gs++hs, ?_,g2.append k2⟩
     rw [e1,e2] at g1
     have:(cs.drop off).take (l1++m).length=(cs.drop off).take l1.length++(cs.drop (off+l1.length)).take m.length:=by
      rw [List.length_append,List.take_add,List.drop_drop]
     rw [this]
     exact aS.append g1 k1
    ·cases h
   ·cases h
  ·cases h
theorem aaD {c:Nat} {ch:Nat→List Value} {arr:Array Value} {off:Nat}:∀ (n:Nat) (_:∀i,i < n→(ch i).length=c∧∀j,j < c→arr[off+i * c+j]? = (ch i)[j]?),
 ((List.range n).flatMap ch).length=n * c∧∀ (k:Nat) x,((List.range n).flatMap ch)[k]? = some x→arr[off+k]? = some x
 | 0,_=>by simp
 | n+1,h=>by
  obtain ⟨h1,h2⟩:=aaD n fun i hi=>h i (by omega)
  obtain ⟨e1,e2⟩:=h n (by omega)
  rw [List.range_succ,List.flatMap_append]
  simp only [List.flatMap_cons,List.flatMap_nil,List.append_nil]
  refine ⟨by rw [List.length_append,h1,e1,Nat.add_mul,Nat.one_mul],fun k x hk=>?_⟩
  by_cases hlt:k < n * c
  ·rw [List.getElem?_append_left (by omega)] at hk
   exact h2 k x hk
  ·rw [List.getElem?_append_right (by omega),h1] at hk
   have hj:=(List.getElem?_eq_some_iff.1 hk).1
   have:=e2 (k - n * c) (by omega)
   rw [hk] at this
   rw [← this];congr 1;omega
theorem aS.ofFn {ro:Nat→Option Obj} {G:Nat→GV} {Y:Nat→Value}:∀ (l:List Nat),(∀i∈l,GR ro (G i) (Y i))→aS ro (l.map G) (l.map Y)
 | [],_=>by simp [aS]
 | i::l,h=>by simp only [List.map_cons,aS];exact ⟨_,_,rfl,h i (by simp),aS.ofFn l fun j hj=>h j (by simp [hj])⟩
theorem TA {w:World}:∀ (n m:Nat) (t:TypeId) (cs:List Value) (x:DataW H×List MemPlace) (l:List bD),vP P n t=some l→DataW.trod enc P w 0 (fun _=>true) true m t cs=some x→
 (∀z∈x.1.weights P t,z≤reachBytes)→∃gs,aS (sO w) gs cs∧bD.fO l gs
 | 0,m,t,cs,x,l,hc,h,hw=>by simp [vP] at hc
 | n+1,m,t,cs,x,l,hc,h,hw=>by
  simp only [vP] at hc
  split at hc
  ·next hu=>
   cases hc
   obtain ⟨b,rfl,rfl⟩:=DataW.trod_bool hu h
   exact ⟨[.b b],by simp [aS,GR],by simp only [bD.fO];exact ⟨_,_,rfl,by simp [bD.has],rfl⟩⟩
  ·next k hu=>
   cases hc
   obtain ⟨b,rfl,rfl,hwf⟩:=DataW.trod_int hu h
   have hwf':k.min≤b∧b≤k.max:=by simpa [Lit.wf] using hwf
   exact ⟨[.i k b],by simp [aS,GR],by simp only [bD.fO];exact ⟨_,_,rfl,by simp only [bD.has];exact ⟨b,rfl,hwf'⟩,rfl⟩⟩
  ·next hu=>
   cases hc
   obtain ⟨s,rfl,rfl,hs⟩:=DataW.trod_string hu h
   refine ⟨[.s s.data.toList],by simp only [aS,GR];exact ⟨_,_,rfl,by cases s with | mk a=>cases a;rfl,rfl⟩,by simp only [bD.fO];exact ⟨_,_,rfl,by simp only [bD.has];exact ⟨_,rfl,hw _ (by simp [DataW.weights])⟩,rfl⟩⟩
  ·next e hu=>
   split at hc
   ·next le agg he hag=>
    split at hc
    ·next hcond=>
     cases hc
     simp only [Bool.and_eq_true,Bool.or_eq_true] at hcond
     obtain ⟨⟨⟨c1,c2⟩,c3⟩,c4⟩:=hcond
     have c1:=Nat.eq_of_beq_eq_true c1
     have c2:=Nat.le_of_ble_eq_true c2
     have c3:=Nat.le_of_ble_eq_true c3
     rcases Deep.open_slice hu h with ⟨rfl,rfl⟩ | ⟨a,len,cap0,cap,n',D,Pl,rfl,hb,hl,hm,rfl,rfl,hi⟩
     ·exact ⟨[.l []],by simp [aS,GR],by simp only [bD.fO];exact ⟨_,_,rfl,by simp only [bD.has];exact ⟨[],rfl,by simp,by simp⟩,rfl⟩⟩
     have ai1:cap * P.bytesOf e≤reachBytes:=by
      have:=hw (cap * P.bytesOf e) (by simp only [DataW.weights,hu,List.mem_cons,List.length_map,List.length_range];left;rw [Nat.add_sub_cancel' hl])
      exact this
     have hcapR:cap≤reachBytes:=Nat.le_trans (Nat.le_mul_of_pos_right _ c3) ai1
     have one:∀i,i < len→∃ch gs,(ch.length=P.cellsOf e∧∀j,j < P.cellsOf e→w.cell? (((a.add (i * P.cellsOf e))).add j)=ch[j]?)∧aS (sO w) gs ch∧bD.fO le gs:=by
      intro i hil
      obtain ⟨ch,h1,h2⟩:=hi i (by omega)
      obtain ⟨_,h3,h4⟩:=World.cells?_some h1
      obtain ⟨gs,g1,g2⟩:=TA n n' e ch _ le he h2 (fun z hz=>hw z (by
       simp only [DataW.weights,hu,List.mem_cons,List.mem_append]
       right;left
       exact aeY (by simp only [List.mem_map,List.mem_range];exact ⟨i,hil,rfl⟩) z hz))
      exact ⟨ch,gs,⟨h3,h4⟩,g1,g2⟩
     by_cases hz:cap=0
     ·have hlz:len=0:=by omega
      subst hz;subst hlz
      refine ⟨[.l []],by simp only [aS,GR];exact ⟨_,_,rfl,.inl ⟨trivial,_,rfl⟩,rfl⟩,by simp only [bD.fO];exact ⟨_,_,rfl,by simp only [bD.has];exact ⟨[],rfl,by simp,by simp⟩,rfl⟩⟩
     have ha:a.spot=none∧∃arr elem fr,w.heap[a.block]? = some (.cells arr elem fr):=by
      obtain ⟨ch,h1,h2⟩:=hi 0 (by omega)
      obtain ⟨_,h3,h4⟩:=World.cells?_some h1
      have h5:=h4 0 (by omega)
      have hch:ch[0]? = some ch[0]:=List.getElem?_eq_getElem (by omega)
      rw [hch] at h5
      have h6:=cell?_at h5
      simp only [Nat.zero_mul,Addr.add,if_true] at h6
      exact ⟨h6.1,h6.2.choose,h6.2.choose_spec.choose,h6.2.choose_spec.choose_spec.choose,h6.2.choose_spec.choose_spec.choose_spec.1⟩
     obtain ⟨hsp,arr,elem,fr,hblk⟩:=ha
     obtain ⟨bl,off,sp⟩:=a
     simp only at hsp hblk
     subst hsp
     have addr:∀i j:Nat,((Addr.mk bl off none).add i).add j=⟨bl,off+i+j,none⟩:=by
      intro i j
      unfold Addr.add
      split<;>split<;>simp_all
     have hex:∃ (ch:Nat→List Value) (G:Nat→List GV),∀i,i < len→(ch i).length=P.cellsOf e∧(∀j,j < P.cellsOf e→arr[off+i * P.cellsOf e+j]? = (ch i)[j]?)∧aS (sO w) (G i) (ch i)∧bD.fO le (G i):=by
      refine ⟨fun i=>if hil:i < len then (one i hil).choose else [],fun i=>if hil:i < len then (one i hil).choose_spec.choose else [],fun i hil=>?_⟩
      simp only [dif_pos hil]
      obtain ⟨⟨h1,h2⟩,h3,h4⟩:=(one i hil).choose_spec.choose_spec
      refine ⟨h1,fun j hj=>?_,h3,h4⟩
      have:=h2 j hj
      rw [addr] at this
      rw [← this]
      have hch:=List.getElem?_eq_getElem (l:=(one i hil).choose) (i:=j) (by omega)
      rw [hch] at this
      have h6:=cell?_at this
      simp only at h6
      obtain ⟨_,c',e',f',h7,h8⟩:=h6
      rw [hblk] at h7;cases h7
      rw [this,h8]
     obtain ⟨ch,G,hG⟩:=hex
     obtain ⟨q1,q2⟩:=aaD (c:=P.cellsOf e) (ch:=ch) (arr:=arr) (off:=off) len fun i hil=>⟨(hG i hil).1,fun j hj=>(hG i hil).2.1 j hj⟩
     have hgl:∀i,i < len→(G i).length=le.length:=fun i hil=>(hG i hil).2.2.2.scalars.2
     let X:Nat→GV:=fun i=>if agg then .g (G i) else (G i).headD (.l [])
     let Y:Nat→Value:=fun i=>if agg then .agg ⟨ch i⟩ else (ch i).headD undef
     have hX:∀i,i < len→(X i).cells=G i∧(X i).scalar = !agg∧GR (sO w) (X i) (Y i)∧(Y i).cells.toList=ch i:=by
      intro i hil
      obtain ⟨p1,p2,p3,p4⟩:=hG i hil
      cases agg with
      | true=>simp only [X,Y,if_true];exact ⟨rfl,rfl,by simp only [GR];exact ⟨_,rfl,p3⟩,rfl⟩
      | false=>
       have hle1:le.length=1:=by simpa using c4
       obtain ⟨g,hg⟩:∃g,G i=[g]:=List.length_eq_one_iff.1 (by rw [hgl i hil,hle1])
       obtain ⟨y,hy⟩:∃y,ch i=[y]:=List.length_eq_one_iff.1 (by rw [p1,c1,hle1])
       have hsc:g.scalar=true:=by have:=p4.scalars.1;rw [hg] at this;simpa using this
       have CZ:GR (sO w) g y:=by rw [hg,hy] at p3;simp only [aS] at p3;obtain ⟨u,us,e1,e2,_⟩:=p3;cases e1;exact e2
       simp only [X,Y,hg,hy,List.headD_cons,Bool.false_eq_true,if_false,Bool.not_false]
       refine ⟨by cases g<;>first | rfl | (simp [GV.scalar] at hsc),hsc,CZ, ?_⟩
       cases g<;>simp only [GR] at CZ
       ·subst CZ;rfl
       ·subst CZ;rfl
       ·subst CZ;rfl
       ·rcases CZ with ⟨_,_,rfl⟩ | ⟨_,_,_,_,_,rfl,_⟩<;>rfl
       ·simp [GV.scalar] at hsc
     refine ⟨[.l ((List.range len).map X)], ?_, ?_⟩
     ·simp only [aS]
      refine ⟨_,_,rfl, ?_,rfl⟩
      simp only [GR]
      right
      have abg:cu ((List.range len).map Y)=(List.range len).flatMap ch:=by
       unfold cu
       rw [List.flatMap_map]
       rw [List.flatMap_def,List.flatMap_def,List.map_congr_left fun i hir=>(hX i (List.mem_range.1 hir)).2.2.2]
      refine ⟨bl,off,cap,(List.range len).map Y,P.cellsOf e,by simp,by simpa using hl,aS.ofFn _ fun i hir=>(hX i (List.mem_range.1 hir)).2.2.1, ?_,fun hne=>⟨arr,elem,fr,hblk, ?_, ?_⟩⟩
      ·intro y hy
       obtain ⟨i,hir,rfl⟩:=List.mem_map.1 hy
       have:=(hX i (List.mem_range.1 hir)).2.2.2
       rw [← Array.length_toList,this]
       exact (hG i (List.mem_range.1 hir)).1
      ·rw [abg,q1]
       have hlp:0 < len:=by
        rcases Nat.eq_zero_or_pos len with h0 | h0
        ·subst h0;simp at hne
        ·exact h0
       have hcp:0 < P.cellsOf e:=by omega
       have hk:len * P.cellsOf e - 1 < ((List.range len).flatMap ch).length:=by
        rw [q1];have:0 < len * P.cellsOf e:=Nat.mul_pos hlp hcp;omega
       have:=q2 _ _ (List.getElem?_eq_getElem hk)
       have:=(Array.getElem?_eq_some_iff.1 this).1
       have:0 < len * P.cellsOf e:=Nat.mul_pos hlp hcp
       omega
      ·rw [abg];exact q2
     ·simp only [bD.fO]
      refine ⟨_,_,rfl, ?_,rfl⟩
      simp only [bD.has]
      refine ⟨_,rfl,by simp;omega,fun y hy=>?_⟩
      obtain ⟨i,hir,rfl⟩:=List.mem_map.1 hy
      obtain ⟨k1,k2,_⟩:=hX i (List.mem_range.1 hir)
      rw [k1]
      exact ⟨(hG i (List.mem_range.1 hir)).2.2.2,k2⟩
    ·cases hc
   ·cases hc
  ·next fs hu=>
   split at hc
   ·next l' hf=>
    split at hc
    ·next hcl=>
     cases hc
     have hcl:=Nat.eq_of_beq_eq_true hcl
     obtain ⟨xs,n',rfl,rfl,hlen,hxl,hx⟩:=DataW.trod_struct hu h
     obtain ⟨gs,g1,g2⟩:=aaQ (enc:=enc) (P:=P) (w:=w) (fuel:=n') (cs:=cs) (r:=vP P n) (fun t l ch x h1 h2 h3=>TA n n' t ch x l h1 h2 h3) fs.toList xs 0 l hf (by simpa using hxl)
      (fun i f hi=>hx i f (by simpa using hi)) (fun z hz=>hw z (by simp only [DataW.weights,hu];simpa using hz))
     refine ⟨gs, ?_,g2⟩
     rw [List.drop_zero,List.take_of_length_le (by omega)] at g1
     exact g1
    ·cases hc
   ·cases hc
  ·cases hc
def argTys (P:Program) (n:Nat):List TypeId→Option (List (Bool×List bD))
 | []=>some []
 | t::ts=>match vP P n t,kX P t,argTys P n ts with
  | some l,some b,some r=>if b || Nat.beq l.length 1 then some ((b,l)::r) else none
  | _,_,_=>none
def hasArgs:List (Bool×List bD)→List GV→Prop
 | [],gs=>gs=[]
 | (b,l)::r,gs=>∃g gs',gs=g::gs'∧bD.fO l g.cells∧g.scalar = !b∧hasArgs r gs'
theorem akX {w:World} {r:Reach} {b0:Nat} {t:TypeId} {v:Value} (h:Value.okWide P w r b0 t v):(kX P t=some true→∃cs,v=.agg cs)∧
 (kX P t=some false→v.cells = #[v]∨∀n,vP P n t=none):=by
 unfold Value.okWide at h
 unfold kX
 constructor
 ·intro ha
  split at ha
  ·next hu=>rw [hu] at h;simp only at h;obtain ⟨cs,rfl,_⟩:=h;exact ⟨cs,rfl⟩
  ·next hu=>rw [hu] at h;simp only at h;obtain ⟨cs,rfl,_⟩:=h;exact ⟨cs,rfl⟩
  ·cases ha
  ·cases ha
 ·intro ha
  split at ha
  ·cases ha
  ·cases ha
  ·next u h1 h2 hu=>
   rw [hu] at h
   cases u<;>first
    | (exact absurd rfl (h1 _))
    | (exact absurd rfl (h2 _ _))
    | (right;intro n;cases n<;>simp [vP,hu];done)
    | (left;simp only [Cell.okWide,hu,Cell.ok] at h;cases v<;>first | rfl | (simp only at h;done) | (cases h;done))
  ·cases ha
theorem aeD {w:World} {n:Nat}:∀ {ts:List TypeId} {vs:List Value} {ds:List (DataW H)} {ps:List MemPlace} {L:List (Bool×List bD)},argTys P n ts=some L→DataW.TrodAll enc P w 0 (fun _=>true) true ts vs ds ps→
 (∀z∈DataW.weightsEach P ts ds,z≤reachBytes)→(∀ (j:Nat) t v,ts[j]? = some t→vs[j]? = some v→∃b0,Value.okWide P w .any b0 t v)→∃gs,aS (sO w) gs vs∧hasArgs L gs
 | [],[],[],ps,L,hL,h,hw,hok=>by simp only [argTys,Option.some.injEq] at hL;subst hL;exact ⟨[],by simp [aS],by simp [hasArgs]⟩
 | t::ts,v::vs,d::ds,ps,L,hL,h,hw,hok=>by
  obtain ⟨p,q,⟨m,h1⟩,h2,rfl⟩:=h
  simp only [argTys] at hL
  split at hL
  ·next l b r hc hag hr=>
   split at hL
   ·next hb=>
    cases hL
    obtain ⟨gs,g1,g2⟩:=TA n m t _ _ l hc h1 (fun z hz=>hw z (by simp only [DataW.weightsEach,List.mem_append];exact .inl hz))
    obtain ⟨hs,k1,k2⟩:=aeD hr h2 (fun z hz=>hw z (by simp only [DataW.weightsEach,List.mem_append];exact .inr hz)) (fun j t' v' h1 h2=>hok (j+1) t' v' (by simpa using h1) (by simpa using h2))
    obtain ⟨b0,hv⟩:=hok 0 t v rfl rfl
    obtain ⟨o1,o2⟩:=akX hv
    cases b with
    | true=>
     obtain ⟨cs,rfl⟩:=o1 hag
     refine ⟨.g gs::hs,by simp only [aS];exact ⟨_,_,rfl,by simp only [GR];exact ⟨cs.toList,rfl,g1⟩,k1⟩, ?_⟩
     simp only [hasArgs]
     exact ⟨_,_,rfl,g2,rfl,k2⟩
    | false=>
     have hl1:l.length=1:=by simpa using hb
     rcases o2 hag with o2 | o2
     rotate_left
     ·rw [o2 n] at hc;cases hc
     rw [o2] at g1
     obtain ⟨g,rfl⟩:∃g,gs=[g]:=List.length_eq_one_iff.1 (by rw [g2.scalars.2,hl1])
     have hsc:g.scalar=true:=by have:=g2.scalars.1;simpa using this
     simp only [aS] at g1
     obtain ⟨u,us,e1,e2,_⟩:=g1
     cases e1
     refine ⟨g::hs,by simp only [aS];exact ⟨_,_,rfl,e2,k1⟩, ?_⟩
     simp only [hasArgs]
     exact ⟨_,_,rfl,by cases g<;>first | exact g2 | (simp [GV.scalar] at hsc),hsc,k2⟩
   ·cases hL
  ·cases hL
 | [],_::_,_,_,_,_,h,_,_=>by simp [DataW.TrodAll] at h
 | [],[],_::_,_,_,_,h,_,_=>by simp [DataW.TrodAll] at h
 | _::_,[],_,_,_,_,h,_,_=>by simp [DataW.TrodAll] at h
 | _::_,_::_,[],_,_,_,h,_,_=>by simp [DataW.TrodAll] at h
theorem Kept.below {W W':World} (h:Kept W W'):Go.RowKit.Below W.heap.size W W':=⟨h.os,h.tape,h.output,h.size,h.keep⟩
theorem aeE {W W':World} (hl:laidOutB P=true) (hk:Kept W W') {sp:Nat→Bool}:∀ {ts:List TypeId} {vs:List Value} {ds:List (DataW H)} {ps:List MemPlace},DataW.TrodAll enc P W 0 (fun _=>true) true ts vs ds ps→
 (∀t∈ts,P.readableRec t=true∧t < P.types.size)→(∀x∈ps,x.block < W.heap.size)→(∀x∈ps,sp x.block=true)→DataW.TrodAll enc P W' 0 sp true ts vs ds ps
 | [],[],[],ps,h,_,_,_=>h
 | t::ts,v::vs,d::ds,ps,h,hr,hlt,hsp=>by
  obtain ⟨p,q,h1,h2,rfl⟩:=h
  obtain ⟨r1,r2⟩:=hr t (by simp)
  exact ⟨p,q,WideElems.Trod_stays hl r1 r2 h1 (fun x hx=>hk.below.same (hlt x (List.mem_append_left _ hx))) (fun x hx=>hsp x (List.mem_append_left _ hx)),
   aeE hl hk h2 (fun t' ht=>hr t' (by simp [ht])) (fun x hx=>hlt x (List.mem_append_right _ hx)) (fun x hx=>hsp x (List.mem_append_right _ hx)),rfl⟩
 | [],_::_,_,_,h,_,_,_=>by simp [DataW.TrodAll] at h
 | [],[],_::_,_,h,_,_,_=>by simp [DataW.TrodAll] at h
 | _::_,[],_,_,h,_,_,_=>by simp [DataW.TrodAll] at h
 | _::_,_::_,[],_,h,_,_,_=>by simp [DataW.TrodAll] at h
end
end Go.aP
namespace Go.aP
open Go.ChangeShapes Go.WideShapes Go.ChangeAt Go.RowKit
noncomputable section
set_option linter.unusedSectionVars false
set_option linter.unusedVariables false
variable {P:Program}
theorem afT {T0:aC} {call:Caller} {f:FuncId} {σ0 σ':ah} (hcall:@l9 T0 P call) (h0:@rX T0 σ0 P.globals.size) (hrun:call f [] σ0=some (.b true,σ')) {ro:Nat→Option Obj} {w:World} (hro:qY T0.tabs ro w) :
 iZ P f ⟨[]⟩ w fun v w'=>v=.bool true∧Kept w w':=by
 letI:=T0
 have hS:SR P (oM P.globals.size σ0 ro) σ0 w:=BA h0.1 (fun id o ho=>by
  obtain ⟨c,rfl,hm,hle⟩:=h0.2 id o ho
  obtain ⟨cs,elem,fr,h1,h2,h3⟩:=hro.tab _ hm
  exact ⟨hle,c,rfl,⟨cs,elem,fr,hro.at' _ _ h1,h2,h3⟩⟩) hro.at' (fun p hp=>hro.tab p hp)
 refine iZ.mono (hcall f [] σ0 _ _ hrun _ w [] hS rfl) ?_
 rintro v w' ⟨η',hst,hr⟩
 simp only [VR] at hr
 exact ⟨hr,hst.kept h0.own⟩
theorem ak9 {T:aC} {f:FuncId} (h:∀ro w,qY T.tabs ro w→iZ P f ⟨[]⟩ w fun v w'=>v=.bool true∧Kept w w'):@dU T P f AA:=by
 letI:=T
 intro args σ r σ1 hs η w vs hS hv
 unfold AA at hs
 split at hs
 ·cases hs
  simp only [aj] at hv
  subst hv
  refine iZ.mono (h η.ro w hS.JL) ?_
  rintro v w' ⟨rfl,hk⟩
  exact ⟨η,St.acI hS hk,by simp only [VR]⟩
 ·cases hs
theorem ajI {H:Type} {enc:TypeId×Value→H} {tabs:List (Nat×List AV)} {f:FuncId} {fn:Func} {c:Code} {s:ChangeSpec} {n:Nat} {L:List (Bool×List bD)} {tb:TypeId} {again:Bool} (hn:qX P) (hf:P.funcs[f]? = some fn) (hc:fn.body=some c)
 (hL:argTys P n fn.params.toList=some L) (hlaid:laidOutB P=true) (hread:∀t∈fn.params.toList,P.readableRec t=true∧t < P.types.size) (hr:fn.resultTypes = #[tb]) (htb:P.underlying tb=some .bool)
 (hvars:s.vars=[]) (hs:∀ds:List (DataW H),ds.length=fn.params.size→s.fn H ds = { results:=[.lit (.bool true)],args:=ds })
 (ai0:∀gs,hasArgs L gs→aI P tabs f [] [.sc] gs [.b true]) {W:World} {base:Nat} {args:Array Value} {ds gs:List (DataW H)} {before:List MemPlace}
 (hval:∀ (j:Nat) t v,fn.params[j]? = some t→args[j]? = some v→Value.okWide P W .any base t v)
 (hW:DataW.Whole enc P fn.params.toList s.vars false W args.toList ds gs before) {vt:List TypeId} (hvt:vt=[]) (hsz0:(DataW.weightsEach P (fn.params.toList++vt) (ds++gs)).all (·≤reachBytes)=true) (hro:qY tabs (sO W) W) :
 Calls P f args W fun e W'=>∃v,e=.returned v∧s.post enc P fn false true false again W args v W':=by
 letI:aC:=Tg [] [] 0
 have hW':=hW
 have hlt:=fun p hp=>hW.lt p hp
 obtain ⟨p,q,hA,hV,rfl,hfz,hnd⟩:=hW
 have hV':=hV
 rw [hvars] at hV
 obtain ⟨rfl,rfl⟩:=trodVars_none hV
 have hsz:∀z∈DataW.weightsEach P fn.params.toList ds,z≤reachBytes:=by
  subst hvt
  rw [List.append_nil,List.append_nil,List.all_eq_true] at hsz0
  exact fun z hz=>by simpa using hsz0 z hz
 obtain ⟨gl,g1,g2⟩:=aeD hL hA hsz (fun j t v h1 h2=>⟨base,hval j t v (by simpa using h1) (by simpa using h2)⟩)
 have hcall:=(ai0 gl g2).call (sO W) W args.toList hro g1
 have abd:=iZ.calls hn hf hc hcall
 have hput:(⟨qQ [] args.toList⟩:Array Value)=args:=by simp [qQ]
 rw [hput] at abd
 have hdl:ds.length=fn.params.size:=by
  have:∀ {ts:List TypeId} {vs:List Value} {ds:List (DataW H)} {ps:List MemPlace},DataW.TrodAll enc P W 0 (fun _=>true) true ts vs ds ps→ds.length=ts.length:=by
   intro ts
   induction ts with
   | nil=>intro vs ds ps h;cases vs<;>cases ds<;>simp [DataW.TrodAll] at h ⊢
   | cons t ts ih=>intro vs ds ps h;cases vs<;>cases ds<;>simp [DataW.TrodAll] at h ⊢;obtain ⟨_,_,_,h2,_⟩:=h;exact ih h2
  simpa using this hA
 refine Calls.mono' abd ?_
 rintro e W' ⟨v,rfl,ro',hstep,us,rfl,hus⟩
 simp only [aS] at hus
 obtain ⟨u,us',rfl,hu,rfl⟩:=hus
 simp only [GR] at hu
 subst hu
 have hfn:s.fn H (ds++[]) = { results:=[.lit (.bool true)],args:=ds }:=by rw [List.append_nil];exact hs ds hdl
 simp only [List.append_nil] at hW' hlt
 refine ⟨_,rfl,alG (pa:=p) (pv:=[]) hW' (fun _ _ _=>?_) (fun sp hsp=>?_) (fun _ _=>?_) (by simp) hstep.kept (ok_one (by rw [hr]) rfl (okWide_bool_mk htb _))⟩
 ·rw [hfn,hr];exact trodAll_cons_mk (shut_bool htb _) trodAll_mk0
 ·rw [hfn];exact aeE hlaid hstep.kept hA hread hlt hsp
 ·rw [hfn,hvars];rfl
def AC.kY:AC→Nat→Option Code
 | .plain _,_=>none
 | .seq x y,k=>match x.kY k with
  | some b=>some b
  | none=>y.kY k
 | .cond _ y z,k=>match y.kY k with
  | some b=>some b
  | none=>z.kY k
 | .block _ x,k=>x.kY k
 | .loop k' b,k=>if Nat.beq k' k then some b else none
 | .peel x k' b,k=>if Nat.beq k' k then some b else x.kY k
theorem AC.yE {k:Nat} {b:Code}:∀ {x:AC},x.kY k=some b→x.kU k b
 | .plain _,h=>by simp [AC.kY] at h
 | .seq x y,h=>by
  simp only [AC.kY] at h
  split at h
  ·next hx=>cases h;exact .inl (AC.yE hx)
  ·exact .inr (AC.yE h)
 | .cond _ x y,h=>by
  simp only [AC.kY] at h
  split at h
  ·next hx=>cases h;exact .inl (AC.yE hx)
  ·exact .inr (AC.yE h)
 | .block _ x,h=>AC.yE (x:=x) h
 | .loop k' b',h=>by
  simp only [AC.kY] at h
  split at h
  ·next e=>cases h;exact ⟨Nat.eq_of_beq_eq_true e,rfl⟩
  ·cases h
 | .peel x k' b',h=>by
  simp only [AC.kY] at h
  split at h
  ·next e=>cases h;exact .inl ⟨Nat.eq_of_beq_eq_true e,rfl⟩
  ·exact .inr (AC.yE h)
theorem zC (ps:List Nat):∀ (c:Code) (n:Nat),n≤(iU ps c n).2∧∀k b,(iU ps c n).1.kU k b→(n≤k∧k < (iU ps c n).2)∧(iU ps c n).1.kY k=some b
 | .seq x y,n=>by
  obtain ⟨h1,h2⟩:=zC ps x n
  obtain ⟨h3,h4⟩:=zC ps y (iU ps x n).2
  simp only [iU,AC.kU,AC.kY]
  refine ⟨by omega,fun k b h=>?_⟩
  rcases h with h | h
  ·obtain ⟨r,e⟩:=h2 k b h;exact ⟨by omega,by rw [e]⟩
  ·obtain ⟨r,e⟩:=h4 k b h
   refine ⟨by omega, ?_⟩
   cases hx:(iU ps x n).1.kY k with
   | none=>exact e
   | some b'=>have:=(h2 k b' (AC.yE hx)).1;omega
 | .cond _ x y,n=>by
  obtain ⟨h1,h2⟩:=zC ps x n
  obtain ⟨h3,h4⟩:=zC ps y (iU ps x n).2
  simp only [iU,AC.kU,AC.kY]
  refine ⟨by omega,fun k b h=>?_⟩
  rcases h with h | h
  ·obtain ⟨r,e⟩:=h2 k b h;exact ⟨by omega,by rw [e]⟩
  ·obtain ⟨r,e⟩:=h4 k b h
   refine ⟨by omega, ?_⟩
   cases hx:(iU ps x n).1.kY k with
   | none=>exact e
   | some b'=>have:=(h2 k b' (AC.yE hx)).1;omega
 | .block id x,n=>zC ps x n
 | .loop x,n=>by
  obtain ⟨h1,h2⟩:=zC ps x (n+1)
  simp only [iU]
  split
  ·exact ⟨by simp,fun k b h=>by simp [AC.kU] at h⟩
  ·split
   ·simp only [AC.kU,AC.kY]
    refine ⟨by omega,fun k b h=>?_⟩
    rcases h with ⟨rfl,rfl⟩ | h
    ·exact ⟨by omega,by simp⟩
    ·obtain ⟨r,e⟩:=h2 k b h
     refine ⟨by omega, ?_⟩
     have:Nat.beq n k=false:=by cases hb:Nat.beq n k with | false=>rfl | true=>have:=Nat.eq_of_beq_eq_true hb;omega
     rw [this];exact e
   ·simp only [AC.kU,AC.kY]
    refine ⟨by omega,fun k b h=>?_⟩
    obtain ⟨rfl,rfl⟩:=h
    exact ⟨by omega,by simp⟩
 | .skip,n | .region _ _ _,n | .rangeFunc _ _ _ _,n | .exit _,n | .scope _,n | .label _,n | .goto _,n | .ret,n | .refuse _,n=>⟨Nat.le_refl _,fun k b h=>by simp [iU,AC.kU] at h⟩
theorem ajY {ps:List Nat} {c:Code} {k:Nat} {b:Code} (h:(lG ps c).kU k b):(lG ps c).kY k=some b:=((zC ps c 0).2 k b h).2
def dA:Code→List (List Nat×Nat)→Code
 | c,[]=>c
 | c,(ps,k)::r=>dA (((lG ps c).kY k).getD .skip) r
theorem afv {ps:List Nat} {c:Code} {k:Nat} {b:Code} (h:(lG ps c).kU k b):dA c [(ps,k)]=b:=by
 simp only [dA,ajY h,Option.getD_some]
abbrev aK:=List GV→List GV→Prop
def Gx (Cs:List aK) (k:Nat) (gs out:List GV):Prop:=match Cs[k]? with
 | some c=>c gs out
 | none=>False
def rY (Ds:List aF):fG:=fun k=>Ds[k]?
def aN (C:Nat→List GV→List GV→Prop) (d:aF) (c:aK):Prop:=∀I:fH,(∀k gs out,I k gs=some out→C k gs out)→∀gs out,d.den I gs=some out→c gs out
def Bv (C:Nat→List GV→List GV→Prop):List aF→List aK→Prop
 | [],[]=>True
 | d::ds,c::cs=>aN C d c∧Bv C ds cs
 | _,_=>False
theorem Bv.at {C:Nat→List GV→List GV→Prop}:∀ {ds:List aF} {cs:List aK},Bv C ds cs→∀ {k:Nat} {d:aF},ds[k]? = some d→∃c,cs[k]? = some c∧aN C d c
 | [],[],_,k,d,hd=>by simp at hd
 | d0::ds,c0::cs,h,k,d,hd=>by
  cases k with
  | zero=>simp at hd;subst hd;exact ⟨c0,rfl,h.1⟩
  | succ k=>obtain ⟨c,h1,h2⟩:=Bv.at h.2 (k:=k) (by simpa using hd);exact ⟨c,by simpa using h1,h2⟩
 | [],_::_,h,_,_,_=>h.elim
 | _::_,[],h,_,_,_=>h.elim
theorem ajN {Ds:List aF} {Cs:List aK} (h:Bv (Gx Cs) Ds Cs):∀k gs out,(rY Ds).lim k gs=some out→Gx Cs k gs out:=by
 refine fG.ajO fun k d hk I hI gs out hd=>?_
 obtain ⟨c,h1,h2⟩:=h.at hk
 unfold Gx
 rw [h1]
 exact h2 I hI gs out hd
def aB (P:Program) (tabs:List (Nat×List AV)) (I:fH) (ac:AC) (specs:List (Nat×bf)):Prop:=
 ∀k sp',bM k specs=some sp'→sp'.pre.ok=true∧∀b,ac.kU k b→∀gs out,I sp'.key gs=some out→aU P tabs b sp'.pre sp'.posts gs out
theorem aB.nil {tabs:List (Nat×List AV)} {I:fH} {ac:AC}:aB P tabs I ac []:=fun k sp' h=>by simp [bM] at h
theorem aB.cons {tabs:List (Nat×List AV)} {I:fH} {ps:List Nat} {c:Code} {k:Nat} {sp:bf} {specs:List (Nat×bf)} (hok:sp.pre.ok=true) (hb:∀gs out,I sp.key gs=some out→aU P tabs (dA c [(ps,k)]) sp.pre sp.posts gs out)
 (r:aB P tabs I (lG ps c) specs):aB P tabs I (lG ps c) ((k,sp)::specs):=by
 intro k' sp' h
 simp only [bM] at h
 cases e:Nat.beq k' k with
 | true=>
  rw [e] at h
  cases h
  have e:=Nat.eq_of_beq_eq_true e
  subst e
  exact ⟨hok,fun b hb' gs out hI=>by rw [← afv hb'];exact hb gs out hI⟩
 | false=>rw [e] at h;exact r k' sp' h
theorem aU.dG {tabs:List (Nat×List AV)} (hlow:uo tabs P.globals.size) (hm:P.follows .mixedOrders=true) (hn:qX P) {pl:nV} {I:fH} (hpl:uj P tabs I pl) {specs:List (Nat×bf)} {fuel:Nat} {sp:bf} (hok:sp.pre.ok=true) {n:Nat} (hnp:n=sp.pre.np)
 {ps:List Nat} {b:Code} {t:Tree} (Ad:aB P tabs I (lG ps b) specs) (hself:∀gs out,I sp.key gs=some out→aU P tabs b sp.pre sp.posts gs out)
 (sN:t.chk (Qr P tabs pl specs fuel sp (lG ps b)) (List.replicate sp.pre.np .arg) []=true) {gs out:List GV} (hd:(aF.tree n t).den I gs=some out):aU P tabs b sp.pre sp.posts gs out:=by
 simp only [aF.den] at hd
 split at hd
 ·next hlen=>exact aU.aX hlow hm hn hpl hok Ad hself sN (by rw [hlen,hnp]) hd
 ·cases hd
def PL.nil:nV:=fun _=>[]
def PL.cons (f:FuncId) (p:fF→dS) (l:nV):nV:=fun N=>(f,p N)::l N
theorem PL.akY {tabs:List (Nat×List AV)} {I:fH}:uj P tabs I PL.nil:=fun T _ _ p hp=>by simp [PL.nil] at hp
theorem PL.Dn {tabs:List (Nat×List AV)} {I:fH} {f:FuncId} {p:fF→dS} {l:nV} (h:∀T:aC,T.tabs=tabs→T.I=I→@dU T P f (p T.tofF)) (hl:uj P tabs I l):uj P tabs I (PL.cons f p l):=by
 intro T hT hI q hq
 rcases List.mem_cons.1 hq with rfl | hq
 ·exact h T hT hI
 ·exact hl T hT hI q hq
theorem PL.bC {tabs:List (Nat×List AV)} {I:fH} {f:FuncId} {k:Nat} {st:List (Option FuncId)} {sh:List nU} {l:nV} (h:∀gs out,I k gs=some out→aI P tabs f st sh gs out) (hl:uj P tabs I l):uj P tabs I (PL.cons f (fun N=>@bn N P k st sh) l):=
 PL.Dn (fun T hT hI=>ak8 fun gs out h'=>by subst hT;subst hI;exact h gs out h') hl
def jB (p q:dS):dS:=fun args σ=>match p args σ with
 | some r=>some r
 | none=>q args σ
theorem kR {T:aC} {f:FuncId} {p q:dS} (hp:@dU T P f p) (hq:@dU T P f q):@dU T P f (jB p q):=by
 letI:=T
 intro args σ r σ' hs
 unfold jB at hs
 split at hs
 ·next r0 h0=>cases hs;exact hp args σ r σ' h0
 ·exact hq args σ r σ' hs
end
end Go.aP
