/- Loops by contract: the step that the evaluator takes at a loop, and how a loop's contract is proved. -/
import Derived.Test.YtpkihgnabejkkaaGreatDoorAbsI
import Derived.ChangeArms
import Derived.Deep.Slices
import Derived.Carry
import Derived.Test.YtpkihgnabejkkaaGreatDoorAbsH
import Derived.ProofKit
import Derived.OpenShut
import Derived.Deep.DeepHandedRow
namespace Go.aJ
noncomputable section
set_option linter.unusedSectionVars false
set_option linter.unusedVariables false
set_option linter.unusedSimpArgs false
variable {P:Program}
structure US where
 r:List (Nat×Option Nat)
 p:List (Nat×Nat)
 fz:List Nat
def US.yt (u:US) (j m:Nat):US:=match bP j u.p with
 | some _=>u
 | none=>{ u with p:=(j,m)::u.p }
def US.FI (u:US) (i:Nat) (x:Option Nat):US:=match bP i u.r with
 | some _=>u
 | none=>{ u with r:=(i,x)::u.r }
section
variable [fE]
def Bz (P:Program) (σ:ah) (a:AV):Option (Nat×Option Nat):=
 match fQ a with
 | some m=>some (m,none)
 | none=>match a with
  | .sv id _=>match σ.get id with
   | some (.vec m _ _)=>some (m,some id)
   | _=>none
  | .sl id off len cap=>match σ.get id with
   | some (.cells _ et _ _)=>(listOf P σ et (.sl id off len cap)).map fun m=>(m,some id)
   | _=>none
  | _=>none
mutual
def uV (P:Program) (G:Nat) (σ:ah):AV→AV→US→US
 | .nd j,a,u=>match Bz P σ a with
  | some (m,some id)=>{ u.yt j m with fz:=id::u.fz }
  | some (m,none)=>u.yt j m
  | none=>u
 | .sv i _,a,u=>match a with
  | .sv id _=>u.FI i (some id)
  | .dH=>u.FI i none
  | _=>u
 | .p i _,a,u=>match a with
  | .p id _=>if i≤G then u else u.FI i (some id)
  | _=>u
 | .mp i,a,u=>match a with
  | .mp id=>u.FI i (some id)
  | _=>u
 | .rx j _,a,u=>match a with
  | .rx m _=>u.yt j m
  | _=>u
 | .fn _ fi cs,a,u=>match a with
  | .fn _ fi' cs'=>xR P G σ cs cs' (xR P G σ fi fi' u)
  | _=>u
 | .agg l,a,u=>match a with
  | .agg l'=>xR P G σ l l' u
  | _=>u
 | .dG l,a,u=>match a with
  | .dG l'=>xR P G σ l l' u
  | _=>u
 | .fO _ x,a,u=>match a with
  | .fO _ x'=>uV P G σ x x' u
  | _=>u
 | _,_,u=>u
def xR (P:Program) (G:Nat) (σ:ah):List AV→List AV→US→US
 | [],_,u=>u
 | a::l,m,u=>match m with
  | b::m'=>xR P G σ l m' (uV P G σ a b u)
  | []=>u
end
def ab5 (P:Program) (G:Nat) (σ:ah) (t:Tr AV):List (Nat×AV)→US→US
 | [],u=>u
 | p::l,u=>ab5 P G σ t l (match t.get p.1 with | some v=>uV P G σ p.2 v u | none=>u)
def JO (P:Program) (G:Nat) (σ:ah):List (Nat×aX)→US→US
 | [],u=>u
 | p::l,u=>JO P G σ l (match bP p.1 u.r with
  | some (some id)=>match p.2,σ.get id with
   | .cells c _ _ _,some (.cells c' _ _ _)=>xR P G σ c c' u
   | .vec j _ _,some (.vec m _ _)=>u.yt j m
   | .smap j _ _,some (.smap m _ _)=>u.yt j m
   | .smap j _ _,some (.map [])=>match dL (.ml []) with
    | some m=>u.yt j m
    | none=>u
   | _,_=>u
  | some none=>match p.2 with
   | .vec j _ _=>match dL (.ml []) with
    | some m=>u.yt j m
    | none=>u
   | _=>u
  | none=>u)
def OI (p:List (Nat×Nat)):Nat→Nat→Option (List Nat)
 | _,0=>some []
 | j,n+1=>match bP j p,OI p (j+1) n with
  | some m,some r=>some (m::r)
  | _,_=>none
def Kw:Nat→Nat→List (Nat×Option Nat)
 | _,0=>[]
 | i,n+1=>(i+1,some (i+1))::Kw (i+1) n
def fit (P:Program) (s:eG) (a:aW) (σ:ah):US:=JO P s.gn σ s.objs (ab5 P s.gn σ a.t s.slots ⟨Kw s.gn s.ka,[],[]⟩)
def fits (P:Program) (s:eG) (a:aW) (σ:ah) (ps:List Nat):Bool:=Nat.beq ps.length s.np&&match fit P s a σ with
 | ⟨r,_,fz⟩=>Ny P s a σ fz r ps
structure bY where
 key:Nat
 pre:eG
 posts:List (dD×eG)
def zk (tag:Nat):List (dD×eG)→Nat→Option (dD×eG)
 | [],_=>none
 | [p],_=>some p
 | p::q::l,t=>match dL (.ci .i64 t) with
  | some c=>match dL (.bin .eql tag c) with
   | some b=>match La b with
    | some true=>some p
    | some false=>zk tag (q::l) (t+1)
    | none=>none
   | none=>none
  | none=>none
def sS (key:Nat) (ps:List Nat):List (Option Nat)→Nat→Nat→Option (List Nat)
 | _,_,0=>some []
 | some i::al,j,n+1=>match ps[i]?,sS key ps al j n with
  | some m,some r=>some (m::r)
  | _,_=>none
 | none::al,j,n+1=>match dL (.call key ps j),sS key ps al (j+1) n with
  | some m,some r=>some (m::r)
  | _,_=>none
 | [],j,n+1=>match dL (.call key ps j),sS key ps [] (j+1) n with
  | some m,some r=>some (m::r)
  | _,_=>none
def Nk (P:Program) (tabs:List (Nat×List AV)) (sp:bY) (a:aW) (σ:ah):Option (dD×aW×ah):=
 match OI (fit P sp.pre a σ).p 0 sp.pre.np with
 | some ps=>if fits P sp.pre a σ ps then
   match dL (.call sp.key ps 0) with
   | some tag=>match zk tag sp.posts 0 with
    | some (e,s)=>if Nat.beq s.ka fE.ka then match sS sp.key ps s.al 1 s.np with
     | some ns=>some (e,s.Fp (fun j=>ns.getD j 0),s.vI tabs (fun j=>ns.getD j 0))
     | none=>none
     else none
    | none=>none
   | none=>none
  else none
 | none=>none
end
def nD:List (Option Nat)→List GV→List GV→Option (List GV)
 | [],_,r=>some r
 | some i::al,gs,r=>match gs[i]?,nD al gs r with
  | some g,some l=>some (g::l)
  | _,_=>none
 | none::al,gs,x::r=>match nD al gs r with
  | some l=>some (x::l)
  | none=>none
 | none::_,_,[]=>none
def uF (np:Nat):List (Option Nat)→List Nat→Option (List Nat)
 | [],r=>some r
 | some i::al,r=>bif Nat.blt i np then (match uF np al r with
  | some l=>some (i::l)
  | none=>none) else none
 | none::al,x::r=>match uF np al r with
  | some l=>some (x::l)
  | none=>none
 | none::_,[]=>none
def yg (np:Nat) (l:List Nat):List (Option Nat)→Bool
 | []=>true
 | none::al=>yg np l al
 | some i::al=>Nat.blt i np&&((match l[i]? with | some m=>Nat.beq m i | none=>false)&&yg np l al)
def Fq (np:Nat) (l:List Nat):List (dD×eG)→Bool
 | []=>true
 | p::ps=>yg np l p.2.al&&Fq np l ps
theorem PV {val:Nat→Option GV}:∀ {l:List Nat} {gs:List GV},valsOf val l=some gs→∀ (i m:Nat),l[i]? = some m→gs[i]? = val m
 | [],gs,h,i,m,hm=>by simp at hm
 | x::l,gs,h,i,m,hm=>by
  simp only [valsOf] at h
  split at h
  ·next g r h5 h6=>
   cases h
   cases i with
   | zero=>simp at hm;subst hm;simp [h5]
   | succ i=>simpa using PV h6 i m (by simpa using hm)
  ·cases h
theorem F9 {np:Nat} {gs env more:List GV} (henv:env=gs++more) (hn:gs.length=np):∀ {al:List (Option Nat)} {l l2:List Nat} {r:List GV},uF np al l=some l2→valsOf (fun n=>env[n]?) l=some r→∃rest,valsOf (fun n=>env[n]?) l2=some rest∧nD al gs r=some rest
 | [],l,l2,r,h,hv=>by simp only [uF,Option.some.injEq] at h;subst h;exact ⟨r,hv,rfl⟩
 | some i::al,l,l2,r,h,hv=>by
  simp only [uF] at h
  cases hb:Nat.blt i np with
  | false=>rw [hb] at h;cases h
  | true=>
   rw [hb] at h
   simp only [cond_true] at h
   rw [Nat.blt_eq] at hb
   split at h
   ·next l3 h3=>
    cases h
    obtain ⟨rest,h4,h5⟩:=F9 henv hn h3 hv
    have hi:env[i]? = some (gs[i]'(by omega)):=by rw [henv,List.getElem?_append_left (by omega),List.getElem?_eq_getElem (by omega)]
    refine ⟨gs[i]'(by omega)::rest, ?_, ?_⟩
    ·simp only [valsOf,hi,h4]
    ·simp only [nD,h5,List.getElem?_eq_getElem (show i < gs.length by omega)]
   ·cases h
 | none::al,[],l2,r,h,hv=>by simp [uF] at h
 | none::al,x::l,l2,r,h,hv=>by
  simp only [uF] at h
  split at h
  ·next l3 h3=>
   cases h
   simp only [valsOf] at hv
   split at hv
   ·next g r' h6 h7=>
    cases hv
    obtain ⟨rest,h4,h5⟩:=F9 henv hn h3 h7
    exact ⟨g::rest,by simp only [valsOf,h6,h4],by simp only [nD,h5]⟩
   ·cases hv
  ·cases h
theorem Lm {np:Nat} {gs env more gs':List GV} (henv:env=gs++more) (hn:gs.length=np) {l:List Nat} (hv:valsOf (fun n=>env[n]?) l=some gs'):∀ {al:List (Option Nat)},yg np l al=true→∀r,nD al gs' r=nD al gs r
 | [],_,r=>rfl
 | none::al,h,[]=>rfl
 | none::al,h,x::r=>by
  simp only [yg] at h
  simp only [nD,Lm henv hn hv h r]
 | some i::al,h,r=>by
  simp only [yg,Bool.and_eq_true,Nat.blt_eq] at h
  obtain ⟨h1,h2,h3⟩:=h
  split at h2
  ·next m hm=>
   have:=Nat.eq_of_beq_eq_true h2
   subst this
   have h4:gs'[m]? = gs[m]?:=by
    rw [PV hv m m hm]
    show env[m]? = gs[m]?
    rw [henv,List.getElem?_append_left (by omega)]
   simp only [nD,Lm henv hn hv h3 r,h4]
  ·cases h2
theorem Qn {np:Nat} {l:List Nat}:∀ {posts:List (dD×eG)},Fq np l posts=true→∀p∈posts,yg np l p.2.al=true
 | q::posts,h,p,hp=>by
  simp only [Fq,Bool.and_eq_true] at h
  rcases List.mem_cons.1 hp with rfl | hp
  ·exact h.1
  ·exact Qn h.2 p hp
def aZ (P:Program) (tabs:List (Nat×List AV)) (b:Code) (pre:eG) (posts:List (dD×eG)) (gs out:List GV):Prop:=
 ∃ (t:Nat) (r rest:List GV) (e:dD) (s:eG),out=GV.i .i64 t::r∧posts[t]? = some (e,s)∧nD s.al gs r=some rest∧rest.length=s.np∧∀w0 bZ A w K,ET P tabs pre gs w0 bZ A w→(∀A' w',ET P tabs s rest w0 bZ A' w'→K e.toExit A' w')→rO P b K A w
theorem Oc {T:aB} {tag:Nat} {t0:Nat} (htag:T.val tag=some (.i .i64 (t0:Nat))):∀ (l:List (dD×eG)) (t:Nat) {p:dD×eG},@zk T.tofE tag l t=some p→t≤t0→∀q,l[t0 - t]? = some q→p=q
 | [],t,p,h,_,q,hq=>by simp [zk] at h
 | [x],t,p,h,hle,q,hq=>by
  simp only [zk,Option.some.injEq] at h
  cases hd:t0 - t with
  | zero=>rw [hd] at hq;simp at hq;rw [← h,hq]
  | succ n=>rw [hd] at hq;simp at hq
 | x::y::l,t,p,h,hle,q,hq=>by
  letI:=T
  simp only [zk] at h
  split at h
  ·next c hc=>
   split at h
   ·next b hb=>
    obtain ⟨g1,k1,k2⟩:=dY hc
    simp only [Nd.den,Option.some.injEq] at k2
    subst k2
    obtain ⟨g2,m1,m2⟩:=dY hb
    have agr:aB.val tag=some (.i .i64 (t0:Nat)):=htag
    simp only [Nd.den,agr,k1,eH,if_true,fF,Option.some.injEq] at m2
    split at h
    ·next hd=>
     cases h
     have:=T.sD b true (Dv hd)
     have Nw:T.val b=some g2:=m1
     rw [Nw] at this;cases this
     simp at m2
     have:t0 - t=0:=by omega
     rw [this] at hq;simpa using hq
    ·next hd=>
     have:=T.sD b false (Dv hd)
     have Nw:T.val b=some g2:=m1
     rw [Nw] at this;cases this
     simp at m2
     have e:t0 - t=(t0 - (t+1))+1:=by omega
     rw [e,List.getElem?_cons_succ] at hq
     exact Oc htag (y::l) (t+1) h (by omega) q hq
    ·cases h
   ·cases h
  ·cases h
theorem Eh {T:aB} {key:Nat} {ps:List Nat} {gs out:List GV} (hps:valsOf T.val ps=some gs) (hI:T.I key gs=some out):∀ (n j:Nat) (al:List (Option Nat)) {ns:List Nat} {r rest:List GV},(∀k:Nat,r[k]? = out[j+k]?)→nD al gs r=some rest→@sS T.tofE key ps al j n=some ns→ns.length=n∧∀ (i m:Nat),ns[i]? = some m→T.val m=rest[i]?
 | 0,j,al,ns,r,rest,_,_,h=>by
  letI:=T
  have:ns=[]:=by unfold sS at h;simpa using h.symm
  subst this;simp
 | n+1,j,some i0::al,ns,r,rest,hr,he,h=>by
  letI:=T
  simp only [sS] at h
  simp only [nD] at he
  split at he
  ·next g l hg hl=>
   cases he
   split at h
   ·next m r' hm hr'=>
    cases h
    obtain ⟨h1,h2⟩:=Eh hps hI n j al hr hl hr'
    refine ⟨by simp [h1],fun i m' hi=>?_⟩
    cases i with
    | zero=>
     simp at hi;subst hi
     have:=PV hps i0 m hm
     rw [List.getElem?_cons_zero,← hg];exact this.symm
    | succ i=>simpa using h2 i m' (by simpa using hi)
   ·cases h
  ·cases he
 | n+1,j,none::al,ns,[],rest,hr,he,h=>by simp [nD] at he
 | n+1,j,none::al,ns,x::r,rest,hr,he,h=>by
  letI:=T
  simp only [sS] at h
  simp only [nD] at he
  split at he
  ·next l hl=>
   cases he
   split at h
   ·next m r' hm hr'=>
    cases h
    obtain ⟨h1,h2⟩:=Eh hps hI n (j+1) al (r:=r) (fun k=>by
     have:=hr (k+1)
     rw [List.getElem?_cons_succ] at this
     rw [this];congr 1;omega) hl hr'
    refine ⟨by simp [h1],fun i m' hi=>?_⟩
    cases i with
    | zero=>
     simp at hi;subst hi
     obtain ⟨g,k1,k2⟩:=dY hm
     have MJ:valsOf aB.val ps=some gs:=hps
     have hI':aB.I key gs=some out:=hI
     simp only [Nd.den,MJ,hI'] at k2
     have k1':T.val m=some g:=k1
     have:=hr 0
     simp only [List.getElem?_cons_zero,Nat.add_zero] at this
     rw [k1',List.getElem?_cons_zero,this];exact k2.symm
    | succ i=>simpa using h2 i m' (by simpa using hi)
   ·cases h
  ·cases he
 | n+1,j,[],ns,r,rest,hr,he,h=>by
  letI:=T
  simp only [sS] at h
  simp only [nD,Option.some.injEq] at he
  subst he
  split at h
  ·next m r' hm hr'=>
   cases h
   obtain ⟨h1,h2⟩:=Eh hps hI n (j+1) [] (r:=r.tail) (fun k=>by
    have:=hr (k+1)
    rw [List.getElem?_tail,this];congr 1;omega) rfl hr'
   refine ⟨by simp [h1],fun i m' hi=>?_⟩
   cases i with
   | zero=>
    simp at hi;subst hi
    obtain ⟨g,k1,k2⟩:=dY hm
    have MJ:valsOf aB.val ps=some gs:=hps
    have hI':aB.I key gs=some out:=hI
    simp only [Nd.den,MJ,hI'] at k2
    have k1':T.val m=some g:=k1
    have:=hr 0
    rw [Nat.add_zero] at this
    rw [k1',this];exact k2.symm
   | succ i=>
    have:=h2 i m' (by simpa using hi)
    rw [this,List.getElem?_tail]
  ·cases h
theorem Nl {T:aB} {tabs:List (Nat×List AV)} (nH:T.tabs=tabs) (hlow:rU tabs P.globals.size) {sp:bY} (hok:sp.pre.ok=true) {b:Code} (hC:∀gs out,T.I sp.key gs=some out→aZ P tabs b sp.pre sp.posts gs out)
 {a a':aW} {σ σ':ah} {e:dD} (h:@Nk T.tofE P tabs sp a σ=some (e,a',σ')) {Q:dD→aW→ah→Prop} (hq:Q e a' σ'):@tX T P b a σ Q:=by
 letI:=T
 unfold Nk at h
 split at h
 ·next ps hps=>
  split at h
  ·next hfit=>
   split at h
   ·next tag htag=>
    split at h
    ·next e' s hpick=>
     split at h
     rotate_left
     ·cases h
     next MO=>
     have MO:=Nat.eq_of_beq_eq_true MO
     split at h
     ·next ns hns=>
      cases h
      obtain ⟨gt,t1,t2⟩:=dY htag
      simp only [Nd.den] at t2
      split at t2
      ·next gs hgs=>
       split at t2
       ·next out hI=>
        obtain ⟨t,r,rest,e2,s2,rfl,hp2,hex,hrl,hrun⟩:=hC gs out hI
        simp only [List.getElem?_cons_zero,Option.some.injEq] at t2
        subst t2
        have hpe:=Oc t1 sp.posts 0 hpick (Nat.zero_le _) (e2,s2) (by simpa using hp2)
        cases hpe
        obtain ⟨n1,n2⟩:=Eh hgs hI _ 1 s.al (r:=r) (fun k=>by rw [Nat.add_comm,List.getElem?_cons_succ]) hex hns
        intro w0 bZ η w A K hF hl ht hK
        unfold fits at hfit
        rw [Bool.and_eq_true] at hfit
        have hst:=ND nH hlow hok hF hl ht hfit.2 hgs
        refine hrun w0 bZ A w K hst fun A' w' hs'=>?_
        obtain ⟨η',hF',ht'⟩:=O7 (T:=T) (f:=fun j=>ns.getD j 0) nH MO.symm (fun j g hj=>by
         have hjl:j < ns.length:=by have:=(List.getElem?_eq_some_iff.1 hj).1;omega
         have hm:ns[j]? = some (ns.getD j 0):=by rw [List.getD_eq_getElem?_getD,List.getElem?_eq_getElem hjl];rfl
         rw [n2 j _ hm];exact hj) hs'
        exact hK e _ _ η' A' w' hq hF' rfl ht'
       ·cases t2
      ·cases t2
     ·cases h
    ·cases h
   ·cases h
  ·cases h
 ·cases h
theorem PU {val:Nat→Option GV}:∀ {l:List Nat} {gs:List GV},valsOf val l=some gs→gs.length=l.length
 | [],gs,h=>by simp only [valsOf,Option.some.injEq] at h;subst h;rfl
 | x::l,gs,h=>by
  simp only [valsOf] at h
  split at h
  ·next h5 h6=>cases h;simp [PU h6]
  ·cases h
def dD.eq:dD→dD→Bool
 | .normal,.normal=>true
 | .ret,.ret=>true
 | .exit a,.exit b=>Nat.beq a b
 | _,_=>false
theorem dD.eq_of {a b:dD} (h:a.eq b=true):a=b:=by
 cases a<;>cases b<;>first | rfl | (cases h;done) | skip
 rw [Nat.eq_of_beq_eq_true h]
abbrev mY:=fE→List (FuncId×dV)
def rP (P:Program) (tabs:List (Nat×List AV)) (I:fD) (pl:mY):Prop:=∀T:aB,T.tabs=tabs→T.I=I→∀p∈pl T.tofE,@dR T P p.1 p.2
def zA (P:Program) (N:fE) (pl:mY) (fuel:Nat):Code→aW→ah→Option (dD×aW×ah):=@vP N P (EW P) (OH (pl N)) fuel
def vJ (P:Program) (tabs:List (Nat×List AV)) (N:fE) (specs:List (Nat×bY)):J9:=fun k a σ=>match bP k specs with
 | some sp=>@Nk N P tabs sp a σ
 | none=>none
def Nr (P:Program) (tabs:List (Nat×List AV)) (pl:mY) (specs:List (Nat×bY)) (fuel:Nat) (sp:bY) (ac:AC) (ns:List Nd) (ds:List (Nat×Bool)) (lf:Leaf):Bool:=
 match @oG ⟨ns,ds,sp.pre.ka⟩ (vJ P tabs ⟨ns,ds,sp.pre.ka⟩ specs) (zA P ⟨ns,ds,sp.pre.ka⟩ pl fuel) ac (sp.pre.Fp fun j=>j) (sp.pre.vI tabs fun j=>j) with
 | some (e,a',σ')=>match lf with
  | .ret (tn::l)=>match ns[tn]? with
   | some (.ci .i64 t)=>match sp.posts[t.toNat]? with
    | some (e',s)=>decide (0≤t)&&!(e.eq .normal)&&e.eq e'&&s.ok&&(match uF sp.pre.np s.al l with | some l2=>@fits ⟨ns,ds,sp.pre.ka⟩ P s a' σ' l2 | none=>false)
    | none=>false
   | _=>false
  | .tail f l=>Nat.beq f sp.key&&e.eq .normal&&(Fq sp.pre.np l sp.posts&&@fits ⟨ns,ds,sp.pre.ka⟩ P sp.pre a' σ' l)
  | _=>false
 | none=>false
@[reducible] def Tw (tabs:List (Nat×List AV)) (I:fD) (ka:Nat) {ns:List Nd} {ds:List (Nat×Bool)} {env:List GV} (h:uj I ns ds env):aB:={ nodes:=ns,dec:=ds,ka:=ka,tabs:=tabs,I:=I,val:=fun n=>env[n]?,lJ:=h.node,sD:=h.dec }
theorem uj.start (I:fD) (gs:List GV) (n:Nat) (h:gs.length=n):uj I (List.replicate n .arg) [] gs:=
 ⟨by simp [h],fun k nd hk hn=>absurd (List.mem_replicate.1 (List.mem_of_getElem? hk)).2 hn,fun k b hb=>by simp at hb⟩
theorem OZ {T:aB} (hm:P.follows .mixedOrders=true) (hn:pY P) {pl:mY} (hp:∀p∈pl T.tofE,@dR T P p.1 p.2) (fuel:Nat):@CG T P (zA P T.tofE pl fuel):=
 (@U8 T P _ _ (XO hm) (aaA hp) hn fuel).1
theorem aZ.bD {tabs:List (Nat×List AV)} (hlow:rU tabs P.globals.size) (hm:P.follows .mixedOrders=true) (hn:pY P) {pl:mY} {I:fD} (hpl:rP P tabs I pl) {specs:List (Nat×bY)} {fuel:Nat} {sp:bY} (hok:sp.pre.ok=true) {ps:List Nat} {b:Code} {t:Tree}
 (yO:∀k sp',bP k specs=some sp'→sp'.pre.ok=true∧∀c,(kR ps b).kC k c→∀gs out,I sp'.key gs=some out→aZ P tabs c sp'.pre sp'.posts gs out)
 (hself:∀gs out,I sp.key gs=some out→aZ P tabs b sp.pre sp.posts gs out)
 (qV:t.chk (Nr P tabs pl specs fuel sp (kR ps b)) (List.replicate sp.pre.np .arg) []=true) {gs out:List GV} (hlen:gs.length=sp.pre.np) (hd:t.den I gs=some out):aZ P tabs b sp.pre sp.posts gs out:=by
 obtain ⟨ns,ds,env,lf,h1,h2,⟨more,h3⟩,h4⟩:=Tree.Ag t qV (uj.start I gs _ hlen) hd
 let T:aB:=Tw tabs I sp.pre.ka h2
 unfold Nr at h1
 split at h1
 ·next e a' σ' hrun=>
  have AX:∀Q:dD→aW→ah→Prop,Q e a' σ'→@AT T P b (sp.pre.Fp fun j=>j) (sp.pre.vI tabs fun j=>j) Q:=by
   intro Q hq
   have:=@Kv P T (vJ P tabs ⟨ns,ds,sp.pre.ka⟩ specs) (zA P ⟨ns,ds,sp.pre.ka⟩ pl fuel) (OZ (T:=T) hm hn (hpl T rfl rfl) fuel) (kR ps b) (qj ps b 0).2 (fun k c hk a σ e1 a1 σ1 hs Q' hq'=>by
    unfold vJ at hs
    split at hs
    ·next sp' hsp=>
     obtain ⟨k1,k2⟩:=yO k sp' hsp
     exact Nl (T:=T) rfl hlow k1 (fun gs out hI=>k2 c hk gs out hI) hs hq'
    ·cases hs) _ _ _ _ _ hrun Q hq
   rwa [show (kR ps b).erase=b from (qj ps b 0).1] at this
  have henv:∀j g,gs[j]? = some g→T.val ((fun j=>j) j)=some g:=by
   intro j g hj
   show env[j]? = some g
   rw [h3]
   have:=(List.getElem?_eq_some_iff.1 hj).1
   rw [List.getElem?_append_left this];exact hj
  split at h1
  ·next tn l=>
   split at h1
   ·next tt htn=>
    split at h1
    ·next e' s hpost=>
     simp only [Bool.and_eq_true,decide_eq_true_iff] at h1
     obtain ⟨⟨⟨⟨t0,t1⟩,t2⟩,t3⟩,t4⟩:=h1
     split at t4
     rotate_left
     ·cases t4
     next l2 hl2=>
     have e1:=dD.eq_of t2
     subst e1
     simp only [valsOf] at h4
     split at h4
     ·next g r hg hr0=>
      cases h4
      obtain ⟨g',k1,k2⟩:=h2.node tn _ htn (by simp)
      have hg':env[tn]? = some g:=hg
      rw [hg'] at k1;cases k1
      simp only [Nd.den,Option.some.injEq] at k2
      subst k2
      obtain ⟨rest,hrest,hex⟩:=F9 h3 hlen hl2 hr0
      have hfl:rest.length=s.np:=by
       unfold fits at t4
       rw [Bool.and_eq_true] at t4
       rw [← Nat.eq_of_beq_eq_true t4.1]
       exact PU hrest
      refine ⟨tt.toNat,r,rest,e,s,by rw [Int.toNat_of_nonneg t0],hpost,hex,hfl,fun w0 bZ A w K hS hK=>rO.step ?_⟩
      obtain ⟨η,hF,ht⟩:=O7 (T:=T) (f:=fun j=>j) rfl rfl henv hS
      refine AX (fun e2 a2 σ2=>e2=e∧a2=a'∧σ2=σ') ⟨rfl,rfl,rfl⟩ w0 bZ η w A _ hF rfl ht ?_
      rintro e2 a2 σ2 η' A' w' ⟨rfl,rfl,rfl⟩ hF' hl' ht'
      unfold fits at t4
      rw [Bool.and_eq_true] at t4
      have hst:=ND (T:=T) rfl hlow t3 hF' hl' ht' t4.2 hrest
      have:=hK A' w' hst
      cases e2 with
      | normal=>simp [dD.eq] at t1
      | exit id=>exact this
      | ret=>exact this
     ·cases h4
    ·cases h1
   ·cases h1
  ·next f l=>
   simp only [Bool.and_eq_true] at h1
   obtain ⟨⟨t1,t2⟩,t5,t3⟩:=h1
   have e1:=dD.eq_of t2
   subst e1
   have e2:=Nat.eq_of_beq_eq_true t1
   subst e2
   obtain ⟨gs',hgs',hI⟩:=h4
   obtain ⟨tn,r,rest,e2,s,r1,r2,r5,r3,r4⟩:=hself gs' out hI
   refine ⟨tn,r,rest,e2,s,r1,r2,by rw [← Lm h3 hlen hgs' (Qn t5 _ (List.mem_of_getElem? r2)) r];exact r5,r3,fun w0 bZ A w K hS hK=>rO.step ?_⟩
   obtain ⟨η,hF,ht⟩:=O7 (T:=T) (f:=fun j=>j) rfl rfl henv hS
   refine AX (fun e2 a2 σ2=>e2=.normal∧a2=a'∧σ2=σ') ⟨rfl,rfl,rfl⟩ w0 bZ η w A _ hF rfl ht ?_
   rintro e3 a2 σ2 η' A' w' ⟨rfl,rfl,rfl⟩ hF' hl' ht'
   unfold fits at t3
   rw [Bool.and_eq_true] at t3
   have hst:=ND (T:=T) rfl hlow hok hF' hl' ht' t3.2 hgs'
   exact r4 w0 bZ A' w' K hst hK
  ·cases h1
 ·cases h1
end
end Go.aJ
namespace Go.aJ
noncomputable section
set_option linter.unusedSectionVars false
set_option linter.unusedVariables false
set_option linter.unusedSimpArgs false
variable {P:Program}
structure aG (P:Program) (tabs:List (Nat×List AV)) (f:FuncId) (st:List (Option FuncId)) (sh:List nO) (gs out:List GV):Prop where
 call:acy P tabs f st gs out
 fits:lq sh out=true
section
variable [fE]
def FP (P:Program) (σ:ah) (fz:List Nat) (a:AV):Option Nat:=
 match Bz P σ a with
 | some (m,none)=>some m
 | some (m,some _)=>if Gq P σ fz a m then some m else none
 | none=>none
def Dk (P:Program) (σ:ah) (fz:List Nat):List AV→Option (List Nat)
 | []=>some []
 | a::l=>match FP P σ fz a,Dk P σ fz l with
  | some m,some r=>some (m::r)
  | _,_=>none
def JV (P:Program) (σ:ah) (fz:List Nat):AV→Option Nat
 | .agg l=>match Dk P σ fz l with
  | some ns=>dL (.mk ns)
  | none=>none
 | a=>FP P σ fz a
def valsN (P:Program) (σ:ah) (fz:List Nat):List AV→Option (List Nat)
 | []=>some []
 | a::l=>match JV P σ fz a,valsN P σ fz l with
  | some m,some r=>some (m::r)
  | _,_=>none
def YP (P:Program) (σ:ah) (a:AV):List Nat:=match Bz P σ a with
 | some (_,some id)=>[id]
 | _=>[]
def uI (P:Program) (σ:ah):List AV→List Nat
 | []=>[]
 | .agg l::r=>l.flatMap (YP P σ)++uI P σ r
 | a::r=>YP P σ a++uI P σ r
def Hy (k:Nat) (ns:List Nat) (j:Nat):nO→Option AV
 | .sc=>iW (.call k ns j)
 | .ag n=>match dL (.call k ns j) with
  | some m=>(yC m 0 n).map .agg
  | none=>none
def y8 (k:Nat) (ns:List Nat):Nat→List nO→Option (List AV)
 | _,[]=>some []
 | j,s::l=>match Hy k ns j s,y8 k ns (j+1) l with
  | some a,some r=>some (a::r)
  | _,_=>none
def bJ (P:Program) (k:Nat) (st:List (Option FuncId)) (sh:List nO):dV:=fun CQ σ=>match tN st CQ with
 | none=>none
 | some args=>
 let fz:=uI P σ args
 if fz.all (Nat.ble σ.lock ·) then
  match valsN P σ fz args with
  | some ns=>match y8 k ns 0 sh with
   | some (a::l)=>some (zI (a::l),kills σ fz)
   | _=>none
  | none=>none
 else none
end
theorem LM {T:aB} {η:Env} {σ:ah} {w:World} (h:@SR T P η σ w):∀fz:List Nat,(∀id∈fz,σ.lock≤id)→∃bG,(∀b o,η.ro b=some o→bG b=some o)∧@St T P η σ w ⟨η.pl,bG,η.gh⟩ (kills σ fz) w∧
 (∀id∈fz,∀o q,σ.get id=some o→o.own=true→η id=some q→bG q.bl=w.heap[q.bl]?)
 | [],_=>⟨η.ro,fun _ _ h=>h,@St.refl T _ _ _ _ h,by simp⟩
 | id::fz,hlk=>by
  letI:=T
  obtain ⟨bG,h1,h2,h3⟩:=LM h fz (fun k hk=>hlk k (List.mem_cons_of_mem _ hk))
  by_cases hx:∃o q,(kills σ fz).get id=some o∧o.own=true∧η id=some q
  ·obtain ⟨o,q,ho,hown,hq⟩:=hx
   have hst:=St.freeze h2.rel ho hown (by rw [Bc];exact hlk id (by simp)) (show (⟨η.pl,bG,η.gh⟩:Env) id=some q from hq)
   refine ⟨xM bG w q.bl,fun b o hb=>Ii h2.rel.gI q.bl b o (h1 b o hb),h2.trans hst, ?_⟩
   intro id' gW o' q' ho' hown' hq'
   show (if q'.bl=q.bl then w.heap[q.bl]? else bG q'.bl)=_
   split
   ·next e=>rw [e]
   ·next e=>
    rcases List.mem_cons.1 gW with rfl | gW
    ·rw [hq] at hq';cases hq';exact absurd rfl e
    ·exact h3 id' gW o' q' ho' hown' hq'
  ·refine ⟨bG,h1,h2.G5 id, ?_⟩
   intro id' gW o' q' ho' hown' hq'
   rcases List.mem_cons.1 gW with rfl | gW
   ·by_cases hm:id'∈fz
    ·exact h3 id' hm o' q' ho' hown' hq'
    ·exact absurd ⟨o',q',by rw [uP,if_neg hm];exact ho',hown',hq'⟩ hx
   ·exact h3 id' gW o' q' ho' hown' hq'
section
variable {T:aB} {tabs:List (Nat×List AV)} {G next:Nat} {η:Env} {σ:ah} {w:World} {fz:List Nat} {r:List (Nat×Option Nat)} {ps:List Nat} {gs:List GV} {bG:Nat→Option Obj}
theorem ah7 {a:AV} {m:Nat} (h:@Bz T.tofE P σ a=some (m,none)):@fQ T.tofE a=some m:=by
 letI:=T
 unfold Bz at h
 split at h
 ·next m' hm=>cases h;exact hm
 ·split at h
  ·split at h<;>cases h
  ·split at h
   ·obtain ⟨m',_,e⟩:=Option.map_eq_some_iff.1 h;cases e
   ·cases h
  ·cases h
theorem Uc (C:oq T P tabs G next η σ w fz r ps gs bG) {a:AV} {m:Nat} {v:Value} (h:@FP T.tofE P σ fz a=some m) (hv:@VR T η a v):∃g,T.val m=some g∧g.scalar=true∧GR bG g v:=by
 letI:=T
 unfold FP at h
 split at h
 ·next m' hc=>
  cases h
  obtain ⟨g,k1,k2,k3⟩:=jm (ah7 hc) hv
  exact ⟨g,k1,k2,GR.mono C.nM _ _ k3⟩
 ·next m' id hc=>
  split at h
  ·next hf=>
   cases h
   have hval:∃g,T.val m=some g:=by
    unfold Bz at hc
    split at hc
    ·cases hc
    ·split at hc
     ·next id' n=>
      split at hc
      ·next m2 et f hg=>
       cases hc
       rcases C.rel.live _ _ hg with ⟨q,hq,hor⟩ | ⟨_,n2,Lj,f2,e2,hv0⟩
       ·obtain ⟨xs,x1,_⟩:=hor.Bj;exact ⟨_,x1⟩
       ·cases e2;exact ⟨_,hv0⟩
      ·cases hc
     ·split at hc
      ·next c et nN opn hg=>
       obtain ⟨m2,hl,e⟩:=Option.map_eq_some_iff.1 hc
       cases e
       unfold listOf at hl
       simp only [hg] at hl
       split at hl
       ·split at hl
        ·split at hl
         ·split at hl
          ·obtain ⟨g,g1,_⟩:=dY hl;exact ⟨g,g1⟩
          ·cases hl
         ·cases hl
        ·cases hl
       ·cases hl
      ·cases hc
     ·cases hc
   obtain ⟨g,hg⟩:=hval
   obtain ⟨k1,k2⟩:=YM C hf hv hg
   exact ⟨g,hg,k1,k2⟩
  ·cases h
 ·cases h
theorem Ug (C:oq T P tabs G next η σ w fz r ps gs bG):∀ {l:List AV} {ns:List Nat} {vs:List Value},@Dk T.tofE P σ fz l=some ns→@aj T η l vs→∃gl,valsOf T.val ns=some gl∧gl.all GV.scalar=true∧aN bG gl vs
 | [],ns,vs,h,hv=>by simp only [Dk,Option.some.injEq] at h;subst h;simp only [aj] at hv;subst hv;exact ⟨[],rfl,rfl,by simp [aN]⟩
 | a::l,ns,vs,h,hv=>by
  letI:=T
  simp only [Dk] at h
  split at h
  ·next m r' hm hr=>
   cases h
   simp only [aj] at hv
   obtain ⟨x,xs,rfl,h1,h2⟩:=hv
   obtain ⟨g,g1,g2,g3⟩:=Uc C hm h1
   obtain ⟨gl,k1,k2,k3⟩:=Ug C hr h2
   exact ⟨g::gl,by simp only [valsOf,g1,k1],by simp [g2,k2],by simp only [aN];exact ⟨x,xs,rfl,g3,k3⟩⟩
  ·cases h
theorem amS (C:oq T P tabs G next η σ w fz r ps gs bG) {a:AV} {m:Nat} {v:Value} (h:@JV T.tofE P σ fz a=some m) (hv:@VR T η a v):∃g,T.val m=some g∧GR bG g v∧(match a with | .agg l=>∃gl,g=.g gl∧gl.length=l.length | _=>g.scalar=true):=by
 letI:=T
 cases a
 case agg l=>
  simp only [JV] at h
  split at h
  ·next ns hns=>
   simp only [VR] at hv
   obtain ⟨vs,rfl,hvs⟩:=hv
   obtain ⟨gl,k1,k2,k3⟩:=Ug C hns hvs
   obtain ⟨g,g1,g2⟩:=dY h
   have k1':valsOf aB.val ns=some gl:=k1
   simp only [Nd.den,k1',k2,if_true,Option.some.injEq] at g2
   subst g2
   exact ⟨_,g1,by simp only [GR];exact ⟨vs,rfl,k3⟩,gl,rfl,by rw [k3.length,hvs.length]⟩
  ·cases h
 all_goals
  simp only [JV] at h
  obtain ⟨g,g1,g2,g3⟩:=Uc C h hv
  exact ⟨g,g1,g3,g2⟩
theorem PS (C:oq T P tabs G next η σ w fz r ps gs bG):∀ {l:List AV} {ns:List Nat} {vs:List Value},@valsN T.tofE P σ fz l=some ns→@aj T η l vs→∃gl,valsOf T.val ns=some gl∧aN bG gl vs
 | [],ns,vs,h,hv=>by simp only [valsN,Option.some.injEq] at h;subst h;simp only [aj] at hv;subst hv;exact ⟨[],rfl,by simp [aN]⟩
 | a::l,ns,vs,h,hv=>by
  letI:=T
  simp only [valsN] at h
  split at h
  ·next m r' hm hr=>
   cases h
   simp only [aj] at hv
   obtain ⟨x,xs,rfl,h1,h2⟩:=hv
   obtain ⟨g,g1,g2,_⟩:=amS C hm h1
   obtain ⟨gl,k1,k2⟩:=PS C hr h2
   exact ⟨g::gl,by simp only [valsOf,g1,k1],by simp only [aN];exact ⟨x,xs,rfl,g2,k2⟩⟩
  ·cases h
theorem NY {k:Nat} {ns:List Nat} {gl out:List GV} (hns:valsOf T.val ns=some gl) (hI:T.I k gl=some out) {η':Env}:∀ {sh:List nO} {j:Nat} {l:List AV} {us:List Value} {rest:List GV},@y8 T.tofE k ns j sh=some l→lq sh rest=true→(∀i,rest[i]? = out[j+i]?)→aN η'.ro rest us→@aj T η' l us
 | [],j,l,us,rest,h,hf,hr,hg=>by
  cases rest with
  | cons a b=>simp [lq] at hf
  | nil=>simp only [y8,Option.some.injEq] at h;subst h;simp only [aN] at hg;subst hg;simp [aj]
 | s::sh,j,l,us,rest,h,hf,hr,hg=>by
  letI:=T
  cases rest with
  | nil=>cases s<;>simp [lq] at hf
  | cons g rest=>
   simp only [y8] at h
   split at h
   ·next a r' ha hr'=>
    cases h
    simp only [aN] at hg
    obtain ⟨u,us',rfl,g1,g2⟩:=hg
    have h0:=hr 0
    simp only [List.getElem?_cons_zero,Nat.add_zero] at h0
    have hden:(Nd.call k ns j).den aB.I aB.val=some g:=by
     have agf:valsOf aB.val ns=some gl:=hns
     have hI':aB.I k gl=some out:=hI
     simp only [Nd.den,agf,hI'];exact h0.symm
    have hrest:∀i,rest[i]? = out[j+1+i]?:=fun i=>by
     have:=hr (i+1)
     rw [List.getElem?_cons_succ] at this
     rw [this];congr 1;omega
    cases s with
    | sc=>
     simp only [lq,Bool.and_eq_true] at hf
     refine ⟨u,us',rfl, ?_,NY hns hI hr' hf.2 hrest g2⟩
     obtain ⟨_,g',_,k2,k3⟩:=jl (η:=η') ha
     rw [hden] at k2;cases k2
     exact k3 u hf.1 g1
    | ag n=>
     simp only [lq,Bool.and_eq_true] at hf
     refine ⟨u,us',rfl, ?_,NY hns hI hr' hf.2 hrest g2⟩
     simp only [Hy] at ha
     split at ha
     ·next m hm=>
      obtain ⟨l',hl',rfl⟩:=Option.map_eq_some_iff.1 ha
      obtain ⟨g',k1,k2⟩:=dY hm
      rw [hden] at k2;cases k2
      obtain ⟨r'',h5,h6⟩:=FQ (η:=η') k1 n 0 hl'
      cases g with
      | g cs=>
       have hlen:=Nat.eq_of_beq_eq_true hf.1.2
       simp only [GR] at g1
       obtain ⟨vs,rfl,hvs⟩:=g1
       simp only [VR]
       refine ⟨vs,rfl,h6 vs ?_⟩
       obtain ⟨e1,e2,_⟩:=lY h5
       have hlen':cs.length=n:=hlen
       rw [e1,List.drop_zero,List.take_of_length_le (by rw [jd];show cs.length≤n;omega)]
       exact (jZ _ _).1 hvs
      | _=>simp [GV.scalar] at hf
     ·cases ha
   ·cases h
theorem ab4 {T:aB} {η:Env} {l:List AV} {us:List Value} (h:@aj T η l us):@VR T η (zI l) (tV us):=by
 letI:=T
 have hl:=h.length
 match l,us,h,hl with
 | [a],[u],h,_=>simp only [aj] at h;obtain ⟨x,xs,e,h1,h2⟩:=h;cases e;exact h1
 | [],[],h,_=>show VR η (.dG []) (.tuple ⟨[]⟩);simp only [VR];exact ⟨_,rfl,h⟩
 | a::b::l,u::u'::us,h,_=>show VR η (.dG _) (.tuple ⟨_⟩);simp only [VR];exact ⟨_,rfl,h⟩
 | [],_::_,_,hl=>simp at hl
 | [_],[],_,hl=>simp at hl
 | [_],_::_::_,_,hl=>simp at hl
 | _::_::_,[],_,hl=>simp at hl
 | _::_::_,[_],_,hl=>simp at hl
theorem ah9 {f:FuncId} {k:Nat} {st:List (Option FuncId)} {sh:List nO} (hC:∀gs out,T.I k gs=some out→aG P T.tabs f st sh gs out):@dR T P f (@bJ T.tofE P k st sh):=by
 letI:=T
 intro CQ σ rr σ' hs η w vs0 hS hv0
 unfold bJ at hs
 split at hs
 ·cases hs
 next args htk=>
 obtain ⟨vs,rfl,hv⟩:=JM htk hv0
 simp only at hs
 split at hs
 ·next hlk=>
  have uN:∀id∈uI P σ args,σ.lock≤id:=fun id hid=>Nat.le_of_ble_eq_true (List.all_eq_true.1 hlk id hid)
  split at hs
  ·next ns hns=>
   split at hs
   ·next a0 l hl=>
    cases hs
    obtain ⟨bG,f1,f2,f3⟩:=LM hS (uI P σ args) uN
    have C:oq T P T.tabs P.globals.size (P.globals.size+1) η σ w (uI P σ args) [] [] [] bG:=⟨hS,rfl,f1,f3,rfl,Nat.lt_succ_self _⟩
    obtain ⟨gl,k1,k2⟩:=PS C hns hv
    have hI:∃out,T.I k gl=some out:=by
     have hden:∀ {m g},dL (.call k ns 0)=some m→aB.val m=some g→∃out,T.I k gl=some out:=by
      intro m g hm hg
      obtain ⟨g',_,d2⟩:=dY hm
      have k1':valsOf aB.val ns=some gl:=k1
      simp only [Nd.den,k1'] at d2
      split at d2
      ·next r hr=>exact ⟨r,hr⟩
      ·cases d2
     cases sh with
     | nil=>simp [y8] at hl
     | cons s sh=>
      simp only [y8] at hl
      split at hl
      ·next a1 r1 ha1 _=>
       cases s with
       | sc=>
        simp only [Hy,iW] at ha1
        split at ha1
        ·next m hm=>obtain ⟨g,g1,_⟩:=dY hm;exact hden hm g1
        ·cases ha1
       | ag n=>
        simp only [Hy] at ha1
        split at ha1
        ·next m hm=>obtain ⟨g,g1,_⟩:=dY hm;exact hden hm g1
        ·cases ha1
      ·cases hl
    obtain ⟨out,hI⟩:=hI
    obtain ⟨hcall,hfit⟩:=hC gl out hI
    refine iZ.mono (hcall bG w vs f2.rel.Ik k2) ?_
    rintro v w' ⟨ro',hro,us,rfl,hus⟩
    have hst:=St.ahY (ro':=ro') f2.rel hro
    refine ⟨_,f2.trans hst,ab4 (NY k1 hI (η':=⟨η.pl,ro',η.gh⟩) hl hfit (fun i=>by simp) hus)⟩
   ·cases hs
  ·cases hs
 ·cases hs
def OW:List nO→List AV→Bool
 | [],[]=>true
 | .sc::l,a::m=>(match a with | .agg _=>false | _=>true)&&OW l m
 | .ag n::l,a::m=>(match a with | .agg c=>Nat.beq c.length n | _=>false)&&OW l m
 | _,_=>false
section
variable [fE]
def yj:Nat→List nO→Option (List AV)
 | _,[]=>some []
 | j,.sc::l=>match yj (j+1) l with
  | some r=>some (.nd j::r)
  | none=>none
 | j,.ag n::l=>match yC j 0 n,yj (j+1) l with
  | some c,some r=>some (.agg c::r)
  | _,_=>none
end
theorem KC {η:Env}:∀ {sh:List nO} {j:Nat} {l:List AV} {vs:List Value} {rest:List GV},@yj T.tofE j sh=some l→lq sh rest=true→(∀i g,rest[i]? = some g→T.val (j+i)=some g)→aN η.ro rest vs→@aj T η l vs
 | [],j,l,vs,rest,h,hf,hr,hg=>by
  cases rest with
  | cons a b=>simp [lq] at hf
  | nil=>simp only [yj,Option.some.injEq] at h;subst h;simp only [aN] at hg;subst hg;simp [aj]
 | s::sh,j,l,vs,rest,h,hf,hr,hg=>by
  letI:=T
  cases rest with
  | nil=>cases s<;>simp [lq] at hf
  | cons g rest=>
   simp only [aN] at hg
   obtain ⟨u,us,rfl,g1,g2⟩:=hg
   have h0:=hr 0 g (by simp)
   have hrest:∀i g,rest[i]? = some g→T.val (j+1+i)=some g:=fun i g hi=>by
    have:=hr (i+1) g (by simpa using hi)
    rw [← this];congr 1;omega
   cases s with
   | sc=>
    simp only [yj] at h
    split at h
    ·next r' hr'=>
     cases h
     simp only [lq,Bool.and_eq_true] at hf
     exact ⟨u,us,rfl,by simp only [VR];exact ⟨g,h0,hf.1,g1⟩,KC hr' hf.2 hrest g2⟩
    ·cases h
   | ag n=>
    simp only [yj] at h
    split at h
    ·next c r' hc hr'=>
     cases h
     simp only [lq,Bool.and_eq_true] at hf
     refine ⟨u,us,rfl, ?_,KC hr' hf.2 hrest g2⟩
     obtain ⟨r'',h5,h6⟩:=FQ (η:=η) h0 n 0 hc
     cases g with
     | g cs=>
      have hlen:=Nat.eq_of_beq_eq_true hf.1.2
      simp only [GR] at g1
      obtain ⟨vs,rfl,hvs⟩:=g1
      simp only [VR]
      refine ⟨vs,rfl,h6 vs ?_⟩
      obtain ⟨e1,e2,_⟩:=lY h5
      have hlen':cs.length=n:=hlen
      rw [e1,List.drop_zero,List.take_of_length_le (by rw [jd];show cs.length≤n;omega)]
      exact (jZ _ _).1 hvs
     | _=>simp [GV.scalar] at hf
    ·cases h
def Zu (P:Program) (tabs:List (Nat×List AV)) (pl:mY) (specs:List (Nat×bY)) (fuel:Nat) (st:List (Option FuncId)) (tJ xQ:List nO) (ntmps:Nat) (res:List ResultVar) (ac:AC) (ns:List Nd) (ds:List (Nat×Bool)) (lf:Leaf):Bool:=
 match lf with
 | .ret l=>match @yj ⟨ns,ds,0⟩ 0 tJ with
  | some args=>match @oG ⟨ns,ds,0⟩ (vJ P tabs ⟨ns,ds,0⟩ specs) (zA P ⟨ns,ds,0⟩ pl fuel) ac { t:=qL (oU st args) 0 .nil,n:=max (oU st args).length ntmps,gn:=P.globals.size } ⟨kM (og tabs),P.globals.size+1,0⟩ with
   | some (e,a',σ')=>(match e with | .exit _=>false | _=>true)&&match rX P σ' a' res with
    | some rs=>OW xQ rs&&match @valsN ⟨ns,ds,0⟩ P σ' (@uI ⟨ns,ds,0⟩ P σ' rs) rs with
     | some l'=>pR l l'
     | none=>false
    | none=>false
   | none=>false
  | none=>false
 | _=>false
theorem JJ (hlow:rU tabs P.globals.size) (nH:T.tabs=tabs):@rQ T ⟨kM (og tabs),P.globals.size+1,0⟩ P.globals.size:=by
 refine ⟨Nat.lt_succ_self _,fun id o ho=>?_⟩
 have hm:=Ee (show (kM (og tabs)).get id=some o from ho)
 obtain ⟨p,hp,e⟩:=List.mem_map.1 hm
 cases e
 exact ⟨p.2,rfl,by rw [nH];exact hp,hlow.low p hp⟩
theorem aG.bD {tabs:List (Nat×List AV)} (hlow:rU tabs P.globals.size) (hm:P.follows .mixedOrders=true) (hn:pY P) {pl:mY} {I:fD} (hpl:rP P tabs I pl) {specs:List (Nat×bY)} {fuel:Nat} {f:FuncId} {fn:Func} {c:Code} {pe:List Nat} {st:List (Option FuncId)} {tJ xQ:List nO} {t:Tree}
 (hf:P.funcs[f]? = some fn) (hc:fn.body=some c)
 (yO:∀k sp',bP k specs=some sp'→sp'.pre.ok=true∧∀b,(kR pe c).kC k b→∀gs out,I sp'.key gs=some out→aZ P tabs b sp'.pre sp'.posts gs out)
 (qV:t.chk (Zu P tabs pl specs fuel st tJ xQ fn.ntmps fn.results.toList (kR pe c)) (List.replicate tJ.length .arg) []=true) {gs out:List GV} (hd:(aH.fn tJ xQ t).den I gs=some out):aG P tabs f st xQ gs out:=by
 simp only [aH.den] at hd
 split at hd
 rotate_left
 ·cases hd
 next hfit=>
 split at hd
 rotate_left
 ·cases hd
 next apn hd0=>
 split at hd
 rotate_left
 ·cases hd
 next hfo=>
 cases hd
 have hd:=hd0
 have hlen:gs.length=tJ.length:=by
  clear hd hd0 qV
  induction tJ generalizing gs with
  | nil=>cases gs with | nil=>rfl | cons _ _=>simp [lq] at hfit
  | cons s sh ih=>cases gs with
   | nil=>cases s<;>simp [lq] at hfit
   | cons g gs=>cases s<;>simp only [lq,Bool.and_eq_true] at hfit<;>simp [ih hfit.2]
 obtain ⟨ns,ds,env,lf,h1,h2,⟨more,h3⟩,h4⟩:=Tree.Ag t qV (uj.start I gs _ hlen) hd
 let T:aB:=Tw tabs I 0 h2
 unfold Zu at h1
 split at h1
 ·next l=>
  split at h1
  ·next args hargs=>
   split at h1
   ·next e a' σ' hrun=>
    rw [Bool.and_eq_true] at h1
    obtain ⟨he,h1⟩:=h1
    split at h1
    ·next rs hrs=>
     rw [Bool.and_eq_true] at h1
     obtain ⟨hrf,h1⟩:=h1
     split at h1
     ·next l' hl'=>
      have hll:=NK h1
      subst hll
      have AX:∀Q:dD→aW→ah→Prop,Q e a' σ'→@AT T P c { t:=qL (oU st args) 0 .nil,n:=max (oU st args).length fn.ntmps,gn:=P.globals.size } ⟨kM (og tabs),P.globals.size+1,0⟩ Q:=by
       intro Q hq
       have:=@Kv P T (vJ P tabs ⟨ns,ds,0⟩ specs) (zA P ⟨ns,ds,0⟩ pl fuel) (OZ (T:=T) hm hn (hpl T rfl rfl) fuel) (kR pe c) (qj pe c 0).2 (fun k b hk a σ e1 a1 σ1 hs Q' hq'=>by
        unfold vJ at hs
        split at hs
        ·next sp' hsp=>
         obtain ⟨k1,k2⟩:=yO k sp' hsp
         exact Nl (T:=T) rfl hlow k1 (fun gs out hI=>k2 b hk gs out hI) hs hq'
        ·cases hs) _ _ _ _ _ hrun Q hq
       rwa [show (kR pe c).erase=c from (qj pe c 0).1] at this
      have henv:∀i g,gs[i]? = some g→T.val (0+i)=some g:=by
       intro j g hj
       show env[0+j]? = some g
       rw [h3,Nat.zero_add]
       have:=(List.getElem?_eq_some_iff.1 hj).1
       rw [List.getElem?_append_left this];exact hj
      have key:∀ro w vs,qg tabs ro w→aN ro gs vs→Calls P f ⟨oV st vs⟩ w fun en w'=>∃v,en=.returned v∧∃ro',zQ ro ro' w w'∧∃us,v=tV us∧aN ro' out us:=by
       intro ro w vs hro hvs
       letI:=T
       have hst:rQ (⟨kM (og tabs),P.globals.size+1,0⟩:ah) P.globals.size:=JJ (T:=T) hlow rfl
       have hS0:SR P (pJ P.globals.size ⟨kM (og tabs),P.globals.size+1,0⟩ ro) ⟨kM (og tabs),P.globals.size+1,0⟩ w:=
        CJ hst.1 (fun id o ho=>by
         obtain ⟨c,rfl,hmem,hle⟩:=hst.2 id o ho
         obtain ⟨cs,elem,fr,k1,k2,k3⟩:=hro.tab _ hmem
         exact ⟨hle,c,rfl,⟨cs,elem,fr,hro.at' _ _ k1,k2,k3⟩⟩) hro.at' (fun p hp=>hro.tab p hp)
       have hv0:aj (pJ P.globals.size ⟨kM (og tabs),P.globals.size+1,0⟩ ro) (oU st args) (oV st vs):=Ie (KC (T:=T) hargs hfit henv hvs)
       refine calls_of_wp hf hc ?_
       refine AX (fun e2 a2 σ2=>e2=e∧a2=a'∧σ2=σ') ⟨rfl,rfl,rfl⟩ (.shut w) ro (pJ P.globals.size ⟨kM (og tabs),P.globals.size+1,0⟩ ro) w _ _ (gZ.start hS0 hst.own) rfl (Lh hv0) ?_
       rintro e2 a2 σ2 η1 A' w' ⟨rfl,rfl,rfl⟩ hF hl0 ht
       obtain ⟨us,r1,r2⟩:=Es hF.rel ht (fun | .tmp t=>pure (A'.tmps.getD t undef) | .cell a t=>do loadVar t (← asAddr (A'.tmps.getD a undef))) (fun _=>rfl) (fun _ _=>rfl) _ _ hrs
       obtain ⟨bG,f1,f2,f3⟩:=Gm hF hl0 (@uI ⟨ns,ds,0⟩ P σ2 rs)
       have C:oq T P tabs P.globals.size (P.globals.size+1) η1 σ2 w' (@uI ⟨ns,ds,0⟩ P σ2 rs) [] [] [] bG:=⟨hF.rel,rfl,f1,f3,rfl,Nat.lt_succ_self _⟩
       obtain ⟨gl,k1,k2⟩:=PS C hl' r2
       have hgl:gl=out:=by
        have h4':valsOf (fun n=>env[n]?) l=some out:=h4
        have k1':valsOf (fun n=>env[n]?) l=some gl:=k1
        rw [k1'] at h4';cases h4';rfl
       subst hgl
       have hres':(results fn A'.tmps).run P w'=.ok (if h:(⟨us⟩:Array Value).size=1 then (⟨us⟩:Array Value)[0] else .tuple ⟨us⟩) w':=by
        unfold results
        rw [Array.mapM_eq_mapM_toList]
        simp only [Sem.run_bind,Sem.run_map]
        exact congrArg (fun r:Result (List Value)=>(r.andThen fun a w'=>Result.ok a.toArray w').andThen fun a w'=>Sem.run P (pure (if h:a.size=1 then a[0] else Value.tuple a)) w') r1
       have MQ:(if h:(⟨us⟩:Array Value).size=1 then (⟨us⟩:Array Value)[0] else .tuple ⟨us⟩)=tV us:=by
        match us with
        | []=>rfl
        | [u]=>rfl
        | u::u'::us=>rfl
       rw [MQ] at hres'
       have hpost:A'.defers=[]∧∃v,(results fn A'.tmps).run P w'=.ok v w'∧∃v',Ending.returned v=.returned v'∧(∃ro',zQ ro ro' w w'∧∃us,v'=tV us∧aN ro' gl us):=
        ⟨ht.none,_,hres',_,rfl,⟨bG,⟨hF.kept.shut,f2.nM,f2.aaS,f2.rel.gI⟩,us,rfl,k2⟩⟩
       cases e2 with
       | normal=>exact hpost
       | ret=>exact hpost
       | exit id=>simp at he
      refine ⟨fun ro w vs hro hvs=>?_, ?_⟩
      ·right
       refine ⟨?_,Calls.mono' (key ro w vs hro hvs) ?_⟩
       ·have hname:=hn f fn c hf hc
        simp only [callFunc,Sem.run_bind,program,Sem.run,Result.andThen_ok,hf]
        simp only [hname,Bool.false_eq_true,if_false,hc,Option.isNone_some,Sem.run_pure]
       ·rintro en w' ⟨v,rfl,h5⟩
        exact ⟨v,rfl,h5⟩
      ·exact hfo
     ·cases h1
    ·cases h1
   ·cases h1
  ·cases h1
 ·cases h1
end
end
end Go.aJ
namespace Go.aJ
noncomputable section
set_option linter.unusedSectionVars false
set_option linter.unusedVariables false
set_option linter.unusedSimpArgs false
variable {P:Program}
def eG.args (s:eG):List AV:=s.slots.map (·.2)
def Ce (P:Program) (tabs:List (Nat×List AV)) (s:eG) (gs:List GV) (w0:Base) (bZ:Nat→Option Obj) (vs:List Value) (w:World):Prop:=
 ∃η,@gZ (Tg tabs gs s.ka) P w0 bZ η (s.st tabs) w∧@aj (Tg tabs gs s.ka) η s.args vs
def lC (P:Program) (tabs:List (Nat×List AV)) (f:FuncId) (st:List (Option FuncId)) (pre:eG) (posts:List (dD×eG)) (gs out:List GV):Prop:=
 ∃ (t:Nat) (r rest:List GV) (e:dD) (s:eG),out=GV.i .i64 t::r∧posts[t]? = some (e,s)∧nD s.al gs r=some rest∧rest.length=s.np∧
  ∀w0 bZ w vs,Ce P tabs pre gs w0 bZ vs w→iZ P f ⟨oV st vs⟩ w fun v w'=>∃us,v=tV us∧Ce P tabs s rest w0 bZ us w'
mutual
def AV.ren (ρ f:Nat→Nat):AV→AV
 | .nd j=>.nd (f j)
 | .rx j off=>.rx (f j) off
 | .sv id j=>.sv (ρ id) (f j)
 | .p id off=>.p (ρ id) off
 | .mp id=>.mp (ρ id)
 | .fn g fi cs=>.fn g (AV.oW ρ f fi) (AV.oW ρ f cs)
 | .fO t a=>.fO t (a.ren ρ f)
 | .agg l=>.agg (AV.oW ρ f l)
 | .dG l=>.dG (AV.oW ρ f l)
 | a=>a
def AV.oW (ρ f:Nat→Nat):List AV→List AV
 | []=>[]
 | a::l=>a.ren ρ f::AV.oW ρ f l
end
mutual
def AV.okS (G:Nat):AV→Bool
 | .sv id _=>Nat.blt G id
 | .fn _ fi cs=>AV.rD G fi&&AV.rD G cs
 | .fO _ a=>a.okS G
 | .agg l=>AV.rD G l
 | .dG l=>AV.rD G l
 | .nd _ | .rx _ _ | .p _ _ | .mp _ | .b _ | .i _ _ | .s _ | .iw | .dH | .rC | .nI | .kY=>true
 | _=>false
def AV.rD (G:Nat):List AV→Bool
 | []=>true
 | a::l=>a.okS G&&AV.rD G l
end
def aX.ren (ρ f:Nat→Nat):aX→aX
 | .cells c et rw opn=>.cells (AV.oW ρ f c) et rw opn
 | .vec j et b=>.vec (f j) et b
 | .smap j kk sz=>.smap (f j) kk sz
 | o=>o
def aX.okS (G:Nat):aX→Bool
 | .cells c _ rw _=>AV.rD G c&&rw
 | .vec _ _ _=>true
 | .smap _ _ _=>true
 | _=>false
theorem OT (ρ f:Nat→Nat):∀l:List AV,AV.oW ρ f l=l.map (AV.ren ρ f)
 | []=>rfl
 | a::l=>by simp [AV.oW,OT ρ f l]
structure Cm (S T:aB) (G:Nat) (ρ f:Nat→Nat) (η η':Env):Prop where
 val:∀j g,S.val j=some g→T.val (f j)=some g
 pl:∀i q,G < i→η i=some q→η' (ρ i)=some q
 gl:∀i q,i≤G→η i=some q→∃q',η' (ρ i)=some q'∧q'.bl=q.bl∧q'.ba=q.ba
 gh:∀i,G < i→η.gh i=true→η'.gh (ρ i)=true
 ro:∀b o,η.ro b=some o→η'.ro b=some o
section
variable {S T:aB} {G:Nat} {ρ f:Nat→Nat} {η η':Env}
mutual
theorem VR.ren (h:Cm S T G ρ f η η'):∀ (a:AV) (v:Value),a.okS G=true→@VR S η a v→@VR T η' (a.ren ρ f) v
 | .b _,_,_,hv=>by simpa only [VR,AV.ren] using hv
 | .i _ _,_,_,hv=>by simpa only [VR,AV.ren] using hv
 | .s _,_,_,hv=>by simpa only [VR,AV.ren] using hv
 | .iw,_,_,hv=>by simpa only [VR,AV.ren] using hv
 | .p i off,v,_,hv=>by
  simp only [VR,AV.ren] at hv ⊢
  obtain ⟨q,hq,rfl⟩:=hv
  by_cases hi:i≤G
  ·obtain ⟨q',h1,h2,h3⟩:=h.gl i q hi hq
   exact ⟨q',h1,by rw [h2,h3]⟩
  ·exact ⟨q,h.pl i q (by omega) hq,rfl⟩
 | .dH,_,_,hv=>by simpa only [VR,AV.ren] using hv
 | .sl _ _ _ _,_,ho,_=>by simp [AV.okS] at ho
 | .kY,_,_,hv=>by simpa only [VR,AV.ren] using hv
 | .mp i,v,_,hv=>by
  simp only [VR,AV.ren] at hv ⊢
  obtain ⟨q,hq,rfl⟩:=hv
  by_cases hi:i≤G
  ·obtain ⟨q',h1,h2,h3⟩:=h.gl i q hi hq
   exact ⟨q',h1,by rw [h2]⟩
  ·exact ⟨q,h.pl i q (by omega) hq,rfl⟩
 | .rC,_,_,hv=>by simpa only [VR,AV.ren] using hv
 | .fn _ fi cs,_,ho,hv=>by
  simp only [AV.okS,Bool.and_eq_true] at ho
  simp only [VR,AV.ren] at hv ⊢
  obtain ⟨us,vs,e,h1,h2⟩:=hv
  exact ⟨us,vs,e,aj.ren h fi us ho.1 h1,aj.ren h cs vs ho.2 h2⟩
 | .nI,_,_,hv=>by simpa only [VR,AV.ren] using hv
 | .fO _ a,_,ho,hv=>by simp only [AV.okS] at ho;simp only [VR,AV.ren] at hv ⊢;obtain ⟨x,e,h1⟩:=hv;exact ⟨x,e,VR.ren h a x ho h1⟩
 | .agg l,_,ho,hv=>by simp only [AV.okS] at ho;simp only [VR,AV.ren] at hv ⊢;obtain ⟨x,e,h1⟩:=hv;exact ⟨x,e,aj.ren h l x ho h1⟩
 | .dG l,_,ho,hv=>by simp only [AV.okS] at ho;simp only [VR,AV.ren] at hv ⊢;obtain ⟨x,e,h1⟩:=hv;exact ⟨x,e,aj.ren h l x ho h1⟩
 | .z _ _ _,_,ho,_=>by simp [AV.okS] at ho
 | .ro _,_,ho,_=>by simp [AV.okS] at ho
 | .rp _ _,_,ho,_=>by simp [AV.okS] at ho
 | .nd _,_,_,hv=>by simp only [VR,AV.ren] at hv ⊢;obtain ⟨g,h1,h2,h3⟩:=hv;exact ⟨g,h.val _ _ h1,h2,GR.mono h.ro _ _ h3⟩
 | .rx _ _,_,_,hv=>by
  simp only [VR,AV.ren] at hv ⊢
  obtain ⟨g,bl,base,cs,elem,fr,x,h1,h2,h3,h4⟩:=hv
  exact ⟨g,bl,base,cs,elem,fr,x,h.val _ _ h1,h.ro _ _ h2,GR.mono h.ro _ _ h3,h4⟩
 | .sv i j,_,ho,hv=>by
  simp only [AV.okS,Nat.blt_eq] at ho
  simp only [VR,AV.ren] at hv ⊢
  obtain ⟨xs,h1,⟨q,hq,h2⟩ | ⟨hg,h2⟩⟩:=hv
  ·exact ⟨xs,h.val _ _ h1,.inl ⟨q,h.pl i q ho hq,h2⟩⟩
  ·exact ⟨xs,h.val _ _ h1,.inr ⟨h.gh i ho hg,h2⟩⟩
 | .pv _ _ _,_,ho,_=>by simp [AV.okS] at ho
 | .pd _ _,_,ho,_=>by simp [AV.okS] at ho
theorem aj.ren (h:Cm S T G ρ f η η'):∀ (l:List AV) (vs:List Value),AV.rD G l=true→@aj S η l vs→@aj T η' (AV.oW ρ f l) vs
 | [],_,_,hv=>by simpa only [aj,AV.oW] using hv
 | a::l,_,ho,hv=>by
  simp only [AV.rD,Bool.and_eq_true] at ho
  simp only [aj,AV.oW] at hv ⊢
  obtain ⟨x,xs,e,h1,h2⟩:=hv
  exact ⟨x,xs,e,VR.ren h a x ho.1 h1,aj.ren h l xs ho.2 h2⟩
end
theorem OR.ren (h:Cm S T G ρ f η η') {q:Place} {w:World} {o:aX} (ho:o.okS G=true) (r:@OR S P η q w o):@OR T P η' q w (o.ren ρ f):=by
 cases o with
 | cells c et nN opn=>
  simp only [aX.okS,Bool.and_eq_true] at ho
  obtain ⟨cs,elem,fr,h1,⟨r1,r2,r3,r4,r5,r6,r7⟩⟩:=r
  have hl:(AV.oW ρ f c).length=c.length:=by rw [OT];simp
  have hok:∀a∈c,a.okS G=true:=by
   have:∀l:List AV,AV.rD G l=true→∀a∈l,a.okS G=true:=by
    intro l
    induction l with
    | nil=>intro _ a ha;simp at ha
    | cons b l ih=>
     intro h a ha
     simp only [AV.rD,Bool.and_eq_true] at h
     rcases List.mem_cons.1 ha with rfl | ha
     ·exact h.1
     ·exact ih h.2 a ha
   exact this c ho.1
  refine ⟨cs,elem,fr,h1,@l9.mk T P η' q _ et nN opn cs elem fr r1 (by rw [hl];exact r2) (fun e=>by rw [hl];exact r3 e) (fun k a hk=>?_) r5 r6 r7⟩
  rw [OT,List.getElem?_map] at hk
  obtain ⟨a0,h2,rfl⟩:=Option.map_eq_some_iff.1 hk
  obtain ⟨x,hx,hv⟩:=r4 k a0 h2
  exact ⟨x,hx,VR.ren h a0 x (hok a0 (List.mem_of_getElem? h2)) hv⟩
 | iter s pos=>simp [aX.okS] at ho
 | map es=>simp [aX.okS] at ho
 | iterM m=>simp [aX.okS] at ho
 | smap j kk sz=>
  obtain ⟨xs,ms,clock,k1,k2,k3⟩:=r
  exact ⟨xs,ms,clock,h.val _ _ k1,k2,k3.mono h.ro⟩
 | vec j et b=>
  obtain ⟨xs,cs,elem,fr,ys,k1,k2,k3,k4,k5,k6,⟨r1,r2,r3,r4,r5,r6,r7⟩,k8⟩:=r
  exact ⟨xs,cs,elem,fr,ys,h.val _ _ k1,k2,aN.mono h.ro _ _ k3,k4,k5,k6,@l9.mk T P η' q [] et true true cs elem fr r1 r2 r3 (fun k a hk=>by simp at hk) r5 r6 r7,k8⟩
theorem Live.ren (h:Cm S T G ρ f η η') {w:World} {i:Nat} {o:aX} (hi:G < i) (ho:o.okS G=true) (r:@Live S P η w i o):@Live T P η' w (ρ i) (o.ren ρ f):=by
 rcases r with ⟨q,hq,hr⟩ | ⟨hg,n,et,b,rfl,hv⟩
 ·exact .inl ⟨q,h.pl i q hi hq,OR.ren h ho hr⟩
 ·exact .inr ⟨h.gh i hi hg,f n,et,b,rfl,h.val _ _ hv⟩
end
theorem aX.NT {G:Nat} {o:aX} (h:o.okS G=true):o.own=true:=by
 cases o<;>simp only [aX.okS,Bool.and_eq_true,Bool.false_eq_true] at h<;>simp [aX.own]
 exact h.2
def rhoC (G ka next:Nat) (r:List (Nat×Option Nat)) (i:Nat):Nat:=if i≤G then i else if i≤G+ka then (match bP i r with | some (some id)=>id | _=>0) else next+(i - (G+ka+1))
def BH (ρ f:Nat→Nat):List (Nat×aX)→Tr aX→Tr aX
 | [],h=>h
 | p::l,h=>(BH ρ f l h).set (ρ p.1) (some (p.2.ren ρ f))
def kG:List (Nat×Option Nat)→List Nat
 | []=>[]
 | p::l=>match p.2 with
  | some id=>id::kG l
  | none=>kG l
def F5 {α:Type}:List (Nat×α)→Bool
 | []=>true
 | p::l=>(match bP p.1 l with | none=>true | some _=>false)&&F5 l
def um (r:List (Nat×Option Nat)) (σ:ah):Nat→Nat→Bool
 | _,0=>true
 | i,n+1=>(match bP (i+1) r with
  | some (some id)=>(match σ.get id with | some (.cells _ _ _ _)=>true | _=>false)
  | _=>false)&&um r σ (i+1) n
def OE (s:eG):Bool:=Nat.blt (s.gn+s.ka) s.next&&AV.rD s.gn s.args&&F5 s.objs&&s.objs.all fun p=>Nat.blt s.gn p.1&&Nat.blt p.1 s.next&&p.2.okS s.gn
section
variable [fE]
def afg (P:Program) (s:eG) (l:List AV) (σ:ah):US:=JO P s.gn σ s.objs (xR P s.gn σ s.args l ⟨[],[],[]⟩)
def afh (P:Program) (s:eG) (l:List AV) (σ:ah):US:=JO P s.gn σ s.objs (xR P s.gn σ s.args l ⟨Kw s.gn s.ka,[],[]⟩)
def G9 (P:Program) (s:eG) (l:List AV) (σ:ah) (fz:List Nat) (r:List (Nat×Option Nat)) (ps:List Nat):Bool:=
 Nat.beq s.gn P.globals.size&&Nat.blt (s.gn+s.ka) s.next&&zx r&&sO P s.gn σ fz r ps s.args l&&Bf P s.gn s.next σ fz r ps s.objs
def sW (P:Program) (st:List (Option FuncId)) (sp:bY):dV:=fun CQ σ=>match tN st CQ with
 | none=>none
 | some args=>match afg P sp.pre args σ with
  | ⟨r,p,fz⟩=>match OI p 0 sp.pre.np with
   | none=>none
   | some ps=>
    if G9 P sp.pre args σ fz r ps&&(fz.all (Nat.ble σ.lock ·)&&((kG r).all (fun id=>Nat.ble σ.lock id&&!(fz.contains id))&&um r σ sp.pre.gn sp.pre.ka)) then
     match dL (.call sp.key ps 0) with
     | some tag=>match zk tag sp.posts 0 with
      | some (_,s)=>if OE s&&(Nat.beq s.ka sp.pre.ka&&Nat.beq s.gn sp.pre.gn) then match sS sp.key ps s.al 1 s.np with
       | some ns=>
        some (zI (AV.oW (rhoC s.gn s.ka σ.next r) (fun j=>ns.getD j 0) s.args),⟨BH (rhoC s.gn s.ka σ.next r) (fun j=>ns.getD j 0) s.objs (kills (kills σ fz) (kG r)).h,σ.next+(s.next - (s.gn+s.ka+1)),σ.lock⟩)
       | none=>none
       else none
      | none=>none
     | none=>none
    else none
end
theorem XP {α:Type}:∀ {l:List (Nat×α)},F5 l=true→∀ {k:Nat} {v:α},(k,v)∈l→bP k l=some v
 | [],_,k,v,h=>by simp at h
 | p::l,hd,k,v,h=>by
  simp only [F5,Bool.and_eq_true] at hd
  rcases List.mem_cons.1 h with e | h
  ·subst e;simp [bP]
  ·have h1:=XP hd.2 h
   simp only [bP]
   cases hb:Nat.beq k p.1 with
   | true=>
    have e:=Nat.eq_of_beq_eq_true hb
    have h2:=hd.1
    rw [← e,h1] at h2
    cases h2
   | false=>exact h1
theorem YR {α:Type}:∀ {l m:List (Nat×α)} {k:Nat} {v:α},bP k l=some v→bP k (l++m)=some v
 | [],m,k,v,h=>by simp [bP] at h
 | p::l,m,k,v,h=>by
  simp only [List.cons_append,bP] at h ⊢
  cases hb:Nat.beq k p.1 with
  | true=>rw [hb] at h;exact h
  | false=>rw [hb] at h;exact YR h
theorem aaC {ρ f:Nat→Nat}:∀ {l:List (Nat×aX)} {h:Tr aX} {k:Nat} {o:aX},(BH ρ f l h).get k=some o→(∃i o0,(i,o0)∈l∧ρ i=k∧o=o0.ren ρ f)∨(h.get k=some o∧∀p∈l,ρ p.1≠k)
 | [],h,k,o,hg=>.inr ⟨hg,fun p hp=>by simp at hp⟩
 | q::l,h,k,o,hg=>by
  simp only [BH,Tr.oN] at hg
  split at hg
  ·next e=>cases hg;exact .inl ⟨q.1,q.2,by simp,e.symm,rfl⟩
  ·next e=>
   rcases aaC hg with ⟨i,o0,h1,h2,h3⟩ | ⟨h1,h2⟩
   ·exact .inl ⟨i,o0,List.mem_cons_of_mem _ h1,h2,h3⟩
   ·refine .inr ⟨h1,fun p hp=>?_⟩
    rcases List.mem_cons.1 hp with rfl | hp
    ·exact fun e'=>e e'.symm
    ·exact h2 p hp
theorem Zg {r:List (Nat×Option Nat)}:∀ {i id:Nat},bP i r=some (some id)→id∈kG r:=by
 induction r with
 | nil=>intro i id h;simp [bP] at h
 | cons p l ih=>
  intro i id h
  simp only [bP] at h
  cases hb:Nat.beq i p.1 with
  | true=>
   rw [hb] at h
   simp only [cond_true,Option.some.injEq] at h
   simp only [kG,h]
   simp
  | false=>
   rw [hb] at h
   have:=ih h
   simp only [kG]
   split
   ·exact List.mem_cons_of_mem _ this
   ·exact this
theorem Ky {r:List (Nat×Option Nat)} {σ:ah}:∀ {n i:Nat},um r σ i n=true→∀j,i < j→j≤i+n→∃id c et rw opn,bP j r=some (some id)∧σ.get id=some (.cells c et rw opn)
 | 0,i,_,j,h1,h2=>by omega
 | n+1,i,h,j,h1,h2=>by
  simp only [um,Bool.and_eq_true] at h
  by_cases e:j=i+1
  ·subst e
   have h3:=h.1
   split at h3
   ·next id hid=>
    split at h3
    ·next c et rw opn hg=>exact ⟨id,c,et,rw,opn,hid,hg⟩
    ·cases h3
   ·cases h3
  ·exact Ky h.2 j (by omega) (by omega)
theorem St.ahZ {T:aB} {tabs:List (Nat×List AV)} (nH:T.tabs=tabs) {G ka:Nat} (hG:G=P.globals.size) {η η2:Env} {σ:ah} {w w':World} (h:@SR T P η σ w) {r:List (Nat×Option Nat)} (hinj:zx r=true) (hlk:∀id∈kG r,σ.lock≤id) (Mc:um r σ G ka=true)
 {s:eG} (hs:OE s=true) (hsk:s.ka=ka) (hsg:s.gn=G) {gs:List GV} {f:Nat→Nat} (hf:∀j g,gs[j]? = some g→T.val (f j)=some g)
 (hF:@gZ (Tg tabs gs s.ka) P ⟨w,fun b=>∃id o q,id∈kG r∧σ.get id=some o∧o.own=true∧η id=some q∧q.bl=b,fun i=>if G < i∧i≤G+ka then (match bP i r with | some (some id)=>η id | _=>none) else none⟩ η.ro η2 (s.st tabs) w')
 {vs:List Value} (hv:@aj (Tg tabs gs s.ka) η2 s.args vs) :
 ∃η',@St T P η σ w η' ⟨BH (rhoC s.gn s.ka σ.next r) f s.objs (kills σ (kG r)).h,σ.next+(s.next - (s.gn+s.ka+1)),σ.lock⟩ w'∧@aj T η' (AV.oW (rhoC s.gn s.ka σ.next r) f s.args) vs:=by
 obtain ⟨⟨alm,abv,alp,O5,aly,alu,alx,alz⟩,BN,alr,alv,abG,akR⟩:=hF
 letI:=T
 subst hsk;subst hsg
 unfold OE at hs
 simp only [Bool.and_eq_true,Nat.blt_eq] at hs
 obtain ⟨⟨⟨p1,p2⟩,p3⟩,p4⟩:=hs
 have zf:∀i o,(i,o)∈s.objs→s.gn < i∧i < s.next∧o.okS s.gn=true:=by
  intro i o hm
  have:=List.all_eq_true.1 p4 _ hm
  simp only [Bool.and_eq_true,Nat.blt_eq] at this
  exact ⟨this.1.1,this.1.2,this.2⟩
 have Ez:∀i o,(i,o)∈s.objs→(s.st tabs).get i=some o:=by
  intro i o hm
  show (kM (s.objs++og tabs)).get i=some o
  rw [yZ]
  exact YR (XP p3 hm)
 let B:Nat:=s.gn+s.ka+1
 let η':Env:=⟨fun id=>if id < σ.next then η id else η2 (id - σ.next+B),η2.ro,fun id=>if id < σ.next then η.gh id else η2.gh (id - σ.next+B)⟩
 have ML:∀b o,η.ro b=some o→η2.ro b=some o:=alv
 have hext:η.le η':=by
  refine ⟨fun id q hq=>?_,ML,fun id hg=>?_⟩
  ·show (if id < σ.next then η id else _)=some q
   rw [if_pos (h.dom id q hq)];exact hq
  ·show (if id < σ.next then η.gh id else _)=true
   rw [if_pos (h.iF id hg).2];exact hg
 have lS:∀i,s.gn < i→i≤s.gn+s.ka→∃id q,bP i r=some (some id)∧η id=some q∧η2 i=some q∧id < σ.next∧(∃o,σ.get id=some o):=by
  intro i h1 h2
  obtain ⟨id,c,et,nN,opn,g1,g2⟩:=Ky Mc i h1 h2
  obtain ⟨q,hq,_⟩:=h.obj _ _ g2 rfl
  have:=(akR i q (by show (if s.gn < i∧i≤s.gn+s.ka then _ else _)=_;rw [if_pos ⟨h1,h2⟩,g1];exact hq)).1
  exact ⟨id,q,g1,hq,this,h.dom id q hq,_,g2⟩
 have BK:∀i id,s.gn < i→i≤s.gn+s.ka→bP i r=some (some id)→rhoC s.gn s.ka σ.next r i=id:=by
  intro i id h1 h2 h3
  unfold rhoC
  rw [if_neg (by omega),if_pos h2,h3]
 have zy:∀i,s.gn+s.ka < i→rhoC s.gn s.ka σ.next r i=σ.next+(i - B):=by
  intro i h1
  unfold rhoC
  rw [if_neg (by omega),if_neg (by omega)]
 have zl:∀i,s.gn+s.ka < i→η' (σ.next+(i - B))=η2 i∧η'.gh (σ.next+(i - B))=η2.gh i:=by
  intro i h1
  have e:σ.next+(i - B) - σ.next+B=i:=by show σ.next+(i - (s.gn+s.ka+1)) - σ.next+(s.gn+s.ka+1)=i;omega
  constructor
  ·show (if σ.next+(i - B) < σ.next then _ else η2 (σ.next+(i - B) - σ.next+B))=_
   rw [if_neg (by omega),e]
  ·show (if σ.next+(i - B) < σ.next then _ else η2.gh (σ.next+(i - B) - σ.next+B))=_
   rw [if_neg (by omega),e]
 have Zb:Cm (Tg tabs gs s.ka) T s.gn (rhoC s.gn s.ka σ.next r) f η2 η':=by
  refine ⟨hf,fun i q hi hq=>?_,fun i q hi hq=>?_,fun i hi hg=>?_,fun _ _ h=>h⟩
  ·by_cases hk:i≤s.gn+s.ka
   ·obtain ⟨id,q',g1,g2,g3,g4,_⟩:=lS i hi hk
    rw [BK i id hi hk g1]
    rw [hq] at g3;cases g3
    exact hext.pl _ _ g2
   ·rw [zy i (by omega),(zl i (by omega)).1];exact hq
  ·obtain ⟨sz,es,e1⟩:=alm i (by omega)
   rw [hq] at e1;cases e1
   obtain ⟨sz',es',e2⟩:=h.jW i (by omega)
   refine ⟨⟨i,0,sz',es'⟩, ?_,rfl,rfl⟩
   show η' (rhoC s.gn s.ka σ.next r i)=_
   unfold rhoC
   rw [if_pos hi]
   exact hext.pl _ _ e2
  ·by_cases hk:i≤s.gn+s.ka
   ·obtain ⟨id,q',g1,g2,g3,_⟩:=lS i hi hk
    rw [(O5 i hg).1] at g3;cases g3
   ·rw [zy i (by omega),(zl i (by omega)).2];exact hg
 have old:∀id o,(kills σ (kG r)).get id=some o→id∉kG r∧σ.get id=some o:=by
  intro id o hg
  rw [uP] at hg
  split at hg
  ·cases hg
  ·next hm=>exact ⟨hm,hg⟩
 have Hu:∀id o q,id∉kG r→σ.get id=some o→η id=some q→∀cO o0 q0,cO∈kG r→σ.get cO=some o0→o0.own=true→η cO=some q0→q0.bl≠q.bl:=by
  intro id o q hm hg hq cO o0 q0 hm0 hg0 ho0 hq0
  exact h.sep cO o0 id o q0 q hg0 ho0 hg (fun e=>hm (e ▸ hm0)) hq0 hq
 have agN:∀id o q,id∉kG r→σ.get id=some o→η id=some q→q.bl < w.heap.size→w'.heap[q.bl]? = w.heap[q.bl]?:=by
  intro id o q hm hg hq hlt
  refine BN.keep q.bl hlt ?_
  rintro ⟨cO,o0,q0,a1,a2,a3,a4,a5⟩
  exact Hu id o q hm hg hq cO o0 q0 a1 a2 a3 a4 a5
 have obj:∀k o,(BH (rhoC s.gn s.ka σ.next r) f s.objs (kills σ (kG r)).h).get k=some o→(∃i o0,(i,o0)∈s.objs∧rhoC s.gn s.ka σ.next r i=k∧o=o0.ren (rhoC s.gn s.ka σ.next r) f)∨(k∉kG r∧σ.get k=some o∧∀p∈s.objs,rhoC s.gn s.ka σ.next r p.1≠k):=by
  intro k o hk
  rcases aaC hk with h1 | ⟨h1,h2⟩
  ·exact .inl h1
  ·obtain ⟨h3,h4⟩:=old k o h1
   exact .inr ⟨h3,h4,h2⟩
 have BF:∀k o q,σ.get k=some o→η' k=some q→η k=some q:=by
  intro k o q hg hq
  have hlt:k < σ.next:=h.hasLt (h.DT hg)
  have hq':(if k < σ.next then η k else _)=some q:=hq
  rw [if_pos hlt] at hq';exact hq'
 have plNew:∀i o q,(i,o)∈s.objs→η' (rhoC s.gn s.ka σ.next r i)=some q→η2 i=some q:=by
  intro i o q hm hq
  obtain ⟨g1,g2,g3⟩:=zf i o hm
  by_cases hk:i≤s.gn+s.ka
  ·obtain ⟨id,q',a1,a2,a3,a4,_⟩:=lS i g1 hk
   rw [BK i id g1 hk a1] at hq
   have:=hext.pl _ _ a2
   rw [hq] at this;cases this
   exact a3
  ·rw [zy i (by omega),(zl i (by omega)).1] at hq;exact hq
 have apt:∀i j oi oj,(i,oi)∈s.objs→(j,oj)∈s.objs→rhoC s.gn s.ka σ.next r i=rhoC s.gn s.ka σ.next r j→i=j:=by
  intro i j oi oj hi hj e
  obtain ⟨g1,g2,_⟩:=zf i oi hi
  obtain ⟨k1,k2,_⟩:=zf j oj hj
  by_cases c1:i≤s.gn+s.ka<;>by_cases c2:j≤s.gn+s.ka
  ·obtain ⟨id,_,a1,_,_,_,_⟩:=lS i g1 c1
   obtain ⟨id',_,b1,_,_,_,_⟩:=lS j k1 c2
   rw [BK i id g1 c1 a1,BK j id' k1 c2 b1] at e
   subst e
   exact OM hinj i j id a1 b1
  ·obtain ⟨id,_,a1,_,_,a4,_⟩:=lS i g1 c1
   rw [BK i id g1 c1 a1,zy j (by omega)] at e
   omega
  ·obtain ⟨id,_,a1,_,_,a4,_⟩:=lS j k1 c2
   rw [BK j id k1 c2 a1,zy i (by omega)] at e
   omega
  ·rw [zy i (by omega),zy j (by omega)] at e
   have hB:B=s.gn+s.ka+1:=rfl
   omega
 have NZ:∀i o q,(i,o)∈s.objs→η2 i=some q→w.heap.size≤q.bl∨∃id o0 q0,id∈kG r∧σ.get id=some o0∧o0.own=true∧η id=some q0∧q0.bl=q.bl:=by
  intro i o q hm hq
  exact alr i o q (Ez i o hm) (aX.NT (zf i o hm).2.2) hq
 have hlt:∀k o q,σ.get k=some o→η k=some q→q.bl < w.heap.size:=fun k o q hg hq=>(h.at hg hq).lt
 refine ⟨η',⟨hext,⟨?_, ?_, ?_, ?_, ?_,alu, ?_, ?_⟩,BN.size, ?_, ?_,BN.os,BN.tape,BN.output,rfl,Nat.le_add_right _ _, ?_, ?_⟩,aj.ren Zb _ _ p2 hv⟩
 ·intro g hg
  obtain ⟨sz,es,e⟩:=h.jW g hg
  exact ⟨sz,es,hext.pl _ _ e⟩
 ·intro id q hq
  show id < σ.next+(s.next - (s.gn+s.ka+1))
  by_cases hl:id < σ.next
  ·omega
  ·have hq':(if id < σ.next then η id else η2 (id - σ.next+B))=some q:=hq
   rw [if_neg hl] at hq'
   have:=abv _ _ hq'
   have:id - σ.next+(s.gn+s.ka+1) < s.next:=this
   omega
 ·intro k o hk
  rcases obj k o hk with ⟨i,o0,h1,rfl,rfl⟩ | ⟨h1,h2,_⟩
  ·obtain ⟨g1,g2,g3⟩:=zf i o0 h1
   exact Live.ren Zb g1 g3 (alp i o0 (Ez i o0 h1))
  ·refine ((h.live k o h2).heap fun q hq hor=>?_).mono hext
   exact agN k o q h1 h2 hq hor.lt
 ·intro id hg
  have hg':(if id < σ.next then η.gh id else η2.gh (id - σ.next+B))=true:=hg
  show (if id < σ.next then η id else η2 (id - σ.next+B))=none∧id < σ.next+(s.next - (s.gn+s.ka+1))
  by_cases hl:id < σ.next
  ·rw [if_pos hl] at hg' ⊢
   exact ⟨(h.iF id hg').1,by omega⟩
  ·rw [if_neg hl] at hg' ⊢
   obtain ⟨a1,a2⟩:=O5 _ hg'
   have a2':id - σ.next+(s.gn+s.ka+1) < s.next:=a2
   exact ⟨a1,by omega⟩
 ·intro k o k' o' q q' a1 a2 a3 a4 a5 a6
  rcases obj k o a1 with ⟨i,o0,h1,rfl,rfl⟩ | ⟨h1,h2,_⟩<;>rcases obj k' o' a3 with ⟨j,Ed,k1,rfl,rfl⟩ | ⟨k1,k2,_⟩
  ·have b1:=plNew i o0 q h1 a5
   have b2:=plNew j Ed q' k1 a6
   exact aly i o0 j Ed q q' (Ez i o0 h1) (aX.NT (zf i o0 h1).2.2) (Ez j Ed k1) (fun e=>a4 (by rw [e])) b1 b2
  ·have b1:=plNew i o0 q h1 a5
   have b2:=BF k' o' q' k2 a6
   rcases NZ i o0 q h1 b1 with c1 | ⟨id,o1,q1,c1,c2,c3,c4,c5⟩
   ·have:=hlt k' o' q' k2 b2
    omega
   ·rw [← c5]
    exact Hu k' o' q' k1 k2 b2 id o1 q1 c1 c2 c3 c4
  ·have b1:=BF k o q h2 a5
   have b2:=plNew j Ed q' k1 a6
   rcases NZ j Ed q' k1 b2 with c1 | ⟨id,o1,q1,c1,c2,c3,c4,c5⟩
   ·have:=hlt k o q h2 b1
    omega
   ·rw [← c5]
    exact fun e=>Hu k o q h1 h2 b1 id o1 q1 c1 c2 c3 c4 e.symm
  ·exact h.sep k o k' o' q q' h2 a2 k2 a4 (BF k o q h2 a5) (BF k' o' q' k2 a6)
 ·intro k o q a1 a2 a3
  rcases obj k o a1 with ⟨i,o0,h1,rfl,rfl⟩ | ⟨h1,h2,_⟩
  ·exact alx i o0 q (Ez i o0 h1) (aX.NT (zf i o0 h1).2.2) (plNew i o0 q h1 a3)
  ·have b1:=BF k o q h2 a3
   show η2.ro q.bl=none
   cases hro:η2.ro q.bl with
   | none=>rfl
   | some x=>
    rcases abG q.bl (by rw [hro];simp) with c1 | c1 | ⟨id,o1,q1,c1,c2,c3,c4,c5⟩
    ·exact absurd (h.jT k o q h2 a2 b1) c1
    ·have:=hlt k o q h2 b1
     have c1':w.heap.size≤q.bl:=c1
     omega
    ·exact absurd c5 (Hu k o q h1 h2 b1 id o1 q1 c1 c2 c3 c4)
 ·intro p hp
  have hp':p∈tabs:=by rw [← nH];exact hp
  obtain ⟨cs,elem,fr,e1,e2⟩:=alz p hp'
  exact ⟨cs,elem,fr,e1,e2⟩
 ·intro bl hbl hno
  refine BN.keep bl hbl ?_
  rintro ⟨id,o,q,a1,a2,a3,a4,a5⟩
  exact hno id o q a2 a3 (hlk id a1) a4 a5
 ·intro k o q a1 a2 a3 a4
  rcases obj k o a1 with ⟨i,o0,h1,rfl,rfl⟩ | ⟨h1,h2,_⟩
  ·rcases NZ i o0 q h1 (plNew i o0 q h1 a4) with c1 | ⟨id,o1,q1,c1,c2,c3,c4,c5⟩
   ·exact .inl c1
   ·exact .inr ⟨id,o1,q1,c2,c3,hlk id c1,c4,c5⟩
  ·exact .inr ⟨k,o,q,h2,a2,a3,BF k o q h2 a4,rfl⟩
 ·intro id hh
  by_cases hl:id < σ.next
  ·left
   rcases hh with ⟨q,hq⟩ | hg
   ·have hq':(if id < σ.next then η id else _)=some q:=hq
    rw [if_pos hl] at hq'
    exact .inl ⟨q,hq'⟩
   ·have hg':(if id < σ.next then η.gh id else _)=true:=hg
    rw [if_pos hl] at hg'
    exact .inr hg'
  ·right
   refine ⟨by omega, ?_⟩
   show id < σ.next+(s.next - (s.gn+s.ka+1))
   rcases hh with ⟨q,hq⟩ | hg
   ·have hq':(if id < σ.next then η id else η2 (id - σ.next+B))=some q:=hq
    rw [if_neg hl] at hq'
    have:id - σ.next+(s.gn+s.ka+1) < s.next:=abv _ _ hq'
    omega
   ·have hg':(if id < σ.next then η.gh id else η2.gh (id - σ.next+B))=true:=hg
    rw [if_neg hl] at hg'
    have:id - σ.next+(s.gn+s.ka+1) < s.next:=(O5 _ hg').2
    omega
 ·intro b hb
  rcases abG b hb with c1 | c1 | ⟨id,o1,q1,c1,c2,c3,c4,c5⟩
  ·exact .inl c1
  ·exact .inr (.inl c1)
  ·exact .inr (.inr ⟨id,o1,q1,c2,c3,hlk id c1,c4,c5⟩)
theorem wU {T:aB} (hlow:rU T.tabs P.globals.size) {f:FuncId} {st:List (Option FuncId)} {sp:bY} (hok:sp.pre.ok=true) (hC:∀gs out,T.I sp.key gs=some out→lC P T.tabs f st sp.pre sp.posts gs out):@dR T P f (@sW T.tofE P st sp):=by
 letI:=T
 intro CQ σ rr σ' hs η w vs0 hS hv0
 unfold sW at hs
 split at hs
 ·cases hs
 next args htk=>
 obtain ⟨vs,rfl,hv⟩:=JM htk hv0
 split at hs
 next r p fz hfit=>
 split at hs
 ·cases hs
 next ps hps=>
 split at hs
 rotate_left
 ·cases hs
 next hm=>
 split at hs
 rotate_left
 ·cases hs
 next tag htag=>
 split at hs
 rotate_left
 ·cases hs
 next e s hpick=>
 split at hs
 rotate_left
 ·cases hs
 next hpost=>
 split at hs
 rotate_left
 ·cases hs
 next ns hns=>
 cases hs
 rw [Bool.and_eq_true,Bool.and_eq_true,Bool.and_eq_true] at hm
 obtain ⟨hm,hm1,hm2,Za⟩:=hm
 unfold G9 at hm
 simp only [Bool.and_eq_true,Nat.blt_eq] at hm
 obtain ⟨⟨⟨⟨m1,m2⟩,m3⟩,m4⟩,m5⟩:=hm
 have m1:=Nat.eq_of_beq_eq_true m1
 rw [Bool.and_eq_true,Bool.and_eq_true] at hpost
 obtain ⟨q1,q2,q3⟩:=hpost
 have q2:=Nat.eq_of_beq_eq_true q2
 have q3:=Nat.eq_of_beq_eq_true q3
 unfold eG.ok at hok
 rw [Bool.and_eq_true,Bool.and_eq_true] at hok
 obtain ⟨⟨_,hbs⟩,yL⟩:=hok
 have hbs:AV.kP sp.pre.next sp.pre.args=true:=by
  have:∀l:List (Nat×AV),vW sp.pre.next l=true→AV.kP sp.pre.next (l.map (·.2))=true:=by
   intro l
   induction l with
   | nil=>intro _;rfl
   | cons a l ih=>intro h;simp only [vW,Bool.and_eq_true] at h;simp only [List.map_cons,AV.kP,Bool.and_eq_true];exact ⟨h.1,ih h.2⟩
  exact this _ hbs
 have agb:∀id∈fz,σ.lock≤id:=fun id hid=>Nat.le_of_ble_eq_true (List.all_eq_true.1 hm1 id hid)
 have hlk2:∀id∈kG r,σ.lock≤id:=fun id hid=>by
  have:=List.all_eq_true.1 hm2 id hid
  rw [Bool.and_eq_true] at this
  exact Nat.le_of_ble_eq_true this.1
 have agc:∀id∈kG r,id∉fz:=fun id hid hm=>by
  have:=List.all_eq_true.1 hm2 id hid
  rw [Bool.and_eq_true,List.contains_iff_mem.2 hm] at this
  simp at this
 obtain ⟨bG,f1,f2,f3⟩:=LM hS fz agb
 obtain ⟨gt,t1,t2⟩:=dY htag
 simp only [Nd.den] at t2
 split at t2
 rotate_left
 ·cases t2
 next gs hgs=>
 split at t2
 rotate_left
 ·cases t2
 next out hI=>
 obtain ⟨t,r0,rest,e2,s2,rfl,hp2,hex,hrl,hrun⟩:=hC gs out hI
 simp only [List.getElem?_cons_zero,Option.some.injEq] at t2
 subst t2
 have hpe:=Oc t1 sp.posts 0 hpick (Nat.zero_le _) (e2,s2) (by simpa using hp2)
 cases hpe
 obtain ⟨n1,n2⟩:=Eh hgs hI _ 1 s.al (r:=r0) (fun k=>by rw [Nat.add_comm,List.getElem?_cons_succ]) hex hns
 have hval:∀j g,rest[j]? = some g→T.val (ns.getD j 0)=some g:=by
  intro j g hj
  have hjl:j < ns.length:=by have:=(List.getElem?_eq_some_iff.1 hj).1;omega
  have hm:ns[j]? = some (ns.getD j 0):=by rw [List.getD_eq_getElem?_getD,List.getElem?_eq_getElem hjl];rfl
  rw [n2 j _ hm];exact hj
 have C:oq T P T.tabs sp.pre.gn sp.pre.next η σ w fz r ps gs bG:=⟨hS,hgs,f1,f3,m1,by omega⟩
 obtain ⟨hR,hown⟩:=NG (ka:=sp.pre.ka) rfl hlow yL (by omega) m1 C f2.rel.gI (fun id o q b2 b3 b4 b5=>f2.rel.jT id o q (by rw [uP,if_neg b2];exact b3) b4 b5) m3 m5
 let σ1:ah:=kills σ fz
 let η1:Env:=⟨η.pl,bG,η.gh⟩
 let w0:Base:=⟨w,fun b=>∃id o q,id∈kG r∧σ1.get id=some o∧o.own=true∧η1 id=some q∧q.bl=b,fun i=>if sp.pre.gn < i∧i≤sp.pre.gn+sp.pre.ka then (match bP i r with | some (some id)=>η1 id | _=>none) else none⟩
 have hF:@gZ (Tg T.tabs gs sp.pre.ka) P w0 bG (mJ T.tabs sp.pre.gn sp.pre.next r η bG) (sp.pre.st T.tabs) w:=by
  refine @gZ.mk (Tg T.tabs gs sp.pre.ka) P w0 bG _ _ w hR ⟨rfl,rfl,rfl,Nat.le_refl _,fun _ _ _=>rfl⟩ ?_ (fun _ _ h=>h) (fun _ h=>.inl h) ?_
  ·intro i o q a1 a2 a3
   obtain ⟨id,o',b1,b2,b3,b4,b5⟩:=hown i o q a1 a2 a3
   exact .inr ⟨id,o',q,Zg b1,by show (kills σ fz).get id=_;rw [uP,if_neg b2];exact b3,b4,b5,rfl⟩
  ·intro i q hi
   have hi':(if sp.pre.gn < i∧i≤sp.pre.gn+sp.pre.ka then (match bP i r with | some (some id)=>η1 id | _=>none) else none)=some q:=hi
   split at hi'
   ·next hr=>
    split at hi'
    ·next id hid=>
     refine ⟨?_,by omega,by show i≤P.globals.size+sp.pre.ka;omega⟩
     rw [yU hr.1 (by omega) hid];exact hi'
    ·cases hi'
   ·cases hi'
 have hvs:=wQ (ka:=sp.pre.ka) C _ _ _ hbs m4 hv
 refine iZ.mono (hrun w0 bG w vs ⟨_,hF,hvs⟩) ?_
 rintro v w' ⟨us,rfl,η2,hF2,hv2⟩
 have afT:um r σ1 sp.pre.gn sp.pre.ka=true:=by
  have:∀n i,(∀j,i < j→j≤i+n→∃id,bP j r=some (some id)∧id∉fz)→um r σ i n=true→um r σ1 i n=true:=by
   intro n
   induction n with
   | zero=>intro i _ _;rfl
   | succ n ih=>
    intro i hnf h
    simp only [um,Bool.and_eq_true] at h ⊢
    obtain ⟨id,h1,h2⟩:=hnf (i+1) (by omega) (by omega)
    refine ⟨?_,ih (i+1) (fun j a b=>hnf j (by omega) (by omega)) h.2⟩
    have h3:=h.1
    rw [h1] at h3 ⊢
    simp only at h3 ⊢
    show (match (kills σ fz).get id with | some (.cells _ _ _ _)=>true | _=>false)=true
    rw [uP,if_neg h2];exact h3
  refine this _ _ (fun j a b=>?_) Za
  obtain ⟨id,c,et,nN,opn,g1,g2⟩:=Ky Za j a b
  exact ⟨id,g1,agc id (Zg g1)⟩
 obtain ⟨η',hst,Ze⟩:=St.ahZ (T:=T) (tabs:=T.tabs) (G:=sp.pre.gn) (ka:=sp.pre.ka) rfl m1 f2.rel m3 (by rw [Bc];exact hlk2) afT q1 q2 q3 hval hF2 hv2
 have hst':=f2.trans hst
 rw [Nh,Bc] at hst'
 rw [Nh] at Ze
 exact ⟨η',hst',ab4 Ze⟩
def Zv (P:Program) (tabs:List (Nat×List AV)) (pl:mY) (specs:List (Nat×bY)) (fuel:Nat) (st:List (Option FuncId)) (sp:bY) (ntmps:Nat) (res:List ResultVar) (ac:AC) (ns:List Nd) (ds:List (Nat×Bool)) (lf:Leaf):Bool:=
 match lf with
 | .ret (tn::l)=>match @oG ⟨ns,ds,sp.pre.ka⟩ (vJ P tabs ⟨ns,ds,sp.pre.ka⟩ specs) (zA P ⟨ns,ds,sp.pre.ka⟩ pl fuel) ac { t:=qL (oU st (AV.kX (fun j=>j) sp.pre.args)) 0 .nil,n:=max (oU st (AV.kX (fun j=>j) sp.pre.args)).length ntmps,gn:=P.globals.size } (sp.pre.vI tabs fun j=>j) with
  | some (e,a',σ')=>(match e with | .exit _=>false | _=>true)&&match rX P σ' a' res with
   | some rs=>match ns[tn]? with
    | some (.ci .i64 t)=>match sp.posts[t.toNat]? with
     | some (_,s)=>decide (0≤t)&&(s.ok&&(Nat.beq s.ka sp.pre.ka&&(match uF sp.pre.np s.al l with
      | some l2=>Nat.beq l2.length s.np&&(match @afh ⟨ns,ds,sp.pre.ka⟩ P s rs σ' with
       | ⟨r,_,fz⟩=>CP r s.gn s.ka&&@G9 ⟨ns,ds,sp.pre.ka⟩ P s rs σ' fz r l2)
      | none=>false)))
     | none=>false
    | _=>false
   | none=>false
  | none=>false
 | _=>false
theorem lC.bD {tabs:List (Nat×List AV)} (hlow:rU tabs P.globals.size) (hm:P.follows .mixedOrders=true) (hn:pY P) {pl:mY} {I:fD} (hpl:rP P tabs I pl) {specs:List (Nat×bY)} {fuel:Nat} {f:FuncId} {fn:Func} {c:Code} {pe:List Nat} {st:List (Option FuncId)} {sp:bY} {n:Nat} (hnp:n=sp.pre.np) {t:Tree}
 (hf:P.funcs[f]? = some fn) (hc:fn.body=some c)
 (yO:∀k sp',bP k specs=some sp'→sp'.pre.ok=true∧∀b,(kR pe c).kC k b→∀gs out,I sp'.key gs=some out→aZ P tabs b sp'.pre sp'.posts gs out)
 (qV:t.chk (Zv P tabs pl specs fuel st sp fn.ntmps fn.results.toList (kR pe c)) (List.replicate sp.pre.np .arg) []=true) {gs out:List GV} (hd:(aH.tree n t).den I gs=some out):lC P tabs f st sp.pre sp.posts gs out:=by
 simp only [aH.den] at hd
 split at hd
 rotate_left
 ·cases hd
 next hlen=>
 subst hnp
 obtain ⟨ns,ds,env,lf,h1,h2,⟨more,h3⟩,h4⟩:=Tree.Ag t qV (uj.start I gs _ hlen) hd
 let T:aB:=Tw tabs I sp.pre.ka h2
 unfold Zv at h1
 split at h1
 rotate_left
 ·cases h1
 next tn l=>
 split at h1
 rotate_left
 ·cases h1
 next e a' σ' hrun=>
 rw [Bool.and_eq_true] at h1
 obtain ⟨he,h1⟩:=h1
 split at h1
 rotate_left
 ·cases h1
 next rs hrs=>
 split at h1
 rotate_left
 ·cases h1
 next tt htn=>
 split at h1
 rotate_left
 ·cases h1
 next e' s hpost=>
 rw [Bool.and_eq_true,Bool.and_eq_true,Bool.and_eq_true,decide_eq_true_iff] at h1
 obtain ⟨c1,c2,c3,h1⟩:=h1
 split at h1
 rotate_left
 ·cases h1
 next l2 hl2=>
 rw [Bool.and_eq_true] at h1
 obtain ⟨c4,h1⟩:=h1
 have c3:=Nat.eq_of_beq_eq_true c3
 have c4:=Nat.eq_of_beq_eq_true c4
 split at h1
 next r pp fz hfit=>
 rw [Bool.and_eq_true] at h1
 obtain ⟨c5,c6⟩:=h1
 unfold G9 at c6
 simp only [Bool.and_eq_true,Nat.blt_eq] at c6
 obtain ⟨⟨⟨⟨m1,m2⟩,m3⟩,m4⟩,m5⟩:=c6
 have m1:=Nat.eq_of_beq_eq_true m1
 have h4':valsOf (fun n=>env[n]?) (tn::l)=some out:=h4
 simp only [valsOf] at h4'
 split at h4'
 rotate_left
 ·cases h4'
 next g r0 hg hr0=>
 cases h4'
 obtain ⟨rest,hrest,hex⟩:=F9 h3 hlen hl2 hr0
 obtain ⟨g',k1,k2⟩:=h2.node tn _ htn (by simp)
 have hg':env[tn]? = some g:=hg
 rw [hg'] at k1;cases k1
 simp only [Nd.den,Option.some.injEq] at k2
 subst k2
 unfold eG.ok at c2
 rw [Bool.and_eq_true,Bool.and_eq_true] at c2
 obtain ⟨⟨_,hbs⟩,yL⟩:=c2
 have hbs:AV.kP s.next s.args=true:=by
  have:∀l:List (Nat×AV),vW s.next l=true→AV.kP s.next (l.map (·.2))=true:=by
   intro l
   induction l with
   | nil=>intro _;rfl
   | cons a l ih=>intro h;simp only [vW,Bool.and_eq_true] at h;simp only [List.map_cons,AV.kP,Bool.and_eq_true];exact ⟨h.1,ih h.2⟩
  exact this _ hbs
 refine ⟨tt.toNat,r0,rest,e',s,by rw [Int.toNat_of_nonneg c1],hpost,hex,by rw [← c4];exact PU hrest,fun w0 bZ w vs hA=>?_⟩
 have AX:∀Q:dD→aW→ah→Prop,Q e a' σ'→@AT T P c { t:=qL (oU st (AV.kX (fun j=>j) sp.pre.args)) 0 .nil,n:=max (oU st (AV.kX (fun j=>j) sp.pre.args)).length fn.ntmps,gn:=P.globals.size } (sp.pre.vI tabs fun j=>j) Q:=by
  intro Q hq
  have:=@Kv P T (vJ P tabs ⟨ns,ds,sp.pre.ka⟩ specs) (zA P ⟨ns,ds,sp.pre.ka⟩ pl fuel) (OZ (T:=T) hm hn (hpl T rfl rfl) fuel) (kR pe c) (qj pe c 0).2 (fun k b hk a σ e1 a1 σ1 hs Q' hq'=>by
   unfold vJ at hs
   split at hs
   ·next sp' hsp=>
    obtain ⟨k1,k2⟩:=yO k sp' hsp
    exact Nl (T:=T) rfl hlow k1 (fun gs out hI=>k2 b hk gs out hI) hs hq'
   ·cases hs) _ _ _ _ _ hrun Q hq
  rwa [show (kR pe c).erase=c from (qj pe c 0).1] at this
 have henv:∀j g,gs[j]? = some g→T.val ((fun j=>j) j)=some g:=by
  intro j g hj
  show env[j]? = some g
  rw [h3]
  have:=(List.getElem?_eq_some_iff.1 hj).1
  rw [List.getElem?_append_left this];exact hj
 obtain ⟨η,hF0,hv0⟩:=hA
 have hF1:=YK (T:=T) (f:=fun j=>j) rfl rfl henv hF0
 have hv1:@aj T η (AV.kX (fun j=>j) sp.pre.args) vs:=aj.dn (S:=Tg tabs gs sp.pre.ka) (T:=T) henv _ _ hv0
 have key:Calls P f ⟨oV st vs⟩ w fun en w'=>∃v,en=.returned v∧∃us,v=tV us∧Ce P tabs s rest w0 bZ us w':=by
  letI:=T
  have hv2:aj η (oU st (AV.kX (fun j=>j) sp.pre.args)) (oV st vs):=Ie hv1
  refine calls_of_wp hf hc ?_
  refine AX (fun e2 a2 σ2=>e2=e∧a2=a'∧σ2=σ') ⟨rfl,rfl,rfl⟩ w0 bZ η w _ _ hF1 rfl (Lh hv2) ?_
  rintro e2 a2 σ2 η1 A' w' ⟨rfl,rfl,rfl⟩ hF hl0 ht
  obtain ⟨us,r1,r2⟩:=Es hF.rel ht (fun | .tmp t=>pure (A'.tmps.getD t undef) | .cell a t=>do loadVar t (← asAddr (A'.tmps.getD a undef))) (fun _=>rfl) (fun _ _=>rfl) _ _ hrs
  obtain ⟨bG,f1,f2,f3⟩:=Gm hF hl0 fz
  have C:oq T P tabs s.gn s.next η1 σ2 w' fz r l2 rest bG:=⟨hF.rel,hrest,f1,f3,m1,by omega⟩
  obtain ⟨hR,hown⟩:=NG (ka:=s.ka) (T:=T) rfl hlow yL (by omega) m1 C f2.rel.gI (fun id o q b2 b3 b4 b5=>f2.rel.jT id o q (by rw [uP,if_neg b2];exact b3) b4 b5) m3 m5
  have hvs:=wQ (ka:=s.ka) C _ _ _ hbs m4 r2
  have hA':Ce P tabs s rest w0 bZ us w':=by
   refine ⟨_,@gZ.mk (Tg tabs rest s.ka) P w0 bZ _ _ w' hR hF.kept ?_ f2.nM f2.lM ?_,hvs⟩
   ·intro i o q a1 a2 a3
    obtain ⟨id,u,b1,b2,b3,b4,b5⟩:=hown i o q a1 a2 a3
    exact hF.own id u q b3 b4 b5
   ·intro i q hi
    obtain ⟨a1,a2,a3⟩:=hF.lS i q hi
    have a3':i≤P.globals.size+s.ka:=by rw [c3];exact a3
    refine ⟨?_,a2,a3'⟩
    rw [yU (by omega) (by omega) (Kz c5 i (by omega) (by omega))]
    exact a1
  have hres':(results fn A'.tmps).run P w'=.ok (if h:(⟨us⟩:Array Value).size=1 then (⟨us⟩:Array Value)[0] else .tuple ⟨us⟩) w':=by
   unfold results
   rw [Array.mapM_eq_mapM_toList]
   simp only [Sem.run_bind,Sem.run_map]
   exact congrArg (fun r:Result (List Value)=>(r.andThen fun a w'=>Result.ok a.toArray w').andThen fun a w'=>Sem.run P (pure (if h:a.size=1 then a[0] else Value.tuple a)) w') r1
  have MQ:(if h:(⟨us⟩:Array Value).size=1 then (⟨us⟩:Array Value)[0] else .tuple ⟨us⟩)=tV us:=by
   match us with
   | []=>rfl
   | [u]=>rfl
   | u::u'::us=>rfl
  rw [MQ] at hres'
  have hpost:A'.defers=[]∧∃v,(results fn A'.tmps).run P w'=.ok v w'∧∃v',Ending.returned v=.returned v'∧∃us,v'=tV us∧Ce P tabs s rest w0 bZ us w':=
   ⟨ht.none,_,hres',_,rfl,us,rfl,hA'⟩
  cases e2 with
  | normal=>exact hpost
  | ret=>exact hpost
  | exit id=>simp at he
 right
 refine ⟨?_,Calls.mono' key ?_⟩
 ·have hname:=hn f fn c hf hc
  simp only [callFunc,Sem.run_bind,program,Sem.run,Result.andThen_ok,hf]
  simp only [hname,Bool.false_eq_true,if_false,hc,Option.isNone_some,Sem.run_pure]
 ·rintro en w' ⟨v,rfl,h5⟩
  exact ⟨v,rfl,h5⟩
end
end Go.aJ
namespace Go.aJ
noncomputable section
set_option linter.unusedSectionVars false
set_option linter.unusedVariables false
set_option linter.unusedSimpArgs false
variable {P:Program} {H:Type} {enc:TypeId×Value→H}
inductive bg where
 | bool
 | int (k:IntKind)
 | str
 | list (agg:Bool) (e:List bg)
def fieldTys (P:Program) (r:TypeId→Option (List bg)):Nat→List Field→Option (List bg)
 | _,[]=>some []
 | off,f::fs=>match r f.type with
  | some l=>if Nat.beq f.offset off&&Nat.beq (P.cellsOf f.type) l.length then match fieldTys P r (off+l.length) fs with
   | some m=>some (l++m)
   | none=>none
   else none
  | none=>none
def uy (P:Program):Nat→TypeId→Option (List bg)
 | 0,_=>none
 | n+1,t=>match P.underlying t with
  | some .bool=>some [.bool]
  | some (.int k)=>some [.int k]
  | some .string=>some [.str]
  | some (.slice e)=>match uy P n e,kH P e with
   | some l,some b=>if Nat.beq (P.cellsOf e) l.length&&Nat.ble 1 l.length&&Nat.ble 1 (P.bytesOf e)&&(b || Nat.beq l.length 1) then some [.list b l] else none
   | _,_=>none
  | some (.struct fs)=>match fieldTys P (uy P n) 0 fs.toList with
   | some l=>if Nat.beq (P.cellsOf t) l.length then some l else none
   | none=>none
  | _=>none
mutual
def bg.has:bg→GV→Prop
 | .bool,g=>∃b,g=.b b
 | .int k,g=>∃n,g=.i k n∧k.min≤n∧n≤k.max
 | .str,g=>∃s,g=.s s∧s.length≤reachBytes
 | .list agg e,g=>∃xs,g=.l xs∧xs.length≤reachBytes∧∀x∈xs,bg.fJ e x.cells∧x.scalar = !agg
def bg.fJ:List bg→List GV→Prop
 | [],gs=>gs=[]
 | t::ts,gs=>∃g r,gs=g::r∧bg.has t g∧bg.fJ ts r
end
theorem bg.has.scalar {t:bg} {g:GV} (h:t.has g):g.scalar=true:=by
 cases t<;>simp only [bg.has] at h
 ·obtain ⟨b,rfl⟩:=h;rfl
 ·obtain ⟨b,rfl,_⟩:=h;rfl
 ·obtain ⟨b,rfl,_⟩:=h;rfl
 ·obtain ⟨b,rfl,_⟩:=h;rfl
theorem bg.fJ.scalars:∀ {l:List bg} {gs:List GV},bg.fJ l gs→gs.all GV.scalar=true∧gs.length=l.length
 | [],gs,h=>by simp only [bg.fJ] at h;subst h;exact ⟨rfl,rfl⟩
 | t::l,gs,h=>by
  simp only [bg.fJ] at h
  obtain ⟨g,r,rfl,h1,h2⟩:=h
  have:=bg.fJ.scalars h2
  simp [h1.scalar,this.1,this.2]
theorem bg.fJ.append:∀ {l m:List bg} {gs hs:List GV},bg.fJ l gs→bg.fJ m hs→bg.fJ (l++m) (gs++hs)
 | [],m,gs,hs,h,h'=>by simp only [bg.fJ] at h;subst h;simpa using h'
 | t::l,m,gs,hs,h,h'=>by
  simp only [bg.fJ] at h
  obtain ⟨g,r,rfl,h1,h2⟩:=h
  simp only [List.cons_append,bg.fJ]
  exact ⟨g,r++hs,rfl,h1,bg.fJ.append h2 h'⟩
theorem aN.append {ro:Nat→Option Obj}:∀ {l m:List GV} {vs us:List Value},aN ro l vs→aN ro m us→aN ro (l++m) (vs++us)
 | [],m,vs,us,h,h'=>by simp only [aN] at h;subst h;simpa using h'
 | a::l,m,vs,us,h,h'=>by
  simp only [aN] at h
  obtain ⟨x,xs,rfl,h1,h2⟩:=h
  simp only [List.cons_append,aN]
  exact ⟨x,xs++us,rfl,h1,aN.append h2 h'⟩
theorem acp:∀ {e:TypeId} {ds:List (DataW H)} {d:DataW H},d∈ds→∀z∈d.weights P e,z∈DataW.weightsAll P e ds
 | e,[],d,h,z,_=>by simp at h
 | e,d0::ds,d,h,z,hz=>by
  simp only [DataW.weightsAll,List.mem_append]
  rcases List.mem_cons.1 h with rfl | h
  ·exact .inl hz
  ·exact .inr (acp h z hz)
def qW (w:World):Nat→Option Obj:=fun b=>w.heap[b]?
theorem cell?_at {w:World} {a:Addr} {v:Value} (h:w.cell? a=some v):a.spot=none∧∃c elem fr,w.heap[a.block]? = some (.cells c elem fr)∧c[a.off]? = some v:=by
 unfold World.cell? at h
 split at h
 ·next c elem fr hb=>
  split at h
  ·cases h
  ·next hs=>exact ⟨by simpa using hs,c,elem,fr,hb,h⟩
 ·cases h
theorem YC {w:World} {r:TypeId→Option (List bg)} {fuel:Nat} {cs:List Value}
 (ih:∀t l ch (x:DataW H×List MemPlace),r t=some l→DataW.trod enc P w 0 (fun _=>true) true fuel t ch=some x→(∀z∈x.1.weights P t,z≤reachBytes)→∃gs,aN (qW w) gs ch∧bg.fJ l gs) :
 ∀ (fs:List Field) (xs:List (DataW H×List MemPlace)) (off:Nat) (l:List bg),fieldTys P r off fs=some l→xs.length=fs.length→
  (∀ (i:Nat) (f:Field),fs[i]? = some f→DataW.trod enc P w 0 (fun _=>true) true fuel f.type ((cs.drop f.offset).take (P.cellsOf f.type))=xs[i]?)→
  (∀z∈DataW.weightsEach P (fs.map (·.type)) (xs.map (·.1)),z≤reachBytes)→
  ∃gs,aN (qW w) gs ((cs.drop off).take l.length)∧bg.fJ l gs
 | [],xs,off,l,h,_,_,_=>by
  simp only [fieldTys,Option.some.injEq] at h;subst h
  exact ⟨[],by simp [aN],by simp [bg.fJ]⟩
 | f::fs,[],off,l,_,hl,_,_=>by simp at hl
 | f::fs,x::xs,off,l,h,hl,hx,hw=>by
  simp only [fieldTys] at h
  split at h
  ·next l1 h1=>
   split at h
   ·next hc=>
    rw [Bool.and_eq_true] at hc
    have e1:=Nat.eq_of_beq_eq_true hc.1
    have e2:=Nat.eq_of_beq_eq_true hc.2
    split at h
    ·next m hm=>
     cases h
     have h0:=hx 0 f rfl
     simp only [List.getElem?_cons_zero] at h0
     obtain ⟨gs,g1,g2⟩:=ih f.type l1 _ x h1 h0 (fun z hz=>hw z (by simp only [List.map_cons,DataW.weightsEach,List.mem_append];exact .inl hz))
     obtain ⟨hs,k1,k2⟩:=YC ih fs xs (off+l1.length) m hm (by simpa using hl) (fun i f' hf=>by have:=hx (i+1) f' (by simpa using hf);simpa using this)
      (fun z hz=>hw z (by simp only [List.map_cons,DataW.weightsEach,List.mem_append];exact .inr hz))
     refine ⟨gs++hs, ?_,g2.append k2⟩
     rw [e1,e2] at g1
     have:(cs.drop off).take (l1++m).length=(cs.drop off).take l1.length++(cs.drop (off+l1.length)).take m.length:=by
      rw [List.length_append,List.take_add,List.drop_drop]
     rw [this]
     exact aN.append g1 k1
    ·cases h
   ·cases h
  ·cases h
theorem Yj {c:Nat} {ch:Nat→List Value} {arr:Array Value} {off:Nat}:∀ (n:Nat) (_:∀i,i < n→(ch i).length=c∧∀j,j < c→arr[off+i * c+j]? = (ch i)[j]?),
 ((List.range n).flatMap ch).length=n * c∧∀ (k:Nat) x,((List.range n).flatMap ch)[k]? = some x→arr[off+k]? = some x
 | 0,_=>by simp
 | n+1,h=>by
  obtain ⟨h1,h2⟩:=Yj n fun i hi=>h i (by omega)
  obtain ⟨e1,e2⟩:=h n (by omega)
  rw [List.range_succ,List.flatMap_append]
  simp only [List.flatMap_cons,List.flatMap_nil,List.append_nil]
  refine ⟨by rw [List.length_append,h1,e1,Nat.add_mul,Nat.one_mul],fun k x hk=>?_⟩
  by_cases hlt:k < n * c
  ·rw [List.getElem?_append_left (by omega)] at hk
   exact h2 k x hk
  ·rw [List.getElem?_append_right (by omega),h1] at hk
   have hj:=(List.getElem?_eq_some_iff.1 hk).1
   have:=e2 (k - n * c) (by omega)
   rw [hk] at this
   rw [← this];congr 1;omega
theorem aN.ofFn {ro:Nat→Option Obj} {G:Nat→GV} {Y:Nat→Value}:∀ (l:List Nat),(∀i∈l,GR ro (G i) (Y i))→aN ro (l.map G) (l.map Y)
 | [],_=>by simp [aN]
 | i::l,h=>by simp only [List.map_cons,aN];exact ⟨_,_,rfl,h i (by simp),aN.ofFn l fun j hj=>h j (by simp [hj])⟩
theorem PG {w:World}:∀ (n m:Nat) (t:TypeId) (cs:List Value) (x:DataW H×List MemPlace) (l:List bg),uy P n t=some l→DataW.trod enc P w 0 (fun _=>true) true m t cs=some x→
 (∀z∈x.1.weights P t,z≤reachBytes)→∃gs,aN (qW w) gs cs∧bg.fJ l gs
 | 0,m,t,cs,x,l,hc,h,hw=>by simp [uy] at hc
 | n+1,m,t,cs,x,l,hc,h,hw=>by
  simp only [uy] at hc
  split at hc
  ·next hu=>
   cases hc
   obtain ⟨b,rfl,rfl⟩:=DataW.trod_bool hu h
   exact ⟨[.b b],by simp [aN,GR],by simp only [bg.fJ];exact ⟨_,_,rfl,by simp [bg.has],rfl⟩⟩
  ·next k hu=>
   cases hc
   obtain ⟨b,rfl,rfl,hwf⟩:=DataW.trod_int hu h
   have hwf':k.min≤b∧b≤k.max:=by simpa [Lit.wf] using hwf
   exact ⟨[.i k b],by simp [aN,GR],by simp only [bg.fJ];exact ⟨_,_,rfl,by simp only [bg.has];exact ⟨b,rfl,hwf'⟩,rfl⟩⟩
  ·next hu=>
   cases hc
   obtain ⟨s,rfl,rfl,hs⟩:=DataW.trod_string hu h
   refine ⟨[.s s.data.toList],by simp only [aN,GR];exact ⟨_,_,rfl,by cases s with | mk a=>cases a;rfl,rfl⟩,by simp only [bg.fJ];exact ⟨_,_,rfl,by simp only [bg.has];exact ⟨_,rfl,hw _ (by simp [DataW.weights])⟩,rfl⟩⟩
  ·next e hu=>
   split at hc
   ·next le agg he hag=>
    split at hc
    ·next hcond=>
     cases hc
     simp only [Bool.and_eq_true,Bool.or_eq_true] at hcond
     obtain ⟨⟨⟨c1,c2⟩,c3⟩,c4⟩:=hcond
     have c1:=Nat.eq_of_beq_eq_true c1
     have c2:=Nat.le_of_ble_eq_true c2
     have c3:=Nat.le_of_ble_eq_true c3
     rcases Deep.open_slice hu h with ⟨rfl,rfl⟩ | ⟨a,len,cap0,cap,n',D,Pl,rfl,hb,hl,hm,rfl,rfl,hi⟩
     ·exact ⟨[.l []],by simp [aN,GR],by simp only [bg.fJ];exact ⟨_,_,rfl,by simp only [bg.has];exact ⟨[],rfl,by simp,by simp⟩,rfl⟩⟩
     have aga:cap * P.bytesOf e≤reachBytes:=by
      have:=hw (cap * P.bytesOf e) (by simp only [DataW.weights,hu,List.mem_cons,List.length_map,List.length_range];left;rw [Nat.add_sub_cancel' hl])
      exact this
     have hcapR:cap≤reachBytes:=Nat.le_trans (Nat.le_mul_of_pos_right _ c3) aga
     have one:∀i,i < len→∃ch gs,(ch.length=P.cellsOf e∧∀j,j < P.cellsOf e→w.cell? (((a.add (i * P.cellsOf e))).add j)=ch[j]?)∧aN (qW w) gs ch∧bg.fJ le gs:=by
      intro i hil
      obtain ⟨ch,h1,h2⟩:=hi i (by omega)
      obtain ⟨_,h3,h4⟩:=World.cells?_some h1
      obtain ⟨gs,g1,g2⟩:=PG n n' e ch _ le he h2 (fun z hz=>hw z (by
       simp only [DataW.weights,hu,List.mem_cons,List.mem_append]
       right;left
       exact acp (by simp only [List.mem_map,List.mem_range];exact ⟨i,hil,rfl⟩) z hz))
      exact ⟨ch,gs,⟨h3,h4⟩,g1,g2⟩
     by_cases hz:cap=0
     ·have hlz:len=0:=by omega
      subst hz;subst hlz
      refine ⟨[.l []],by simp only [aN,GR];exact ⟨_,_,rfl,.inl ⟨trivial,_,rfl⟩,rfl⟩,by simp only [bg.fJ];exact ⟨_,_,rfl,by simp only [bg.has];exact ⟨[],rfl,by simp,by simp⟩,rfl⟩⟩
     have ha:a.spot=none∧∃arr elem fr,w.heap[a.block]? = some (.cells arr elem fr):=by
      obtain ⟨ch,h1,h2⟩:=hi 0 (by omega)
      obtain ⟨_,h3,h4⟩:=World.cells?_some h1
      have h5:=h4 0 (by omega)
      have hch:ch[0]? = some ch[0]:=List.getElem?_eq_getElem (by omega)
      rw [hch] at h5
      have h6:=cell?_at h5
      simp only [Nat.zero_mul,Addr.add,if_true] at h6
      exact ⟨h6.1,h6.2.choose,h6.2.choose_spec.choose,h6.2.choose_spec.choose_spec.choose,h6.2.choose_spec.choose_spec.choose_spec.1⟩
     obtain ⟨hsp,arr,elem,fr,hblk⟩:=ha
     obtain ⟨bl,off,sp⟩:=a
     simp only at hsp hblk
     subst hsp
     have addr:∀i j:Nat,((Addr.mk bl off none).add i).add j=⟨bl,off+i+j,none⟩:=by
      intro i j
      unfold Addr.add
      split<;>split<;>simp_all
     have hex:∃ (ch:Nat→List Value) (G:Nat→List GV),∀i,i < len→(ch i).length=P.cellsOf e∧(∀j,j < P.cellsOf e→arr[off+i * P.cellsOf e+j]? = (ch i)[j]?)∧aN (qW w) (G i) (ch i)∧bg.fJ le (G i):=by
      refine ⟨fun i=>if hil:i < len then (one i hil).choose else [],fun i=>if hil:i < len then (one i hil).choose_spec.choose else [],fun i hil=>?_⟩
      simp only [dif_pos hil]
      obtain ⟨⟨h1,h2⟩,h3,h4⟩:=(one i hil).choose_spec.choose_spec
      refine ⟨h1,fun j hj=>?_,h3,h4⟩
      have:=h2 j hj
      rw [addr] at this
      rw [← this]
      have hch:=List.getElem?_eq_getElem (l:=(one i hil).choose) (i:=j) (by omega)
      rw [hch] at this
      have h6:=cell?_at this
      simp only at h6
      obtain ⟨_,c',e',f',h7,h8⟩:=h6
      rw [hblk] at h7;cases h7
      rw [this,h8]
     obtain ⟨ch,G,hG⟩:=hex
     obtain ⟨q1,q2⟩:=Yj (c:=P.cellsOf e) (ch:=ch) (arr:=arr) (off:=off) len fun i hil=>⟨(hG i hil).1,fun j hj=>(hG i hil).2.1 j hj⟩
     have hgl:∀i,i < len→(G i).length=le.length:=fun i hil=>(hG i hil).2.2.2.scalars.2
     let X:Nat→GV:=fun i=>if agg then .g (G i) else (G i).headD (.l [])
     let Y:Nat→Value:=fun i=>if agg then .agg ⟨ch i⟩ else (ch i).headD undef
     have hX:∀i,i < len→(X i).cells=G i∧(X i).scalar = !agg∧GR (qW w) (X i) (Y i)∧(Y i).cells.toList=ch i:=by
      intro i hil
      obtain ⟨p1,p2,p3,p4⟩:=hG i hil
      cases agg with
      | true=>simp only [X,Y,if_true];exact ⟨rfl,rfl,by simp only [GR];exact ⟨_,rfl,p3⟩,rfl⟩
      | false=>
       have hle1:le.length=1:=by simpa using c4
       obtain ⟨g,hg⟩:∃g,G i=[g]:=List.length_eq_one_iff.1 (by rw [hgl i hil,hle1])
       obtain ⟨y,hy⟩:∃y,ch i=[y]:=List.length_eq_one_iff.1 (by rw [p1,c1,hle1])
       have hsc:g.scalar=true:=by have:=p4.scalars.1;rw [hg] at this;simpa using this
       have AZ:GR (qW w) g y:=by rw [hg,hy] at p3;simp only [aN] at p3;obtain ⟨u,us,e1,e2,_⟩:=p3;cases e1;exact e2
       simp only [X,Y,hg,hy,List.headD_cons,Bool.false_eq_true,if_false,Bool.not_false]
       refine ⟨by cases g<;>first | rfl | (simp [GV.scalar] at hsc),hsc,AZ, ?_⟩
       cases g<;>simp only [GR] at AZ
       ·subst AZ;rfl
       ·subst AZ;rfl
       ·subst AZ;rfl
       ·rcases AZ with ⟨_,_,rfl⟩ | ⟨_,_,_,_,_,rfl,_⟩<;>rfl
       ·simp [GV.scalar] at hsc
     refine ⟨[.l ((List.range len).map X)], ?_, ?_⟩
     ·simp only [aN]
      refine ⟨_,_,rfl, ?_,rfl⟩
      simp only [GR]
      right
      have Y6:cu ((List.range len).map Y)=(List.range len).flatMap ch:=by
       unfold cu
       rw [List.flatMap_map]
       rw [List.flatMap_def,List.flatMap_def,List.map_congr_left fun i hir=>(hX i (List.mem_range.1 hir)).2.2.2]
      refine ⟨bl,off,cap,(List.range len).map Y,P.cellsOf e,by simp,by simpa using hl,aN.ofFn _ fun i hir=>(hX i (List.mem_range.1 hir)).2.2.1, ?_,fun hne=>⟨arr,elem,fr,hblk, ?_, ?_⟩⟩
      ·intro y hy
       obtain ⟨i,hir,rfl⟩:=List.mem_map.1 hy
       have:=(hX i (List.mem_range.1 hir)).2.2.2
       rw [← Array.length_toList,this]
       exact (hG i (List.mem_range.1 hir)).1
      ·rw [Y6,q1]
       have hlp:0 < len:=by
        rcases Nat.eq_zero_or_pos len with h0 | h0
        ·subst h0;simp at hne
        ·exact h0
       have hcp:0 < P.cellsOf e:=by omega
       have hk:len * P.cellsOf e - 1 < ((List.range len).flatMap ch).length:=by
        rw [q1];have:0 < len * P.cellsOf e:=Nat.mul_pos hlp hcp;omega
       have:=q2 _ _ (List.getElem?_eq_getElem hk)
       have:=(Array.getElem?_eq_some_iff.1 this).1
       have:0 < len * P.cellsOf e:=Nat.mul_pos hlp hcp
       omega
      ·rw [Y6];exact q2
     ·simp only [bg.fJ]
      refine ⟨_,_,rfl, ?_,rfl⟩
      simp only [bg.has]
      refine ⟨_,rfl,by simp;omega,fun y hy=>?_⟩
      obtain ⟨i,hir,rfl⟩:=List.mem_map.1 hy
      obtain ⟨k1,k2,_⟩:=hX i (List.mem_range.1 hir)
      rw [k1]
      exact ⟨(hG i (List.mem_range.1 hir)).2.2.2,k2⟩
    ·cases hc
   ·cases hc
  ·next fs hu=>
   split at hc
   ·next l' hf=>
    split at hc
    ·next hcl=>
     cases hc
     have hcl:=Nat.eq_of_beq_eq_true hcl
     obtain ⟨xs,n',rfl,rfl,hlen,hxl,hx⟩:=DataW.trod_struct hu h
     obtain ⟨gs,g1,g2⟩:=YC (enc:=enc) (P:=P) (w:=w) (fuel:=n') (cs:=cs) (r:=uy P n) (fun t l ch x h1 h2 h3=>PG n n' t ch x l h1 h2 h3) fs.toList xs 0 l hf (by simpa using hxl)
      (fun i f hi=>hx i f (by simpa using hi)) (fun z hz=>hw z (by simp only [DataW.weights,hu];simpa using hz))
     refine ⟨gs, ?_,g2⟩
     rw [List.drop_zero,List.take_of_length_le (by omega)] at g1
     exact g1
    ·cases hc
   ·cases hc
  ·cases hc
def argTys (P:Program) (n:Nat):List TypeId→Option (List (Bool×List bg))
 | []=>some []
 | t::ts=>match uy P n t,kH P t,argTys P n ts with
  | some l,some b,some r=>if b || Nat.beq l.length 1 then some ((b,l)::r) else none
  | _,_,_=>none
def hasArgs:List (Bool×List bg)→List GV→Prop
 | [],gs=>gs=[]
 | (b,l)::r,gs=>∃g gs',gs=g::gs'∧bg.fJ l g.cells∧g.scalar = !b∧hasArgs r gs'
theorem ah1 {w:World} {r:Reach} {b0:Nat} {t:TypeId} {v:Value} (h:Value.okWide P w r b0 t v):(kH P t=some true→∃cs,v=.agg cs)∧
 (kH P t=some false→v.cells = #[v]∨∀n,uy P n t=none):=by
 unfold Value.okWide at h
 unfold kH
 constructor
 ·intro ha
  split at ha
  ·next hu=>rw [hu] at h;simp only at h;obtain ⟨cs,rfl,_⟩:=h;exact ⟨cs,rfl⟩
  ·next hu=>rw [hu] at h;simp only at h;obtain ⟨cs,rfl,_⟩:=h;exact ⟨cs,rfl⟩
  ·cases ha
  ·cases ha
 ·intro ha
  split at ha
  ·cases ha
  ·cases ha
  ·next u h1 h2 hu=>
   rw [hu] at h
   cases u<;>first
    | (exact absurd rfl (h1 _))
    | (exact absurd rfl (h2 _ _))
    | (right;intro n;cases n<;>simp [uy,hu];done)
    | (left;simp only [Cell.okWide,hu,Cell.ok] at h;cases v<;>first | rfl | (simp only at h;done) | (cases h;done))
  ·cases ha
theorem ab2 {w:World} {n:Nat}:∀ {ts:List TypeId} {vs:List Value} {ds:List (DataW H)} {ps:List MemPlace} {L:List (Bool×List bg)},argTys P n ts=some L→DataW.TrodAll enc P w 0 (fun _=>true) true ts vs ds ps→
 (∀z∈DataW.weightsEach P ts ds,z≤reachBytes)→(∀ (j:Nat) t v,ts[j]? = some t→vs[j]? = some v→∃b0,Value.okWide P w .any b0 t v)→∃gs,aN (qW w) gs vs∧hasArgs L gs
 | [],[],[],ps,L,hL,h,hw,hok=>by simp only [argTys,Option.some.injEq] at hL;subst hL;exact ⟨[],by simp [aN],by simp [hasArgs]⟩
 | t::ts,v::vs,d::ds,ps,L,hL,h,hw,hok=>by
  obtain ⟨p,q,⟨m,h1⟩,h2,rfl⟩:=h
  simp only [argTys] at hL
  split at hL
  ·next l b r hc hag hr=>
   split at hL
   ·next hb=>
    cases hL
    obtain ⟨gs,g1,g2⟩:=PG n m t _ _ l hc h1 (fun z hz=>hw z (by simp only [DataW.weightsEach,List.mem_append];exact .inl hz))
    obtain ⟨hs,k1,k2⟩:=ab2 hr h2 (fun z hz=>hw z (by simp only [DataW.weightsEach,List.mem_append];exact .inr hz)) (fun j t' v' h1 h2=>hok (j+1) t' v' (by simpa using h1) (by simpa using h2))
    obtain ⟨b0,hv⟩:=hok 0 t v rfl rfl
    obtain ⟨o1,o2⟩:=ah1 hv
    cases b with
    | true=>
     obtain ⟨cs,rfl⟩:=o1 hag
     refine ⟨.g gs::hs,by simp only [aN];exact ⟨_,_,rfl,by simp only [GR];exact ⟨cs.toList,rfl,g1⟩,k1⟩, ?_⟩
     simp only [hasArgs]
     exact ⟨_,_,rfl,g2,rfl,k2⟩
    | false=>
     have hl1:l.length=1:=by simpa using hb
     rcases o2 hag with o2 | o2
     rotate_left
     ·rw [o2 n] at hc;cases hc
     rw [o2] at g1
     obtain ⟨g,rfl⟩:∃g,gs=[g]:=List.length_eq_one_iff.1 (by rw [g2.scalars.2,hl1])
     have hsc:g.scalar=true:=by have:=g2.scalars.1;simpa using this
     simp only [aN] at g1
     obtain ⟨u,us,e1,e2,_⟩:=g1
     cases e1
     refine ⟨g::hs,by simp only [aN];exact ⟨_,_,rfl,e2,k1⟩, ?_⟩
     simp only [hasArgs]
     exact ⟨_,_,rfl,by cases g<;>first | exact g2 | (simp [GV.scalar] at hsc),hsc,k2⟩
   ·cases hL
  ·cases hL
 | [],_::_,_,_,_,_,h,_,_=>by simp [DataW.TrodAll] at h
 | [],[],_::_,_,_,_,h,_,_=>by simp [DataW.TrodAll] at h
 | _::_,[],_,_,_,_,h,_,_=>by simp [DataW.TrodAll] at h
 | _::_,_::_,[],_,_,_,h,_,_=>by simp [DataW.TrodAll] at h
theorem Kept.below {W W':World} (h:Kept W W'):Go.RowKit.Below W.heap.size W W':=⟨h.os,h.tape,h.output,h.size,h.keep⟩
theorem ab3 {W W':World} (hl:laidOutB P=true) (hk:Kept W W') {sp:Nat→Bool}:∀ {ts:List TypeId} {vs:List Value} {ds:List (DataW H)} {ps:List MemPlace},DataW.TrodAll enc P W 0 (fun _=>true) true ts vs ds ps→
 (∀t∈ts,P.readableRec t=true∧t < P.types.size)→(∀x∈ps,x.block < W.heap.size)→(∀x∈ps,sp x.block=true)→DataW.TrodAll enc P W' 0 sp true ts vs ds ps
 | [],[],[],ps,h,_,_,_=>h
 | t::ts,v::vs,d::ds,ps,h,hr,hlt,hsp=>by
  obtain ⟨p,q,h1,h2,rfl⟩:=h
  obtain ⟨r1,r2⟩:=hr t (by simp)
  exact ⟨p,q,WideElems.Trod_stays hl r1 r2 h1 (fun x hx=>hk.below.same (hlt x (List.mem_append_left _ hx))) (fun x hx=>hsp x (List.mem_append_left _ hx)),
   ab3 hl hk h2 (fun t' ht=>hr t' (by simp [ht])) (fun x hx=>hlt x (List.mem_append_right _ hx)) (fun x hx=>hsp x (List.mem_append_right _ hx)),rfl⟩
 | [],_::_,_,_,h,_,_,_=>by simp [DataW.TrodAll] at h
 | [],[],_::_,_,h,_,_,_=>by simp [DataW.TrodAll] at h
 | _::_,[],_,_,h,_,_,_=>by simp [DataW.TrodAll] at h
 | _::_,_::_,[],_,h,_,_,_=>by simp [DataW.TrodAll] at h
end
end Go.aJ
namespace Go.aJ
open Go.ChangeShapes Go.WideShapes Go.ChangeAt Go.RowKit
noncomputable section
set_option linter.unusedSectionVars false
set_option linter.unusedVariables false
variable {P:Program}
theorem adn {T0:aB} {call:Caller} {f:FuncId} {σ0 σ':ah} (hcall:@l7 T0 P call) (h0:@rQ T0 σ0 P.globals.size) (hrun:call f [] σ0=some (.b true,σ')) {ro:Nat→Option Obj} {w:World} (hro:qg T0.tabs ro w) :
 iZ P f ⟨[]⟩ w fun v w'=>v=.bool true∧Kept w w':=by
 letI:=T0
 have hS:SR P (pJ P.globals.size σ0 ro) σ0 w:=CJ h0.1 (fun id o ho=>by
  obtain ⟨c,rfl,hm,hle⟩:=h0.2 id o ho
  obtain ⟨cs,elem,fr,h1,h2,h3⟩:=hro.tab _ hm
  exact ⟨hle,c,rfl,⟨cs,elem,fr,hro.at' _ _ h1,h2,h3⟩⟩) hro.at' (fun p hp=>hro.tab p hp)
 refine iZ.mono (hcall f [] σ0 _ _ hrun _ w [] hS rfl) ?_
 rintro v w' ⟨η',hst,hr⟩
 simp only [VR] at hr
 exact ⟨hr,hst.kept h0.own⟩
theorem aia {T:aB} {f:FuncId} (h:∀ro w,qg T.tabs ro w→iZ P f ⟨[]⟩ w fun v w'=>v=.bool true∧Kept w w'):@dR T P f zh:=by
 letI:=T
 intro args σ r σ1 hs η w vs hS hv
 unfold zh at hs
 split at hs
 ·cases hs
  simp only [aj] at hv
  subst hv
  refine iZ.mono (h η.ro w hS.Ik) ?_
  rintro v w' ⟨rfl,hk⟩
  exact ⟨η,St.aao hS hk,by simp only [VR]⟩
 ·cases hs
theorem agU {H:Type} {enc:TypeId×Value→H} {tabs:List (Nat×List AV)} {f:FuncId} {fn:Func} {c:Code} {s:ChangeSpec} {n:Nat} {L:List (Bool×List bg)} {tb:TypeId} {again:Bool} (hn:pY P) (hf:P.funcs[f]? = some fn) (hc:fn.body=some c)
 (hL:argTys P n fn.params.toList=some L) (hlaid:laidOutB P=true) (hread:∀t∈fn.params.toList,P.readableRec t=true∧t < P.types.size) (hr:fn.resultTypes = #[tb]) (htb:P.underlying tb=some .bool)
 (hvars:s.vars=[]) (hs:∀ds:List (DataW H),ds.length=fn.params.size→s.fn H ds = { results:=[.lit (.bool true)],args:=ds })
 (af9:∀gs,hasArgs L gs→aG P tabs f [] [.sc] gs [.b true]) {W:World} {base:Nat} {args:Array Value} {ds gs:List (DataW H)} {before:List MemPlace}
 (hval:∀ (j:Nat) t v,fn.params[j]? = some t→args[j]? = some v→Value.okWide P W .any base t v)
 (hW:DataW.Whole enc P fn.params.toList s.vars false W args.toList ds gs before) {vt:List TypeId} (hvt:vt=[]) (hsz0:(DataW.weightsEach P (fn.params.toList++vt) (ds++gs)).all (·≤reachBytes)=true) (hro:qg tabs (qW W) W) :
 Calls P f args W fun e W'=>∃v,e=.returned v∧s.post enc P fn false true false again W args v W':=by
 letI:aB:=Tg [] [] 0
 have hW':=hW
 have hlt:=fun p hp=>hW.lt p hp
 obtain ⟨p,q,hA,hV,rfl,hfz,hnd⟩:=hW
 have hV':=hV
 rw [hvars] at hV
 obtain ⟨rfl,rfl⟩:=trodVars_none hV
 have hsz:∀z∈DataW.weightsEach P fn.params.toList ds,z≤reachBytes:=by
  subst hvt
  rw [List.append_nil,List.append_nil,List.all_eq_true] at hsz0
  exact fun z hz=>by simpa using hsz0 z hz
 obtain ⟨gl,g1,g2⟩:=ab2 hL hA hsz (fun j t v h1 h2=>⟨base,hval j t v (by simpa using h1) (by simpa using h2)⟩)
 have hcall:=(af9 gl g2).call (qW W) W args.toList hro g1
 have Y4:=iZ.calls hn hf hc hcall
 have hput:(⟨oV [] args.toList⟩:Array Value)=args:=by simp [oV]
 rw [hput] at Y4
 have hdl:ds.length=fn.params.size:=by
  have:∀ {ts:List TypeId} {vs:List Value} {ds:List (DataW H)} {ps:List MemPlace},DataW.TrodAll enc P W 0 (fun _=>true) true ts vs ds ps→ds.length=ts.length:=by
   intro ts
   induction ts with
   | nil=>intro vs ds ps h;cases vs<;>cases ds<;>simp [DataW.TrodAll] at h ⊢
   | cons t ts ih=>intro vs ds ps h;cases vs<;>cases ds<;>simp [DataW.TrodAll] at h ⊢;obtain ⟨_,_,_,h2,_⟩:=h;exact ih h2
  simpa using this hA
 refine Calls.mono' Y4 ?_
 rintro e W' ⟨v,rfl,ro',hstep,us,rfl,hus⟩
 simp only [aN] at hus
 obtain ⟨u,us',rfl,hu,rfl⟩:=hus
 simp only [GR] at hu
 subst hu
 have hfn:s.fn H (ds++[]) = { results:=[.lit (.bool true)],args:=ds }:=by rw [List.append_nil];exact hs ds hdl
 simp only [List.append_nil] at hW' hlt
 refine ⟨_,rfl,aiG (pa:=p) (pv:=[]) hW' (fun _ _ _=>?_) (fun sp hsp=>?_) (fun _ _=>?_) (by simp) hstep.kept (ok_one (by rw [hr]) rfl (okWide_bool_mk htb _))⟩
 ·rw [hfn,hr];exact trodAll_cons_mk (shut_bool htb _) trodAll_mk0
 ·rw [hfn];exact ab3 hlaid hstep.kept hA hread hlt hsp
 ·rw [hfn,hvars];rfl
def AC.kJ:AC→Nat→Option Code
 | .plain _,_=>none
 | .seq x y,k=>match x.kJ k with
  | some b=>some b
  | none=>y.kJ k
 | .cond _ y z,k=>match y.kJ k with
  | some b=>some b
  | none=>z.kJ k
 | .block _ x,k=>x.kJ k
 | .loop k' b,k=>if Nat.beq k' k then some b else none
 | .peel x k' b,k=>if Nat.beq k' k then some b else x.kJ k
theorem AC.wP {k:Nat} {b:Code}:∀ {x:AC},x.kJ k=some b→x.kC k b
 | .plain _,h=>by simp [AC.kJ] at h
 | .seq x y,h=>by
  simp only [AC.kJ] at h
  split at h
  ·next hx=>cases h;exact .inl (AC.wP hx)
  ·exact .inr (AC.wP h)
 | .cond _ x y,h=>by
  simp only [AC.kJ] at h
  split at h
  ·next hx=>cases h;exact .inl (AC.wP hx)
  ·exact .inr (AC.wP h)
 | .block _ x,h=>AC.wP (x:=x) h
 | .loop k' b',h=>by
  simp only [AC.kJ] at h
  split at h
  ·next e=>cases h;exact ⟨Nat.eq_of_beq_eq_true e,rfl⟩
  ·cases h
 | .peel x k' b',h=>by
  simp only [AC.kJ] at h
  split at h
  ·next e=>cases h;exact .inl ⟨Nat.eq_of_beq_eq_true e,rfl⟩
  ·exact .inr (AC.wP h)
theorem yh (ps:List Nat):∀ (c:Code) (n:Nat),n≤(iT ps c n).2∧∀k b,(iT ps c n).1.kC k b→(n≤k∧k < (iT ps c n).2)∧(iT ps c n).1.kJ k=some b
 | .seq x y,n=>by
  obtain ⟨h1,h2⟩:=yh ps x n
  obtain ⟨h3,h4⟩:=yh ps y (iT ps x n).2
  simp only [iT,AC.kC,AC.kJ]
  refine ⟨by omega,fun k b h=>?_⟩
  rcases h with h | h
  ·obtain ⟨r,e⟩:=h2 k b h;exact ⟨by omega,by rw [e]⟩
  ·obtain ⟨r,e⟩:=h4 k b h
   refine ⟨by omega, ?_⟩
   cases hx:(iT ps x n).1.kJ k with
   | none=>exact e
   | some b'=>have:=(h2 k b' (AC.wP hx)).1;omega
 | .cond _ x y,n=>by
  obtain ⟨h1,h2⟩:=yh ps x n
  obtain ⟨h3,h4⟩:=yh ps y (iT ps x n).2
  simp only [iT,AC.kC,AC.kJ]
  refine ⟨by omega,fun k b h=>?_⟩
  rcases h with h | h
  ·obtain ⟨r,e⟩:=h2 k b h;exact ⟨by omega,by rw [e]⟩
  ·obtain ⟨r,e⟩:=h4 k b h
   refine ⟨by omega, ?_⟩
   cases hx:(iT ps x n).1.kJ k with
   | none=>exact e
   | some b'=>have:=(h2 k b' (AC.wP hx)).1;omega
 | .block id x,n=>yh ps x n
 | .loop x,n=>by
  obtain ⟨h1,h2⟩:=yh ps x (n+1)
  simp only [iT]
  split
  ·exact ⟨by simp,fun k b h=>by simp [AC.kC] at h⟩
  ·split
   ·simp only [AC.kC,AC.kJ]
    refine ⟨by omega,fun k b h=>?_⟩
    rcases h with ⟨rfl,rfl⟩ | h
    ·exact ⟨by omega,by simp⟩
    ·obtain ⟨r,e⟩:=h2 k b h
     refine ⟨by omega, ?_⟩
     have:Nat.beq n k=false:=by cases hb:Nat.beq n k with | false=>rfl | true=>have:=Nat.eq_of_beq_eq_true hb;omega
     rw [this];exact e
   ·simp only [AC.kC,AC.kJ]
    refine ⟨by omega,fun k b h=>?_⟩
    obtain ⟨rfl,rfl⟩:=h
    exact ⟨by omega,by simp⟩
 | .skip,n | .region _ _ _,n | .rangeFunc _ _ _ _,n | .exit _,n | .scope _,n | .label _,n | .goto _,n | .ret,n | .refuse _,n=>⟨Nat.le_refl _,fun k b h=>by simp [iT,AC.kC] at h⟩
theorem ag9 {ps:List Nat} {c:Code} {k:Nat} {b:Code} (h:(kR ps c).kC k b):(kR ps c).kJ k=some b:=((yh ps c 0).2 k b h).2
def dX:Code→List (List Nat×Nat)→Code
 | c,[]=>c
 | c,(ps,k)::r=>dX (((kR ps c).kJ k).getD .skip) r
theorem acT {ps:List Nat} {c:Code} {k:Nat} {b:Code} (h:(kR ps c).kC k b):dX c [(ps,k)]=b:=by
 simp only [dX,ag9 h,Option.getD_some]
abbrev aP:=List GV→List GV→Prop
def ER (Cs:List aP) (k:Nat) (gs out:List GV):Prop:=match Cs[k]? with
 | some c=>c gs out
 | none=>False
def qJ (Ds:List aH):eX:=fun k=>Ds[k]?
def aQ (C:Nat→List GV→List GV→Prop) (d:aH) (c:aP):Prop:=∀I:fD,(∀k gs out,I k gs=some out→C k gs out)→∀gs out,d.den I gs=some out→c gs out
def zM (C:Nat→List GV→List GV→Prop):List aH→List aP→Prop
 | [],[]=>True
 | d::ds,c::cs=>aQ C d c∧zM C ds cs
 | _,_=>False
theorem zM.at {C:Nat→List GV→List GV→Prop}:∀ {ds:List aH} {cs:List aP},zM C ds cs→∀ {k:Nat} {d:aH},ds[k]? = some d→∃c,cs[k]? = some c∧aQ C d c
 | [],[],_,k,d,hd=>by simp at hd
 | d0::ds,c0::cs,h,k,d,hd=>by
  cases k with
  | zero=>simp at hd;subst hd;exact ⟨c0,rfl,h.1⟩
  | succ k=>obtain ⟨c,h1,h2⟩:=zM.at h.2 (k:=k) (by simpa using hd);exact ⟨c,by simpa using h1,h2⟩
 | [],_::_,h,_,_,_=>h.elim
 | _::_,[],h,_,_,_=>h.elim
theorem agZ {Ds:List aH} {Cs:List aP} (h:zM (ER Cs) Ds Cs):∀k gs out,(qJ Ds).lim k gs=some out→ER Cs k gs out:=by
 refine eX.ag0 fun k d hk I hI gs out hd=>?_
 obtain ⟨c,h1,h2⟩:=h.at hk
 unfold ER
 rw [h1]
 exact h2 I hI gs out hd
def aC (P:Program) (tabs:List (Nat×List AV)) (I:fD) (ac:AC) (specs:List (Nat×bY)):Prop:=
 ∀k sp',bP k specs=some sp'→sp'.pre.ok=true∧∀b,ac.kC k b→∀gs out,I sp'.key gs=some out→aZ P tabs b sp'.pre sp'.posts gs out
theorem aC.nil {tabs:List (Nat×List AV)} {I:fD} {ac:AC}:aC P tabs I ac []:=fun k sp' h=>by simp [bP] at h
theorem aC.cons {tabs:List (Nat×List AV)} {I:fD} {ps:List Nat} {c:Code} {k:Nat} {sp:bY} {specs:List (Nat×bY)} (hok:sp.pre.ok=true) (hb:∀gs out,I sp.key gs=some out→aZ P tabs (dX c [(ps,k)]) sp.pre sp.posts gs out)
 (r:aC P tabs I (kR ps c) specs):aC P tabs I (kR ps c) ((k,sp)::specs):=by
 intro k' sp' h
 simp only [bP] at h
 cases e:Nat.beq k' k with
 | true=>
  rw [e] at h
  cases h
  have e:=Nat.eq_of_beq_eq_true e
  subst e
  exact ⟨hok,fun b hb' gs out hI=>by rw [← acT hb'];exact hb gs out hI⟩
 | false=>rw [e] at h;exact r k' sp' h
theorem aZ.fB {tabs:List (Nat×List AV)} (hlow:rU tabs P.globals.size) (hm:P.follows .mixedOrders=true) (hn:pY P) {pl:mY} {I:fD} (hpl:rP P tabs I pl) {specs:List (Nat×bY)} {fuel:Nat} {sp:bY} (hok:sp.pre.ok=true) {n:Nat} (hnp:n=sp.pre.np)
 {ps:List Nat} {b:Code} {t:Tree} (yO:aC P tabs I (kR ps b) specs) (hself:∀gs out,I sp.key gs=some out→aZ P tabs b sp.pre sp.posts gs out)
 (qV:t.chk (Nr P tabs pl specs fuel sp (kR ps b)) (List.replicate sp.pre.np .arg) []=true) {gs out:List GV} (hd:(aH.tree n t).den I gs=some out):aZ P tabs b sp.pre sp.posts gs out:=by
 simp only [aH.den] at hd
 split at hd
 ·next hlen=>exact aZ.bD hlow hm hn hpl hok yO hself qV (by rw [hlen,hnp]) hd
 ·cases hd
def PL.nil:mY:=fun _=>[]
def PL.cons (f:FuncId) (p:fE→dV) (l:mY):mY:=fun N=>(f,p N)::l N
theorem PL.ah2 {tabs:List (Nat×List AV)} {I:fD}:rP P tabs I PL.nil:=fun T _ _ p hp=>by simp [PL.nil] at hp
theorem PL.rE {tabs:List (Nat×List AV)} {I:fD} {f:FuncId} {p:fE→dV} {l:mY} (h:∀T:aB,T.tabs=tabs→T.I=I→@dR T P f (p T.tofE)) (hl:rP P tabs I l):rP P tabs I (PL.cons f p l):=by
 intro T hT hI q hq
 rcases List.mem_cons.1 hq with rfl | hq
 ·exact h T hT hI
 ·exact hl T hT hI q hq
theorem PL.bQ {tabs:List (Nat×List AV)} {I:fD} {f:FuncId} {k:Nat} {st:List (Option FuncId)} {sh:List nO} {l:mY} (h:∀gs out,I k gs=some out→aG P tabs f st sh gs out) (hl:rP P tabs I l):rP P tabs I (PL.cons f (fun N=>@bJ N P k st sh) l):=
 PL.rE (fun T hT hI=>ah9 fun gs out h'=>by subst hT;subst hI;exact h gs out h') hl
def orP (p q:dV):dV:=fun args σ=>match p args σ with
 | some r=>some r
 | none=>q args σ
theorem orP_ok {T:aB} {f:FuncId} {p q:dV} (hp:@dR T P f p) (hq:@dR T P f q):@dR T P f (orP p q):=by
 letI:=T
 intro args σ r σ' hs
 unfold orP at hs
 split at hs
 ·next r0 h0=>cases hs;exact hp args σ r σ' h0
 ·exact hq args σ r σ' hs
end
end Go.aJ
