/- All definitions of a law as rows of one table: which function or loop each is of; all are checked by a few runs. -/
import Derived.Test.YtpioimdhbbgniaaGreatDoorAbsJ
namespace Go.aJ
set_option linter.unusedSimpArgs false
noncomputable section
set_option linter.unusedSectionVars false
set_option linter.unusedVariables false
variable {P:Program}
inductive Row where
 | any (c:BU)
 | told (f:FuncId) (st:List (Option FuncId)) (sh:List mQ)
 | fn (f:FuncId) (st:List (Option FuncId)) (sh:List mQ) (pe:List Nat) (l:List (Nat×Nat))
 | fs (f:FuncId) (st:List (Option FuncId)) (sp:bD) (pe:List Nat) (l:List (Nat×Nat))
 | lp (f:FuncId) (way:List (List Nat×Nat)) (sp:bD) (ps:List Nat) (l:List (Nat×Nat))
def CV (P:Program) (f:FuncId):Code:=match P.funcs[f]? with
 | some fn=>fn.body.getD .skip
 | none=>.skip
def Row.ctr (P:Program) (tabs:List (Nat×List AV)):Row->BU
 | .any c=>c
 | .told f st sh=>oP P tabs f st sh
 | .fn f st sh _ _=>oP P tabs f st sh
 | .fs f st sp _ _=>Iw P tabs f st sp.pre sp.posts
 | .lp f way sp _ _=>ru P tabs (sW (CV P f) way) sp.pre sp.posts
def Row.hand:Row->Bool
 | .any _ | .told _ _ _=>true
 | _=>false
def Fz:List Nat->List Nat->Bool
 | [],[]=>true
 | a::l,b::m=>Nat.beq a b&&Fz l m
 | _,_=>false
theorem Zx:∀ {l m:List Nat},Fz l m=true->l=m
 | [],[],_=>rfl
 | a::l,b::m,h=>by
   simp only [Fz,aG] at h;rw [bn h.1,Zx h.2]
 | [],_::_,h=>by simp [Fz] at h
 | _::_,[],h=>by simp [Fz] at h
def FB:List (List Nat×Nat)->List (List Nat×Nat)->Bool
 | [],[]=>true
 | (a,b)::l,(c,d)::m=>Fz a c&&Nat.beq b d&&FB l m
 | _,_=>false
theorem Zy:∀ {l m:List (List Nat×Nat)},FB l m=true->l=m
 | [],[],_=>rfl
 | (a,b)::l,(c,d)::m,h=>by
   simp only [FB,aG] at h;rw [Zx h.1.1,bn h.1.2,Zy h.2]
 | [],_::_,h=>by simp [FB] at h
 | _::_,[],h=>by simp [FB] at h
def wS:List mQ->List mQ->Bool
 | [],[]=>true
 | .sc::l,.sc::m=>wS l m
 | .ag a::l,.ag b::m=>Nat.beq a b&&wS l m
 | _,_=>false
theorem RD:∀ {l m:List mQ},wS l m=true->l=m
 | [],[],_=>rfl
 | .sc::l,.sc::m,h=>by simp only [wS] at h;rw [RD h]
 | .ag a::l,.ag b::m,h=>by
   simp only [wS,aG] at h;rw [bn h.1,RD h.2]
 | [],_::_,h=>by simp [wS] at h
 | .sc::_,[],h=>by simp [wS] at h
 | .ag _::_,[],h=>by simp [wS] at h
 | .sc::_,.ag _::_,h=>by simp [wS] at h
 | .ag _::_,.sc::_,h=>by simp [wS] at h
def Ic (rows:List Row) (f:FuncId) (way:List (List Nat×Nat)) (pe:List Nat):List (Nat×Nat)->Option (List (Nat×bD))
 | []=>some []
 | (k,key)::r=>match rows[key]? with
   | some (.lp f' adp sp _ _)=>if (Nat.beq f' f&&FB adp (way++[(pe,k)])&&Nat.beq sp.key key&&sp.pre.ok)=true then (Ic rows f way pe r).map ((k,sp)::·) else none
   | _=>none
section
variable {tabs:List (Nat×List AV)} {rows:List Row} {I:fG}
abbrev uN (P:Program) (tabs:List (Nat×List AV)) (rows:List Row):Nat->List GV->List GV->Prop:=Ir (rows.map (Row.ctr P tabs))
theorem Ji {k:Nat} {r:Row} (hr:rows[k]? = some r) {gs out:List GV} (h:uN P tabs rows k gs out):r.ctr P tabs gs out:=by
 unfold uN Ir at h;rw [iQ,hr] at h;exact h
theorem Pn (hI:∀k gs out,I k gs=some out->uN P tabs rows k gs out) {f:FuncId} {way:List (List Nat×Nat)} {pe:List Nat}:∀ {l:List (Nat×Nat)} {specs:List (Nat×bD)},Ic rows f way pe l=some specs->
 yY P tabs I (jY pe (sW (CV P f) way)) specs
 | [],_,h=>by cases h;exact yY.nil
 | (k,key)::r,specs,h=>by
   unfold Ic at h;split at h
   ·next f' adp sp ps l hrow=>
    split at h
    ·next hc=>
     simp only [aG] at hc;obtain ⟨⟨⟨h1,h2⟩,h3⟩,h4⟩:=hc;have h1:=bn h1;have h2:=Zy h2;have h3:=bn h3;subst h1;subst h2;subst h3;obtain ⟨arR,h5,rfl⟩:=aX.1 h;refine yY.cons h4 (λgs out hi=>?_) (Pn hI h5);have:=Ji hrow (hI _ _ _ hi);simp only [Row.ctr,X5] at this;exact this
    ·cases h
   ·cases h
def Ri (P:Program) (tabs:List (Nat×List AV)) (pl:jl) (fuel:Nat) (rows:List Row) (k:Nat) (d:aI):Bool:=
 match rows[k]? with
 | some (.fn f st sh pe l)=>match d with
   | .fn um vZ t=>wS sh vZ&&(match P.funcs[f]? with
     | some fn=>match fn.body,Ic rows f [] pe l with
       | some c,some specs=>t.chk (TQ P tabs pl specs fuel st um vZ fn.ntmps fn.results.toList (jY pe c)) (List.replicate um.length .arg) []
       | _,_=>false
     | none=>false)
   | _=>false
 | some (.fs f st sp pe l)=>match d with
   | .tree n t=>Nat.beq n sp.pre.np&&(match P.funcs[f]? with
     | some fn=>match fn.body,Ic rows f [] pe l with
       | some c,some specs=>t.chk (TS P tabs pl specs fuel st sp fn.ntmps fn.results.toList (jY pe c)) (List.replicate sp.pre.np .arg) []
       | _,_=>false
     | none=>false)
   | _=>false
 | some (.lp f way sp ps l)=>match d with
   | .tree n t=>Nat.beq n sp.pre.np&&(Nat.beq sp.key k&&sp.pre.ok)&&(match Ic rows f way ps l with
     | some specs=>t.chk (Ol P tabs pl specs fuel sp (jY ps (sW (CV P f) way))) (List.replicate sp.pre.np .arg) []
     | none=>false)
   | _=>false
 | _=>false
theorem aeu (hlow:rF tabs P.globals.size) (hm:P.follows .mixedOrders=true) (hn:sK P) {pl:jl} (hpl:∀I:fG,(∀k gs out,I k gs=some out->uN P tabs rows k gs out)->vJ P tabs I pl) {fuel k:Nat} {d:aI} {r:Row} (hr:rows[k]? = some r)
 (h:Ri P tabs pl fuel rows k d=true):EH (uN P tabs rows) d (r.ctr P tabs):=by
 intro I hI gs out hd;unfold Ri at h;rw [hr] at h;cases r with
 | any c=>cases h
 | told f st sh=>cases h
 | fn f st sh pe l=>
   cases d with
   | tree n t=>cases h
   | uX g=>cases h
   | fn um vZ t=>
     simp only [aG] at h;have:=RD h.1;subst this;have h:=h.2;split at h
     ·next fn hf=>
      split at h
      ·next c specs hc hs=>
       have hb:sW (CV P f) []=c:=by simp only [sW,CV,hf,hc,oU]
       have hsp:=Pn hI hs;rw [hb] at hsp;exact oP.JW hlow hm hn (hpl I hI) hf hc hsp h hd
      ·cases h
     ·cases h
 | fs f st sp pe l=>
   cases d with
   | fn a b t=>cases h
   | uX g=>cases h
   | tree n t=>
     simp only [aG] at h;have e:=bn h.1;have h:=h.2;split at h
     ·next fn hf=>
      split at h
      ·next c specs hc hs=>
       have hb:sW (CV P f) []=c:=by simp only [sW,CV,hf,hc,oU]
       have hsp:=Pn hI hs;rw [hb] at hsp;exact Iw.JW hlow hm hn (hpl I hI) e hf hc hsp h hd
      ·cases h
     ·cases h
 | lp f way sp ps l=>
   cases d with
   | fn a b t=>cases h
   | uX g=>cases h
   | tree n t=>
     simp only [aG] at h;have e:=bn h.1.1;have e2:=bn h.1.2.1;have hok:=h.1.2.2;have h:=h.2;split at h
     ·next specs hs=>
      refine ru.ajc hlow hm hn (hpl I hI) hok e (Pn hI hs) (λgs out hi=>?_) h hd;rw [e2] at hi;exact Ji hr (hI _ _ _ hi)
     ·cases h
def Rh (P:Program) (tabs:List (Nat×List AV)) (pl:jl) (rows:List Row) (Ds:List aI) (k:Nat):Bool:=match rows[k]?,Ds[k]? with
 | some r,some d=>r.hand || Ri P tabs pl 100000 rows k d
 | _,_=>false
def mX (P:Program) (tabs:List (Nat×List AV)) (pl:jl) (rows:List Row) (Ds:List aI):Nat->Nat->Bool
 | _,0=>true
 | a,n+1=>Rh P tabs pl rows Ds a&&mX P tabs pl rows Ds (a+1) n
def Seg (P:Program) (tabs:List (Nat×List AV)) (pl:jl) (rows:List Row) (Ds:List aI) (a b:Nat):Prop:=∀k,a<=k->k < b->Rh P tabs pl rows Ds k=true
theorem Seg.of {pl:jl} {Ds:List aI}:∀ {n a:Nat},mX P tabs pl rows Ds a n=true->Seg P tabs pl rows Ds a (a+n)
 | 0,a,_,k,h1,h2=>by omega
 | n+1,a,h,k,h1,h2=>by
   simp only [mX,aG] at h;by_cases e:k=a
   ·subst e;exact h.1
   ·exact Seg.of h.2 k (by omega) (by omega)
theorem Seg.join {pl:jl} {Ds:List aI} {a b c:Nat} (h1:Seg P tabs pl rows Ds a b) (h2:Seg P tabs pl rows Ds b c):Seg P tabs pl rows Ds a c:=λk k1 k2=>by
 by_cases e:k < b
 ·exact h1 k k1 e
 ·exact h2 k (by omega) k2
def EI (P:Program) (tabs:List (Nat×List AV)) (rows:List Row) (Ds:List aI):List Nat->Prop
 | []=>True
 | k::l=>(∃r d,rows[k]? = some r/\Ds[k]? = some d/\EH (uN P tabs rows) d (r.ctr P tabs))/\EI P tabs rows Ds l
theorem EI.at {Ds:List aI}:∀ {l:List Nat},EI P tabs rows Ds l->∀ {k:Nat},k∈l->∀ {r:Row} {d:aI},rows[k]? = some r->Ds[k]? = some d->EH (uN P tabs rows) d (r.ctr P tabs)
 | a::l,h,k,hk,r,d,hr,hd=>by
   rcases dn.1 hk with rfl | hk
   ·obtain ⟨r',d',h1,h2,h3⟩:=h.1
    rw [hr] at h1;cases h1;rw [hd] at h2;cases h2;exact h3
   ·exact EI.at h.2 hk hr hd
def Dw:List Row->Nat->List Nat
 | [],_=>[]
 | r::l,k=>if r.hand=true then k::Dw l (k+1) else Dw l (k+1)
theorem aad:∀ {l:List Row} {k i:Nat} {r:Row},l[i]? = some r->r.hand=true->k+i∈Dw l k
 | [],_,_,_,h,_=>by simp at h
 | a::l,k,0,r,h,hh=>by
   simp only [gW,aT] at h;subst h;unfold Dw;rw [ak hh];simp
 | a::l,k,i+1,r,h,hh=>by
   have:=aad (l:=l) (k:=k+1) (i:=i) (by simpa using h) hh;rw [show k+1+i=k+(i+1) by omega] at this;unfold Dw;split
   ·exact yT _ this
   ·exact this
theorem XJ {C:Nat->List GV->List GV->Prop}:∀ {Ds:List aI} {rows:List Row},Ds.length=rows.length->(∀ (k:Nat) d r,Ds[k]? = some d->rows[k]? = some r->EH C d (r.ctr P tabs))->Ey C Ds (rows.map (Row.ctr P tabs))
 | [],[],_,_=>trivial
 | d::Ds,r::rows,hl,h=>⟨h 0 d r (by simp) (by simp),XJ (by simpa using hl) λk d' r' h1 h2=>h (k+1) d' r' (by simpa using h1) (by simpa using h2)⟩
 | [],_::_,hl,_=>by simp at hl
 | _::_,[],hl,_=>by simp at hl
theorem an4 (hlow:rF tabs P.globals.size) (hm:P.follows .mixedOrders=true) (hn:sK P) {pl:jl} (hpl:∀I:fG,(∀k gs out,I k gs=some out->uN P tabs rows k gs out)->vJ P tabs I pl) {Ds:List aI}
 (ag3:EI P tabs rows Ds (Dw rows 0)) (hlen:Ds.length=rows.length) (hseg:Seg P tabs pl rows Ds 0 Ds.length):∀k gs out,(vM Ds).lim k gs=some out->uN P tabs rows k gs out:=by
 refine ah3 (XJ hlen λk d r hd hr=>?_);have hk:=(dL.1 hd).1;cases hh:r.hand with
 | true=>
   refine ag3.at ?_ hr hd;have:=aad (k:=0) hr hh;rwa [iH] at this
 | false=>
   have:=hseg k (uF _) hk;unfold Rh at this;rw [hr,hd] at this;simp only [hh,wE] at this;exact aeu hlow hm hn hpl hr this
def Me (P:Program) (rows:List Row) (k:Nat) (N:fB):dM:=match rows[k]? with
 | some (.fn _ st sh _ _)=>@OV N P k st sh
 | some (.told _ st sh)=>@OV N P k st sh
 | some (.fs _ st sp _ _)=>@OW N P st sp
 | _=>λ_ _=>none
def Q7 (P:Program) (rows:List Row):List Nat->fB->dM
 | [],_=>λ_ _=>none
 | [k],N=>Me P rows k N
 | k::l,N=>Uz (Me P rows k N) (Q7 P rows l N)
def Nc (rows:List Row) (f:FuncId) (k:Nat):Bool:=match rows[k]? with
 | some (.fn f' _ _ _ _)=>Nat.beq f' f
 | some (.told f' _ _)=>Nat.beq f' f
 | some (.fs f' _ sp _ _)=>Nat.beq f' f&&Nat.beq sp.key k&&sp.pre.ok
 | _=>false
def Zu (rows:List Row) (es:List (FuncId×List Nat)):Bool:=es.all λe=>e.2.all (Nc rows e.1)
def abR (P:Program) (rows:List Row) (es:List (FuncId×List Nat)) (raw:jl):jl:=λN=>es.map (λe=>(e.1,Q7 P rows e.2 N))++raw N
theorem Yd (hlow:rF tabs P.globals.size) {T:aC} (hT:T.tabs=tabs) (hI:∀k gs out,T.I k gs=some out->uN P tabs rows k gs out) {f:FuncId} {k:Nat} (h:Nc rows f k=true):@dN T P f (Me P rows k T.tofB):=by
 subst hT;unfold Nc at h;unfold Me;split at h
 ·next f' st sh pe l hr=>
  have:=bn h;subst this;exact abJ λgs out h'=>Ji hr (hI k gs out h')
 ·next f' st sh hr=>
  have:=bn h;subst this;exact abJ λgs out h'=>Ji hr (hI k gs out h')
 ·next f' st sp pe l hr=>
  simp only [aG] at h;have:=bn h.1.1;subst this;have e:=bn h.1.2;exact abI hlow h.2 λgs out h'=>Ji hr (hI k gs out (by rw [<- e];exact h'))
 ·cases h
theorem Yg (hlow:rF tabs P.globals.size) {T:aC} (hT:T.tabs=tabs) (hI:∀k gs out,T.I k gs=some out->uN P tabs rows k gs out) {f:FuncId}:∀ {l:List Nat},l.all (Nc rows f)=true->@dN T P f (Q7 P rows l T.tofB)
 | [],_=>λ_ _ _ _ h=>by cases h
 | [k],h=>Yd hlow hT hI (by simpa using h)
 | k::k'::l,h=>by
   simp only [uw,aG] at h;exact ajk (Yd hlow hT hI h.1) (Yg hlow hT hI (l:=k'::l) (by simpa using h.2))
theorem ajV (hlow:rF tabs P.globals.size) {es:List (FuncId×List Nat)} {raw:jl} (hes:Zu rows es=true) {I:fG} (hI:∀k gs out,I k gs=some out->uN P tabs rows k gs out) (hraw:vJ P tabs I raw):vJ P tabs I (abR P rows es raw):=by
 intro T hT hTI p hp;rcases oz.1 hp with hp | hp
 ·obtain ⟨e,he,rfl⟩:=oC.1 hp
  unfold Zu at hes;rw [List.all_eq_true] at hes;exact Yg hlow hT (by rw [hTI];exact hI) (hes e he)
 ·exact hraw T hT hTI p hp
end
end
end Go.aJ
