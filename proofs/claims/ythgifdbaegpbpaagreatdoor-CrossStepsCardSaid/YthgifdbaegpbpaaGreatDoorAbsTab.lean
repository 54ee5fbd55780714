/- All definitions of a law as rows of one table: which function or loop each is of; all are checked by a few runs. -/
import Derived.Test.YthgifdbaegpbpaaGreatDoorAbsJ
namespace Go.aN
set_option linter.unusedSimpArgs false
noncomputable section
set_option linter.unusedSectionVars false
set_option linter.unusedVariables false
variable {P:Program}
inductive Row where
 | any (c:Dn)
 | told (f:FuncId) (st:List (Option FuncId)) (sh:List oZ)
 | fn (f:FuncId) (st:List (Option FuncId)) (sh:List oZ) (pe:List Nat) (l:List (Nat×Nat))
 | fs (f:FuncId) (st:List (Option FuncId)) (sp:bD) (pe:List Nat) (l:List (Nat×Nat))
 | lp (f:FuncId) (way:List (List Nat×Nat)) (sp:bD) (ps:List Nat) (l:List (Nat×Nat))
def DR (P:Program) (f:FuncId):Code:=match P.funcs[f]? with
 | some fn=>fn.body.getD .skip
 | none=>.skip
def Row.ctr (P:Program) (tabs:List (Nat×List AV)):Row->Dn
 | .any c=>c
 | .told f st sh=>sD P tabs f st sh
 | .fn f st sh _ _=>sD P tabs f st sh
 | .fs f st sp _ _=>I9 P tabs f st sp.pre sp.posts
 | .lp f way sp _ _=>sH P tabs (uw (DR P f) way) sp.pre sp.posts
def Row.hand:Row->Bool
 | .any _ | .told _ _ _=>true
 | _=>false
def GU:List Nat->List Nat->Bool
 | [],[]=>true
 | a::l,b::m=>Nat.beq a b&&GU l m
 | _,_=>false
theorem aat:∀ {l m:List Nat},GU l m=true->l=m
 | [],[],_=>rfl
 | a::l,b::m,h=>by
  simp only [GU,aI] at h;rw [bC h.1,aat h.2]
 | [],_::_,h=>by simp [GU] at h
 | _::_,[],h=>by simp [GU] at h
def GX:List (List Nat×Nat)->List (List Nat×Nat)->Bool
 | [],[]=>true
 | (a,b)::l,(c,d)::m=>GU a c&&Nat.beq b d&&GX l m
 | _,_=>false
theorem aau:∀ {l m:List (List Nat×Nat)},GX l m=true->l=m
 | [],[],_=>rfl
 | (a,b)::l,(c,d)::m,h=>by
  simp only [GX,aI] at h;rw [aat h.1.1,bC h.1.2,aau h.2]
 | [],_::_,h=>by simp [GX] at h
 | _::_,[],h=>by simp [GX] at h
def xM:List oZ->List oZ->Bool
 | [],[]=>true
 | .sc::l,.sc::m=>xM l m
 | .ag a::l,.ag b::m=>Nat.beq a b&&xM l m
 | _,_=>false
theorem Tt:∀ {l m:List oZ},xM l m=true->l=m
 | [],[],_=>rfl
 | .sc::l,.sc::m,h=>by simp only [xM] at h;rw [Tt h]
 | .ag a::l,.ag b::m,h=>by
  simp only [xM,aI] at h;rw [bC h.1,Tt h.2]
 | [],_::_,h=>by simp [xM] at h
 | .sc::_,[],h=>by simp [xM] at h
 | .ag _::_,[],h=>by simp [xM] at h
 | .sc::_,.ag _::_,h=>by simp [xM] at h
 | .ag _::_,.sc::_,h=>by simp [xM] at h
def IJ (rows:List Row) (f:FuncId) (way:List (List Nat×Nat)) (pe:List Nat):List (Nat×Nat)->Option (List (Nat×bD))
 | []=>some []
 | (k,key)::r=>match rows[key]? with
  | some (.lp f' aeu sp _ _)=>if (Nat.beq f' f&&GX aeu (way++[(pe,k)])&&Nat.beq sp.key key&&sp.pre.ok)=true then (IJ rows f way pe r).map ((k,sp)::·) else none
  | _=>none
section
variable {tabs:List (Nat×List AV)} {rows:List Row} {I:gu}
abbrev vK (P:Program) (tabs:List (Nat×List AV)) (rows:List Row):Nat->List GV->List GV->Prop:=I7 (rows.map (Row.ctr P tabs))
theorem JM {k:Nat} {r:Row} (hr:rows[k]? = some r) {gs out:List GV} (h:vK P tabs rows k gs out):r.ctr P tabs gs out:=by
 unfold vK I7 at h;rw [jg,hr] at h;exact h
theorem Qu (hI:∀k gs out,I k gs=some out->vK P tabs rows k gs out) {f:FuncId} {way:List (List Nat×Nat)} {pe:List Nat}:∀ {l:List (Nat×Nat)} {specs:List (Nat×bD)},IJ rows f way pe l=some specs->
 zJ P tabs I (kR pe (uw (DR P f) way)) specs
 | [],_,h=>by cases h;exact zJ.nil
 | (k,key)::r,specs,h=>by
  unfold IJ at h;split at h
  ·next f' aeu sp ps l hrow=>
   split at h
   ·next hc=>
    simp only [aI] at hc;obtain ⟨⟨⟨h1,h2⟩,h3⟩,h4⟩:=hc;have h1:=bC h1;have h2:=aau h2;have h3:=bC h3;subst h1;subst h2;subst h3;obtain ⟨auG,h5,rfl⟩:=aX.1 h;refine zJ.cons h4 (λgs out hi=>?_) (Qu hI h5);have:=JM hrow (hI _ _ _ hi);simp only [Row.ctr,YW] at this;exact this
   ·cases h
  ·cases h
def SN (P:Program) (tabs:List (Nat×List AV)) (pl:jJ) (fuel:Nat) (rows:List Row) (k:Nat) (d:aJ):Bool:=
 match rows[k]? with
 | some (.fn f st sh pe l)=>match d with
  | .fn uU wZ t=>xM sh wZ&&(match P.funcs[f]? with
   | some fn=>match fn.body,IJ rows f [] pe l with
    | some c,some specs=>t.chk (U8 P tabs pl specs fuel st uU wZ fn.ntmps fn.results.toList (kR pe c)) (List.replicate uU.length .arg) []
    | _,_=>false
   | none=>false)
  | _=>false
 | some (.fs f st sp pe l)=>match d with
  | .tree n t=>Nat.beq n sp.pre.np&&(match P.funcs[f]? with
   | some fn=>match fn.body,IJ rows f [] pe l with
    | some c,some specs=>t.chk (U9 P tabs pl specs fuel st sp fn.ntmps fn.results.toList (kR pe c)) (List.replicate sp.pre.np .arg) []
    | _,_=>false
   | none=>false)
  | _=>false
 | some (.lp f way sp ps l)=>match d with
  | .tree n t=>Nat.beq n sp.pre.np&&(Nat.beq sp.key k&&sp.pre.ok)&&(match IJ rows f way ps l with
   | some specs=>t.chk (Pe P tabs pl specs fuel sp (kR ps (uw (DR P f) way))) (List.replicate sp.pre.np .arg) []
   | none=>false)
  | _=>false
 | _=>false
theorem afD (hlow:sO tabs P.globals.size) (hm:P.follows .mixedOrders=true) (hn:uh P) {pl:jJ} (hpl:∀I:gu,(∀k gs out,I k gs=some out->vK P tabs rows k gs out)->wG P tabs I pl) {fuel k:Nat} {d:aJ} {r:Row} (hr:rows[k]? = some r)
 (h:SN P tabs pl fuel rows k d=true):F5 (vK P tabs rows) d (r.ctr P tabs):=by
 intro I hI gs out hd;unfold SN at h;rw [hr] at h;cases r with
 | any c=>cases h
 | told f st sh=>cases h
 | fn f st sh pe l=>
  cases d with
  | tree n t=>cases h
  | wW g=>cases h
  | fn uU wZ t=>
   simp only [aI] at h;have:=Tt h.1;subst this;have h:=h.2;split at h
   ·next fn hf=>
    split at h
    ·next c specs hc hs=>
     have hb:uw (DR P f) []=c:=by simp only [uw,DR,hf,hc,pX]
     have hsp:=Qu hI hs;rw [hb] at hsp;exact sD.KP hlow hm hn (hpl I hI) hf hc hsp h hd
    ·cases h
   ·cases h
 | fs f st sp pe l=>
  cases d with
  | fn a b t=>cases h
  | wW g=>cases h
  | tree n t=>
   simp only [aI] at h;have e:=bC h.1;have h:=h.2;split at h
   ·next fn hf=>
    split at h
    ·next c specs hc hs=>
     have hb:uw (DR P f) []=c:=by simp only [uw,DR,hf,hc,pX]
     have hsp:=Qu hI hs;rw [hb] at hsp;exact I9.KP hlow hm hn (hpl I hI) e hf hc hsp h hd
    ·cases h
   ·cases h
 | lp f way sp ps l=>
  cases d with
  | fn a b t=>cases h
  | wW g=>cases h
  | tree n t=>
   simp only [aI] at h;have e:=bC h.1.1;have e2:=bC h.1.2.1;have hok:=h.1.2.2;have h:=h.2;split at h
   ·next specs hs=>
    refine sH.alv hlow hm hn (hpl I hI) hok e (Qu hI hs) (λgs out hi=>?_) h hd;rw [e2] at hi;exact JM hr (hI _ _ _ hi)
   ·cases h
def SL (P:Program) (tabs:List (Nat×List AV)) (pl:jJ) (rows:List Row) (Ds:List aJ) (k:Nat):Bool:=match rows[k]?,Ds[k]? with
 | some r,some d=>r.hand || SN P tabs pl 100000 rows k d
 | _,_=>false
def jL (P:Program) (tabs:List (Nat×List AV)) (pl:jJ) (rows:List Row) (Ds:List aJ):Nat->Nat->Bool
 | _,0=>true
 | a,n+1=>SL P tabs pl rows Ds a&&jL P tabs pl rows Ds (a+1) n
def Seg (P:Program) (tabs:List (Nat×List AV)) (pl:jJ) (rows:List Row) (Ds:List aJ) (a b:Nat):Prop:=∀k,a<=k->k < b->SL P tabs pl rows Ds k=true
theorem Seg.of {pl:jJ} {Ds:List aJ}:∀ {n a:Nat},jL P tabs pl rows Ds a n=true->Seg P tabs pl rows Ds a (a+n)
 | 0,a,_,k,h1,h2=>by omega
 | n+1,a,h,k,h1,h2=>by
  simp only [jL,aI] at h;by_cases e:k=a
  ·subst e;exact h.1
  ·exact Seg.of h.2 k (by omega) (by omega)
theorem Seg.join {pl:jJ} {Ds:List aJ} {a b c:Nat} (h1:Seg P tabs pl rows Ds a b) (h2:Seg P tabs pl rows Ds b c):Seg P tabs pl rows Ds a c:=λk k1 k2=>by
 by_cases e:k < b
 ·exact h1 k k1 e
 ·exact h2 k (by omega) k2
def F6 (P:Program) (tabs:List (Nat×List AV)) (rows:List Row) (Ds:List aJ):List Nat->Prop
 | []=>True
 | k::l=>(∃r d,rows[k]? = some r/\Ds[k]? = some d/\F5 (vK P tabs rows) d (r.ctr P tabs))/\F6 P tabs rows Ds l
theorem F6.at {Ds:List aJ}:∀ {l:List Nat},F6 P tabs rows Ds l->∀ {k:Nat},k∈l->∀ {r:Row} {d:aJ},rows[k]? = some r->Ds[k]? = some d->F5 (vK P tabs rows) d (r.ctr P tabs)
 | a::l,h,k,hk,r,d,hr,hd=>by
  rcases bZ.1 hk with rfl | hk
  ·obtain ⟨r',d',h1,h2,h3⟩:=h.1
   rw [hr] at h1;cases h1;rw [hd] at h2;cases h2;exact h3
  ·exact F6.at h.2 hk hr hd
def Ee:List Row->Nat->List Nat
 | [],_=>[]
 | r::l,k=>if r.hand=true then k::Ee l (k+1) else Ee l (k+1)
theorem aa2:∀ {l:List Row} {k i:Nat} {r:Row},l[i]? = some r->r.hand=true->k+i∈Ee l k
 | [],_,_,_,h,_=>by simp at h
 | a::l,k,0,r,h,hh=>by
  simp only [iI,aT] at h;subst h;unfold Ee;rw [aj hh];simp
 | a::l,k,i+1,r,h,hh=>by
  have:=aa2 (l:=l) (k:=k+1) (i:=i) (by simpa using h) hh;rw [show k+1+i=k+(i+1) by omega] at this;unfold Ee;split
  ·exact yw _ this
  ·exact this
theorem YG {C:Nat->List GV->List GV->Prop}:∀ {Ds:List aJ} {rows:List Row},Ds.length=rows.length->(∀ (k:Nat) d r,Ds[k]? = some d->rows[k]? = some r->F5 C d (r.ctr P tabs))->FV C Ds (rows.map (Row.ctr P tabs))
 | [],[],_,_=>trivial
 | d::Ds,r::rows,hl,h=>⟨h 0 d r (by simp) (by simp),YG (by simpa using hl) λk d' r' h1 h2=>h (k+1) d' r' (by simpa using h1) (by simpa using h2)⟩
 | [],_::_,hl,_=>by simp at hl
 | _::_,[],hl,_=>by simp at hl
theorem aqA (hlow:sO tabs P.globals.size) (hm:P.follows .mixedOrders=true) (hn:uh P) {pl:jJ} (hpl:∀I:gu,(∀k gs out,I k gs=some out->vK P tabs rows k gs out)->wG P tabs I pl) {Ds:List aJ}
 (aiP:F6 P tabs rows Ds (Ee rows 0)) (hlen:Ds.length=rows.length) (hseg:Seg P tabs pl rows Ds 0 Ds.length):∀k gs out,(wI Ds).lim k gs=some out->vK P tabs rows k gs out:=by
 refine ajQ (YG hlen λk d r hd hr=>?_);have hk:=(dS.1 hd).1;cases hh:r.hand with
 | true=>
  refine aiP.at ?_ hr hd;have:=aa2 (k:=0) hr hh;rwa [jk] at this
 | false=>
  have:=hseg k (vC _) hk;unfold SL at this;rw [hr,hd] at this;simp only [hh,xw] at this;exact afD hlow hm hn hpl hr this
def NC (P:Program) (rows:List Row) (k:Nat) (N:fQ):eU:=match rows[k]? with
 | some (.fn _ st sh _ _)=>@P6 N P k st sh
 | some (.told _ st sh)=>@P6 N P k st sh
 | some (.fs _ st sp _ _)=>@VK N P st sp
 | _=>λ_ _=>none
def SE (P:Program) (rows:List Row):List Nat->fQ->eU
 | [],_=>λ_ _=>none
 | [k],N=>NC P rows k N
 | k::l,N=>VF (NC P rows k N) (SE P rows l N)
def N7 (rows:List Row) (f:FuncId) (k:Nat):Bool:=match rows[k]? with
 | some (.fn f' _ _ _ _)=>Nat.beq f' f
 | some (.told f' _ _)=>Nat.beq f' f
 | some (.fs f' _ sp _ _)=>Nat.beq f' f&&Nat.beq sp.key k&&sp.pre.ok
 | _=>false
def aaq (rows:List Row) (es:List (FuncId×List Nat)):Bool:=es.all λe=>e.2.all (N7 rows e.1)
def acS (P:Program) (rows:List Row) (es:List (FuncId×List Nat)) (raw:jJ):jJ:=λN=>es.map (λe=>(e.1,SE P rows e.2 N))++raw N
theorem Y5 (hlow:sO tabs P.globals.size) {T:aG} (hT:T.tabs=tabs) (hI:∀k gs out,T.I k gs=some out->vK P tabs rows k gs out) {f:FuncId} {k:Nat} (h:N7 rows f k=true):@dY T P f (NC P rows k T.tofQ):=by
 subst hT;unfold N7 at h;unfold NC;split at h
 ·next f' st sh pe l hr=>
  have:=bC h;subst this;exact acL λgs out h'=>JM hr (hI k gs out h')
 ·next f' st sh hr=>
  have:=bC h;subst this;exact acL λgs out h'=>JM hr (hI k gs out h')
 ·next f' st sp pe l hr=>
  simp only [aI] at h;have:=bC h.1.1;subst this;have e:=bC h.1.2;exact alI hlow h.2 λgs out h'=>JM hr (hI k gs out (by rw [<- e];exact h'))
 ·cases h
theorem Y8 (hlow:sO tabs P.globals.size) {T:aG} (hT:T.tabs=tabs) (hI:∀k gs out,T.I k gs=some out->vK P tabs rows k gs out) {f:FuncId}:∀ {l:List Nat},l.all (N7 rows f)=true->@dY T P f (SE P rows l T.tofQ)
 | [],_=>λ_ _ _ _ h=>by cases h
 | [k],h=>Y5 hlow hT hI (by simpa using h)
 | k::k'::l,h=>by
  simp only [sF,aI] at h;exact alF (Y5 hlow hT hI h.1) (Y8 hlow hT hI (l:=k'::l) (by simpa using h.2))
theorem amg (hlow:sO tabs P.globals.size) {es:List (FuncId×List Nat)} {raw:jJ} (hes:aaq rows es=true) {I:gu} (hI:∀k gs out,I k gs=some out->vK P tabs rows k gs out) (hraw:wG P tabs I raw):wG P tabs I (acS P rows es raw):=by
 intro T hT hTI p hp;rcases lX.1 hp with hp | hp
 ·obtain ⟨e,he,rfl⟩:=nM.1 hp
  unfold aaq at hes;rw [List.all_eq_true] at hes;exact Y8 hlow hT (by rw [hTI];exact hI) (hes e he)
 ·exact hraw T hT hTI p hp
end
end
end Go.aN
